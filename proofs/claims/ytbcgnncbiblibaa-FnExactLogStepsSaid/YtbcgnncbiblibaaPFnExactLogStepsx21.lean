/- The contracts of the Go functions that this law reaches: what each call returns, by a plain Lean function of its arguments. No conditions but those each contract names. By the kit's print.py, run by this session's wip/gen/pp.py with facts and hand proofs beside it: not to the letter what print.sh prints. -/
import Derived.Test.YtbcgnncbiblibaaPFnExactLogStepsx0
import Derived.Test.YtbcgnncbiblibaaPFnExactLogStepsx1
namespace Go.Proofs.Ytbcgnncbiblibaa.PFnExactLogSteps
open Go.RowKit Go.Proofs.YtbcgnncbiblibaaW.PrintWords Go.Proofs.YtbcgnncbiblibaaW.PrintLast Go.Proofs.YtbcgnncbiblibaaW.PrintMore
attribute [local go_sem] max2_int min2_int max_two min_two max_three min_three max_four min_four
set_option linter.unusedVariables false
set_option linter.unusedSimpArgs false
attribute [local go_sem high] eqA69
def impl_Entry.l0 : Nat → List (S69) → List (S69) → Int → Int → Option (Bool)
 | 0,_,_,_,_ => none
 | k + 1,x0,x1,x12,x13 => if x13 < x12 then (if 0 ≤ x13 then (if x13 < (x0.length : Int) then (if x13 < (x1.length : Int) then (if (!(((rd_T69 x0 x13).f0) == ((rd_T69 x1 x13).f0)) || (!(((rd_T69 x0 x13).f1) == ((rd_T69 x1 x13).f1)) || (!((((rd_T69 x0 x13).f2).toList) == (((rd_T69 x1 x13).f2).toList))))) = true then (some false) else (impl_Entry.l0 k x0 x1 x12 (wrap64 (x13 + 1)))) else (none)) else (none)) else (none)) else (some true)
def impl_Entry.f (k : Nat) (l0 : List (S69)) (l1 : List (S69)) : Option (Bool) := if (l0.length : Int) = (l1.length : Int) then (impl_Entry.l0 k l0 l1 (l0.length : Int) 0) else (some false)
theorem impl_Entry.mono_l : ∀ k, (∀ y0 y1 y2 y3, LeO (impl_Entry.l0 k y0 y1 y2 y3) (impl_Entry.l0 (k + 1) y0 y1 y2 y3))
 | 0 => fun _ _ _ _ r h => by simp [impl_Entry.l0] at h
 | k + 1 => by
  have ih0:=impl_Entry.mono_l k
  ·intro y0 y1 y2 y3
   unfold impl_Entry.l0
   repeat' first
   | (with_reducible exact ih0 _ _ _ _)
   | (with_reducible exact LeO.refl _)
   | (with_reducible refine LeO.ite ?_ ?_)
theorem impl_Entry.mono : ∀ a0 a1 k, LeO (impl_Entry.f k a0 a1) (impl_Entry.f (k + 1) a0 a1) := by
 intro a0 a1 k;have ih0:=impl_Entry.mono_l k
 unfold impl_Entry.f
 repeat' first
   | (with_reducible exact ih0 _ _ _ _)
   | (with_reducible exact LeO.refl _)
   | (with_reducible refine LeO.ite ?_ ?_)
set_option maxHeartbeats 8000000 in
set_option maxRecDepth 100000 in
theorem impl_Entry.calls (k : Nat) (A0 : Option Addr) (c0 : Nat) (l0 : List (S69)) (A1 : Option Addr) (c1 : Nat) (l1 : List (S69)) (r : Bool) (w : World) (hr0 : Kd.C k69 w A0 l0.length l0) (hc0 : l0.length ≤ c0) (hr1 : Kd.C k69 w A1 l1.length l1) (hc1 : l1.length ≤ c1) (h : impl_Entry.f k l0 l1 = some r) :
  Calls Try.prog 123 #[.slice A0 l0.length c0,.slice A1 l1.length c1] w fun e w' => e = .returned (.bool r) ∧ Drawn0 w w':=by
 have hu69:=Try.underlying69;have HR0:=A_ hr0;have HC0:=A_ hc0;clear hr0 hc0;have HR1:=A_ hr1;have HC1:=A_ hc1;clear hr1 hc1;unfold impl_Entry.f at h;have H:=h;clear h
 by_cases c3 : (l0.length : Int) = (l1.length : Int)
 ·rw [if_pos c3] at H;have c3b0 : ((l0.length : Int) == (l1.length : Int)) = true:=beq_iff_eq.mpr c3;have c3b1 : ((l0.length : Int) != (l1.length : Int)) = false:=bne_eq_false_iff_eq.mpr c3
  have c3b2 : (l0.length == l1.length) = true:=by (simp at c3 ⊢;omega)
  clear c3;have H':=A_ H;clear H;go_enter Try.func123,Try.ntmps123;go_wp2
  go_loopg [13] k (fun kq v13 w' => ∃ (x13_1 : Int),v13 = .int .i64 x13_1 ∧ Aside0 (impl_Entry.l0 kq l0 l1 (l0.length : Int) x13_1 = some r) ∧ Aside0 (kq ≤ k) ∧ Drawn0 w w')
  case atStart => exact ⟨(0),(by rfl),H',⟨Nat.le_refl _⟩,by repeat (exact Drawn0.refl _)⟩
  case round =>
   clear H'
   try clear c1
   try clear p2
   try clear c3
   try clear c3b0
   try clear c3b1
   try clear c3b2
   obtain ⟨x13_1,rfl,HA,HK1,⟨m1,rfl⟩⟩:=hrel
   cases gk with
   | zero => exact absurd HA.out (by simp [impl_Entry.l0])
   | succ k1 =>
    have H:=HA.out;clear HA;simp only [impl_Entry.l0] at H
    by_cases c4 : x13_1 < (l0.length : Int)
    ·rw [if_pos c4] at H;have c4b0 : decide (x13_1 < (l0.length : Int)) = true:=de_ c4;clear c4
     by_cases c5 : 0 ≤ x13_1
     ·rw [if_pos c5] at H;have c5b0 : decide (0 ≤ x13_1) = true:=de_ c5;clear c5
      by_cases c6 : x13_1 < (l0.length : Int)
      ·rw [if_pos c6] at H;have c6b0 : decide (x13_1 < (l0.length : Int)) = true:=de_ c6;clear c6
       by_cases c7 : x13_1 < (l1.length : Int)
       ·rw [if_pos c7] at H;have c7b0 : decide (x13_1 < (l1.length : Int)) = true:=de_ c7;clear c7
        by_cases c8 : (!(((rd_T69 l0 x13_1).f0) == ((rd_T69 l1 x13_1).f0)) || (!(((rd_T69 l0 x13_1).f1) == ((rd_T69 l1 x13_1).f1)) || (!((((rd_T69 l0 x13_1).f2).toList) == (((rd_T69 l1 x13_1).f2).toList))))) = true
        ·rw [if_pos c8] at H;have c8b0 : (!(((rd_T69 l0 x13_1).f0) == ((rd_T69 l1 x13_1).f0)) || (!(((rd_T69 l0 x13_1).f1) == ((rd_T69 l1 x13_1).f1)) || (!((((rd_T69 l0 x13_1).f2).toList) == (((rd_T69 l1 x13_1).f2).toList))))) = true:=c8;clear c8;obtain rfl:=Option.some.inj H;have p536 : 0 ≤ (x13_1 : Int):=oda_;have q536 : x13_1 < (l0.length : Int):=oda_;obtain ⟨ad536,e536,hx536_0,hx536_1,hx536_2⟩:=at_T69 HR0.out x13_1 p536 q536
         cases e536
         replace p536:=eq_true p536;replace q536:=eq_true q536;have p537 : 0 ≤ (x13_1 : Int):=oda_;have q537 : x13_1 < (l1.length : Int):=oda_;obtain ⟨ad537,e537,hx537_0,hx537_1,hx537_2⟩:=at_T69 HR1.out x13_1 p537 q537
         cases e537
         replace p537:=eq_true p537;replace q537:=eq_true q537;go_wp2
         repeat (go_quiet (fail);try go_wp2)
         go_ret;exact ⟨by rfl,by repeat (first|exact Drawn0.refl _|apply Drawn0.step)⟩
        ·rw [if_neg c8] at H
         have c8b0 : (!(((rd_T69 l0 x13_1).f0) == ((rd_T69 l1 x13_1).f0)) || (!(((rd_T69 l0 x13_1).f1) == ((rd_T69 l1 x13_1).f1)) || (!((((rd_T69 l0 x13_1).f2).toList) == (((rd_T69 l1 x13_1).f2).toList))))) = false:=by simpa using c8
         clear c8;have H':=A_ H;clear H;have p536 : 0 ≤ (x13_1 : Int):=oda_;have q536 : x13_1 < (l0.length : Int):=oda_;obtain ⟨ad536,e536,hx536_0,hx536_1,hx536_2⟩:=at_T69 HR0.out x13_1 p536 q536
         cases e536
         replace p536:=eq_true p536;replace q536:=eq_true q536;have p537 : 0 ≤ (x13_1 : Int):=oda_;have q537 : x13_1 < (l1.length : Int):=oda_;obtain ⟨ad537,e537,hx537_0,hx537_1,hx537_2⟩:=at_T69 HR1.out x13_1 p537 q537
         cases e537
         replace p537:=eq_true p537;replace q537:=eq_true q537;go_wp2
         repeat (go_quiet (fail);try go_wp2)
         go_roundg k1
         case measure => have:=HK1.out;omega
         case rel => exact ⟨(wrap64 (x13_1 + 1)),(by rfl),H',⟨by have:=HK1.out;omega⟩,by repeat (first|exact Drawn0.refl _|apply Drawn0.step)⟩
       ·rw [if_neg c7] at H;exact absurd H (by simp)
      ·rw [if_neg c6] at H;exact absurd H (by simp)
     ·rw [if_neg c5] at H;exact absurd H (by simp)
    ·rw [if_neg c4] at H;have c4b0 : decide (x13_1 < (l0.length : Int)) = false:=decide_eq_false c4;clear c4;obtain rfl:=Option.some.inj H;go_wp2
     go_ret;exact ⟨by rfl,by repeat (first|exact Drawn0.refl _|apply Drawn0.step)⟩
 ·rw [if_neg c3] at H;have c3b0 : ((l0.length : Int) == (l1.length : Int)) = false:=beq_eq_false_iff_ne.mpr c3;have c3b1 : ((l0.length : Int) != (l1.length : Int)) = true:=bne_iff_ne.mpr c3
  have c3b2 : (l0.length == l1.length) = false:=by (simp at c3 ⊢;omega)
  obtain rfl:=Option.some.inj H;go_enter Try.func123,Try.ntmps123;go_wp2
  go_ret;exact ⟨by rfl,by repeat (exact Drawn0.refl _)⟩
def impl_sameLog.f (k : Nat) (a0_0 : Int) (a0_1 : Int) (l0_2 : List (S69)) (a1_0 : Int) (a1_1 : Int) (l1_2 : List (S69)) : Option (Bool) := if a0_0 = a1_0 then (if a0_1 = a1_1 then ((impl_Entry.f k l0_2 l1_2).bind fun t540 => (some t540)) else (some false)) else (some false)
theorem impl_sameLog.mono : ∀ a0 a1 a2 a3 a4 a5 k, LeO (impl_sameLog.f k a0 a1 a2 a3 a4 a5) (impl_sameLog.f (k + 1) a0 a1 a2 a3 a4 a5) := by
 intro a0 a1 a2 a3 a4 a5 k
 unfold impl_sameLog.f
 repeat' first
   | (with_reducible exact impl_Entry.mono _ _ _)
   | (with_reducible exact LeO.refl _)
   | (with_reducible refine LeO.ite ?_ ?_)
   | (with_reducible refine LeO.bind ?_ (fun _ => ?_))
set_option maxHeartbeats 8000000 in
set_option maxRecDepth 100000 in
theorem impl_sameLog.calls (k : Nat) (a0_0 : Int) (a0_1 : Int) (A0_2 : Option Addr) (c0_2 : Nat) (l0_2 : List (S69)) (a1_0 : Int) (a1_1 : Int) (A1_2 : Option Addr) (c1_2 : Nat) (l1_2 : List (S69)) (r : Bool) (w : World) (hr0_2 : Kd.C k69 w A0_2 l0_2.length l0_2) (hc0_2 : l0_2.length ≤ c0_2) (hr1_2 : Kd.C k69 w A1_2 l1_2.length l1_2) (hc1_2 : l1_2.length ≤ c1_2) (h : impl_sameLog.f k a0_0 a0_1 l0_2 a1_0 a1_1 l1_2 = some r) :
  Calls Try.prog 92 #[.agg #[.int .i64 a0_0,.int .i64 a0_1,.slice A0_2 l0_2.length c0_2],.agg #[.int .i64 a1_0,.int .i64 a1_1,.slice A1_2 l1_2.length c1_2]] w fun e w' => e = .returned (.bool r) ∧ Below w.heap.size w w':=by
 have hu24:=Try.underlying24;have HR0_2:=A_ hr0_2;have HC0_2:=A_ hc0_2;clear hr0_2 hc0_2;have HR1_2:=A_ hr1_2;have HC1_2:=A_ hc1_2;clear hr1_2 hc1_2;have HB:=A_ (Below.refl w.heap.size w);unfold impl_sameLog.f at h;have H:=h;clear h
 by_cases c3 : a0_0 = a1_0
 ·rw [if_pos c3] at H;have c3b0 : (a0_0 == a1_0) = true:=beq_iff_eq.mpr c3;have c3b1 : (a0_0 != a1_0) = false:=bne_eq_false_iff_eq.mpr c3;clear c3
  by_cases c4 : a0_1 = a1_1
  ·rw [if_pos c4] at H;have c4b0 : (a0_1 == a1_1) = true:=beq_iff_eq.mpr c4;have c4b1 : (a0_1 != a1_1) = false:=bne_eq_false_iff_eq.mpr c4;clear c4;replace H:=ob_.mp H;obtain ⟨t540,A50,H⟩:=H;have A5:=A_ A50;clear A50;obtain rfl:=Option.some.inj H;go_enter Try.func92,Try.ntmps92
   go_wp2_with (first|((with_reducible refine gate_dst (N:=2) rfl ?_);refine bE_ 2 #[.int .i64 a0_0,.int .i64 a0_1,.slice A0_2 l0_2.length c0_2] 24 ?_;intro gb538 hg w6 hbox hb;have BK538:=A_ (hbox);have GW538:=gE_ hg HB;have GE538:=gE_ hg HB;replace HB:=bS_ HB hb;clear hb hbox hg)|((with_reducible refine gate_dst (N:=3) rfl ?_);refine bE_ 3 #[.int .i64 a1_0,.int .i64 a1_1,.slice A1_2 l1_2.length c1_2] 24 ?_;intro gb539 hg w7 hbox hb;have BK539:=A_ (hbox);have GW539:=gE_ hg HB;have GE539:=gE_ hg HB;replace HB:=bS_ HB hb;have NB538_539:=nB_ hg BK538;have NB539_538:=nC_ hg BK538;replace BK538:=kB_ BK538 hb;clear hb hbox hg;have hnb8:=NB538_539.out;have hnc8:=NB539_538.out;obtain ⟨hcz9_0,hcz9_1,hcz9_2,hfz9_0,hfz9_1,hfz9_2⟩:=k3f_ BK538;obtain ⟨hcz10_0,hcz10_1,hcz10_2,hfz10_0,hfz10_1,hfz10_2⟩:=k3f_ BK539)|(go_at_call 123;(with_reducible refine (impl_Entry.calls k _ _ l0_2 _ _ l1_2 t540 _ ?side1 ?side2 ?side3 ?side4 A5.out).mono ?_);(case side1 => repeat (exact (Kd.C_below HR0_2.out HB.out)));(case side2 => exact HC0_2.out);(case side3 => repeat (exact (Kd.C_below HR1_2.out HB.out)));(case side4 => exact HC1_2.out);rintro e w' ⟨rfl,⟨nd,rfl⟩⟩))
   go_ret;exact ⟨ex_,bq_ HB⟩
  ·rw [if_neg c4] at H;have c4b0 : (a0_1 == a1_1) = false:=beq_eq_false_iff_ne.mpr c4;have c4b1 : (a0_1 != a1_1) = true:=bne_iff_ne.mpr c4;obtain rfl:=Option.some.inj H;go_enter Try.func92,Try.ntmps92
   go_wp2_with (first|((with_reducible refine gate_dst (N:=2) rfl ?_);refine bE_ 2 #[.int .i64 a0_0,.int .i64 a0_1,.slice A0_2 l0_2.length c0_2] 24 ?_;intro gb538 hg w11 hbox hb;have BK538:=A_ (hbox);have GW538:=gE_ hg HB;have GE538:=gE_ hg HB;replace HB:=bS_ HB hb;clear hb hbox hg)|((with_reducible refine gate_dst (N:=3) rfl ?_);refine bE_ 3 #[.int .i64 a1_0,.int .i64 a1_1,.slice A1_2 l1_2.length c1_2] 24 ?_;intro gb539 hg w12 hbox hb;have BK539:=A_ (hbox);have GW539:=gE_ hg HB;have GE539:=gE_ hg HB;replace HB:=bS_ HB hb;have NB538_539:=nB_ hg BK538;have NB539_538:=nC_ hg BK538;replace BK538:=kB_ BK538 hb;clear hb hbox hg;have hnb13:=NB538_539.out;have hnc13:=NB539_538.out;obtain ⟨hcz14_0,hcz14_1,hcz14_2,hfz14_0,hfz14_1,hfz14_2⟩:=k3f_ BK538;obtain ⟨hcz15_0,hcz15_1,hcz15_2,hfz15_0,hfz15_1,hfz15_2⟩:=k3f_ BK539))
   go_ret;exact ⟨ex_,bq_ HB⟩
 ·rw [if_neg c3] at H;have c3b0 : (a0_0 == a1_0) = false:=beq_eq_false_iff_ne.mpr c3;have c3b1 : (a0_0 != a1_0) = true:=bne_iff_ne.mpr c3;obtain rfl:=Option.some.inj H;go_enter Try.func92,Try.ntmps92
  go_wp2_with (first|((with_reducible refine gate_dst (N:=2) rfl ?_);refine bE_ 2 #[.int .i64 a0_0,.int .i64 a0_1,.slice A0_2 l0_2.length c0_2] 24 ?_;intro gb538 hg w16 hbox hb;have BK538:=A_ (hbox);have GW538:=gE_ hg HB;have GE538:=gE_ hg HB;replace HB:=bS_ HB hb;clear hb hbox hg)|((with_reducible refine gate_dst (N:=3) rfl ?_);refine bE_ 3 #[.int .i64 a1_0,.int .i64 a1_1,.slice A1_2 l1_2.length c1_2] 24 ?_;intro gb539 hg w17 hbox hb;have BK539:=A_ (hbox);have GW539:=gE_ hg HB;have GE539:=gE_ hg HB;replace HB:=bS_ HB hb;have NB538_539:=nB_ hg BK538;have NB539_538:=nC_ hg BK538;replace BK538:=kB_ BK538 hb;clear hb hbox hg;have hnb18:=NB538_539.out;have hnc18:=NB539_538.out;obtain ⟨hcz19_0,hcz19_1,hcz19_2,hfz19_0,hfz19_1,hfz19_2⟩:=k3f_ BK538;obtain ⟨hcz20_0,hcz20_1,hcz20_2,hfz20_0,hfz20_1,hfz20_2⟩:=k3f_ BK539))
  go_ret;exact ⟨ex_,bq_ HB⟩
end Go.Proofs.Ytbcgnncbiblibaa.PFnExactLogSteps
