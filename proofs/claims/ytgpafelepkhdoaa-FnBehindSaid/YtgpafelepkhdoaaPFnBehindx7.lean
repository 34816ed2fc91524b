/- The contracts of the Go functions that this law reaches: what each call returns, by a plain Lean function of its arguments. No conditions but those each contract names. By the kit's print.py, run by this session's wip/gen/pp.py with facts and hand proofs beside it: not to the letter what print.sh prints. -/
import Derived.Test.YtgpafelepkhdoaaPFnBehindx0
import Derived.Test.YtgpafelepkhdoaaPFnBehindx6
namespace Go.Proofs.Ytgpafelepkhdoaa.PFnBehind
open Go.RowKit Go.Proofs.YtgpafelepkhdoaaW.PrintWords Go.Proofs.YtgpafelepkhdoaaW.PrintLast Go.Proofs.YtgpafelepkhdoaaW.PrintMore
attribute [local go_sem] max2_int min2_int max_two min_two max_three min_three max_four min_four
set_option linter.unusedVariables false
set_option linter.unusedSimpArgs false
mutual
def spec_LogOk.j0 : Nat → Bool → Int → Int → List (S37) → Option (Bool)
 | 0,_,_,_,_ => none
 | k + 1,x29,x174000,x174001,x174002 => if x29 = true then (some false) else (spec_LogOk.l0 k x174001 0 x174000 x174001 x174002)
def spec_LogOk.l0 : Nat → Int → Int → Int → Int → List (S37) → Option (Bool)
 | 0,_,_,_,_,_ => none
 | k + 1,x3,x4,x174000,x174001,x174002 => if x4 < (x174002.length : Int) then (if 0 ≤ x4 then ((spec_EntryOk.f k ((rd_T37 x174002 x4).f0) ((rd_T37 x174002 x4).f1) ((rd_T37 x174002 x4).f2)).bind fun t177 => (if t177 = true then (if ((rd_T37 x174002 x4).f0) < x3 then (some false) else (spec_LogOk.l0 k ((rd_T37 x174002 x4).f0) (wrap64 (x4 + 1)) x174000 x174001 x174002)) else (some false))) else (none)) else (some true)
end
def spec_LogOk.f (k : Nat) (a0_0 : Int) (a0_1 : Int) (l0_2 : List (S37)) : Option (Bool) := (spec_l01In.f a0_0 0 100000).bind fun t174 => (if t174 = true then ((spec_l01In.f a0_1 0 100000).bind fun t175 => (if t175 = true then (if (l0_2.length : Int) > 120 then (spec_LogOk.j0 k true a0_0 a0_1 l0_2) else (spec_LogOk.j0 k (decide ((wrap64 (a0_0 + (l0_2.length : Int))) > 100000)) a0_0 a0_1 l0_2)) else (spec_LogOk.j0 k true a0_0 a0_1 l0_2))) else (spec_LogOk.j0 k true a0_0 a0_1 l0_2))
theorem spec_LogOk.mono_l : ∀ k, (∀ y0 y1 y2 y3, LeO (spec_LogOk.j0 k y0 y1 y2 y3) (spec_LogOk.j0 (k + 1) y0 y1 y2 y3)) ∧ (∀ y0 y1 y2 y3 y4, LeO (spec_LogOk.l0 k y0 y1 y2 y3 y4) (spec_LogOk.l0 (k + 1) y0 y1 y2 y3 y4))
 | 0 => ⟨fun _ _ _ _ r h => by simp [spec_LogOk.j0] at h,fun _ _ _ _ _ r h => by simp [spec_LogOk.l0] at h⟩
 | k + 1 => by
  obtain ⟨ih0,ih1⟩:=spec_LogOk.mono_l k;refine ⟨?_,?_⟩
  ·intro y0 y1 y2 y3
   unfold spec_LogOk.j0
   repeat' first
   | (with_reducible exact ih0 _ _ _ _)
   | (with_reducible exact ih1 _ _ _ _ _)
   | (with_reducible exact spec_EntryOk.mono _ _ _ _)
   | (with_reducible exact LeO.refl _)
   | (with_reducible exact LeO.none _)
   | (with_reducible refine LeO.ite ?_ ?_)
   | (with_reducible refine LeO.bind ?_ (fun _ => ?_))
  ·intro y0 y1 y2 y3 y4
   unfold spec_LogOk.l0
   repeat' first
   | (with_reducible exact ih0 _ _ _ _)
   | (with_reducible exact ih1 _ _ _ _ _)
   | (with_reducible exact spec_EntryOk.mono _ _ _ _)
   | (with_reducible exact LeO.refl _)
   | (with_reducible exact LeO.none _)
   | (with_reducible refine LeO.ite ?_ ?_)
   | (with_reducible refine LeO.bind ?_ (fun _ => ?_))
theorem spec_LogOk.mono : ∀ a0 a1 a2 k, LeO (spec_LogOk.f k a0 a1 a2) (spec_LogOk.f (k + 1) a0 a1 a2) := by
 intro a0 a1 a2 k;obtain ⟨ih0,ih1⟩:=spec_LogOk.mono_l k
 unfold spec_LogOk.f
 repeat' first
   | (with_reducible exact ih0 _ _ _ _)
   | (with_reducible exact ih1 _ _ _ _ _)
   | (with_reducible exact spec_EntryOk.mono _ _ _ _)
   | (with_reducible exact LeO.refl _)
   | (with_reducible exact LeO.none _)
   | (with_reducible refine LeO.ite ?_ ?_)
   | (with_reducible refine LeO.bind ?_ (fun _ => ?_))
set_option maxHeartbeats 8000000 in
set_option maxRecDepth 100000 in
theorem spec_LogOk.calls (k : Nat) (a0_0 : Int) (a0_1 : Int) (A0_2 : Option Addr) (c0_2 : Nat) (l0_2 : List (S37)) (r : Bool) (w : World) (hr0_2 : Kd.C k37 w A0_2 l0_2.length l0_2) (hc0_2 : l0_2.length ≤ c0_2) (h : spec_LogOk.f k a0_0 a0_1 l0_2 = some r) :
  Calls Try.prog 101 #[.agg #[.int .i64 a0_0,.int .i64 a0_1,.slice A0_2 l0_2.length c0_2]] w fun e w' => e = .returned (.bool r) ∧ Below w.heap.size w w':=by
 have hu60:=Try.underlying60;have hu37:=Try.underlying37;have HR0_2:=A_ hr0_2;have HC0_2:=A_ hc0_2;clear hr0_2 hc0_2;have HB:=A_ (Below.refl w.heap.size w);have H : ((spec_l01In.f a0_0 0 100000).bind fun t174 => (if t174 = true then ((spec_l01In.f a0_1 0 100000).bind fun t175 => (if t175 = true then (if (l0_2.length : Int) > 120 then (spec_LogOk.j0 k true a0_0 a0_1 l0_2) else (spec_LogOk.j0 k (decide ((wrap64 (a0_0 + (l0_2.length : Int))) > 100000)) a0_0 a0_1 l0_2)) else (spec_LogOk.j0 k true a0_0 a0_1 l0_2))) else (spec_LogOk.j0 k true a0_0 a0_1 l0_2))) = some r:=h;clear h;have HC2:=A_ H;clear H;go_enter Try.func101,Try.ntmps101
 go_upto_region 1 with (first|((with_reducible refine gate_dst (N:=1) rfl ?_);(try (refine gate_guard (by rfl) ?_;dsimp only));refine box_event ?hg (N:=1) ?hd (cs:=#[.int .i64 a0_0,.int .i64 a0_1,.slice A0_2 l0_2.length c0_2]) (t:=60) ?hr ?_;(case hd => rfl);(case hg => rfl);(case hr => exact gx_);intro gb173 hg w3 hbox hb;have BK173:=A_ (hbox);have GW173:=A_ ((by rw [hg];exact (bz_ (bq_ HB)) : w.heap.size ≤ gb173));have GE173:=A_ ((by rw [hg];exact (bz_ (bq_ HB)) : w.heap.size ≤ gb173));replace HB:=A_ (bs_ (bq_ HB) hb);clear hb hbox hg))
 (try simp only [Act.put,s1_,s2_,s3_])
 go_cut [29] (fun v29 wc => ∃ (kq : Nat) (x29_1 : Bool),v29 = .bool x29_1 ∧ Aside0 (spec_LogOk.j0 kq x29_1 a0_0 a0_1 l0_2 = some r) ∧ Aside0 (kq ≤ k) ∧ Aside0 (wc.heap[gb173]? = some (.cells #[.int .i64 a0_0,.int .i64 a0_1,(.slice A0_2 l0_2.length c0_2)] 60 (0,0))) ∧ Aside0 (Below w.heap.size w wc))
 case first =>
  have H:=HC2.out;clear HC2;replace H:=ob_.mp H;obtain ⟨t174,A40,H⟩:=H;replace H : (if t174 = true then ((spec_l01In.f a0_1 0 100000).bind fun t175 => (if t175 = true then (if (l0_2.length : Int) > 120 then (spec_LogOk.j0 k true a0_0 a0_1 l0_2) else (spec_LogOk.j0 k (decide ((wrap64 (a0_0 + (l0_2.length : Int))) > 100000)) a0_0 a0_1 l0_2)) else (spec_LogOk.j0 k true a0_0 a0_1 l0_2))) else (spec_LogOk.j0 k true a0_0 a0_1 l0_2)) = some r:=H;have A4:=A_ A40;clear A40
  by_cases c5 : t174 = true
  ·subst c5
   have H1 : ((spec_l01In.f a0_1 0 100000).bind fun t175 => (if t175 = true then (if (l0_2.length : Int) > 120 then (spec_LogOk.j0 k true a0_0 a0_1 l0_2) else (spec_LogOk.j0 k (decide ((wrap64 (a0_0 + (l0_2.length : Int))) > 100000)) a0_0 a0_1 l0_2)) else (spec_LogOk.j0 k true a0_0 a0_1 l0_2))) = some r:=by rw [if_pos rfl] at H;exact H
   clear H;have H:=H1;clear H1;replace H:=ob_.mp H;obtain ⟨t175,A60,H⟩:=H;replace H : (if t175 = true then (if (l0_2.length : Int) > 120 then (spec_LogOk.j0 k true a0_0 a0_1 l0_2) else (spec_LogOk.j0 k (decide ((wrap64 (a0_0 + (l0_2.length : Int))) > 100000)) a0_0 a0_1 l0_2)) else (spec_LogOk.j0 k true a0_0 a0_1 l0_2)) = some r:=H;have A6:=A_ A60;clear A60
   by_cases c7 : t175 = true
   ·subst c7
    have H1 : (if (l0_2.length : Int) > 120 then (spec_LogOk.j0 k true a0_0 a0_1 l0_2) else (spec_LogOk.j0 k (decide ((wrap64 (a0_0 + (l0_2.length : Int))) > 100000)) a0_0 a0_1 l0_2)) = some r:=by rw [if_pos rfl] at H;exact H
    clear H;have H:=H1;clear H1
    by_cases c8 : (l0_2.length : Int) > 120
    ·rw [if_pos c8] at H;have c8b0 : decide (120 < (l0_2.length : Int)) = true:=de_ c8;have c8b1 : decide (120 < l0_2.length) = true:=de_ (by omega);clear c8
     (first|rw [c8b0]|(simp only [i64_w,i32_w];rw [c8b0])|skip)
     have H':=A_ H;clear H;have hcz9_0:=kC_ BK173 0;have hcz9_1:=kC_ BK173 1;have hcz9_2:=kC_ BK173 2;have hfz9_0:=kf_ BK173.out 0;have hfz9_1:=kf_ BK173.out 1;have hfz9_2:=kf_ BK173.out 2
     go_wp2_with (first|((with_reducible refine gate_callee (f:=78) rfl ?_);refine goesL_ (some 7) rfl rfl Try.func78 (by kernel_rfl) rfl #[.int .i64 a0_0,.int .i64 0,.int .i64 100000] rfl aq_ ?_;(with_reducible refine (spec_l01In.calls a0_0 0 100000 true _ A4.out).mono ?_);rintro e w' ⟨rfl,⟨nd,rfl⟩⟩;refine ⟨_,rfl,?_⟩)|(go_at_call 78;(with_reducible refine (spec_l01In.calls a0_1 0 100000 true _ A6.out).mono ?_);rintro e w' ⟨rfl,⟨nd,rfl⟩⟩))
     go_meet
     case rel => exact ⟨_,(true),(by first|rfl|(simp;done)|(simp [*];done)),H',⟨by first|omega|exact Nat.le_refl _⟩,⟨kq_ BK173⟩,⟨bq_ HB⟩⟩
    ·rw [if_neg c8] at H;have c8b0 : decide (120 < (l0_2.length : Int)) = false:=decide_eq_false c8;have c8b1 : decide (120 < l0_2.length) = false:=decide_eq_false (by omega);clear c8
     (first|rw [c8b0]|(simp only [i64_w,i32_w];rw [c8b0])|skip)
     have H':=A_ H;clear H;have hcz10_0:=kC_ BK173 0;have hcz10_1:=kC_ BK173 1;have hcz10_2:=kC_ BK173 2;have hfz10_0:=kf_ BK173.out 0;have hfz10_1:=kf_ BK173.out 1;have hfz10_2:=kf_ BK173.out 2
     go_wp2_with (first|((with_reducible refine gate_callee (f:=78) rfl ?_);refine goesL_ (some 7) rfl rfl Try.func78 (by kernel_rfl) rfl #[.int .i64 a0_0,.int .i64 0,.int .i64 100000] rfl aq_ ?_;(with_reducible refine (spec_l01In.calls a0_0 0 100000 true _ A4.out).mono ?_);rintro e w' ⟨rfl,⟨nd,rfl⟩⟩;refine ⟨_,rfl,?_⟩)|(go_at_call 78;(with_reducible refine (spec_l01In.calls a0_1 0 100000 true _ A6.out).mono ?_);rintro e w' ⟨rfl,⟨nd,rfl⟩⟩))
     go_meet
     case rel => exact ⟨_,(decide ((wrap64 (a0_0 + (l0_2.length : Int))) > 100000)),(by first|rfl|(simp;done)|(simp [*];done)),H',⟨by first|omega|exact Nat.le_refl _⟩,⟨kq_ BK173⟩,⟨bq_ HB⟩⟩
   ·replace c7:=Bool.eq_false_iff.mpr c7;subst c7
    have H1 : (spec_LogOk.j0 k true a0_0 a0_1 l0_2) = some r:=by rw [if_neg (show ¬ (false = true) by decide)] at H;exact H
    clear H;have H:=H1;clear H1;have H':=A_ H;clear H;have hcz11_0:=kC_ BK173 0;have hcz11_1:=kC_ BK173 1;have hcz11_2:=kC_ BK173 2;have hfz11_0:=kf_ BK173.out 0;have hfz11_1:=kf_ BK173.out 1;have hfz11_2:=kf_ BK173.out 2
    go_wp2_with (first|((with_reducible refine gate_callee (f:=78) rfl ?_);refine goesL_ (some 7) rfl rfl Try.func78 (by kernel_rfl) rfl #[.int .i64 a0_0,.int .i64 0,.int .i64 100000] rfl aq_ ?_;(with_reducible refine (spec_l01In.calls a0_0 0 100000 true _ A4.out).mono ?_);rintro e w' ⟨rfl,⟨nd,rfl⟩⟩;refine ⟨_,rfl,?_⟩)|(go_at_call 78;(with_reducible refine (spec_l01In.calls a0_1 0 100000 false _ A6.out).mono ?_);rintro e w' ⟨rfl,⟨nd,rfl⟩⟩))
    go_meet
    case rel => exact ⟨_,(true),(by first|rfl|(simp;done)|(simp [*];done)),H',⟨by first|omega|exact Nat.le_refl _⟩,⟨kq_ BK173⟩,⟨bq_ HB⟩⟩
  ·replace c5:=Bool.eq_false_iff.mpr c5;subst c5
   have H1 : (spec_LogOk.j0 k true a0_0 a0_1 l0_2) = some r:=by rw [if_neg (show ¬ (false = true) by decide)] at H;exact H
   clear H;have H:=H1;clear H1;have H':=A_ H;clear H;have hcz12_0:=kC_ BK173 0;have hcz12_1:=kC_ BK173 1;have hcz12_2:=kC_ BK173 2;have hfz12_0:=kf_ BK173.out 0;have hfz12_1:=kf_ BK173.out 1;have hfz12_2:=kf_ BK173.out 2
   go_wp2_with (first|((with_reducible refine gate_callee (f:=78) rfl ?_);refine goesL_ (some 7) rfl rfl Try.func78 (by kernel_rfl) rfl #[.int .i64 a0_0,.int .i64 0,.int .i64 100000] rfl aq_ ?_;(with_reducible refine (spec_l01In.calls a0_0 0 100000 false _ A4.out).mono ?_);rintro e w' ⟨rfl,⟨nd,rfl⟩⟩;refine ⟨_,rfl,?_⟩))
   go_meet
   case rel => exact ⟨_,(true),(by first|rfl|(simp;done)|(simp [*];done)),H',⟨by first|omega|exact Nat.le_refl _⟩,⟨kq_ BK173⟩,⟨bq_ HB⟩⟩
 case rest =>
  clear HC2
  try clear c1
  try clear p2
  try clear c5
  try clear p6
  try clear c7
  try clear c8
  try clear c8b0
  try clear c8b1
  try clear c10
  try clear hcz10_0
  try clear hcz10_1
  try clear hcz10_2
  try clear hcz11_0
  try clear hcz11_1
  try clear hcz11_2
  try clear hcz12_0
  try clear hcz12_1
  try clear hcz12_2
  try clear hcz9_0
  try clear hcz9_1
  try clear hcz9_2
  try clear hfz10_0
  try clear hfz10_1
  try clear hfz10_2
  try clear hfz11_0
  try clear hfz11_1
  try clear hfz11_2
  try clear hfz12_0
  try clear hfz12_1
  try clear hfz12_2
  try clear hfz9_0
  try clear hfz9_1
  try clear hfz9_2
  obtain ⟨kq,x29_1,rfl,HA,HJ1,BK173,HB⟩:=hcut
  cases kq with
  | zero => exact absurd HA.out (by simp [spec_LogOk.j0])
  | succ kj1 =>
   have H:=HA.out;clear HA;simp only [spec_LogOk.j0] at H
   by_cases c13 : x29_1 = true
   ·subst c13
    have H1 : (some false) = some r:=by rw [if_pos rfl] at H;exact H
    clear H;have H:=H1;clear H1;obtain rfl:=Option.some.inj H;go_wp2;go_ret;exact ⟨ex_,bq_ HB⟩
   ·replace c13:=Bool.eq_false_iff.mpr c13;subst c13
    have H1 : (spec_LogOk.l0 kj1 a0_1 0 a0_0 a0_1 l0_2) = some r:=by rw [if_neg (show ¬ (false = true) by decide)] at H;exact H
    clear H;have H:=H1;clear H1;have H':=A_ H;clear H;have hcz14_0:=kC_ BK173 0;have hcz14_1:=kC_ BK173 1;have hcz14_2:=kC_ BK173 2;have hfz14_0:=kf_ BK173.out 0;have hfz14_1:=kf_ BK173.out 1;have hfz14_2:=kf_ BK173.out 2;go_wp2
    go_loopg [3,4] kj1 (fun kq v3 v4 w' => ∃ (x3_2 : Int) (x4_2 : Int),v3 = .int .i64 x3_2 ∧ v4 = .int .i64 x4_2 ∧ Aside0 (spec_LogOk.l0 kq x3_2 x4_2 a0_0 a0_1 l0_2 = some r) ∧ Aside0 (kq ≤ kj1) ∧ Aside0 (w'.heap[gb173]? = some (.cells #[.int .i64 a0_0,.int .i64 a0_1,(.slice A0_2 l0_2.length c0_2)] 60 (0,0))) ∧ Aside0 (Below w.heap.size w w'))
    case atStart => exact ⟨(a0_1),(0),(by first|rfl|(simp;done)|(simp [*];done)),(by first|rfl|(simp;done)|(simp [*];done)),H',⟨Nat.le_refl _⟩,⟨kq_ BK173⟩,⟨bq_ HB⟩⟩
    case round =>
     clear H'
     try clear c1
     try clear p2
     try clear c5
     try clear p6
     try clear c7
     try clear c8
     try clear c8b0
     try clear c8b1
     try clear c10
     try clear c13
     try clear hcz10_0
     try clear hcz10_1
     try clear hcz10_2
     try clear hcz11_0
     try clear hcz11_1
     try clear hcz11_2
     try clear hcz12_0
     try clear hcz12_1
     try clear hcz12_2
     try clear hcz14_0
     try clear hcz14_1
     try clear hcz14_2
     try clear hcz9_0
     try clear hcz9_1
     try clear hcz9_2
     try clear hfz10_0
     try clear hfz10_1
     try clear hfz10_2
     try clear hfz11_0
     try clear hfz11_1
     try clear hfz11_2
     try clear hfz12_0
     try clear hfz12_1
     try clear hfz12_2
     try clear hfz14_0
     try clear hfz14_1
     try clear hfz14_2
     try clear hfz9_0
     try clear hfz9_1
     try clear hfz9_2
     try clear p2
     try clear p6
     obtain ⟨x3_2,x4_2,rfl,rfl,HA,HK2,BK173,HB⟩:=hrel
     cases gk with
     | zero => exact absurd HA.out (by simp [spec_LogOk.l0])
     | succ k2 =>
      have H:=HA.out;clear HA;simp only [spec_LogOk.l0] at H
      by_cases c15 : x4_2 < (l0_2.length : Int)
      ·rw [if_pos c15] at H;have c15b0 : decide (x4_2 < (l0_2.length : Int)) = true:=de_ c15;clear c15
       by_cases c16 : 0 ≤ x4_2
       ·rw [if_pos c16] at H;have c16b0 : decide (0 ≤ x4_2) = true:=de_ c16;clear c16;replace H:=ob_.mp H;obtain ⟨t177,A170,H⟩:=H;replace H : (if t177 = true then (if ((rd_T37 l0_2 x4_2).f0) < x3_2 then (some false) else (spec_LogOk.l0 k2 ((rd_T37 l0_2 x4_2).f0) (wrap64 (x4_2 + 1)) a0_0 a0_1 l0_2)) else (some false)) = some r:=H;have A17:=A_ A170;clear A170
        by_cases c18 : t177 = true
        ·subst c18
         have H1 : (if ((rd_T37 l0_2 x4_2).f0) < x3_2 then (some false) else (spec_LogOk.l0 k2 ((rd_T37 l0_2 x4_2).f0) (wrap64 (x4_2 + 1)) a0_0 a0_1 l0_2)) = some r:=by rw [if_pos rfl] at H;exact H
         clear H;have H:=H1;clear H1
         by_cases c19 : ((rd_T37 l0_2 x4_2).f0) < x3_2
         ·rw [if_pos c19] at H;have c19b0 : decide (((rd_T37 l0_2 x4_2).f0) < x3_2) = true:=de_ c19;clear c19;obtain rfl:=Option.some.inj H;have hcz20_0:=kC_ BK173 0;have hcz20_1:=kC_ BK173 1;have hcz20_2:=kC_ BK173 2;have hfz20_0:=kf_ BK173.out 0;have hfz20_1:=kf_ BK173.out 1;have hfz20_2:=kf_ BK173.out 2;have p176 : 0 ≤ (x4_2 : Int):=oda_;have q176 : x4_2 < (l0_2.length : Int):=oda_;obtain ⟨ad176,e176,hx176_0,hx176_1,hx176_2⟩:=at_T37 HR0_2.out x4_2 p176 q176
          cases e176
          replace hx176_0:=(HB.out.cell (wb_ w _ hx176_0)).trans hx176_0;replace hx176_1:=(HB.out.cell (wb_ w _ hx176_1)).trans hx176_1;replace hx176_2:=(HB.out.cell (wb_ w _ hx176_2)).trans hx176_2;replace p176:=eq_true p176;replace q176:=eq_true q176
          go_wp2_with (first|((with_reducible refine gate_callee (f:=95) rfl ?_);refine goesL_ (some 44) rfl rfl Try.func95 (by kernel_rfl) rfl #[.agg #[.int .i64 ((rd_T37 l0_2 x4_2).f0),.int .i64 ((rd_T37 l0_2 x4_2).f1),.string ((rd_T37 l0_2 x4_2).f2)]] rfl aq_ ?_;(with_reducible refine (spec_EntryOk.calls k2 ((rd_T37 l0_2 x4_2).f0) ((rd_T37 l0_2 x4_2).f1) ((rd_T37 l0_2 x4_2).f2) true _ A17.out).mono ?_);rintro e w21 ⟨rfl,hb⟩;refine ⟨_,rfl,?_⟩;replace BK173:=A_ (kb_ (kq_ BK173) hb);replace HB:=A_ (bs_ (bq_ HB) hb);(try clear hb);(try clear hb2);(try clear hk);(try clear hi);have hcz22_0:=kC_ BK173 0;have hcz22_1:=kC_ BK173 1;have hcz22_2:=kC_ BK173 2;have hfz22_0:=kf_ BK173.out 0;have hfz22_1:=kf_ BK173.out 1;have hfz22_2:=kf_ BK173.out 2;have p178 : 0 ≤ (x4_2 : Int):=oda_;have q178 : x4_2 < (l0_2.length : Int):=oda_;obtain ⟨ad178,e178,hx178_0,hx178_1,hx178_2⟩:=at_T37 HR0_2.out x4_2 p178 q178;obtain rfl : ad176 = ad178:=(by injection e178);replace hx178_0:=(HB.out.cell (wb_ w _ hx178_0)).trans hx178_0;replace hx178_1:=(HB.out.cell (wb_ w _ hx178_1)).trans hx178_1;replace hx178_2:=(HB.out.cell (wb_ w _ hx178_2)).trans hx178_2;replace p178:=eq_true p178;replace q178:=eq_true q178))
          go_ret;exact ⟨ex_,bq_ HB⟩
         ·rw [if_neg c19] at H;have c19b0 : decide (((rd_T37 l0_2 x4_2).f0) < x3_2) = false:=decide_eq_false c19;clear c19;have H':=A_ H;clear H;have hcz23_0:=kC_ BK173 0;have hcz23_1:=kC_ BK173 1;have hcz23_2:=kC_ BK173 2;have hfz23_0:=kf_ BK173.out 0;have hfz23_1:=kf_ BK173.out 1;have hfz23_2:=kf_ BK173.out 2;have p176 : 0 ≤ (x4_2 : Int):=oda_;have q176 : x4_2 < (l0_2.length : Int):=oda_;obtain ⟨ad176,e176,hx176_0,hx176_1,hx176_2⟩:=at_T37 HR0_2.out x4_2 p176 q176
          cases e176
          replace hx176_0:=(HB.out.cell (wb_ w _ hx176_0)).trans hx176_0;replace hx176_1:=(HB.out.cell (wb_ w _ hx176_1)).trans hx176_1;replace hx176_2:=(HB.out.cell (wb_ w _ hx176_2)).trans hx176_2;replace p176:=eq_true p176;replace q176:=eq_true q176
          go_wp2_with (first|((with_reducible refine gate_callee (f:=95) rfl ?_);refine goesL_ (some 44) rfl rfl Try.func95 (by kernel_rfl) rfl #[.agg #[.int .i64 ((rd_T37 l0_2 x4_2).f0),.int .i64 ((rd_T37 l0_2 x4_2).f1),.string ((rd_T37 l0_2 x4_2).f2)]] rfl aq_ ?_;(with_reducible refine (spec_EntryOk.calls k2 ((rd_T37 l0_2 x4_2).f0) ((rd_T37 l0_2 x4_2).f1) ((rd_T37 l0_2 x4_2).f2) true _ A17.out).mono ?_);rintro e w24 ⟨rfl,hb⟩;refine ⟨_,rfl,?_⟩;replace BK173:=A_ (kb_ (kq_ BK173) hb);replace HB:=A_ (bs_ (bq_ HB) hb);(try clear hb);(try clear hb2);(try clear hk);(try clear hi);have hcz25_0:=kC_ BK173 0;have hcz25_1:=kC_ BK173 1;have hcz25_2:=kC_ BK173 2;have hfz25_0:=kf_ BK173.out 0;have hfz25_1:=kf_ BK173.out 1;have hfz25_2:=kf_ BK173.out 2;have p178 : 0 ≤ (x4_2 : Int):=oda_;have q178 : x4_2 < (l0_2.length : Int):=oda_;obtain ⟨ad178,e178,hx178_0,hx178_1,hx178_2⟩:=at_T37 HR0_2.out x4_2 p178 q178;obtain rfl : ad176 = ad178:=(by injection e178);replace hx178_0:=(HB.out.cell (wb_ w _ hx178_0)).trans hx178_0;replace hx178_1:=(HB.out.cell (wb_ w _ hx178_1)).trans hx178_1;replace hx178_2:=(HB.out.cell (wb_ w _ hx178_2)).trans hx178_2;replace p178:=eq_true p178;replace q178:=eq_true q178;have p179 : 0 ≤ (x4_2 : Int):=oda_;have q179 : x4_2 < (l0_2.length : Int):=oda_;obtain ⟨ad179,e179,hx179_0,hx179_1,hx179_2⟩:=at_T37 HR0_2.out x4_2 p179 q179;obtain rfl : ad176 = ad179:=(by injection e179);replace hx179_0:=(HB.out.cell (wb_ w _ hx179_0)).trans hx179_0;replace hx179_1:=(HB.out.cell (wb_ w _ hx179_1)).trans hx179_1;replace hx179_2:=(HB.out.cell (wb_ w _ hx179_2)).trans hx179_2;replace p179:=eq_true p179;replace q179:=eq_true q179))
          go_roundg k2
          case measure => have:=HJ1.out;have:=HK2.out;omega
          case rel => exact ⟨((rd_T37 l0_2 x4_2).f0),(wrap64 (x4_2 + 1)),(by first|rfl|(simp;done)|(simp [*];done)),(by first|rfl|(simp;done)|(simp [*];done)),H',⟨by have:=HJ1.out;have:=HK2.out;omega⟩,⟨kq_ BK173⟩,⟨bq_ HB⟩⟩
        ·replace c18:=Bool.eq_false_iff.mpr c18;subst c18
         have H1 : (some false) = some r:=by rw [if_neg (show ¬ (false = true) by decide)] at H;exact H
         clear H;have H:=H1;clear H1;obtain rfl:=Option.some.inj H;have hcz26_0:=kC_ BK173 0;have hcz26_1:=kC_ BK173 1;have hcz26_2:=kC_ BK173 2;have hfz26_0:=kf_ BK173.out 0;have hfz26_1:=kf_ BK173.out 1;have hfz26_2:=kf_ BK173.out 2;have p176 : 0 ≤ (x4_2 : Int):=oda_;have q176 : x4_2 < (l0_2.length : Int):=oda_;obtain ⟨ad176,e176,hx176_0,hx176_1,hx176_2⟩:=at_T37 HR0_2.out x4_2 p176 q176
         cases e176
         replace hx176_0:=(HB.out.cell (wb_ w _ hx176_0)).trans hx176_0;replace hx176_1:=(HB.out.cell (wb_ w _ hx176_1)).trans hx176_1;replace hx176_2:=(HB.out.cell (wb_ w _ hx176_2)).trans hx176_2;replace p176:=eq_true p176;replace q176:=eq_true q176
         go_wp2_with (first|((with_reducible refine gate_callee (f:=95) rfl ?_);refine goesL_ (some 44) rfl rfl Try.func95 (by kernel_rfl) rfl #[.agg #[.int .i64 ((rd_T37 l0_2 x4_2).f0),.int .i64 ((rd_T37 l0_2 x4_2).f1),.string ((rd_T37 l0_2 x4_2).f2)]] rfl aq_ ?_;(with_reducible refine (spec_EntryOk.calls k2 ((rd_T37 l0_2 x4_2).f0) ((rd_T37 l0_2 x4_2).f1) ((rd_T37 l0_2 x4_2).f2) false _ A17.out).mono ?_);rintro e w27 ⟨rfl,hb⟩;refine ⟨_,rfl,?_⟩;replace BK173:=A_ (kb_ (kq_ BK173) hb);replace HB:=A_ (bs_ (bq_ HB) hb);(try clear hb);(try clear hb2);(try clear hk);(try clear hi)))
         go_ret;exact ⟨ex_,bq_ HB⟩
       ·rw [if_neg c16] at H;exact absurd H (by simp)
      ·rw [if_neg c15] at H;have c15b0 : decide (x4_2 < (l0_2.length : Int)) = false:=decide_eq_false c15;clear c15;obtain rfl:=Option.some.inj H;have hcz28_0:=kC_ BK173 0;have hcz28_1:=kC_ BK173 1;have hcz28_2:=kC_ BK173 2;have hfz28_0:=kf_ BK173.out 0;have hfz28_1:=kf_ BK173.out 1;have hfz28_2:=kf_ BK173.out 2;go_wp2;go_ret;exact ⟨ex_,bq_ HB⟩
def spec_l01Var.l0 : Nat → Int → List Int → Option (ByteArray)
 | 0,_,_ => none
 | k + 1,x0,x3 => if x0 > 127 then (if x3.length < 140737488355328 then (spec_l01Var.l0 k (wrap64 (Int.tdiv x0 128)) (x3 ++ [(wrap64 ((Int.tmod x0 128) + 128)) % 256])) else (none)) else (if x3.length < 140737488355328 then (some (strOfNums (x3 ++ [(x0) % 256]))) else (none))
def spec_l01Var.f (k : Nat) (a0 : Int) : Option (ByteArray) := spec_l01Var.l0 k a0 (([] : List Int))
theorem spec_l01Var.mono_l : ∀ k, (∀ y0 y1, LeO (spec_l01Var.l0 k y0 y1) (spec_l01Var.l0 (k + 1) y0 y1))
 | 0 => fun _ _ r h => by simp [spec_l01Var.l0] at h
 | k + 1 => by
  have ih0:=spec_l01Var.mono_l k
  ·intro y0 y1
   unfold spec_l01Var.l0
   repeat' first
   | (with_reducible exact ih0 _ _)
   | (with_reducible exact LeO.refl _)
   | (with_reducible exact LeO.none _)
   | (with_reducible refine LeO.ite ?_ ?_)
   | (with_reducible refine LeO.bind ?_ (fun _ => ?_))
theorem spec_l01Var.mono : ∀ a0 k, LeO (spec_l01Var.f k a0) (spec_l01Var.f (k + 1) a0) := by
 intro a0 k;have ih0:=spec_l01Var.mono_l k
 unfold spec_l01Var.f
 repeat' first
   | (with_reducible exact ih0 _ _)
   | (with_reducible exact LeO.refl _)
   | (with_reducible exact LeO.none _)
   | (with_reducible refine LeO.ite ?_ ?_)
   | (with_reducible refine LeO.bind ?_ (fun _ => ?_))
set_option maxHeartbeats 8000000 in
set_option maxRecDepth 100000 in
theorem spec_l01Var.calls (k : Nat) (a0 : Int) (r : ByteArray) (w : World) (h : spec_l01Var.f k a0 = some r) :
  Calls Try.prog 80 #[.int .i64 a0] w fun e w' => e = .returned (.string r) ∧ Below w.heap.size w w':=by
 have HB:=A_ (Below.refl w.heap.size w);have H : (spec_l01Var.l0 k a0 (([] : List Int))) = some r:=h;clear h;obtain ⟨y180,hy180⟩ : ∃ y_ : List Int,y_ = (([] : List Int)):=⟨_,rfl⟩
 replace H : (spec_l01Var.l0 k a0 y180) = some r:=by first|(rw [hy180];with_reducible exact H)|(have H2_:=(Option.bind_some _ _).symm.trans H;rw [hy180];with_reducible exact H2_)|(have H2_:=(Option.bind_some _ _).symm.trans H;with_reducible exact H2_)|with_reducible exact H|(rw [hy180];exact H)|exact H
 have Ny180:=A_ hy180;clear hy180;have H':=A_ H;clear H;go_enter Try.func80,Try.ntmps80
 go_wp2_with (first|((with_reducible refine gate_dst (N:=4) rfl ?_);refine Kd.R_lit (Kd.int .u8) _ 5 ?hg (N:=4) ?hd (xs:=([] : List Int)) (inner:=[]) (ok:=fun _ => True) (okp:=fun _ => True) ?hr ?hp (fun _ hk => hk) trivial (Below.refl _ _) (Nat.le_refl _) (by simp) ?_;(case hd => rfl);(case hg => rfl);(case hr => exact gx_);(case hp => exact (Reps.none _ _));intro v181 w2 ho3 hb hg_ hnew_;clear hg_ hnew_;(first|rw [← Ny180.out] at ho3|(simp only [Int.reduceToNat] at ho3;rw [← Ny180.out] at ho3));have HO182:=A_ (rw_ ho3 (bz_ (bq_ HB)));replace HB:=A_ (bs_ (bq_ HB) hb);clear hb ho3))
 go_loopg [0,3] k (fun kq v0 v3 w' => ∃ (x0_1 : Int) (x3_1 : List Int),v0 = .int .i64 x0_1 ∧ Aside0 (spec_l01Var.l0 kq x0_1 x3_1 = some r) ∧ Aside0 (kq ≤ k) ∧ Aside0 (Kd.R (Kd.int .u8) 5 w' w.heap.size (fun _ => True) v3 x3_1) ∧ Aside0 (Below w.heap.size w w'))
 case atStart => exact ⟨(a0),(y180),(by first|rfl|(simp;done)|(simp [*];done)),H',⟨Nat.le_refl _⟩,⟨by (with_reducible repeat (first|apply ra_|apply rn_|apply Rd_));exact HO182.out⟩,⟨bq_ HB⟩⟩
 case round =>
  clear H'
  try clear p2
  obtain ⟨x0_1,x3_1,rfl,HA,HK1,HO_3,HB⟩:=hrel
  cases gk with
  | zero => exact absurd HA.out (by simp [spec_l01Var.l0])
  | succ k1 =>
   have H:=HA.out;clear HA;simp only [spec_l01Var.l0] at H
   by_cases c4 : x0_1 > 127
   ·rw [if_pos c4] at H;have c4b0 : decide (127 < x0_1) = true:=de_ c4;clear c4
    by_cases c5 : x3_1.length < 140737488355328
    ·rw [if_pos c5] at H;have LMc5:=A_ c5;clear c5;obtain ⟨y183,hy183⟩ : ∃ y_ : List Int,y_ = (x3_1 ++ [(wrap64 ((Int.tmod x0_1 128) + 128)) % 256]):=⟨_,rfl⟩
     replace H : (spec_l01Var.l0 k1 (wrap64 (Int.tdiv x0_1 128)) y183) = some r:=by first|(rw [hy183];with_reducible exact H)|(have H2_:=(Option.bind_some _ _).symm.trans H;rw [hy183];with_reducible exact H2_)|(have H2_:=(Option.bind_some _ _).symm.trans H;with_reducible exact H2_)|with_reducible exact H|(rw [hy183];exact H)|exact H
     have Ny183:=A_ hy183;clear hy183;have H':=A_ H;clear H
     go_wp2_with (first|((with_reducible refine gate_builtin (b:=.append) (xs:=#[.tmp 7,.tmp 12]) rfl ?_);at_builtin;refine Kd.R_append (Kd.int .u8) (w0:=w) w.heap.size rfl (.tmp 7) (.tmp 12) 22 5 (.int .u8 0) 1 rfl Try.underlying22 info5 rfl (by decide) (by omega) u3 x3_1 ((wrap64 ((Int.tmod x0_1 128) + 128)) % 256) [.int .u8 ((wrap64 ((Int.tmod x0_1 128) + 128)) % 256)] (fun _ => True) (fun _ => False) rfl rfl ?aP (fun _ hk => hk.elim) ?aF ?aO ?aB ?aS ?aL ?_;(case aP => exact rfl);(case aB => exact (bq_ HB));(case aF => exact (fun _ _ => trivial));(case aO => exact (rq_ HO_3));(case aS => exact (bz_ (bq_ HB)));(case aL => have:=LMc5.out;omega);intro v184 w6 ho hb hg hat;rw [← Ny183.out] at ho;replace HB:=A_ (hb);have HO185:=A_ (ho);clear HO_3;clear ho hb hg hat))
     go_roundg k1
     case measure => have:=HK1.out;omega
     case rel => exact ⟨(wrap64 (Int.tdiv x0_1 128)),(y183),(by first|rfl|(simp;done)|(simp [*];done)),H',⟨by have:=HK1.out;omega⟩,⟨by (with_reducible repeat (first|apply ra_|apply rn_|apply Rd_));exact HO185.out⟩,⟨bq_ HB⟩⟩
    ·rw [if_neg c5] at H;exact absurd H (by simp)
   ·rw [if_neg c4] at H;have c4b0 : decide (127 < x0_1) = false:=decide_eq_false c4;clear c4
    by_cases c7 : x3_1.length < 140737488355328
    ·rw [if_pos c7] at H;have LMc7:=A_ c7;clear c7;obtain ⟨y186,hy186⟩ : ∃ y_ : List Int,y_ = (x3_1 ++ [(x0_1) % 256]):=⟨_,rfl⟩
     replace H : (some (strOfNums y186)) = some r:=by first|(rw [hy186];with_reducible exact H)|(have H2_:=(Option.bind_some _ _).symm.trans H;rw [hy186];with_reducible exact H2_)|(have H2_:=(Option.bind_some _ _).symm.trans H;with_reducible exact H2_)|with_reducible exact H|(rw [hy186];exact H)|exact H
     have Ny186:=A_ hy186;clear hy186;obtain rfl:=Option.some.inj H
     go_wp2_with (first|((with_reducible refine gate_builtin (b:=.append) (xs:=#[.tmp 16,.tmp 19]) rfl ?_);at_builtin;refine Kd.R_append (Kd.int .u8) (w0:=w) w.heap.size rfl (.tmp 16) (.tmp 19) 22 5 (.int .u8 0) 1 rfl Try.underlying22 info5 rfl (by decide) (by omega) u3 x3_1 ((x0_1) % 256) [.int .u8 ((x0_1) % 256)] (fun _ => True) (fun _ => False) rfl rfl ?aP (fun _ hk => hk.elim) ?aF ?aO ?aB ?aS ?aL ?_;(case aP => exact rfl);(case aB => exact (bq_ HB));(case aF => exact (fun _ _ => trivial));(case aO => exact (rq_ HO_3));(case aS => exact (bz_ (bq_ HB)));(case aL => have:=LMc7.out;omega);intro v187 w8 ho hb hg hat;rw [← Ny186.out] at ho;replace HB:=A_ (hb);have HO188:=A_ (ho);clear HO_3;clear ho hb hg hat;have hcv9:=own_string (P:=Try.prog) Try.underlying22 Try.underlying5 Try.underlying9 (Kd.own_of_R HO188.out)))
     go_ret;exact ⟨ex_,bq_ HB⟩
    ·rw [if_neg c7] at H;exact absurd H (by simp)
def spec_l02Four.f (a0 : Int) : Option (ByteArray) := some (strOfNums (([(a0 / 16777216) % 256, (a0 / 65536) % 256, (a0 / 256) % 256, (a0) % 256] : List Int)))
set_option maxHeartbeats 8000000 in
set_option maxRecDepth 100000 in
theorem spec_l02Four.calls (a0 : Int) (r : ByteArray) (w : World) (h : spec_l02Four.f a0 = some r) :
  Calls Try.prog 144 #[.int .u32 a0] w fun e w' => e = .returned (.string r) ∧ Below w.heap.size w w':=by
 have HB:=A_ (Below.refl w.heap.size w);have H : (some (strOfNums (([(a0 / 16777216) % 256,(a0 / 65536) % 256,(a0 / 256) % 256,(a0) % 256] : List Int)))) = some r:=h;clear h;obtain ⟨y189,hy189⟩ : ∃ y_ : List Int,y_ = (([(a0 / 16777216) % 256,(a0 / 65536) % 256,(a0 / 256) % 256,(a0) % 256] : List Int)):=⟨_,rfl⟩
 replace H : (some (strOfNums y189)) = some r:=by first|(rw [hy189];with_reducible exact H)|(have H2_:=(Option.bind_some _ _).symm.trans H;rw [hy189];with_reducible exact H2_)|(have H2_:=(Option.bind_some _ _).symm.trans H;with_reducible exact H2_)|with_reducible exact H|(rw [hy189];exact H)|exact H
 have Ny189:=A_ hy189;clear hy189;obtain rfl:=Option.some.inj H;go_enter Try.func144,Try.ntmps144
 go_wp2_with (first|((with_reducible refine gate_dst (N:=14) rfl ?_);refine Kd.R_lit (Kd.int .u8) _ 5 ?hg (N:=14) ?hd (xs:=([(a0 / 16777216) % 256,(a0 / 65536) % 256,(a0 / 256) % 256,(a0) % 256] : List Int)) (inner:=[.int .u8 ((a0 / 16777216) % 256),.int .u8 ((a0 / 65536) % 256),.int .u8 ((a0 / 256) % 256),.int .u8 ((a0) % 256)]) (ok:=fun _ => True) (okp:=fun _ => True) ?hr ?hp (fun _ hk => hk) trivial (Below.refl _ _) (Nat.le_refl _) (by simp) ?_;(case hd => rfl);(case hg => rfl);(case hr => exact gx_);(case hp => exact (Reps.one (show Kd.M (Kd.int .u8) _ _ _ ((a0 / 16777216) % 256) [.int .u8 ((a0 / 16777216) % 256)] from rfl) (Reps.one (show Kd.M (Kd.int .u8) _ _ _ ((a0 / 65536) % 256) [.int .u8 ((a0 / 65536) % 256)] from rfl) (Reps.one (show Kd.M (Kd.int .u8) _ _ _ ((a0 / 256) % 256) [.int .u8 ((a0 / 256) % 256)] from rfl) (Reps.one (show Kd.M (Kd.int .u8) _ _ _ ((a0) % 256) [.int .u8 ((a0) % 256)] from rfl) (Reps.none _ _))))));intro v190 w2 ho3 hb hg_ hnew_;clear hg_ hnew_;(first|rw [← Ny189.out] at ho3|(simp only [Int.reduceToNat] at ho3;rw [← Ny189.out] at ho3));have HO191:=A_ (rw_ ho3 (bz_ (bq_ HB)));replace HB:=A_ (bs_ (bq_ HB) hb);clear hb ho3;have hcv4:=own_string (P:=Try.prog) Try.underlying22 Try.underlying5 Try.underlying9 (Kd.own_of_R HO191.out)))
 go_ret;exact ⟨ex_,bq_ HB⟩
mutual
def spec_SumMore.l0 : Nat → Int → ByteArray → Int → Option (Int)
 | 0,_,_,_ => none
 | k + 1,x0,x1,x5 => if x5 < (x1.size : Int) then (if 0 ≤ x5 then (spec_SumMore.l1 k (Go.bits .xor .u32 x0 ((bt x1 x5) % 4294967296)) x1 x5 0) else (none)) else (some x0)
def spec_SumMore.l1 : Nat → Int → ByteArray → Int → Int → Option (Int)
 | 0,_,_,_,_ => none
 | k + 1,x0,x1,x5,x6 => if x6 < 8 then (if (Int.tmod x0 2) = 1 then (spec_SumMore.l1 k (Go.bits .xor .u32 ((Int.tdiv x0 2) % 4294967296) 3558460437) x1 x5 (wrap64 (x6 + 1))) else (spec_SumMore.l1 k ((Int.tdiv x0 2) % 4294967296) x1 x5 (wrap64 (x6 + 1)))) else (spec_SumMore.l0 k x0 x1 (wrap64 (x5 + 1)))
end
def spec_SumMore.f (k : Nat) (a0 : Int) (a1 : ByteArray) : Option (Int) := spec_SumMore.l0 k a0 a1 0
theorem spec_SumMore.mono_l : ∀ k, (∀ y0 y1 y2, LeO (spec_SumMore.l0 k y0 y1 y2) (spec_SumMore.l0 (k + 1) y0 y1 y2)) ∧ (∀ y0 y1 y2 y3, LeO (spec_SumMore.l1 k y0 y1 y2 y3) (spec_SumMore.l1 (k + 1) y0 y1 y2 y3))
 | 0 => ⟨fun _ _ _ r h => by simp [spec_SumMore.l0] at h,fun _ _ _ _ r h => by simp [spec_SumMore.l1] at h⟩
 | k + 1 => by
  obtain ⟨ih0,ih1⟩:=spec_SumMore.mono_l k;refine ⟨?_,?_⟩
  ·intro y0 y1 y2
   unfold spec_SumMore.l0
   repeat' first
   | (with_reducible exact ih0 _ _ _)
   | (with_reducible exact ih1 _ _ _ _)
   | (with_reducible exact LeO.refl _)
   | (with_reducible exact LeO.none _)
   | (with_reducible refine LeO.ite ?_ ?_)
   | (with_reducible refine LeO.bind ?_ (fun _ => ?_))
  ·intro y0 y1 y2 y3
   unfold spec_SumMore.l1
   repeat' first
   | (with_reducible exact ih0 _ _ _)
   | (with_reducible exact ih1 _ _ _ _)
   | (with_reducible exact LeO.refl _)
   | (with_reducible exact LeO.none _)
   | (with_reducible refine LeO.ite ?_ ?_)
   | (with_reducible refine LeO.bind ?_ (fun _ => ?_))
theorem spec_SumMore.mono : ∀ a0 a1 k, LeO (spec_SumMore.f k a0 a1) (spec_SumMore.f (k + 1) a0 a1) := by
 intro a0 a1 k;obtain ⟨ih0,ih1⟩:=spec_SumMore.mono_l k
 unfold spec_SumMore.f
 repeat' first
   | (with_reducible exact ih0 _ _ _)
   | (with_reducible exact ih1 _ _ _ _)
   | (with_reducible exact LeO.refl _)
   | (with_reducible exact LeO.none _)
   | (with_reducible refine LeO.ite ?_ ?_)
   | (with_reducible refine LeO.bind ?_ (fun _ => ?_))
set_option maxHeartbeats 8000000 in
set_option maxRecDepth 100000 in
theorem spec_SumMore.calls (k : Nat) (a0 : Int) (a1 : ByteArray) (r : Int) (w : World) (h : spec_SumMore.f k a0 a1 = some r) :
  Calls Try.prog 167 #[.int .u32 a0,.string a1] w fun e w' => e = .returned (.int .u32 r) ∧ Drawn0 w w':=by
 have H : (spec_SumMore.l0 k a0 a1 0) = some r:=h;clear h;have H':=A_ H;clear H;go_enter Try.func167,Try.ntmps167;go_wp2
 go_loopg [0,5] k (fun kq v0 v5 w' => ∃ (x0_1 : Int) (x5_1 : Int),v0 = .int .u32 x0_1 ∧ v5 = .int .i64 x5_1 ∧ Aside0 (spec_SumMore.l0 kq x0_1 a1 x5_1 = some r) ∧ Aside0 (kq ≤ k) ∧ Drawn0 w w')
 case atStart => exact ⟨(a0),(0),(by first|rfl|(simp;done)|(simp [*];done)),(by first|rfl|(simp;done)|(simp [*];done)),H',⟨Nat.le_refl _⟩,by repeat (first|exact Drawn0.refl _|apply Drawn0.step)⟩
 case round =>
  clear H'
  try clear c1
  try clear p2
  obtain ⟨x0_1,x5_1,rfl,rfl,HA,HK1,⟨m1,rfl⟩⟩:=hrel
  cases gk with
  | zero => exact absurd HA.out (by simp [spec_SumMore.l0])
  | succ k1 =>
   have H:=HA.out;clear HA;simp only [spec_SumMore.l0] at H
   by_cases c3 : x5_1 < (a1.size : Int)
   ·rw [if_pos c3] at H;have c3b0 : decide (x5_1 < (a1.size : Int)) = true:=de_ c3;clear c3
    by_cases c4 : 0 ≤ x5_1
    ·rw [if_pos c4] at H;have c4b0 : decide (0 ≤ x5_1) = true:=de_ c4;clear c4;have H':=A_ H;clear H;have p5 : 0 ≤ (x5_1 : Int):=oda_;have q5 : x5_1 < (a1.size : Int):=oda_;have hx5:=bt_at a1 x5_1;replace p5:=eq_true p5;replace q5:=eq_true q5;go_wp2
     go_loopg [0,6] k1 (fun kq v0 v6 w' => ∃ (x0_2 : Int) (x6_2 : Int),v0 = .int .u32 x0_2 ∧ v6 = .int .i64 x6_2 ∧ Aside0 (spec_SumMore.l1 kq x0_2 a1 x5_1 x6_2 = some r) ∧ Aside0 (kq ≤ k1) ∧ Drawn0 w w')
     case atStart => exact ⟨(Go.bits .xor .u32 x0_1 ((bt a1 x5_1) % 4294967296)),(0),(by first|rfl|(simp;done)|(simp [*];done)),(by first|rfl|(simp;done)|(simp [*];done)),H',⟨Nat.le_refl _⟩,by repeat (first|exact Drawn0.refl _|apply Drawn0.step)⟩
     case round =>
      clear H'
      try clear c1
      try clear p2
      try clear c3
      try clear c3b0
      try clear c4
      try clear c4b0
      try clear p5
      try clear q5
      try clear hx5
      try clear p2
      try clear p5
      try clear q5
      obtain ⟨x0_2,x6_2,rfl,rfl,HA,HK2,⟨m2,rfl⟩⟩:=hrel
      cases gk with
      | zero => exact absurd HA.out (by simp [spec_SumMore.l1])
      | succ k2 =>
       have H:=HA.out;clear HA;simp only [spec_SumMore.l1] at H
       by_cases c6 : x6_2 < 8
       ·rw [if_pos c6] at H;have c6b0 : decide (x6_2 < 8) = true:=de_ c6;clear c6
        by_cases c7 : (Int.tmod x0_2 2) = 1
        ·rw [if_pos c7] at H;have c7b0 : ((Int.tmod x0_2 2) == 1) = true:=beq_iff_eq.mpr c7;have c7b1 : ((Int.tmod x0_2 2) != 1) = false:=bne_eq_false_iff_eq.mpr c7;clear c7;have H':=A_ H;clear H;go_wp2
         go_roundg k2
         case measure => have:=HK1.out;have:=HK2.out;omega
         case rel => exact ⟨(Go.bits .xor .u32 ((Int.tdiv x0_2 2) % 4294967296) 3558460437),(wrap64 (x6_2 + 1)),(by first|rfl|(simp;done)|(simp [*];done)),(by first|rfl|(simp;done)|(simp [*];done)),H',⟨by have:=HK1.out;have:=HK2.out;omega⟩,by repeat (first|exact Drawn0.refl _|apply Drawn0.step)⟩
        ·rw [if_neg c7] at H;have c7b0 : ((Int.tmod x0_2 2) == 1) = false:=beq_eq_false_iff_ne.mpr c7;have c7b1 : ((Int.tmod x0_2 2) != 1) = true:=bne_iff_ne.mpr c7;have H':=A_ H;clear H;go_wp2
         go_roundg k2
         case measure => have:=HK1.out;have:=HK2.out;omega
         case rel => exact ⟨((Int.tdiv x0_2 2) % 4294967296),(wrap64 (x6_2 + 1)),(by first|rfl|(simp;done)|(simp [*];done)),(by first|rfl|(simp;done)|(simp [*];done)),H',⟨by have:=HK1.out;have:=HK2.out;omega⟩,by repeat (first|exact Drawn0.refl _|apply Drawn0.step)⟩
       ·rw [if_neg c6] at H;have c6b0 : decide (x6_2 < 8) = false:=decide_eq_false c6;clear c6;have H':=A_ H;clear H;go_wp2
        go_roundg k2
        case measure => have:=HK1.out;have:=HK2.out;omega
        case rel => exact ⟨(x0_2),(wrap64 (x5_1 + 1)),(by first|rfl|(simp;done)|(simp [*];done)),(by first|rfl|(simp;done)|(simp [*];done)),H',⟨by have:=HK1.out;have:=HK2.out;omega⟩,by repeat (first|exact Drawn0.refl _|apply Drawn0.step)⟩
    ·rw [if_neg c4] at H;exact absurd H (by simp)
   ·rw [if_neg c3] at H;have c3b0 : decide (x5_1 < (a1.size : Int)) = false:=decide_eq_false c3;clear c3;obtain rfl:=Option.some.inj H;go_wp2;go_ret;exact ⟨by first|rfl|(simp;done)|(simp [*];done),by repeat (first|exact Drawn0.refl _|apply Drawn0.step)⟩
def spec_SumOf.f (k : Nat) (a0 : ByteArray) : Option (Int) := (spec_SumMore.f k 4294967295 a0).bind fun t192 => (some t192)
theorem spec_SumOf.mono : ∀ a0 k, LeO (spec_SumOf.f k a0) (spec_SumOf.f (k + 1) a0) := by
 intro a0 k
 unfold spec_SumOf.f
 repeat' first
   | (with_reducible exact spec_SumMore.mono _ _ _)
   | (with_reducible exact LeO.refl _)
   | (with_reducible exact LeO.none _)
   | (with_reducible refine LeO.ite ?_ ?_)
   | (with_reducible refine LeO.bind ?_ (fun _ => ?_))
set_option maxHeartbeats 8000000 in
set_option maxRecDepth 100000 in
theorem spec_SumOf.calls (k : Nat) (a0 : ByteArray) (r : Int) (w : World) (h : spec_SumOf.f k a0 = some r) :
  Calls Try.prog 145 #[.string a0] w fun e w' => e = .returned (.int .u32 r) ∧ Drawn0 w w':=by
 have H : ((spec_SumMore.f k 4294967295 a0).bind fun t192 => (some t192)) = some r:=h;clear h;replace H:=ob_.mp H;obtain ⟨t192,A20,H⟩:=H;replace H : (some t192) = some r:=H;have A2:=A_ A20;clear A20;obtain rfl:=Option.some.inj H;go_enter Try.func145,Try.ntmps145
 go_wp2_with (first|((with_reducible refine gate_callee (f:=167) rfl ?_);refine goesL_ (some 4) rfl rfl Try.func167 (by kernel_rfl) rfl #[.int .u32 4294967295,.string a0] rfl aq_ ?_;(with_reducible refine (spec_SumMore.calls k 4294967295 a0 t192 _ A2.out).mono ?_);rintro e w' ⟨rfl,⟨nd,rfl⟩⟩;refine ⟨_,rfl,?_⟩))
 go_ret;exact ⟨by first|rfl|(simp;done)|(simp [*];done),by repeat (first|exact Drawn0.refl _|apply Drawn0.step)⟩
def spec_Frame.f (k : Nat) (a0 : ByteArray) : Option (ByteArray × Bool) := (spec_l01In.f (a0.size : Int) 1 9000).bind fun t193 => (if t193 = true then ((spec_l01Var.f k (a0.size : Int)).bind fun t194 => ((spec_SumOf.f k a0).bind fun t195 => ((spec_l02Four.f t195).bind fun t196 => (if t194.size + t196.size ≤ 9223372036854775807 then (if (t194 ++ t196).size + a0.size ≤ 9223372036854775807 then (some ((t194 ++ t196) ++ a0, true)) else (none)) else (none))))) else (some ((⟨#[]⟩ : ByteArray), false)))
theorem spec_Frame.mono : ∀ a0 k, LeO (spec_Frame.f k a0) (spec_Frame.f (k + 1) a0) := by
 intro a0 k
 unfold spec_Frame.f
 repeat' first
   | (with_reducible exact spec_SumOf.mono _ _)
   | (with_reducible exact spec_l01Var.mono _ _)
   | (with_reducible exact LeO.refl _)
   | (with_reducible exact LeO.none _)
   | (with_reducible refine LeO.ite ?_ ?_)
   | (with_reducible refine LeO.bind ?_ (fun _ => ?_))
set_option maxHeartbeats 8000000 in
set_option maxRecDepth 100000 in
theorem spec_Frame.calls (k : Nat) (a0 : ByteArray) (r1 : ByteArray) (r2 : Bool) (w : World) (h : spec_Frame.f k a0 = some (r1, r2)) :
  Calls Try.prog 79 #[.string a0] w fun e w' => e = .returned (.tuple #[.string r1,.bool r2]) ∧ Below w.heap.size w w':=by
 have HB:=A_ (Below.refl w.heap.size w);have H : ((spec_l01In.f (a0.size : Int) 1 9000).bind fun t193 => (if t193 = true then ((spec_l01Var.f k (a0.size : Int)).bind fun t194 => ((spec_SumOf.f k a0).bind fun t195 => ((spec_l02Four.f t195).bind fun t196 => (if t194.size + t196.size ≤ 9223372036854775807 then (if (t194 ++ t196).size + a0.size ≤ 9223372036854775807 then (some ((t194 ++ t196) ++ a0,true)) else (none)) else (none))))) else (some ((⟨#[]⟩ : ByteArray),false)))) = some (r1,r2):=h;clear h;replace H:=ob_.mp H;obtain ⟨t193,A20,H⟩:=H;replace H : (if t193 = true then ((spec_l01Var.f k (a0.size : Int)).bind fun t194 => ((spec_SumOf.f k a0).bind fun t195 => ((spec_l02Four.f t195).bind fun t196 => (if t194.size + t196.size ≤ 9223372036854775807 then (if (t194 ++ t196).size + a0.size ≤ 9223372036854775807 then (some ((t194 ++ t196) ++ a0,true)) else (none)) else (none))))) else (some ((⟨#[]⟩ : ByteArray),false))) = some (r1,r2):=H;have A2:=A_ A20;clear A20
 by_cases c3 : t193 = true
 ·subst c3
  have H1 : ((spec_l01Var.f k (a0.size : Int)).bind fun t194 => ((spec_SumOf.f k a0).bind fun t195 => ((spec_l02Four.f t195).bind fun t196 => (if t194.size + t196.size ≤ 9223372036854775807 then (if (t194 ++ t196).size + a0.size ≤ 9223372036854775807 then (some ((t194 ++ t196) ++ a0,true)) else (none)) else (none))))) = some (r1,r2):=by rw [if_pos rfl] at H;exact H
  clear H;have H:=H1;clear H1;replace H:=ob_.mp H;obtain ⟨t194,A40,H⟩:=H;replace H : ((spec_SumOf.f k a0).bind fun t195 => ((spec_l02Four.f t195).bind fun t196 => (if t194.size + t196.size ≤ 9223372036854775807 then (if (t194 ++ t196).size + a0.size ≤ 9223372036854775807 then (some ((t194 ++ t196) ++ a0,true)) else (none)) else (none)))) = some (r1,r2):=H;have A4:=A_ A40;clear A40;replace H:=ob_.mp H;obtain ⟨t195,A50,H⟩:=H;replace H : ((spec_l02Four.f t195).bind fun t196 => (if t194.size + t196.size ≤ 9223372036854775807 then (if (t194 ++ t196).size + a0.size ≤ 9223372036854775807 then (some ((t194 ++ t196) ++ a0,true)) else (none)) else (none))) = some (r1,r2):=H;have A5:=A_ A50;clear A50;replace H:=ob_.mp H;obtain ⟨t196,A60,H⟩:=H;replace H : (if t194.size + t196.size ≤ 9223372036854775807 then (if (t194 ++ t196).size + a0.size ≤ 9223372036854775807 then (some ((t194 ++ t196) ++ a0,true)) else (none)) else (none)) = some (r1,r2):=H;have A6:=A_ A60;clear A60
  by_cases c7 : t194.size + t196.size ≤ 9223372036854775807
  ·rw [if_pos c7] at H;have c7b0:=eq_true c7;have c7b1 : decide (t194.size + t196.size ≤ 9223372036854775807) = true:=de_ c7
   try have c7b2 : (9223372036854775807 < t194.size + t196.size) = False:=eq_false (Nat.not_lt.2 c7)
   by_cases c8 : (t194 ++ t196).size + a0.size ≤ 9223372036854775807
   ·rw [if_pos c8] at H;have c8b0:=eq_true c8;have c8b1 : decide ((t194 ++ t196).size + a0.size ≤ 9223372036854775807) = true:=de_ c8
    try have c8b2 : (9223372036854775807 < (t194 ++ t196).size + a0.size) = False:=eq_false (Nat.not_lt.2 c8)
    try have c8b3 : (9223372036854775807 < t194.size + t196.size + a0.size) = False:=eq_false (by have h_:=c8;simp only [ByteArray.size_append,show ∀ x_ : UInt8,(⟨#[x_]⟩ : ByteArray).size = 1 from fun _ => rfl] at h_;omega)
    simp only [Option.some.injEq,Prod.mk.injEq] at H;obtain ⟨rfl,rfl⟩:=H;go_enter Try.func79,Try.ntmps79
    go_wp2_with (first|((with_reducible refine gate_callee (f:=78) rfl ?_);refine goesL_ (some 6) rfl rfl Try.func78 (by kernel_rfl) rfl #[.int .i64 (a0.size : Int),.int .i64 1,.int .i64 9000] rfl aq_ ?_;(with_reducible refine (spec_l01In.calls (a0.size : Int) 1 9000 true _ A2.out).mono ?_);rintro e w' ⟨rfl,⟨nd,rfl⟩⟩;refine ⟨_,rfl,?_⟩)|((with_reducible refine gate_callee (f:=80) rfl ?_);refine goesL_ (some 10) rfl rfl Try.func80 (by kernel_rfl) rfl #[.int .i64 (a0.size : Int)] rfl aq_ ?_;(with_reducible refine (spec_l01Var.calls k (a0.size : Int) t194 _ A4.out).mono ?_);rintro e w9 ⟨rfl,hb⟩;refine ⟨_,rfl,?_⟩;replace HB:=A_ (bs_ (bq_ HB) hb);(try clear hb);(try clear hb2);(try clear hk);(try clear hi))|((with_reducible refine gate_callee (f:=145) rfl ?_);refine goesL_ (some 12) rfl rfl Try.func145 (by kernel_rfl) rfl #[.string a0] rfl aq_ ?_;(with_reducible refine (spec_SumOf.calls k a0 t195 _ A5.out).mono ?_);rintro e w' ⟨rfl,⟨nd,rfl⟩⟩;refine ⟨_,rfl,?_⟩)|((with_reducible refine gate_callee (f:=144) rfl ?_);refine goesL_ (some 13) rfl rfl Try.func144 (by kernel_rfl) rfl #[.int .u32 t195] rfl aq_ ?_;(with_reducible refine (spec_l02Four.calls t195 t196 _ A6.out).mono ?_);rintro e w10 ⟨rfl,hb⟩;refine ⟨_,rfl,?_⟩;replace HB:=A_ (bs_ (bq_ HB) hb);(try clear hb);(try clear hb2);(try clear hk);(try clear hi)))
    go_ret2;exact ⟨ex_,bq_ HB⟩
   ·rw [if_neg c8] at H;exact absurd H (by simp)
  ·rw [if_neg c7] at H;exact absurd H (by simp)
 ·replace c3:=Bool.eq_false_iff.mpr c3;subst c3
  have H1 : (some ((⟨#[]⟩ : ByteArray),false)) = some (r1,r2):=by rw [if_neg (show ¬ (false = true) by decide)] at H;exact H
  clear H;have H:=H1;clear H1;simp only [Option.some.injEq,Prod.mk.injEq] at H;obtain ⟨rfl,rfl⟩:=H;go_enter Try.func79,Try.ntmps79
  go_wp2_with (first|((with_reducible refine gate_callee (f:=78) rfl ?_);refine goesL_ (some 6) rfl rfl Try.func78 (by kernel_rfl) rfl #[.int .i64 (a0.size : Int),.int .i64 1,.int .i64 9000] rfl aq_ ?_;(with_reducible refine (spec_l01In.calls (a0.size : Int) 1 9000 false _ A2.out).mono ?_);rintro e w' ⟨rfl,⟨nd,rfl⟩⟩;refine ⟨_,rfl,?_⟩))
  go_ret2;exact ⟨ex_,bq_ HB⟩
end Go.Proofs.Ytgpafelepkhdoaa.PFnBehind
