/- The contracts of the Go functions that this law reaches: what each call returns, by a plain Lean function of its arguments. No conditions but those each contract names. By the kit's print.py, run by this session's wip/gen/pp.py with facts and hand proofs beside it: not to the letter what print.sh prints. -/
import Derived.Test.YtbcgnncbiblibaaPFnExactLogStepsx0
import Derived.Test.YtbcgnncbiblibaaPFnExactLogStepsx1
namespace Go.Proofs.Ytbcgnncbiblibaa.PFnExactLogSteps
open Go.RowKit Go.Proofs.YtbcgnncbiblibaaW.PrintWords Go.Proofs.YtbcgnncbiblibaaW.PrintLast Go.Proofs.YtbcgnncbiblibaaW.PrintMore
attribute [local go_sem] max2_int min2_int max_two min_two max_three min_three max_four min_four
set_option linter.unusedVariables false
set_option linter.unusedSimpArgs false
attribute [local go_sem high] eqA69
mutual
def spec_l12Same.j0 : Nat → Bool → Int → Int → List (S69) → Int → Int → List (S69) → Option (Bool)
 | 0,_,_,_,_,_,_,_ => none
 | k + 1,x26,x304000,x304001,x304002,x305000,x305001,x305002 => if x26 = true then (some false) else (spec_l12Same.l0 k 0 x304000 x304001 x304002 x305000 x305001 x305002)
def spec_l12Same.l0 : Nat → Int → Int → Int → List (S69) → Int → Int → List (S69) → Option (Bool)
 | 0,_,_,_,_,_,_,_ => none
 | k + 1,x5,x304000,x304001,x304002,x305000,x305001,x305002 => if x5 < (x304002.length : Int) then (if 0 ≤ x5 then (if x5 < (x305002.length : Int) then (if (!(((rd_T69 x304002 x5).f0) == ((rd_T69 x305002 x5).f0)) || (!(((rd_T69 x304002 x5).f1) == ((rd_T69 x305002 x5).f1)) || (!((((rd_T69 x304002 x5).f2).toList) == (((rd_T69 x305002 x5).f2).toList))))) = true then (some false) else (spec_l12Same.l0 k (wrap64 (x5 + 1)) x304000 x304001 x304002 x305000 x305001 x305002)) else (none)) else (none)) else (some true)
end
def spec_l12Same.f (k : Nat) (a0_0 : Int) (a0_1 : Int) (l0_2 : List (S69)) (a1_0 : Int) (a1_1 : Int) (l1_2 : List (S69)) : Option (Bool) := if a0_0 = a1_0 then (if a0_1 = a1_1 then (spec_l12Same.j0 k ((l0_2.length : Int) != (l1_2.length : Int)) a0_0 a0_1 l0_2 a1_0 a1_1 l1_2) else (spec_l12Same.j0 k true a0_0 a0_1 l0_2 a1_0 a1_1 l1_2)) else (spec_l12Same.j0 k true a0_0 a0_1 l0_2 a1_0 a1_1 l1_2)
theorem spec_l12Same.mono_l : ∀ k, (∀ y0 y1 y2 y3 y4 y5 y6, LeO (spec_l12Same.j0 k y0 y1 y2 y3 y4 y5 y6) (spec_l12Same.j0 (k + 1) y0 y1 y2 y3 y4 y5 y6)) ∧ (∀ y0 y1 y2 y3 y4 y5 y6, LeO (spec_l12Same.l0 k y0 y1 y2 y3 y4 y5 y6) (spec_l12Same.l0 (k + 1) y0 y1 y2 y3 y4 y5 y6))
 | 0 => ⟨fun _ _ _ _ _ _ _ r h => by simp [spec_l12Same.j0] at h,fun _ _ _ _ _ _ _ r h => by simp [spec_l12Same.l0] at h⟩
 | k + 1 => by
  obtain ⟨ih0,ih1⟩:=spec_l12Same.mono_l k;refine ⟨?_,?_⟩
  ·intro y0 y1 y2 y3 y4 y5 y6
   unfold spec_l12Same.j0
   repeat' first
   | (with_reducible exact ih1 _ _ _ _ _ _ _)
   | (with_reducible exact LeO.refl _)
   | (with_reducible refine LeO.ite ?_ ?_)
  ·intro y0 y1 y2 y3 y4 y5 y6
   unfold spec_l12Same.l0
   repeat' first
   | (with_reducible exact ih1 _ _ _ _ _ _ _)
   | (with_reducible exact LeO.refl _)
   | (with_reducible refine LeO.ite ?_ ?_)
theorem spec_l12Same.mono : ∀ a0 a1 a2 a3 a4 a5 k, LeO (spec_l12Same.f k a0 a1 a2 a3 a4 a5) (spec_l12Same.f (k + 1) a0 a1 a2 a3 a4 a5) := by
 intro a0 a1 a2 a3 a4 a5 k;obtain ⟨ih0,ih1⟩:=spec_l12Same.mono_l k
 unfold spec_l12Same.f
 repeat' first
   | (with_reducible exact ih0 _ _ _ _ _ _ _)
   | (with_reducible refine LeO.ite ?_ ?_)
set_option maxHeartbeats 8000000 in
set_option maxRecDepth 100000 in
theorem spec_l12Same.calls (k : Nat) (a0_0 : Int) (a0_1 : Int) (A0_2 : Option Addr) (c0_2 : Nat) (l0_2 : List (S69)) (a1_0 : Int) (a1_1 : Int) (A1_2 : Option Addr) (c1_2 : Nat) (l1_2 : List (S69)) (r : Bool) (w : World) (hr0_2 : Kd.C k69 w A0_2 l0_2.length l0_2) (hc0_2 : l0_2.length ≤ c0_2) (hr1_2 : Kd.C k69 w A1_2 l1_2.length l1_2) (hc1_2 : l1_2.length ≤ c1_2) (h : spec_l12Same.f k a0_0 a0_1 l0_2 a1_0 a1_1 l1_2 = some r) :
  Calls Try.prog 88 #[.agg #[.int .i64 a0_0,.int .i64 a0_1,.slice A0_2 l0_2.length c0_2],.agg #[.int .i64 a1_0,.int .i64 a1_1,.slice A1_2 l1_2.length c1_2]] w fun e w' => e = .returned (.bool r) ∧ Below w.heap.size w w':=by
 have hu24:=Try.underlying24;have hu69:=Try.underlying69;have HR0_2:=A_ hr0_2;have HC0_2:=A_ hc0_2;clear hr0_2 hc0_2;have HR1_2:=A_ hr1_2;have HC1_2:=A_ hc1_2;clear hr1_2 hc1_2;have HB:=A_ (Below.refl w.heap.size w);unfold spec_l12Same.f at h;have H:=h;clear h;have HC3:=A_ H;clear H;go_enter Try.func88,Try.ntmps88
 go_upto_region 1 with (first|((with_reducible refine gate_dst (N:=2) rfl ?_);(try (refine gate_guard (by rfl) ?_;dsimp only));refine bE_ 2 #[.int .i64 a0_0,.int .i64 a0_1,.slice A0_2 l0_2.length c0_2] 24 ?_;intro gb303 hg w4 hbox hb;have BK303:=A_ (hbox);have GW303:=gE_ hg HB;have GE303:=gE_ hg HB;replace HB:=bS_ HB hb;clear hb hbox hg)|((with_reducible refine gate_dst (N:=3) rfl ?_);(try (refine gate_guard (by rfl) ?_;dsimp only));refine bE_ 3 #[.int .i64 a1_0,.int .i64 a1_1,.slice A1_2 l1_2.length c1_2] 24 ?_;intro gb304 hg w5 hbox hb;have BK304:=A_ (hbox);have GW304:=gE_ hg HB;have GE304:=gE_ hg HB;replace HB:=bS_ HB hb;have NB303_304:=nB_ hg BK303;have NB304_303:=nC_ hg BK303;replace BK303:=kB_ BK303 hb;clear hb hbox hg))
 go_cut [26] (fun v26 wc => ∃ (kq : Nat) (x26_2 : Bool),v26 = .bool x26_2 ∧ Aside0 (spec_l12Same.j0 kq x26_2 a0_0 a0_1 l0_2 a1_0 a1_1 l1_2 = some r) ∧ Aside0 (kq ≤ k) ∧ Aside0 (wc.heap[gb303]? = some (.cells #[.int .i64 a0_0,.int .i64 a0_1,(.slice A0_2 l0_2.length c0_2)] 24 (0,0))) ∧ Aside0 (wc.heap[gb304]? = some (.cells #[.int .i64 a1_0,.int .i64 a1_1,(.slice A1_2 l1_2.length c1_2)] 24 (0,0))) ∧ Aside0 (Below w.heap.size w wc))
 case first =>
  have H:=HC3.out;clear HC3
  by_cases c6 : a0_0 = a1_0
  ·rw [if_pos c6] at H;have c6b0 : (a0_0 == a1_0) = true:=beq_iff_eq.mpr c6;have c6b1 : (a0_0 != a1_0) = false:=bne_eq_false_iff_eq.mpr c6;clear c6
   (skip)
   by_cases c7 : a0_1 = a1_1
   ·rw [if_pos c7] at H;have c7b0 : (a0_1 == a1_1) = true:=beq_iff_eq.mpr c7;have c7b1 : (a0_1 != a1_1) = false:=bne_eq_false_iff_eq.mpr c7;clear c7;have H':=A_ H;clear H;have hnb8:=NB303_304.out;have hnc8:=NB304_303.out;obtain ⟨hcz9_0,hcz9_1,hcz9_2,hfz9_0,hfz9_1,hfz9_2⟩:=k3f_ BK303;obtain ⟨hcz10_0,hcz10_1,hcz10_2,hfz10_0,hfz10_1,hfz10_2⟩:=k3f_ BK304;go_wp2
    go_meet
    case rel => exact ⟨_,(((l0_2.length : Int) != (l1_2.length : Int))),(by rfl),H',⟨by omega⟩,⟨kq_ BK303⟩,⟨kq_ BK304⟩,⟨bq_ HB⟩⟩
   ·rw [if_neg c7] at H;have c7b0 : (a0_1 == a1_1) = false:=beq_eq_false_iff_ne.mpr c7;have c7b1 : (a0_1 != a1_1) = true:=bne_iff_ne.mpr c7;have H':=A_ H;clear H;have hnb11:=NB303_304.out;have hnc11:=NB304_303.out;obtain ⟨hcz12_0,hcz12_1,hcz12_2,hfz12_0,hfz12_1,hfz12_2⟩:=k3f_ BK303;obtain ⟨hcz13_0,hcz13_1,hcz13_2,hfz13_0,hfz13_1,hfz13_2⟩:=k3f_ BK304;go_wp2
    go_meet
    case rel => exact ⟨_,(true),(by rfl),H',⟨by omega⟩,⟨kq_ BK303⟩,⟨kq_ BK304⟩,⟨bq_ HB⟩⟩
  ·rw [if_neg c6] at H;have c6b0 : (a0_0 == a1_0) = false:=beq_eq_false_iff_ne.mpr c6;have c6b1 : (a0_0 != a1_0) = true:=bne_iff_ne.mpr c6
   (skip)
   have H':=A_ H;clear H;have hnb14:=NB303_304.out;have hnc14:=NB304_303.out;obtain ⟨hcz15_0,hcz15_1,hcz15_2,hfz15_0,hfz15_1,hfz15_2⟩:=k3f_ BK303;obtain ⟨hcz16_0,hcz16_1,hcz16_2,hfz16_0,hfz16_1,hfz16_2⟩:=k3f_ BK304;go_wp2
   go_meet
   case rel => exact ⟨_,(true),(by rfl),H',⟨by omega⟩,⟨kq_ BK303⟩,⟨kq_ BK304⟩,⟨bq_ HB⟩⟩
 case rest =>
  clear HC3
  try clear c1
  try clear p2
  try clear c6
  try clear c6b0
  try clear c6b1
  try clear c7
  try clear c7b0
  try clear c7b1
  try clear c8
  try clear c11
  try clear c14
  try clear hcz10_0
  try clear hcz10_1
  try clear hcz10_2
  try clear hcz12_0
  try clear hcz12_1
  try clear hcz12_2
  try clear hcz13_0
  try clear hcz13_1
  try clear hcz13_2
  try clear hcz15_0
  try clear hcz15_1
  try clear hcz15_2
  try clear hcz16_0
  try clear hcz16_1
  try clear hcz16_2
  try clear hcz9_0
  try clear hcz9_1
  try clear hcz9_2
  try clear hfz10_0
  try clear hfz10_1
  try clear hfz10_2
  try clear hfz12_0
  try clear hfz12_1
  try clear hfz12_2
  try clear hfz13_0
  try clear hfz13_1
  try clear hfz13_2
  try clear hfz15_0
  try clear hfz15_1
  try clear hfz15_2
  try clear hfz16_0
  try clear hfz16_1
  try clear hfz16_2
  try clear hfz9_0
  try clear hfz9_1
  try clear hfz9_2
  obtain ⟨kq,x26_2,rfl,HA,HJ2,BK303,BK304,HB⟩:=hcut
  cases kq with
  | zero => exact absurd HA.out (by simp [spec_l12Same.j0])
  | succ kj2 =>
   have H:=HA.out;clear HA;simp only [spec_l12Same.j0] at H
   by_cases c17 : x26_2 = true
   ·subst c17
    rw [if_pos rfl] at H;obtain rfl:=Option.some.inj H;go_wp2
    go_ret;exact ⟨ex_,bq_ HB⟩
   ·replace c17:=Bool.eq_false_iff.mpr c17;subst c17
    have H1 : (spec_l12Same.l0 kj2 0 a0_0 a0_1 l0_2 a1_0 a1_1 l1_2) = some r:=by rw [if_neg (show ¬ (false = true) by decide)] at H;exact H
    clear H;have H:=H1;clear H1;have H':=A_ H;clear H;go_wp2
    go_loopg [5] kj2 (fun kq v5 w' => ∃ (x5_2 : Int),v5 = .int .i64 x5_2 ∧ Aside0 (spec_l12Same.l0 kq x5_2 a0_0 a0_1 l0_2 a1_0 a1_1 l1_2 = some r) ∧ Aside0 (kq ≤ kj2) ∧ Aside0 (w'.heap[gb303]? = some (.cells #[.int .i64 a0_0,.int .i64 a0_1,(.slice A0_2 l0_2.length c0_2)] 24 (0,0))) ∧ Aside0 (w'.heap[gb304]? = some (.cells #[.int .i64 a1_0,.int .i64 a1_1,(.slice A1_2 l1_2.length c1_2)] 24 (0,0))) ∧ Aside0 (Below w.heap.size w w'))
    case atStart => exact ⟨(0),(by rfl),H',⟨Nat.le_refl _⟩,⟨kq_ BK303⟩,⟨kq_ BK304⟩,⟨bq_ HB⟩⟩
    case round =>
     clear H'
     try clear c1
     try clear p2
     try clear c6
     try clear c6b0
     try clear c6b1
     try clear c7
     try clear c7b0
     try clear c7b1
     try clear c8
     try clear c11
     try clear c14
     try clear c17
     try clear hcz10_0
     try clear hcz10_1
     try clear hcz10_2
     try clear hcz12_0
     try clear hcz12_1
     try clear hcz12_2
     try clear hcz13_0
     try clear hcz13_1
     try clear hcz13_2
     try clear hcz15_0
     try clear hcz15_1
     try clear hcz15_2
     try clear hcz16_0
     try clear hcz16_1
     try clear hcz16_2
     try clear hcz9_0
     try clear hcz9_1
     try clear hcz9_2
     try clear hfz10_0
     try clear hfz10_1
     try clear hfz10_2
     try clear hfz12_0
     try clear hfz12_1
     try clear hfz12_2
     try clear hfz13_0
     try clear hfz13_1
     try clear hfz13_2
     try clear hfz15_0
     try clear hfz15_1
     try clear hfz15_2
     try clear hfz16_0
     try clear hfz16_1
     try clear hfz16_2
     try clear hfz9_0
     try clear hfz9_1
     try clear hfz9_2
     try clear p2
     obtain ⟨x5_2,rfl,HA,HK2,BK303,BK304,HB⟩:=hrel
     cases gk with
     | zero => exact absurd HA.out (by simp [spec_l12Same.l0])
     | succ k2 =>
      have H:=HA.out;clear HA;simp only [spec_l12Same.l0] at H
      by_cases c18 : x5_2 < (l0_2.length : Int)
      ·rw [if_pos c18] at H;have c18b0 : decide (x5_2 < (l0_2.length : Int)) = true:=de_ c18;clear c18
       by_cases c19 : 0 ≤ x5_2
       ·rw [if_pos c19] at H;have c19b0 : decide (0 ≤ x5_2) = true:=de_ c19;clear c19
        by_cases c20 : x5_2 < (l1_2.length : Int)
        ·rw [if_pos c20] at H;have c20b0 : decide (x5_2 < (l1_2.length : Int)) = true:=de_ c20;clear c20
         by_cases c21 : (!(((rd_T69 l0_2 x5_2).f0) == ((rd_T69 l1_2 x5_2).f0)) || (!(((rd_T69 l0_2 x5_2).f1) == ((rd_T69 l1_2 x5_2).f1)) || (!((((rd_T69 l0_2 x5_2).f2).toList) == (((rd_T69 l1_2 x5_2).f2).toList))))) = true
         ·rw [if_pos c21] at H;have c21b0 : (!(((rd_T69 l0_2 x5_2).f0) == ((rd_T69 l1_2 x5_2).f0)) || (!(((rd_T69 l0_2 x5_2).f1) == ((rd_T69 l1_2 x5_2).f1)) || (!((((rd_T69 l0_2 x5_2).f2).toList) == (((rd_T69 l1_2 x5_2).f2).toList))))) = true:=c21;clear c21;obtain rfl:=Option.some.inj H;have hnb22:=NB303_304.out;have hnc22:=NB304_303.out;obtain ⟨hcz23_0,hcz23_1,hcz23_2,hfz23_0,hfz23_1,hfz23_2⟩:=k3f_ BK303;have p305 : 0 ≤ (x5_2 : Int):=oda_;have q305 : x5_2 < (l0_2.length : Int):=oda_;obtain ⟨ad305,e305,hx305_0,hx305_1,hx305_2⟩:=at_T69 HR0_2.out x5_2 p305 q305
          cases e305
          replace hx305_0:=(HB.out.cell (wb_ w _ hx305_0)).trans hx305_0;replace hx305_1:=(HB.out.cell (wb_ w _ hx305_1)).trans hx305_1;replace hx305_2:=(HB.out.cell (wb_ w _ hx305_2)).trans hx305_2;replace p305:=eq_true p305;replace q305:=eq_true q305;obtain ⟨hcz24_0,hcz24_1,hcz24_2,hfz24_0,hfz24_1,hfz24_2⟩:=k3f_ BK304;have p306 : 0 ≤ (x5_2 : Int):=oda_;have q306 : x5_2 < (l1_2.length : Int):=oda_;obtain ⟨ad306,e306,hx306_0,hx306_1,hx306_2⟩:=at_T69 HR1_2.out x5_2 p306 q306
          cases e306
          replace hx306_0:=(HB.out.cell (wb_ w _ hx306_0)).trans hx306_0;replace hx306_1:=(HB.out.cell (wb_ w _ hx306_1)).trans hx306_1;replace hx306_2:=(HB.out.cell (wb_ w _ hx306_2)).trans hx306_2;replace p306:=eq_true p306;replace q306:=eq_true q306;go_wp2
          repeat (go_quiet (fail);try go_wp2)
          go_ret;exact ⟨ex_,bq_ HB⟩
         ·rw [if_neg c21] at H
          have c21b0 : (!(((rd_T69 l0_2 x5_2).f0) == ((rd_T69 l1_2 x5_2).f0)) || (!(((rd_T69 l0_2 x5_2).f1) == ((rd_T69 l1_2 x5_2).f1)) || (!((((rd_T69 l0_2 x5_2).f2).toList) == (((rd_T69 l1_2 x5_2).f2).toList))))) = false:=by simpa using c21
          clear c21;have H':=A_ H;clear H;have hnb25:=NB303_304.out;have hnc25:=NB304_303.out;obtain ⟨hcz26_0,hcz26_1,hcz26_2,hfz26_0,hfz26_1,hfz26_2⟩:=k3f_ BK303;have p305 : 0 ≤ (x5_2 : Int):=oda_;have q305 : x5_2 < (l0_2.length : Int):=oda_;obtain ⟨ad305,e305,hx305_0,hx305_1,hx305_2⟩:=at_T69 HR0_2.out x5_2 p305 q305
          cases e305
          replace hx305_0:=(HB.out.cell (wb_ w _ hx305_0)).trans hx305_0;replace hx305_1:=(HB.out.cell (wb_ w _ hx305_1)).trans hx305_1;replace hx305_2:=(HB.out.cell (wb_ w _ hx305_2)).trans hx305_2;replace p305:=eq_true p305;replace q305:=eq_true q305;obtain ⟨hcz27_0,hcz27_1,hcz27_2,hfz27_0,hfz27_1,hfz27_2⟩:=k3f_ BK304;have p306 : 0 ≤ (x5_2 : Int):=oda_;have q306 : x5_2 < (l1_2.length : Int):=oda_;obtain ⟨ad306,e306,hx306_0,hx306_1,hx306_2⟩:=at_T69 HR1_2.out x5_2 p306 q306
          cases e306
          replace hx306_0:=(HB.out.cell (wb_ w _ hx306_0)).trans hx306_0;replace hx306_1:=(HB.out.cell (wb_ w _ hx306_1)).trans hx306_1;replace hx306_2:=(HB.out.cell (wb_ w _ hx306_2)).trans hx306_2;replace p306:=eq_true p306;replace q306:=eq_true q306;go_wp2
          repeat (go_quiet (fail);try go_wp2)
          go_roundg k2
          case measure => have:=HJ2.out;have:=HK2.out;omega
          case rel => exact ⟨(wrap64 (x5_2 + 1)),(by rfl),H',⟨by have:=HJ2.out;have:=HK2.out;omega⟩,⟨kq_ BK303⟩,⟨kq_ BK304⟩,⟨bq_ HB⟩⟩
        ·rw [if_neg c20] at H;exact absurd H (by simp)
       ·rw [if_neg c19] at H;exact absurd H (by simp)
      ·rw [if_neg c18] at H;have c18b0 : decide (x5_2 < (l0_2.length : Int)) = false:=decide_eq_false c18;clear c18;obtain rfl:=Option.some.inj H;have hnb28:=NB303_304.out;have hnc28:=NB304_303.out;obtain ⟨hcz29_0,hcz29_1,hcz29_2,hfz29_0,hfz29_1,hfz29_2⟩:=k3f_ BK303;go_wp2
       go_ret;exact ⟨ex_,bq_ HB⟩
end Go.Proofs.Ytbcgnncbiblibaa.PFnExactLogSteps
