/- The contracts of the Go functions that this law reaches: what each call returns, by a plain Lean function of its arguments. No conditions but those each contract names. By the kit's print.py, run by this session's wip/gen/pp.py with facts and hand proofs beside it: not to the letter what print.sh prints. -/
import Derived.Test.YtgpafelepkhdoaaPFnBehindx0
import Derived.Test.YtgpafelepkhdoaaPFnBehindx3
namespace Go.Proofs.Ytgpafelepkhdoaa.PFnBehind
open Go.RowKit Go.Proofs.YtgpafelepkhdoaaW.PrintWords Go.Proofs.YtgpafelepkhdoaaW.PrintLast Go.Proofs.YtgpafelepkhdoaaW.PrintMore
attribute [local go_sem] max2_int min2_int max_two min_two max_three min_three max_four min_four
set_option linter.unusedVariables false
set_option linter.unusedSimpArgs false
mutual
def impl_LogOk.j0 : Nat → Bool → Int → Int → List (S37) → Option (Bool)
 | 0,_,_,_,_ => none
 | k + 1,x30,x121000,x121001,x121002 => if x30 = true then (some false) else (impl_LogOk.l0 k x121001 x121002 (x121002.length : Int) 0)
def impl_LogOk.l0 : Nat → Int → List (S37) → Int → Int → Option (Bool)
 | 0,_,_,_,_ => none
 | k + 1,x3,x34,x35,x36 => if x36 < x35 then (if 0 ≤ x36 then (if x36 < (x34.length : Int) then ((impl_EntryOk.f k ((rd_T37 x34 x36).f0) ((rd_T37 x34 x36).f1) ((rd_T37 x34 x36).f2)).bind fun t125 => (if t125 = true then (if ((rd_T37 x34 x36).f0) < x3 then (some false) else (impl_LogOk.l0 k ((rd_T37 x34 x36).f0) x34 x35 (wrap64 (x36 + 1)))) else (some false))) else (none)) else (none)) else (some true)
end
def impl_LogOk.f (k : Nat) (a0_0 : Int) (a0_1 : Int) (l0_2 : List (S37)) : Option (Bool) := (impl_within.f a0_0 0 100000).bind fun t121 => (if t121 = true then ((impl_within.f a0_1 0 100000).bind fun t122 => (if t122 = true then (if (l0_2.length : Int) > 120 then (impl_LogOk.j0 k true a0_0 a0_1 l0_2) else (impl_LogOk.j0 k (decide ((wrap64 (a0_0 + (l0_2.length : Int))) > 100000)) a0_0 a0_1 l0_2)) else (impl_LogOk.j0 k true a0_0 a0_1 l0_2))) else (impl_LogOk.j0 k true a0_0 a0_1 l0_2))
theorem impl_LogOk.mono_l : ∀ k, (∀ y0 y1 y2 y3, LeO (impl_LogOk.j0 k y0 y1 y2 y3) (impl_LogOk.j0 (k + 1) y0 y1 y2 y3)) ∧ (∀ y0 y1 y2 y3, LeO (impl_LogOk.l0 k y0 y1 y2 y3) (impl_LogOk.l0 (k + 1) y0 y1 y2 y3))
 | 0 => ⟨fun _ _ _ _ r h => by simp [impl_LogOk.j0] at h,fun _ _ _ _ r h => by simp [impl_LogOk.l0] at h⟩
 | k + 1 => by
  obtain ⟨ih0,ih1⟩:=impl_LogOk.mono_l k;refine ⟨?_,?_⟩
  ·intro y0 y1 y2 y3
   unfold impl_LogOk.j0
   repeat' first
   | (with_reducible exact ih0 _ _ _ _)
   | (with_reducible exact ih1 _ _ _ _)
   | (with_reducible exact impl_EntryOk.mono _ _ _ _)
   | (with_reducible exact LeO.refl _)
   | (with_reducible exact LeO.none _)
   | (with_reducible refine LeO.ite ?_ ?_)
   | (with_reducible refine LeO.bind ?_ (fun _ => ?_))
  ·intro y0 y1 y2 y3
   unfold impl_LogOk.l0
   repeat' first
   | (with_reducible exact ih0 _ _ _ _)
   | (with_reducible exact ih1 _ _ _ _)
   | (with_reducible exact impl_EntryOk.mono _ _ _ _)
   | (with_reducible exact LeO.refl _)
   | (with_reducible exact LeO.none _)
   | (with_reducible refine LeO.ite ?_ ?_)
   | (with_reducible refine LeO.bind ?_ (fun _ => ?_))
theorem impl_LogOk.mono : ∀ a0 a1 a2 k, LeO (impl_LogOk.f k a0 a1 a2) (impl_LogOk.f (k + 1) a0 a1 a2) := by
 intro a0 a1 a2 k;obtain ⟨ih0,ih1⟩:=impl_LogOk.mono_l k
 unfold impl_LogOk.f
 repeat' first
   | (with_reducible exact ih0 _ _ _ _)
   | (with_reducible exact ih1 _ _ _ _)
   | (with_reducible exact impl_EntryOk.mono _ _ _ _)
   | (with_reducible exact LeO.refl _)
   | (with_reducible exact LeO.none _)
   | (with_reducible refine LeO.ite ?_ ?_)
   | (with_reducible refine LeO.bind ?_ (fun _ => ?_))
set_option maxHeartbeats 8000000 in
set_option maxRecDepth 100000 in
theorem impl_LogOk.calls (k : Nat) (a0_0 : Int) (a0_1 : Int) (A0_2 : Option Addr) (c0_2 : Nat) (l0_2 : List (S37)) (r : Bool) (w : World) (hr0_2 : Kd.C k37 w A0_2 l0_2.length l0_2) (hc0_2 : l0_2.length ≤ c0_2) (h : impl_LogOk.f k a0_0 a0_1 l0_2 = some r) :
  Calls Try.prog 66 #[.agg #[.int .i64 a0_0,.int .i64 a0_1,.slice A0_2 l0_2.length c0_2]] w fun e w' => e = .returned (.bool r) ∧ Below w.heap.size w w':=by
 have hu60:=Try.underlying60;have hu37:=Try.underlying37;have HR0_2:=A_ hr0_2;have HC0_2:=A_ hc0_2;clear hr0_2 hc0_2;have HB:=A_ (Below.refl w.heap.size w);have H : ((impl_within.f a0_0 0 100000).bind fun t121 => (if t121 = true then ((impl_within.f a0_1 0 100000).bind fun t122 => (if t122 = true then (if (l0_2.length : Int) > 120 then (impl_LogOk.j0 k true a0_0 a0_1 l0_2) else (impl_LogOk.j0 k (decide ((wrap64 (a0_0 + (l0_2.length : Int))) > 100000)) a0_0 a0_1 l0_2)) else (impl_LogOk.j0 k true a0_0 a0_1 l0_2))) else (impl_LogOk.j0 k true a0_0 a0_1 l0_2))) = some r:=h;clear h;have HC2:=A_ H;clear H;go_enter Try.func66,Try.ntmps66
 go_upto_region 1 with (first|((with_reducible refine gate_dst (N:=1) rfl ?_);(try (refine gate_guard (by rfl) ?_;dsimp only));refine box_event ?hg (N:=1) ?hd (cs:=#[.int .i64 a0_0,.int .i64 a0_1,.slice A0_2 l0_2.length c0_2]) (t:=60) ?hr ?_;(case hd => rfl);(case hg => rfl);(case hr => exact gx_);intro gb120 hg w3 hbox hb;have BK120:=A_ (hbox);have GW120:=A_ ((by rw [hg];exact (bz_ (bq_ HB)) : w.heap.size ≤ gb120));have GE120:=A_ ((by rw [hg];exact (bz_ (bq_ HB)) : w.heap.size ≤ gb120));replace HB:=A_ (bs_ (bq_ HB) hb);clear hb hbox hg))
 (try simp only [Act.put,s1_,s2_,s3_])
 go_cut [30] (fun v30 wc => ∃ (kq : Nat) (x30_1 : Bool),v30 = .bool x30_1 ∧ Aside0 (impl_LogOk.j0 kq x30_1 a0_0 a0_1 l0_2 = some r) ∧ Aside0 (kq ≤ k) ∧ Aside0 (wc.heap[gb120]? = some (.cells #[.int .i64 a0_0,.int .i64 a0_1,(.slice A0_2 l0_2.length c0_2)] 60 (0,0))) ∧ Aside0 (Below w.heap.size w wc))
 case first =>
  have H:=HC2.out;clear HC2;replace H:=ob_.mp H;obtain ⟨t121,A40,H⟩:=H;replace H : (if t121 = true then ((impl_within.f a0_1 0 100000).bind fun t122 => (if t122 = true then (if (l0_2.length : Int) > 120 then (impl_LogOk.j0 k true a0_0 a0_1 l0_2) else (impl_LogOk.j0 k (decide ((wrap64 (a0_0 + (l0_2.length : Int))) > 100000)) a0_0 a0_1 l0_2)) else (impl_LogOk.j0 k true a0_0 a0_1 l0_2))) else (impl_LogOk.j0 k true a0_0 a0_1 l0_2)) = some r:=H;have A4:=A_ A40;clear A40
  by_cases c5 : t121 = true
  ·subst c5
   have H1 : ((impl_within.f a0_1 0 100000).bind fun t122 => (if t122 = true then (if (l0_2.length : Int) > 120 then (impl_LogOk.j0 k true a0_0 a0_1 l0_2) else (impl_LogOk.j0 k (decide ((wrap64 (a0_0 + (l0_2.length : Int))) > 100000)) a0_0 a0_1 l0_2)) else (impl_LogOk.j0 k true a0_0 a0_1 l0_2))) = some r:=by rw [if_pos rfl] at H;exact H
   clear H;have H:=H1;clear H1;replace H:=ob_.mp H;obtain ⟨t122,A60,H⟩:=H;replace H : (if t122 = true then (if (l0_2.length : Int) > 120 then (impl_LogOk.j0 k true a0_0 a0_1 l0_2) else (impl_LogOk.j0 k (decide ((wrap64 (a0_0 + (l0_2.length : Int))) > 100000)) a0_0 a0_1 l0_2)) else (impl_LogOk.j0 k true a0_0 a0_1 l0_2)) = some r:=H;have A6:=A_ A60;clear A60
   by_cases c7 : t122 = true
   ·subst c7
    have H1 : (if (l0_2.length : Int) > 120 then (impl_LogOk.j0 k true a0_0 a0_1 l0_2) else (impl_LogOk.j0 k (decide ((wrap64 (a0_0 + (l0_2.length : Int))) > 100000)) a0_0 a0_1 l0_2)) = some r:=by rw [if_pos rfl] at H;exact H
    clear H;have H:=H1;clear H1
    by_cases c8 : (l0_2.length : Int) > 120
    ·rw [if_pos c8] at H;have c8b0 : decide (120 < (l0_2.length : Int)) = true:=de_ c8;have c8b1 : decide (120 < l0_2.length) = true:=de_ (by omega);clear c8
     (first|rw [c8b0]|(simp only [i64_w,i32_w];rw [c8b0])|skip)
     have H':=A_ H;clear H;have hcz9_0:=kC_ BK120 0;have hcz9_1:=kC_ BK120 1;have hcz9_2:=kC_ BK120 2;have hfz9_0:=kf_ BK120.out 0;have hfz9_1:=kf_ BK120.out 1;have hfz9_2:=kf_ BK120.out 2
     go_wp2_with (first|((with_reducible refine gate_callee (f:=75) rfl ?_);refine goesL_ (some 8) rfl rfl Try.func75 (by kernel_rfl) rfl #[.int .i64 a0_0,.int .i64 0,.int .i64 100000] rfl aq_ ?_;(with_reducible refine (impl_within.calls a0_0 0 100000 true _ A4.out).mono ?_);rintro e w' ⟨rfl,⟨nd,rfl⟩⟩;refine ⟨_,rfl,?_⟩)|(go_at_call 75;(with_reducible refine (impl_within.calls a0_1 0 100000 true _ A6.out).mono ?_);rintro e w' ⟨rfl,⟨nd,rfl⟩⟩))
     go_meet
     case rel => exact ⟨_,(true),(by first|rfl|(simp;done)|(simp [*];done)),H',⟨by first|omega|exact Nat.le_refl _⟩,⟨kq_ BK120⟩,⟨bq_ HB⟩⟩
    ·rw [if_neg c8] at H;have c8b0 : decide (120 < (l0_2.length : Int)) = false:=decide_eq_false c8;have c8b1 : decide (120 < l0_2.length) = false:=decide_eq_false (by omega);clear c8
     (first|rw [c8b0]|(simp only [i64_w,i32_w];rw [c8b0])|skip)
     have H':=A_ H;clear H;have hcz10_0:=kC_ BK120 0;have hcz10_1:=kC_ BK120 1;have hcz10_2:=kC_ BK120 2;have hfz10_0:=kf_ BK120.out 0;have hfz10_1:=kf_ BK120.out 1;have hfz10_2:=kf_ BK120.out 2
     go_wp2_with (first|((with_reducible refine gate_callee (f:=75) rfl ?_);refine goesL_ (some 8) rfl rfl Try.func75 (by kernel_rfl) rfl #[.int .i64 a0_0,.int .i64 0,.int .i64 100000] rfl aq_ ?_;(with_reducible refine (impl_within.calls a0_0 0 100000 true _ A4.out).mono ?_);rintro e w' ⟨rfl,⟨nd,rfl⟩⟩;refine ⟨_,rfl,?_⟩)|(go_at_call 75;(with_reducible refine (impl_within.calls a0_1 0 100000 true _ A6.out).mono ?_);rintro e w' ⟨rfl,⟨nd,rfl⟩⟩))
     go_meet
     case rel => exact ⟨_,(decide ((wrap64 (a0_0 + (l0_2.length : Int))) > 100000)),(by first|rfl|(simp;done)|(simp [*];done)),H',⟨by first|omega|exact Nat.le_refl _⟩,⟨kq_ BK120⟩,⟨bq_ HB⟩⟩
   ·replace c7:=Bool.eq_false_iff.mpr c7;subst c7
    have H1 : (impl_LogOk.j0 k true a0_0 a0_1 l0_2) = some r:=by rw [if_neg (show ¬ (false = true) by decide)] at H;exact H
    clear H;have H:=H1;clear H1;have H':=A_ H;clear H;have hcz11_0:=kC_ BK120 0;have hcz11_1:=kC_ BK120 1;have hcz11_2:=kC_ BK120 2;have hfz11_0:=kf_ BK120.out 0;have hfz11_1:=kf_ BK120.out 1;have hfz11_2:=kf_ BK120.out 2
    go_wp2_with (first|((with_reducible refine gate_callee (f:=75) rfl ?_);refine goesL_ (some 8) rfl rfl Try.func75 (by kernel_rfl) rfl #[.int .i64 a0_0,.int .i64 0,.int .i64 100000] rfl aq_ ?_;(with_reducible refine (impl_within.calls a0_0 0 100000 true _ A4.out).mono ?_);rintro e w' ⟨rfl,⟨nd,rfl⟩⟩;refine ⟨_,rfl,?_⟩)|(go_at_call 75;(with_reducible refine (impl_within.calls a0_1 0 100000 false _ A6.out).mono ?_);rintro e w' ⟨rfl,⟨nd,rfl⟩⟩))
    go_meet
    case rel => exact ⟨_,(true),(by first|rfl|(simp;done)|(simp [*];done)),H',⟨by first|omega|exact Nat.le_refl _⟩,⟨kq_ BK120⟩,⟨bq_ HB⟩⟩
  ·replace c5:=Bool.eq_false_iff.mpr c5;subst c5
   have H1 : (impl_LogOk.j0 k true a0_0 a0_1 l0_2) = some r:=by rw [if_neg (show ¬ (false = true) by decide)] at H;exact H
   clear H;have H:=H1;clear H1;have H':=A_ H;clear H;have hcz12_0:=kC_ BK120 0;have hcz12_1:=kC_ BK120 1;have hcz12_2:=kC_ BK120 2;have hfz12_0:=kf_ BK120.out 0;have hfz12_1:=kf_ BK120.out 1;have hfz12_2:=kf_ BK120.out 2
   go_wp2_with (first|((with_reducible refine gate_callee (f:=75) rfl ?_);refine goesL_ (some 8) rfl rfl Try.func75 (by kernel_rfl) rfl #[.int .i64 a0_0,.int .i64 0,.int .i64 100000] rfl aq_ ?_;(with_reducible refine (impl_within.calls a0_0 0 100000 false _ A4.out).mono ?_);rintro e w' ⟨rfl,⟨nd,rfl⟩⟩;refine ⟨_,rfl,?_⟩))
   go_meet
   case rel => exact ⟨_,(true),(by first|rfl|(simp;done)|(simp [*];done)),H',⟨by first|omega|exact Nat.le_refl _⟩,⟨kq_ BK120⟩,⟨bq_ HB⟩⟩
 case rest =>
  clear HC2
  try clear p2
  try clear c5
  try clear c6
  try clear p6
  try clear c7
  try clear c8
  try clear c8b0
  try clear c8b1
  try clear hcz10_0
  try clear hcz10_1
  try clear hcz10_2
  try clear hcz11_0
  try clear hcz11_1
  try clear hcz11_2
  try clear hcz12_0
  try clear hcz12_1
  try clear hcz12_2
  try clear hcz9_0
  try clear hcz9_1
  try clear hcz9_2
  try clear hfz10_0
  try clear hfz10_1
  try clear hfz10_2
  try clear hfz11_0
  try clear hfz11_1
  try clear hfz11_2
  try clear hfz12_0
  try clear hfz12_1
  try clear hfz12_2
  try clear hfz9_0
  try clear hfz9_1
  try clear hfz9_2
  obtain ⟨kq,x30_1,rfl,HA,HJ1,BK120,HB⟩:=hcut
  cases kq with
  | zero => exact absurd HA.out (by simp [impl_LogOk.j0])
  | succ kj1 =>
   have H:=HA.out;clear HA;simp only [impl_LogOk.j0] at H
   by_cases c13 : x30_1 = true
   ·subst c13
    have H1 : (some false) = some r:=by rw [if_pos rfl] at H;exact H
    clear H;have H:=H1;clear H1;obtain rfl:=Option.some.inj H;go_wp2;go_ret;exact ⟨ex_,bq_ HB⟩
   ·replace c13:=Bool.eq_false_iff.mpr c13;subst c13
    have H1 : (impl_LogOk.l0 kj1 a0_1 l0_2 (l0_2.length : Int) 0) = some r:=by rw [if_neg (show ¬ (false = true) by decide)] at H;exact H
    clear H;have H:=H1;clear H1;have H':=A_ H;clear H;have hcz14_0:=kC_ BK120 0;have hcz14_1:=kC_ BK120 1;have hcz14_2:=kC_ BK120 2;have hfz14_0:=kf_ BK120.out 0;have hfz14_1:=kf_ BK120.out 1;have hfz14_2:=kf_ BK120.out 2;go_wp2
    go_loopg [3,36] kj1 (fun kq v3 v36 w' => ∃ (x3_2 : Int) (x36_2 : Int),v3 = .int .i64 x3_2 ∧ v36 = .int .i64 x36_2 ∧ Aside0 (impl_LogOk.l0 kq x3_2 l0_2 (l0_2.length : Int) x36_2 = some r) ∧ Aside0 (kq ≤ kj1) ∧ Aside0 (w'.heap[gb120]? = some (.cells #[.int .i64 a0_0,.int .i64 a0_1,(.slice A0_2 l0_2.length c0_2)] 60 (0,0))) ∧ Aside0 (Below w.heap.size w w'))
    case atStart => exact ⟨(a0_1),(0),(by first|rfl|(simp;done)|(simp [*];done)),(by first|rfl|(simp;done)|(simp [*];done)),H',⟨Nat.le_refl _⟩,⟨kq_ BK120⟩,⟨bq_ HB⟩⟩
    case round =>
     clear H'
     try clear c1
     try clear p2
     try clear c5
     try clear c6
     try clear p6
     try clear c7
     try clear c8
     try clear c8b0
     try clear c8b1
     try clear c13
     try clear hcz10_0
     try clear hcz10_1
     try clear hcz10_2
     try clear hcz11_0
     try clear hcz11_1
     try clear hcz11_2
     try clear hcz12_0
     try clear hcz12_1
     try clear hcz12_2
     try clear hcz14_0
     try clear hcz14_1
     try clear hcz14_2
     try clear hcz9_0
     try clear hcz9_1
     try clear hcz9_2
     try clear hfz10_0
     try clear hfz10_1
     try clear hfz10_2
     try clear hfz11_0
     try clear hfz11_1
     try clear hfz11_2
     try clear hfz12_0
     try clear hfz12_1
     try clear hfz12_2
     try clear hfz14_0
     try clear hfz14_1
     try clear hfz14_2
     try clear hfz9_0
     try clear hfz9_1
     try clear hfz9_2
     try clear p2
     try clear p6
     obtain ⟨x3_2,x36_2,rfl,rfl,HA,HK2,BK120,HB⟩:=hrel
     cases gk with
     | zero => exact absurd HA.out (by simp [impl_LogOk.l0])
     | succ k2 =>
      have H:=HA.out;clear HA;simp only [impl_LogOk.l0] at H
      by_cases c15 : x36_2 < (l0_2.length : Int)
      ·rw [if_pos c15] at H;have c15b0 : decide (x36_2 < (l0_2.length : Int)) = true:=de_ c15;clear c15
       by_cases c16 : 0 ≤ x36_2
       ·rw [if_pos c16] at H;have c16b0 : decide (0 ≤ x36_2) = true:=de_ c16;clear c16
        by_cases c17 : x36_2 < (l0_2.length : Int)
        ·rw [if_pos c17] at H;have c17b0 : decide (x36_2 < (l0_2.length : Int)) = true:=de_ c17;clear c17;replace H:=ob_.mp H;obtain ⟨t125,A180,H⟩:=H;replace H : (if t125 = true then (if ((rd_T37 l0_2 x36_2).f0) < x3_2 then (some false) else (impl_LogOk.l0 k2 ((rd_T37 l0_2 x36_2).f0) l0_2 (l0_2.length : Int) (wrap64 (x36_2 + 1)))) else (some false)) = some r:=H;have A18:=A_ A180;clear A180
         by_cases c19 : t125 = true
         ·subst c19
          have H1 : (if ((rd_T37 l0_2 x36_2).f0) < x3_2 then (some false) else (impl_LogOk.l0 k2 ((rd_T37 l0_2 x36_2).f0) l0_2 (l0_2.length : Int) (wrap64 (x36_2 + 1)))) = some r:=by rw [if_pos rfl] at H;exact H
          clear H;have H:=H1;clear H1
          by_cases c20 : ((rd_T37 l0_2 x36_2).f0) < x3_2
          ·rw [if_pos c20] at H;have c20b0 : decide (((rd_T37 l0_2 x36_2).f0) < x3_2) = true:=de_ c20;clear c20;obtain rfl:=Option.some.inj H;have p123 : 0 ≤ (x36_2 : Int):=oda_;have q123 : x36_2 < (l0_2.length : Int):=oda_;obtain ⟨ad123,e123,hx123_0,hx123_1,hx123_2⟩:=at_T37 HR0_2.out x36_2 p123 q123
           cases e123
           replace hx123_0:=(HB.out.cell (wb_ w _ hx123_0)).trans hx123_0;replace hx123_1:=(HB.out.cell (wb_ w _ hx123_1)).trans hx123_1;replace hx123_2:=(HB.out.cell (wb_ w _ hx123_2)).trans hx123_2;replace p123:=eq_true p123;replace q123:=eq_true q123
           go_wp2_with (first|((with_reducible refine gate_dst (N:=5) rfl ?_);(try (refine gate_guard (by rfl) ?_;dsimp only));refine box_event ?hg (N:=5) ?hd (cs:=#[.int .i64 0,.int .i64 0,.string (⟨#[]⟩ : ByteArray)]) (t:=37) ?hr ?_;(case hd => rfl);(case hg => rfl);(case hr => exact gx_);intro gb124 hg w21 hbox hb;have BK124:=A_ (hbox);have GW124:=A_ ((by rw [hg];exact (bz_ (bq_ HB)) : w.heap.size ≤ gb124));have GE124:=A_ ((by rw [hg];exact (bz_ (bq_ HB)) : w.heap.size ≤ gb124));replace HB:=A_ (bs_ (bq_ HB) hb);have NB120_124:=A_ ((by rw [hg];exact nl_ (kl_ (g:=gb120) (o:=.cells #[.int .i64 a0_0,.int .i64 a0_1,.slice (some ad123) l0_2.length c0_2] 60 (0,0)) (kq_ BK120)) : gb120 ≠ gb124));have NB124_120:=A_ ((by rw [hg];exact ng_ (kl_ (g:=gb120) (o:=.cells #[.int .i64 a0_0,.int .i64 a0_1,.slice (some ad123) l0_2.length c0_2] 60 (0,0)) (kq_ BK120)) : gb124 ≠ gb120));replace BK120:=A_ (kb_ (kq_ BK120) hb);clear hb hbox hg;have hnb22:=NB124_120.out;have hnc22:=NB120_124.out;have hcz23_0:=kC_ BK124 0;have hcz23_1:=kC_ BK124 1;have hcz23_2:=kC_ BK124 2;have hfz23_0:=kf_ BK124.out 0;have hfz23_1:=kf_ BK124.out 1;have hfz23_2:=kf_ BK124.out 2)|((with_reducible refine gate_callee (f:=90) rfl ?_);refine goesL_ (some 41) rfl rfl Try.func90 (by kernel_rfl) rfl #[.agg #[.int .i64 ((rd_T37 l0_2 x36_2).f0),.int .i64 ((rd_T37 l0_2 x36_2).f1),.string ((rd_T37 l0_2 x36_2).f2)]] rfl aq_ ?_;(with_reducible refine (impl_EntryOk.calls k2 ((rd_T37 l0_2 x36_2).f0) ((rd_T37 l0_2 x36_2).f1) ((rd_T37 l0_2 x36_2).f2) true _ A18.out).mono ?_);rintro e w24 ⟨rfl,hb⟩;refine ⟨_,rfl,?_⟩;replace BK120:=A_ (kb_ (g:=gb120) (o:=.cells #[.int .i64 a0_0,.int .i64 a0_1,.slice (some ad123) l0_2.length c0_2] 60 (0,0)) (by (with_reducible repeat (first|refine kn_ ?_ _|refine kd_ ?_|refine ka_ ?_ _));refine kr_ ?_ NB120_124.out _;(with_reducible repeat (first|refine kn_ ?_ _|refine kd_ ?_|refine ka_ ?_ _));refine kr_ ?_ NB120_124.out _;(with_reducible repeat (first|refine kn_ ?_ _|refine kd_ ?_|refine ka_ ?_ _));refine kr_ ?_ NB120_124.out _;(with_reducible repeat (first|refine kn_ ?_ _|refine kd_ ?_|refine ka_ ?_ _));exact BK120.out) hb);replace BK124:=A_ (kb_ (g:=gb124) (o:=.cells #[.int .i64 ((rd_T37 l0_2 x36_2).f0),.int .i64 ((rd_T37 l0_2 x36_2).f1),.string ((rd_T37 l0_2 x36_2).f2)] 37 (0,0)) (by (with_reducible repeat (first|refine kn_ ?_ _|refine kd_ ?_|refine ka_ ?_ _));refine ku_ (cs:=#[.int .i64 ((rd_T37 l0_2 x36_2).f0),.int .i64 ((rd_T37 l0_2 x36_2).f1),.string (⟨#[]⟩ : ByteArray)]) ?_ 2 _ rfl;(with_reducible repeat (first|refine kn_ ?_ _|refine kd_ ?_|refine ka_ ?_ _));refine ku_ (cs:=#[.int .i64 ((rd_T37 l0_2 x36_2).f0),.int .i64 0,.string (⟨#[]⟩ : ByteArray)]) ?_ 1 _ rfl;(with_reducible repeat (first|refine kn_ ?_ _|refine kd_ ?_|refine ka_ ?_ _));refine ku_ (cs:=#[.int .i64 0,.int .i64 0,.string (⟨#[]⟩ : ByteArray)]) ?_ 0 _ rfl;(with_reducible repeat (first|refine kn_ ?_ _|refine kd_ ?_|refine ka_ ?_ _));exact BK124.out) hb);replace HB:=A_ (bs_ (bq_ HB) hb);(try clear hb);(try clear hb2);(try clear hk);(try clear hi);have hcz25_0:=kC_ BK124 0;have hcz25_1:=kC_ BK124 1;have hcz25_2:=kC_ BK124 2;have hfz25_0:=kf_ BK124.out 0;have hfz25_1:=kf_ BK124.out 1;have hfz25_2:=kf_ BK124.out 2))
           go_ret;exact ⟨ex_,bq_ HB⟩
          ·rw [if_neg c20] at H;have c20b0 : decide (((rd_T37 l0_2 x36_2).f0) < x3_2) = false:=decide_eq_false c20;clear c20;have H':=A_ H;clear H;have p123 : 0 ≤ (x36_2 : Int):=oda_;have q123 : x36_2 < (l0_2.length : Int):=oda_;obtain ⟨ad123,e123,hx123_0,hx123_1,hx123_2⟩:=at_T37 HR0_2.out x36_2 p123 q123
           cases e123
           replace hx123_0:=(HB.out.cell (wb_ w _ hx123_0)).trans hx123_0;replace hx123_1:=(HB.out.cell (wb_ w _ hx123_1)).trans hx123_1;replace hx123_2:=(HB.out.cell (wb_ w _ hx123_2)).trans hx123_2;replace p123:=eq_true p123;replace q123:=eq_true q123
           go_wp2_with (first|((with_reducible refine gate_dst (N:=5) rfl ?_);(try (refine gate_guard (by rfl) ?_;dsimp only));refine box_event ?hg (N:=5) ?hd (cs:=#[.int .i64 0,.int .i64 0,.string (⟨#[]⟩ : ByteArray)]) (t:=37) ?hr ?_;(case hd => rfl);(case hg => rfl);(case hr => exact gx_);intro gb124 hg w26 hbox hb;have BK124:=A_ (hbox);have GW124:=A_ ((by rw [hg];exact (bz_ (bq_ HB)) : w.heap.size ≤ gb124));have GE124:=A_ ((by rw [hg];exact (bz_ (bq_ HB)) : w.heap.size ≤ gb124));replace HB:=A_ (bs_ (bq_ HB) hb);have NB120_124:=A_ ((by rw [hg];exact nl_ (kl_ (g:=gb120) (o:=.cells #[.int .i64 a0_0,.int .i64 a0_1,.slice (some ad123) l0_2.length c0_2] 60 (0,0)) (kq_ BK120)) : gb120 ≠ gb124));have NB124_120:=A_ ((by rw [hg];exact ng_ (kl_ (g:=gb120) (o:=.cells #[.int .i64 a0_0,.int .i64 a0_1,.slice (some ad123) l0_2.length c0_2] 60 (0,0)) (kq_ BK120)) : gb124 ≠ gb120));replace BK120:=A_ (kb_ (kq_ BK120) hb);clear hb hbox hg;have hnb27:=NB124_120.out;have hnc27:=NB120_124.out;have hcz28_0:=kC_ BK124 0;have hcz28_1:=kC_ BK124 1;have hcz28_2:=kC_ BK124 2;have hfz28_0:=kf_ BK124.out 0;have hfz28_1:=kf_ BK124.out 1;have hfz28_2:=kf_ BK124.out 2)|((with_reducible refine gate_callee (f:=90) rfl ?_);refine goesL_ (some 41) rfl rfl Try.func90 (by kernel_rfl) rfl #[.agg #[.int .i64 ((rd_T37 l0_2 x36_2).f0),.int .i64 ((rd_T37 l0_2 x36_2).f1),.string ((rd_T37 l0_2 x36_2).f2)]] rfl aq_ ?_;(with_reducible refine (impl_EntryOk.calls k2 ((rd_T37 l0_2 x36_2).f0) ((rd_T37 l0_2 x36_2).f1) ((rd_T37 l0_2 x36_2).f2) true _ A18.out).mono ?_);rintro e w29 ⟨rfl,hb⟩;refine ⟨_,rfl,?_⟩;replace BK120:=A_ (kb_ (g:=gb120) (o:=.cells #[.int .i64 a0_0,.int .i64 a0_1,.slice (some ad123) l0_2.length c0_2] 60 (0,0)) (by (with_reducible repeat (first|refine kn_ ?_ _|refine kd_ ?_|refine ka_ ?_ _));refine kr_ ?_ NB120_124.out _;(with_reducible repeat (first|refine kn_ ?_ _|refine kd_ ?_|refine ka_ ?_ _));refine kr_ ?_ NB120_124.out _;(with_reducible repeat (first|refine kn_ ?_ _|refine kd_ ?_|refine ka_ ?_ _));refine kr_ ?_ NB120_124.out _;(with_reducible repeat (first|refine kn_ ?_ _|refine kd_ ?_|refine ka_ ?_ _));exact BK120.out) hb);replace BK124:=A_ (kb_ (g:=gb124) (o:=.cells #[.int .i64 ((rd_T37 l0_2 x36_2).f0),.int .i64 ((rd_T37 l0_2 x36_2).f1),.string ((rd_T37 l0_2 x36_2).f2)] 37 (0,0)) (by (with_reducible repeat (first|refine kn_ ?_ _|refine kd_ ?_|refine ka_ ?_ _));refine ku_ (cs:=#[.int .i64 ((rd_T37 l0_2 x36_2).f0),.int .i64 ((rd_T37 l0_2 x36_2).f1),.string (⟨#[]⟩ : ByteArray)]) ?_ 2 _ rfl;(with_reducible repeat (first|refine kn_ ?_ _|refine kd_ ?_|refine ka_ ?_ _));refine ku_ (cs:=#[.int .i64 ((rd_T37 l0_2 x36_2).f0),.int .i64 0,.string (⟨#[]⟩ : ByteArray)]) ?_ 1 _ rfl;(with_reducible repeat (first|refine kn_ ?_ _|refine kd_ ?_|refine ka_ ?_ _));refine ku_ (cs:=#[.int .i64 0,.int .i64 0,.string (⟨#[]⟩ : ByteArray)]) ?_ 0 _ rfl;(with_reducible repeat (first|refine kn_ ?_ _|refine kd_ ?_|refine ka_ ?_ _));exact BK124.out) hb);replace HB:=A_ (bs_ (bq_ HB) hb);(try clear hb);(try clear hb2);(try clear hk);(try clear hi);have hcz30_0:=kC_ BK124 0;have hcz30_1:=kC_ BK124 1;have hcz30_2:=kC_ BK124 2;have hfz30_0:=kf_ BK124.out 0;have hfz30_1:=kf_ BK124.out 1;have hfz30_2:=kf_ BK124.out 2))
           go_roundg k2
           case measure => have:=HJ1.out;have:=HK2.out;omega
           case rel => exact ⟨((rd_T37 l0_2 x36_2).f0),(wrap64 (x36_2 + 1)),(by first|rfl|(simp;done)|(simp [*];done)),(by first|rfl|(simp;done)|(simp [*];done)),H',⟨by have:=HJ1.out;have:=HK2.out;omega⟩,⟨kq_ BK120⟩,⟨bq_ HB⟩⟩
         ·replace c19:=Bool.eq_false_iff.mpr c19;subst c19
          have H1 : (some false) = some r:=by rw [if_neg (show ¬ (false = true) by decide)] at H;exact H
          clear H;have H:=H1;clear H1;obtain rfl:=Option.some.inj H;have p123 : 0 ≤ (x36_2 : Int):=oda_;have q123 : x36_2 < (l0_2.length : Int):=oda_;obtain ⟨ad123,e123,hx123_0,hx123_1,hx123_2⟩:=at_T37 HR0_2.out x36_2 p123 q123
          cases e123
          replace hx123_0:=(HB.out.cell (wb_ w _ hx123_0)).trans hx123_0;replace hx123_1:=(HB.out.cell (wb_ w _ hx123_1)).trans hx123_1;replace hx123_2:=(HB.out.cell (wb_ w _ hx123_2)).trans hx123_2;replace p123:=eq_true p123;replace q123:=eq_true q123
          go_wp2_with (first|((with_reducible refine gate_dst (N:=5) rfl ?_);(try (refine gate_guard (by rfl) ?_;dsimp only));refine box_event ?hg (N:=5) ?hd (cs:=#[.int .i64 0,.int .i64 0,.string (⟨#[]⟩ : ByteArray)]) (t:=37) ?hr ?_;(case hd => rfl);(case hg => rfl);(case hr => exact gx_);intro gb124 hg w31 hbox hb;have BK124:=A_ (hbox);have GW124:=A_ ((by rw [hg];exact (bz_ (bq_ HB)) : w.heap.size ≤ gb124));have GE124:=A_ ((by rw [hg];exact (bz_ (bq_ HB)) : w.heap.size ≤ gb124));replace HB:=A_ (bs_ (bq_ HB) hb);have NB120_124:=A_ ((by rw [hg];exact nl_ (kl_ (g:=gb120) (o:=.cells #[.int .i64 a0_0,.int .i64 a0_1,.slice (some ad123) l0_2.length c0_2] 60 (0,0)) (kq_ BK120)) : gb120 ≠ gb124));have NB124_120:=A_ ((by rw [hg];exact ng_ (kl_ (g:=gb120) (o:=.cells #[.int .i64 a0_0,.int .i64 a0_1,.slice (some ad123) l0_2.length c0_2] 60 (0,0)) (kq_ BK120)) : gb124 ≠ gb120));replace BK120:=A_ (kb_ (kq_ BK120) hb);clear hb hbox hg;have hnb32:=NB124_120.out;have hnc32:=NB120_124.out;have hcz33_0:=kC_ BK124 0;have hcz33_1:=kC_ BK124 1;have hcz33_2:=kC_ BK124 2;have hfz33_0:=kf_ BK124.out 0;have hfz33_1:=kf_ BK124.out 1;have hfz33_2:=kf_ BK124.out 2)|((with_reducible refine gate_callee (f:=90) rfl ?_);refine goesL_ (some 41) rfl rfl Try.func90 (by kernel_rfl) rfl #[.agg #[.int .i64 ((rd_T37 l0_2 x36_2).f0),.int .i64 ((rd_T37 l0_2 x36_2).f1),.string ((rd_T37 l0_2 x36_2).f2)]] rfl aq_ ?_;(with_reducible refine (impl_EntryOk.calls k2 ((rd_T37 l0_2 x36_2).f0) ((rd_T37 l0_2 x36_2).f1) ((rd_T37 l0_2 x36_2).f2) false _ A18.out).mono ?_);rintro e w34 ⟨rfl,hb⟩;refine ⟨_,rfl,?_⟩;replace BK120:=A_ (kb_ (g:=gb120) (o:=.cells #[.int .i64 a0_0,.int .i64 a0_1,.slice (some ad123) l0_2.length c0_2] 60 (0,0)) (by (with_reducible repeat (first|refine kn_ ?_ _|refine kd_ ?_|refine ka_ ?_ _));refine kr_ ?_ NB120_124.out _;(with_reducible repeat (first|refine kn_ ?_ _|refine kd_ ?_|refine ka_ ?_ _));refine kr_ ?_ NB120_124.out _;(with_reducible repeat (first|refine kn_ ?_ _|refine kd_ ?_|refine ka_ ?_ _));refine kr_ ?_ NB120_124.out _;(with_reducible repeat (first|refine kn_ ?_ _|refine kd_ ?_|refine ka_ ?_ _));exact BK120.out) hb);replace BK124:=A_ (kb_ (g:=gb124) (o:=.cells #[.int .i64 ((rd_T37 l0_2 x36_2).f0),.int .i64 ((rd_T37 l0_2 x36_2).f1),.string ((rd_T37 l0_2 x36_2).f2)] 37 (0,0)) (by (with_reducible repeat (first|refine kn_ ?_ _|refine kd_ ?_|refine ka_ ?_ _));refine ku_ (cs:=#[.int .i64 ((rd_T37 l0_2 x36_2).f0),.int .i64 ((rd_T37 l0_2 x36_2).f1),.string (⟨#[]⟩ : ByteArray)]) ?_ 2 _ rfl;(with_reducible repeat (first|refine kn_ ?_ _|refine kd_ ?_|refine ka_ ?_ _));refine ku_ (cs:=#[.int .i64 ((rd_T37 l0_2 x36_2).f0),.int .i64 0,.string (⟨#[]⟩ : ByteArray)]) ?_ 1 _ rfl;(with_reducible repeat (first|refine kn_ ?_ _|refine kd_ ?_|refine ka_ ?_ _));refine ku_ (cs:=#[.int .i64 0,.int .i64 0,.string (⟨#[]⟩ : ByteArray)]) ?_ 0 _ rfl;(with_reducible repeat (first|refine kn_ ?_ _|refine kd_ ?_|refine ka_ ?_ _));exact BK124.out) hb);replace HB:=A_ (bs_ (bq_ HB) hb);(try clear hb);(try clear hb2);(try clear hk);(try clear hi)))
          go_ret;exact ⟨ex_,bq_ HB⟩
        ·rw [if_neg c17] at H;exact absurd H (by simp)
       ·rw [if_neg c16] at H;exact absurd H (by simp)
      ·rw [if_neg c15] at H;have c15b0 : decide (x36_2 < (l0_2.length : Int)) = false:=decide_eq_false c15;clear c15;obtain rfl:=Option.some.inj H;go_wp2;go_ret;exact ⟨ex_,bq_ HB⟩
def impl_last.f (a0_0 : Int) (a0_1 : Int) (l0_2 : List (S37)) : Option (Int) := some (wrap64 (a0_0 + (l0_2.length : Int)))
set_option maxHeartbeats 8000000 in
set_option maxRecDepth 100000 in
theorem impl_last.calls (a0_0 : Int) (a0_1 : Int) (A0_2 : Option Addr) (c0_2 : Nat) (l0_2 : List (S37)) (r : Int) (w : World) (hr0_2 : Kd.C k37 w A0_2 l0_2.length l0_2) (hc0_2 : l0_2.length ≤ c0_2) (h : impl_last.f a0_0 a0_1 l0_2 = some r) :
  Calls Try.prog 104 #[.agg #[.int .i64 a0_0,.int .i64 a0_1,.slice A0_2 l0_2.length c0_2]] w fun e w' => e = .returned (.int .i64 r) ∧ Below w.heap.size w w':=by
 have hu60:=Try.underlying60;have HR0_2:=A_ hr0_2;have HC0_2:=A_ hc0_2;clear hr0_2 hc0_2;have HB:=A_ (Below.refl w.heap.size w);have H : (some (wrap64 (a0_0 + (l0_2.length : Int)))) = some r:=h;clear h;obtain rfl:=Option.some.inj H;go_enter Try.func104,Try.ntmps104
 go_wp2_with (first|((with_reducible refine gate_dst (N:=1) rfl ?_);refine box_event ?hg (N:=1) ?hd (cs:=#[.int .i64 a0_0,.int .i64 a0_1,.slice A0_2 l0_2.length c0_2]) (t:=60) ?hr ?_;(case hd => rfl);(case hg => rfl);(case hr => exact gx_);intro gb126 hg w2 hbox hb;have BK126:=A_ (hbox);have GW126:=A_ ((by rw [hg];exact (bz_ (bq_ HB)) : w.heap.size ≤ gb126));have GE126:=A_ ((by rw [hg];exact (bz_ (bq_ HB)) : w.heap.size ≤ gb126));replace HB:=A_ (bs_ (bq_ HB) hb);clear hb hbox hg;have hcz3_0:=kC_ BK126 0;have hcz3_1:=kC_ BK126 1;have hcz3_2:=kC_ BK126 2;have hfz3_0:=kf_ BK126.out 0;have hfz3_1:=kf_ BK126.out 1;have hfz3_2:=kf_ BK126.out 2))
 go_ret;exact ⟨ex_,bq_ HB⟩
end Go.Proofs.Ytgpafelepkhdoaa.PFnBehind
