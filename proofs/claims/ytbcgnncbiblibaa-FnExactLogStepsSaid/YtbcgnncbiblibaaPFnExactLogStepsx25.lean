/- The contracts of the Go functions that this law reaches: what each call returns, by a plain Lean function of its arguments. No conditions but those each contract names. By the kit's print.py, run by this session's wip/gen/pp.py with facts and hand proofs beside it: not to the letter what print.sh prints. -/
import Derived.Test.YtbcgnncbiblibaaPFnExactLogStepsx0
import Derived.Test.YtbcgnncbiblibaaPFnExactLogStepsx2
import Derived.Test.YtbcgnncbiblibaaPFnExactLogStepsx3
import Derived.Test.YtbcgnncbiblibaaPFnExactLogStepsx13
import Derived.Test.YtbcgnncbiblibaaPFnExactLogStepsx14
import Derived.Test.YtbcgnncbiblibaaPFnExactLogStepsx22
import Derived.Test.YtbcgnncbiblibaaPFnExactLogStepsx23
import Derived.Test.YtbcgnncbiblibaaPFnExactLogStepsx24
namespace Go.Proofs.Ytbcgnncbiblibaa.PFnExactLogSteps
open Go.RowKit Go.Proofs.YtbcgnncbiblibaaW.PrintWords Go.Proofs.YtbcgnncbiblibaaW.PrintLast Go.Proofs.YtbcgnncbiblibaaW.PrintMore
attribute [local go_sem] max2_int min2_int max_two min_two max_three min_three max_four min_four
set_option linter.unusedVariables false
set_option linter.unusedSimpArgs false
mutual
def laws_FnExactLogSteps.j0 : Nat → ByteArray → List (S126) → Bool → List (S126) → Bool → Bool → Int → Int → List (S150) → Int → Int → List (S150) → Int → Int → List (S69) → Int → Int → List (S69) → Option (Bool)
 | 0,_,_,_,_,_,_,_,_,_,_,_,_,_,_,_,_,_,_ => none
 | k + 1,x0,x8,x9,x12,x13,x60,x601000,x601001,x601002,x602000,x602001,x602002,x624000,x624001,x624002,x630000,x630001,x630002 => if x60 = true then (some false) else ((laws_toLog.f k x601000 x601001 x601002).bind fun bt635 => ((laws_eqLog.f k x624000 x624001 x624002 bt635.1 bt635.2.1 bt635.2.2).bind fun t640 => (if t640 = true then ((laws_toLog.f k x602000 x602001 x602002).bind fun bt641 => ((laws_eqLog.f k x630000 x630001 x630002 bt641.1 bt641.2.1 bt641.2.2).bind fun t646 => (if t646 = true then ((laws_markLog.f k x624000 x624001 x624002 1).bind fun bt647 => ((laws_markLog.f k x630000 x630001 x630002 bt647.1).bind fun bt649 => (if bt649.1 < 0 then (laws_FnExactLogSteps.j1 k x0 x8 x9 x12 true x601000 x601001 x601002 x602000 x602001 x602002) else ((laws_eqRawS.f k x12 x8).bind fun t651 => (if t651 = true then (laws_FnExactLogSteps.j1 k x0 x8 x9 x12 (x13 != x9) x601000 x601001 x601002 x602000 x602001 x602002) else (laws_FnExactLogSteps.j1 k x0 x8 x9 x12 true x601000 x601001 x601002 x602000 x602001 x602002)))))) else (some false)))) else (some false))))
def laws_FnExactLogSteps.j1 : Nat → ByteArray → List (S126) → Bool → List (S126) → Bool → Int → Int → List (S150) → Int → Int → List (S150) → Option (Bool)
 | 0,_,_,_,_,_,_,_,_,_,_,_ => none
 | k + 1,x0,x8,x9,x12,x89,x601000,x601001,x601002,x602000,x602001,x602002 => if x89 = true then (some false) else ((laws_markRawS.f k x12 1).bind fun bt652 => ((laws_heldRawS.f k bt652.2 1).bind fun t654 => (if t654 < 0 then (some false) else (if t654 = bt652.1 then ((laws_toLog.f k x601000 x601001 x601002).bind fun bt655 => ((laws_toLog.f k x602000 x602001 x602002).bind fun bt660 => ((impl_LogSteps.f k x0 bt655.1 bt655.2.1 bt655.2.2 bt660.1 bt660.2.1 bt660.2.2).bind fun bt665 => ((laws_eqRawS.f k bt665.1 x8).bind fun t669 => (if t669 = true then (laws_FnExactLogSteps.j2 k bt652.2 bt652.1 (bt665.2 != x9)) else (laws_FnExactLogSteps.j2 k bt652.2 bt652.1 true)))))) else (some false)))))
def laws_FnExactLogSteps.j2 : Nat → List (S126) → Int → Bool → Option (Bool)
 | 0,_,_,_ => none
 | k + 1,x12,x15,x118 => if x118 = true then (some false) else ((laws_heldRawS.f k x12 1).bind fun t670 => (if t670 < 0 then (some false) else (if t670 = x15 then (some true) else (some false))))
end
def laws_FnExactLogSteps.f (k : Nat) (a0 : ByteArray) (a1_0 : Int) (a1_1 : Int) (l1_2 : List (S150)) (a2_0 : Int) (a2_1 : Int) (l2_2 : List (S150)) : Option (Bool) := if (a0.size : Int) > 1048576 then (some true) else ((laws_szLog.f k a1_0 a1_1 l1_2 1048576).bind fun t602 => (if t602 < 0 then (some true) else ((laws_szLog.f k a2_0 a2_1 l2_2 t602).bind fun t603 => (if t603 < 0 then (some true) else ((laws_toLog.f k a1_0 a1_1 l1_2).bind fun bt604 => ((laws_toLog.f k a2_0 a2_1 l2_2).bind fun bt609 => ((spec_LogSteps.f k a0 bt604.1 bt604.2.1 bt604.2.2 bt609.1 bt609.2.1 bt609.2.2).bind fun bt614 => ((laws_toLog.f k a1_0 a1_1 l1_2).bind fun bt618 => ((laws_toLog.f k a2_0 a2_1 l2_2).bind fun bt624 => ((impl_LogSteps.f k a0 bt618.1 bt618.2.1 bt618.2.2 bt624.1 bt624.2.1 bt624.2.2).bind fun bt630 => ((laws_eqRawS.f k bt630.1 bt614.1).bind fun t634 => (if t634 = true then (laws_FnExactLogSteps.j0 k a0 bt614.1 bt614.2 bt630.1 bt630.2 (bt630.2 != bt614.2) a1_0 a1_1 l1_2 a2_0 a2_1 l2_2 bt618.1 bt618.2.1 bt618.2.2 bt624.1 bt624.2.1 bt624.2.2) else (laws_FnExactLogSteps.j0 k a0 bt614.1 bt614.2 bt630.1 bt630.2 true a1_0 a1_1 l1_2 a2_0 a2_1 l2_2 bt618.1 bt618.2.1 bt618.2.2 bt624.1 bt624.2.1 bt624.2.2)))))))))))))
theorem laws_FnExactLogSteps.mono_l : ∀ k, (∀ y0 y1 y2 y3 y4 y5 y6 y7 y8 y9 y10 y11 y12 y13 y14 y15 y16 y17, LeO (laws_FnExactLogSteps.j0 k y0 y1 y2 y3 y4 y5 y6 y7 y8 y9 y10 y11 y12 y13 y14 y15 y16 y17) (laws_FnExactLogSteps.j0 (k + 1) y0 y1 y2 y3 y4 y5 y6 y7 y8 y9 y10 y11 y12 y13 y14 y15 y16 y17)) ∧ (∀ y0 y1 y2 y3 y4 y5 y6 y7 y8 y9 y10, LeO (laws_FnExactLogSteps.j1 k y0 y1 y2 y3 y4 y5 y6 y7 y8 y9 y10) (laws_FnExactLogSteps.j1 (k + 1) y0 y1 y2 y3 y4 y5 y6 y7 y8 y9 y10)) ∧ (∀ y0 y1 y2, LeO (laws_FnExactLogSteps.j2 k y0 y1 y2) (laws_FnExactLogSteps.j2 (k + 1) y0 y1 y2))
 | 0 => ⟨fun _ _ _ _ _ _ _ _ _ _ _ _ _ _ _ _ _ _ r h => by simp [laws_FnExactLogSteps.j0] at h,fun _ _ _ _ _ _ _ _ _ _ _ r h => by simp [laws_FnExactLogSteps.j1] at h,fun _ _ _ r h => by simp [laws_FnExactLogSteps.j2] at h⟩
 | k + 1 => by
  obtain ⟨ih0,ih1,ih2⟩:=laws_FnExactLogSteps.mono_l k;refine ⟨?_,?_,?_⟩
  ·intro y0 y1 y2 y3 y4 y5 y6 y7 y8 y9 y10 y11 y12 y13 y14 y15 y16 y17
   unfold laws_FnExactLogSteps.j0
   repeat' first
   | (with_reducible exact ih1 _ _ _ _ _ _ _ _ _ _ _)
   | (with_reducible exact laws_eqLog.mono _ _ _ _ _ _ _)
   | (with_reducible exact laws_eqRawS.mono _ _ _)
   | (with_reducible exact laws_markLog.mono _ _ _ _ _)
   | (with_reducible exact laws_toLog.mono _ _ _ _)
   | (with_reducible exact LeO.refl _)
   | (with_reducible refine LeO.ite ?_ ?_)
   | (with_reducible refine LeO.bind ?_ (fun _ => ?_))
  ·intro y0 y1 y2 y3 y4 y5 y6 y7 y8 y9 y10
   unfold laws_FnExactLogSteps.j1
   repeat' first
   | (with_reducible exact ih2 _ _ _)
   | (with_reducible exact impl_LogSteps.mono _ _ _ _ _ _ _ _)
   | (with_reducible exact laws_eqRawS.mono _ _ _)
   | (with_reducible exact laws_heldRawS.mono _ _ _)
   | (with_reducible exact laws_markRawS.mono _ _ _)
   | (with_reducible exact laws_toLog.mono _ _ _ _)
   | (with_reducible exact LeO.refl _)
   | (with_reducible refine LeO.ite ?_ ?_)
   | (with_reducible refine LeO.bind ?_ (fun _ => ?_))
  ·intro y0 y1 y2
   unfold laws_FnExactLogSteps.j2
   repeat' first
   | (with_reducible exact laws_heldRawS.mono _ _ _)
   | (with_reducible exact LeO.refl _)
   | (with_reducible refine LeO.ite ?_ ?_)
   | (with_reducible refine LeO.bind ?_ (fun _ => ?_))
theorem laws_FnExactLogSteps.mono : ∀ a0 a1 a2 a3 a4 a5 a6 k, LeO (laws_FnExactLogSteps.f k a0 a1 a2 a3 a4 a5 a6) (laws_FnExactLogSteps.f (k + 1) a0 a1 a2 a3 a4 a5 a6) := by
 intro a0 a1 a2 a3 a4 a5 a6 k;obtain ⟨ih0,ih1,ih2⟩:=laws_FnExactLogSteps.mono_l k
 unfold laws_FnExactLogSteps.f
 repeat' first
   | (with_reducible exact ih0 _ _ _ _ _ _ _ _ _ _ _ _ _ _ _ _ _ _)
   | (with_reducible exact impl_LogSteps.mono _ _ _ _ _ _ _ _)
   | (with_reducible exact laws_eqRawS.mono _ _ _)
   | (with_reducible exact laws_szLog.mono _ _ _ _ _)
   | (with_reducible exact laws_toLog.mono _ _ _ _)
   | (with_reducible exact spec_LogSteps.mono _ _ _ _ _ _ _ _)
   | (with_reducible exact LeO.refl _)
   | (with_reducible refine LeO.ite ?_ ?_)
   | (with_reducible refine LeO.bind ?_ (fun _ => ?_))
def laws_FnExactLogSteps.T10 : Bool × List (List Nat × List Nat) := (true, [([], []), ([], []), ([1], [1]), ([], []), ([3, 2], [3]), ([0, 2, 4, 4], [0, 2, 4]), ([5], [5]), ([6], [6]), ([6], [6]), ([7, 5, 0, 1, 2, 3, 4, 5, 6, 7], [7]), ([8, 9, 0, 1, 2, 3, 4, 5, 6, 7, 8, 9], [8])])
def laws_FnExactLogSteps.B10 : List Nat := [0, 0, 2, 0, 14, 31, 63, 127, 127, 255, 1023]
theorem laws_FnExactLogSteps.tab10 : rtab .any (opsOf Try.f7 10) = laws_FnExactLogSteps.T10 := by kernel_rfl
theorem laws_FnExactLogSteps.bits10 : waitsOk laws_FnExactLogSteps.T10.2 laws_FnExactLogSteps.B10 = true := by kernel_rfl
def laws_FnExactLogSteps.T33 : Bool × List (List Nat × List Nat) := (true, [([], []), ([], []), ([1], [1]), ([], []), ([3, 2], [3]), ([0, 2, 4, 4], [0, 2, 4]), ([5], [5]), ([6], [6]), ([6], [6]), ([7, 5, 0, 1, 2, 3, 4, 5, 6, 7], [7]), ([8, 9, 0, 1, 2, 3, 4, 5, 6, 7, 8, 9], [8])])
def laws_FnExactLogSteps.B33 : List Nat := [0, 0, 2, 0, 14, 31, 63, 127, 127, 255, 1023]
theorem laws_FnExactLogSteps.tab33 : rtab .any (opsOf Try.f7 33) = laws_FnExactLogSteps.T33 := by kernel_rfl
theorem laws_FnExactLogSteps.bits33 : waitsOk laws_FnExactLogSteps.T33.2 laws_FnExactLogSteps.B33 = true := by kernel_rfl
set_option maxHeartbeats 8000000 in
set_option maxRecDepth 100000 in
theorem laws_FnExactLogSteps.calls (k : Nat) (a0 : ByteArray) (a1_0 : Int) (a1_1 : Int) (A1_2 : Option Addr) (c1_2 : Nat) (l1_2 : List (S150)) (a2_0 : Int) (a2_1 : Int) (A2_2 : Option Addr) (c2_2 : Nat) (l2_2 : List (S150)) (r : Bool) (w : World) (hr1_2 : Kd.C k150 w A1_2 l1_2.length l1_2) (hc1_2 : l1_2.length ≤ c1_2) (hr2_2 : Kd.C k150 w A2_2 l2_2.length l2_2) (hc2_2 : l2_2.length ≤ c2_2) (h : laws_FnExactLogSteps.f k a0 a1_0 a1_1 l1_2 a2_0 a2_1 l2_2 = some r) :
  Calls Try.prog 7 #[.string a0,.agg #[.int .i64 a1_0,.int .i64 a1_1,.slice A1_2 l1_2.length c1_2],.agg #[.int .i64 a2_0,.int .i64 a2_1,.slice A2_2 l2_2.length c2_2]] w fun e w' => e = .returned (.bool r) ∧ Below w.heap.size w w':=by
 have hu55:=Try.underlying55;have hu24:=Try.underlying24;have HR1_2:=A_ hr1_2;have HC1_2:=A_ hc1_2;clear hr1_2 hc1_2;have HR2_2:=A_ hr2_2;have HC2_2:=A_ hc2_2;clear hr2_2 hc2_2;have HB:=A_ (Below.refl w.heap.size w);unfold laws_FnExactLogSteps.f at h;have H:=h;clear h
 by_cases c4 : (a0.size : Int) > 1048576
 ·rw [if_pos c4] at H;have c4b0 : decide (1048576 < (a0.size : Int)) = true:=de_ c4;have c4b1 : decide (1048576 < a0.size) = true:=de_ (by omega);clear c4;obtain rfl:=Option.some.inj H;go_enter Try.func7,Try.ntmps7
  go_wp2_with (first|((with_reducible refine gate_dst (N:=4) rfl ?_);refine bE_ 4 #[.int .i64 a1_0,.int .i64 a1_1,.slice A1_2 l1_2.length c1_2] 55 ?_;intro gb600 hg w5 hbox hb;have BK600:=A_ (hbox);have GW600:=gE_ hg HB;have GE600:=gE_ hg HB;replace HB:=bS_ HB hb;clear hb hbox hg)|((with_reducible refine gate_dst (N:=5) rfl ?_);refine bE_ 5 #[.int .i64 a2_0,.int .i64 a2_1,.slice A2_2 l2_2.length c2_2] 55 ?_;intro gb601 hg w6 hbox hb;have BK601:=A_ (hbox);have GW601:=gE_ hg HB;have GE601:=gE_ hg HB;replace HB:=bS_ HB hb;have NB600_601:=nB_ hg BK600;have NB601_600:=nC_ hg BK600;replace BK600:=kB_ BK600 hb;clear hb hbox hg))
  go_ret;exact ⟨ex_,bq_ HB⟩
 ·rw [if_neg c4] at H;have c4b0 : decide (1048576 < (a0.size : Int)) = false:=decide_eq_false c4;have c4b1 : decide (1048576 < a0.size) = false:=decide_eq_false (by omega);clear c4;replace H:=ob_.mp H;obtain ⟨t602,A70,H⟩:=H;have A7:=A_ A70;clear A70
  by_cases c8 : t602 < 0
  ·rw [if_pos c8] at H;have c8b0 : decide (t602 < 0) = true:=de_ c8;clear c8;obtain rfl:=Option.some.inj H;go_enter Try.func7,Try.ntmps7
   go_wp2_with (first|((with_reducible refine gate_dst (N:=4) rfl ?_);refine bE_ 4 #[.int .i64 a1_0,.int .i64 a1_1,.slice A1_2 l1_2.length c1_2] 55 ?_;intro gb600 hg w9 hbox hb;have BK600:=A_ (hbox);have GW600:=gE_ hg HB;have GE600:=gE_ hg HB;replace HB:=bS_ HB hb;clear hb hbox hg)|((with_reducible refine gate_dst (N:=5) rfl ?_);refine bE_ 5 #[.int .i64 a2_0,.int .i64 a2_1,.slice A2_2 l2_2.length c2_2] 55 ?_;intro gb601 hg w10 hbox hb;have BK601:=A_ (hbox);have GW601:=gE_ hg HB;have GE601:=gE_ hg HB;replace HB:=bS_ HB hb;have NB600_601:=nB_ hg BK600;have NB601_600:=nC_ hg BK600;replace BK600:=kB_ BK600 hb;clear hb hbox hg;have hnb11:=NB600_601.out;have hnc11:=NB601_600.out;obtain ⟨hcz12_0,hcz12_1,hcz12_2,hfz12_0,hfz12_1,hfz12_2⟩:=k3f_ BK600)|((with_reducible refine gate_callee (f:=32) rfl ?_);refine gL_ (some 24) Try.func32 #[.agg #[.int .i64 a1_0,.int .i64 a1_1,.slice A1_2 l1_2.length c1_2],.int .i64 1048576] ?_;(with_reducible refine (laws_szLog.calls k a1_0 a1_1 _ _ l1_2 1048576 t602 _ ?side1 ?side2 A7.out).mono ?_);(case side1 => repeat (exact (Kd.C_below HR1_2.out HB.out)));(case side2 => exact HC1_2.out);rintro e w13 ⟨rfl,hb⟩;refine ⟨_,rfl,?_⟩;replace BK600:=kB_ BK600 hb;replace BK601:=kB_ BK601 hb;replace HB:=bS_ HB hb;(try clear hb)))
   go_ret;exact ⟨ex_,bq_ HB⟩
  ·rw [if_neg c8] at H;have c8b0 : decide (t602 < 0) = false:=decide_eq_false c8;clear c8;replace H:=ob_.mp H;obtain ⟨t603,A140,H⟩:=H;have A14:=A_ A140;clear A140
   by_cases c15 : t603 < 0
   ·rw [if_pos c15] at H;have c15b0 : decide (t603 < 0) = true:=de_ c15;clear c15;obtain rfl:=Option.some.inj H;go_enter Try.func7,Try.ntmps7
    go_wp2_with (first|((with_reducible refine gate_dst (N:=4) rfl ?_);refine bE_ 4 #[.int .i64 a1_0,.int .i64 a1_1,.slice A1_2 l1_2.length c1_2] 55 ?_;intro gb600 hg w16 hbox hb;have BK600:=A_ (hbox);have GW600:=gE_ hg HB;have GE600:=gE_ hg HB;replace HB:=bS_ HB hb;clear hb hbox hg)|((with_reducible refine gate_dst (N:=5) rfl ?_);refine bE_ 5 #[.int .i64 a2_0,.int .i64 a2_1,.slice A2_2 l2_2.length c2_2] 55 ?_;intro gb601 hg w17 hbox hb;have BK601:=A_ (hbox);have GW601:=gE_ hg HB;have GE601:=gE_ hg HB;replace HB:=bS_ HB hb;have NB600_601:=nB_ hg BK600;have NB601_600:=nC_ hg BK600;replace BK600:=kB_ BK600 hb;clear hb hbox hg;have hnb18:=NB600_601.out;have hnc18:=NB601_600.out;obtain ⟨hcz19_0,hcz19_1,hcz19_2,hfz19_0,hfz19_1,hfz19_2⟩:=k3f_ BK600)|((with_reducible refine gate_callee (f:=32) rfl ?_);refine gL_ (some 24) Try.func32 #[.agg #[.int .i64 a1_0,.int .i64 a1_1,.slice A1_2 l1_2.length c1_2],.int .i64 1048576] ?_;(with_reducible refine (laws_szLog.calls k a1_0 a1_1 _ _ l1_2 1048576 t602 _ ?side1 ?side2 A7.out).mono ?_);(case side1 => repeat (exact (Kd.C_below HR1_2.out HB.out)));(case side2 => exact HC1_2.out);rintro e w20 ⟨rfl,hb⟩;refine ⟨_,rfl,?_⟩;replace BK600:=kB_ BK600 hb;replace BK601:=kB_ BK601 hb;replace HB:=bS_ HB hb;(try clear hb);obtain ⟨hcz21_0,hcz21_1,hcz21_2,hfz21_0,hfz21_1,hfz21_2⟩:=k3f_ BK601)|((with_reducible refine gate_callee (f:=32) rfl ?_);refine gL_ (some 29) Try.func32 #[.agg #[.int .i64 a2_0,.int .i64 a2_1,.slice A2_2 l2_2.length c2_2],.int .i64 t602] ?_;(with_reducible refine (laws_szLog.calls k a2_0 a2_1 _ _ l2_2 t602 t603 _ ?side1 ?side2 A14.out).mono ?_);(case side1 => repeat (exact (Kd.C_below HR2_2.out HB.out)));(case side2 => exact HC2_2.out);rintro e w22 ⟨rfl,hb⟩;refine ⟨_,rfl,?_⟩;replace BK600:=kB_ BK600 hb;replace BK601:=kB_ BK601 hb;replace HB:=bS_ HB hb;(try clear hb)))
    go_ret;exact ⟨ex_,bq_ HB⟩
   ·rw [if_neg c15] at H;have c15b0 : decide (t603 < 0) = false:=decide_eq_false c15;clear c15;replace H:=ob_.mp H;obtain ⟨⟨t604,t605,t606⟩,A230,H⟩:=H;(try dsimp only at H);have A23:=A_ A230;clear A230;replace H:=ob_.mp H;obtain ⟨⟨t609,t610,t611⟩,A240,H⟩:=H;(try dsimp only at H);have A24:=A_ A240;clear A240;replace H:=ob_.mp H;obtain ⟨⟨t614,t617⟩,A250,H⟩:=H;(try dsimp only at H);have A25:=A_ A250;clear A250;replace H:=ob_.mp H;obtain ⟨⟨t618,t619,t620⟩,A260,H⟩:=H;(try dsimp only at H);have A26:=A_ A260;clear A260;replace H:=ob_.mp H;obtain ⟨⟨t624,t625,t626⟩,A270,H⟩:=H;(try dsimp only at H);have A27:=A_ A270;clear A270;replace H:=ob_.mp H;obtain ⟨⟨t630,t633⟩,A280,H⟩:=H;(try dsimp only at H);have A28:=A_ A280;clear A280;have HC29:=A_ H;clear H;go_enter Try.func7,Try.ntmps7
    try go_wp2_with (first|((with_reducible refine gate_dst (N:=4) rfl ?_);refine bE_ 4 #[.int .i64 a1_0,.int .i64 a1_1,.slice A1_2 l1_2.length c1_2] 55 ?_;intro gb600 hg w30 hbox hb;have BK600:=A_ (hbox);have GW600:=gE_ hg HB;have GE600:=gE_ hg HB;replace HB:=bS_ HB hb;clear hb hbox hg)|((with_reducible refine gate_dst (N:=5) rfl ?_);refine bE_ 5 #[.int .i64 a2_0,.int .i64 a2_1,.slice A2_2 l2_2.length c2_2] 55 ?_;intro gb601 hg w31 hbox hb;have BK601:=A_ (hbox);have GW601:=gE_ hg HB;have GE601:=gE_ hg HB;replace HB:=bS_ HB hb;have NB600_601:=nB_ hg BK600;have NB601_600:=nC_ hg BK600;replace BK600:=kB_ BK600 hb;clear hb hbox hg;have hnb32:=NB600_601.out;have hnc32:=NB601_600.out;obtain ⟨hcz33_0,hcz33_1,hcz33_2,hfz33_0,hfz33_1,hfz33_2⟩:=k3f_ BK600)|((with_reducible refine gate_callee (f:=32) rfl ?_);refine gL_ (some 24) Try.func32 #[.agg #[.int .i64 a1_0,.int .i64 a1_1,.slice A1_2 l1_2.length c1_2],.int .i64 1048576] ?_;(with_reducible refine (laws_szLog.calls k a1_0 a1_1 _ _ l1_2 1048576 t602 _ ?side1 ?side2 A7.out).mono ?_);(case side1 => repeat (exact (Kd.C_below HR1_2.out HB.out)));(case side2 => exact HC1_2.out);rintro e w34 ⟨rfl,hb⟩;refine ⟨_,rfl,?_⟩;replace BK600:=kB_ BK600 hb;replace BK601:=kB_ BK601 hb;replace HB:=bS_ HB hb;(try clear hb);obtain ⟨hcz35_0,hcz35_1,hcz35_2,hfz35_0,hfz35_1,hfz35_2⟩:=k3f_ BK601)|((with_reducible refine gate_callee (f:=32) rfl ?_);refine gL_ (some 29) Try.func32 #[.agg #[.int .i64 a2_0,.int .i64 a2_1,.slice A2_2 l2_2.length c2_2],.int .i64 t602] ?_;(with_reducible refine (laws_szLog.calls k a2_0 a2_1 _ _ l2_2 t602 t603 _ ?side1 ?side2 A14.out).mono ?_);(case side1 => repeat (exact (Kd.C_below HR2_2.out HB.out)));(case side2 => exact HC2_2.out);rintro e w36 ⟨rfl,hb⟩;refine ⟨_,rfl,?_⟩;replace BK600:=kB_ BK600 hb;replace BK601:=kB_ BK601 hb;replace HB:=bS_ HB hb;(try clear hb)))
    replace BK600:=A_ (kd_ BK600.out);replace BK601:=A_ (kd_ BK601.out);replace HB:=A_ (pd_ HB.out);refine start_ (n:=11) (S:=fun w' => w'.cell? ⟨gb600,0,none⟩ = some (.int .i64 a1_0) ∧ w'.cell? ⟨gb600,1,none⟩ = some (.int .i64 a1_1) ∧ w'.cell? ⟨gb600,2,none⟩ = some (.slice A1_2 l1_2.length c1_2) ∧ w'.cell? ⟨gb601,0,none⟩ = some (.int .i64 a2_0) ∧ w'.cell? ⟨gb601,1,none⟩ = some (.int .i64 a2_1) ∧ w'.cell? ⟨gb601,2,none⟩ = some (.slice A2_2 l2_2.length c2_2)) (ds:=[]) #[false,false,false,false,false,false,false,false,false,false,false] (by kernel_rfl) rfl rfl ⟨kC_ BK600 0,kC_ BK600 1,kC_ BK600 2,kC_ BK601 0,kC_ BK601 1,kC_ BK601 2⟩ (fun hHeld => ?_);refine with_tabW laws_FnExactLogSteps.tab10 laws_FnExactLogSteps.bits10 (fun HT_ HW_ => ?_);generalize w36.drew = w37 at BK600 BK601 HB hHeld ⊢;refine pU_ 0 (some 33) ?_
    refine tK_ 1 (some 34) hHeld ?_
    refine tK_ 3 (some 36) hHeld ?_
    refine oN_ 2 (some 35) (fun K hK => ?_);refine gs_ Try.func34 #[.agg #[.int .i64 a1_0,.int .i64 a1_1,.slice A1_2 l1_2.length c1_2]] ?_;with_reducible refine (laws_toLog.calls k a1_0 a1_1 _ _ l1_2 t604 t605 t606 _ ?side1 ?side2 A23.out).mono ?_
    (case side1 => repeat (exact (Kd.C_below HR1_2.out HB.out)))
    (case side2 => exact HC1_2.out)
    rintro e w38 ⟨v607,rfl,ho0,hb⟩;refine ⟨_,rfl,?_⟩;have HO608:=A_ (rw_ ho0 (bz_ (bq_ HB)));replace BK600:=kB_ BK600 hb;replace BK601:=kB_ BK601 hb;replace HB:=bS_ HB hb
    (try clear hb)
    (try clear ho0)
    refine hK.out _ _ ⟨kC_ BK600 0,kC_ BK600 1,kC_ BK600 2,kC_ BK601 0,kC_ BK601 1,kC_ BK601 2⟩ (fun hHeld => ?_);clear hK K;refine nX_ (some 35) ?_
    refine oN_ 4 (some 37) (fun K hK => ?_);refine gs_ Try.func34 #[.agg #[.int .i64 a2_0,.int .i64 a2_1,.slice A2_2 l2_2.length c2_2]] ?_;with_reducible refine (laws_toLog.calls k a2_0 a2_1 _ _ l2_2 t609 t610 t611 _ ?side1 ?side2 A24.out).mono ?_
    (case side1 => repeat (exact (Kd.C_below HR2_2.out HB.out)))
    (case side2 => exact HC2_2.out)
    rintro e w39 ⟨v612,rfl,ho0,hb⟩;refine ⟨_,rfl,?_⟩;have HO613:=A_ (rw_ (Kd.R_new' ho0 (Kd.R_lt (rq_ HO608))) (bz_ (bq_ HB)));replace HO608:=A_ (Kd.R_elder' (rq_ HO608) (Kd.R_base ho0) hb);replace BK600:=kB_ BK600 hb;replace BK601:=kB_ BK601 hb;replace HB:=bS_ HB hb
    (try clear hb)
    (try clear ho0)
    obtain ⟨Ao40,co40,eo40⟩:=Kd.R_slice HO608.out
    (subst eo40)
    obtain ⟨Ao41,co41,eo41⟩:=Kd.R_slice HO613.out
    (subst eo41)
    refine hK.out _ _ ⟨kC_ BK600 0,kC_ BK600 1,kC_ BK600 2,kC_ BK601 0,kC_ BK601 1,kC_ BK601 2⟩ (fun hHeld => ?_);clear hK K;refine nX_ (some 37) ?_
    refine oN_ 5 (some 38) (fun K hK => ?_);refine gs_ Try.func33 #[.string a0,.agg #[.int .i64 t604,.int .i64 t605,.slice Ao40 t606.length co40],.agg #[.int .i64 t609,.int .i64 t610,.slice Ao41 t611.length co41]] ?_;with_reducible refine (spec_LogSteps.calls k a0 t604 t605 _ _ t606 t609 t610 _ _ t611 t614 t617 _ ?side1 ?side2 ?side3 ?side4 A25.out).mono ?_
    (case side1 => repeat (exact (Kd.R_reads' HO608.out).2.2))
    (case side2 => exact (Kd.R_reads' HO608.out).2.1)
    (case side3 => repeat (exact (Kd.R_reads' HO613.out).2.2))
    (case side4 => exact (Kd.R_reads' HO613.out).2.1)
    rintro e w42 ⟨v615,rfl,ho0,hb⟩;refine ⟨_,rfl,?_⟩;replace HO608:=rB_ HO608 hb;replace HO613:=rB_ HO613 hb;have HO616:=A_ (rw_ ho0 (bz_ (bq_ HB)));replace BK600:=kB_ BK600 hb;replace BK601:=kB_ BK601 hb;replace HB:=bS_ HB hb
    (try clear hb)
    (try clear ho0)
    refine hK.out _ _ ⟨kC_ BK600 0,kC_ BK600 1,kC_ BK600 2,kC_ BK601 0,kC_ BK601 1,kC_ BK601 2⟩ (fun hHeld => ?_);clear hK K;refine nX_ (some 38) ?_
    refine pU_ 6 (some 32) ?_
    refine pU_ 7 (some 39) ?_
    refine pU_ 8 (some 40) ?_
    refine pU_ 9 (some 8) ?_
    refine pU_ 10 (some 9) ?_
    refine done_ (done_of HT_.out (by kernel_rfl)) ?_;obtain ⟨hcz43_0,hcz43_1,hcz43_2,hfz43_0,hfz43_1,hfz43_2⟩:=k3f_ BK600
    go_upto_region 14 with (first|((with_reducible refine gate_callee (f:=34) rfl ?_);refine gL_ (some 42) Try.func34 #[.agg #[.int .i64 a1_0,.int .i64 a1_1,.slice A1_2 l1_2.length c1_2]] ?_;(with_reducible refine (laws_toLog.calls k a1_0 a1_1 _ _ l1_2 t618 t619 t620 _ ?side1 ?side2 A26.out).mono ?_);(case side1 => repeat (exact (Kd.C_below HR1_2.out HB.out)));(case side2 => exact HC1_2.out);rintro e w44 ⟨v621,rfl,ho0,hb⟩;refine ⟨_,rfl,?_⟩;replace HO616:=rB_ HO616 hb;have HO622:=A_ (rw_ (Kd.R_new' (Kd.R_new' ho0 (Kd.R_lt (rq_ HO608))) (Kd.R_lt (rq_ HO613))) (bz_ (bq_ HB)));replace HO608:=A_ (Kd.R_elder' (rq_ HO608) (Kd.R_base ho0) hb);replace HO613:=A_ (Kd.R_elder' (rq_ HO613) (Kd.R_base ho0) hb);replace BK600:=kB_ BK600 hb;replace BK601:=kB_ BK601 hb;replace HB:=bS_ HB hb;(try clear hb);(try clear ho0))|((with_reducible refine gate_dst (N:=10) rfl ?_);refine bE_ 10 #[.int .i64 0,.int .i64 0,.slice none 0 0] 24 ?_;intro gb623 hg w45 hbox hb;replace HO608:=rB_ HO608 hb;replace HO613:=rB_ HO613 hb;replace HO616:=rB_ HO616 hb;replace HO622:=rB_ HO622 hb;have BK623:=A_ (hbox);have GW623:=gE_ hg HB;have GE623:=gE_ hg HB;replace HB:=bS_ HB hb;have NB600_623:=nB_ hg BK600;have NB623_600:=nC_ hg BK600;replace BK600:=kB_ BK600 hb;have NB601_623:=nB_ hg BK601;have NB623_601:=nC_ hg BK601;replace BK601:=kB_ BK601 hb;clear hb hbox hg;have hnb46:=NB623_600.out;have hnc46:=NB600_623.out;have hnb47:=NB623_601.out;have hnc47:=NB601_623.out;obtain ⟨hcz48_0,hcz48_1,hcz48_2,hfz48_0,hfz48_1,hfz48_2⟩:=k3f_ BK623;obtain ⟨Ao49,co49,eo49⟩:=Kd.R_slice HO622.out;subst eo49;obtain ⟨hcz50_0,hcz50_1,hcz50_2,hfz50_0,hfz50_1,hfz50_2⟩:=k3f_ BK601)|((with_reducible refine gate_callee (f:=34) rfl ?_);refine gL_ (some 44) Try.func34 #[.agg #[.int .i64 a2_0,.int .i64 a2_1,.slice A2_2 l2_2.length c2_2]] ?_;(with_reducible refine (laws_toLog.calls k a2_0 a2_1 _ _ l2_2 t624 t625 t626 _ ?side1 ?side2 A27.out).mono ?_);(case side1 => exact Kd.C_below HR2_2.out (bq_ HB));(case side2 => exact HC2_2.out);rintro e w51 ⟨v627,rfl,ho0,hb⟩;refine ⟨_,rfl,?_⟩;replace HO616:=A_ (rb_ (by exact (rm_ (rf_ (p:=⟨gb623,2,none⟩) (rf_ (p:=⟨gb623,1,none⟩) (rf_ (p:=⟨gb623,0,none⟩) (Kd.R_types HO616.out BK623.out (by decide)) (fun _ hk => hk.2) (.int .i64 t618)) (fun _ hk => hk.2) (.int .i64 t619)) (fun _ hk => hk.2) (.slice Ao49 t620.length co49)) (fun _ h_ => h_.1))) hb);have HO628:=A_ (rw_ (Kd.R_new' (Kd.R_new' (Kd.R_new' ho0 (Kd.R_lt (by exact (rm_ (rf_ (p:=⟨gb623,2,none⟩) (rf_ (p:=⟨gb623,1,none⟩) (rf_ (p:=⟨gb623,0,none⟩) (Kd.R_types HO608.out BK623.out (by decide)) (fun _ hk => hk.2) (.int .i64 t618)) (fun _ hk => hk.2) (.int .i64 t619)) (fun _ hk => hk.2) (.slice Ao49 t620.length co49)) (fun _ h_ => h_.1))))) (Kd.R_lt (by exact (rm_ (rf_ (p:=⟨gb623,2,none⟩) (rf_ (p:=⟨gb623,1,none⟩) (rf_ (p:=⟨gb623,0,none⟩) (Kd.R_types HO613.out BK623.out (by decide)) (fun _ hk => hk.2) (.int .i64 t618)) (fun _ hk => hk.2) (.int .i64 t619)) (fun _ hk => hk.2) (.slice Ao49 t620.length co49)) (fun _ h_ => h_.1))))) (Kd.R_lt (by exact (rm_ (rf_ (p:=⟨gb623,2,none⟩) (rf_ (p:=⟨gb623,1,none⟩) (rf_ (p:=⟨gb623,0,none⟩) (Kd.R_types HO622.out BK623.out (by decide)) (fun _ hk => hk.2) (.int .i64 t618)) (fun _ hk => hk.2) (.int .i64 t619)) (fun _ hk => hk.2) (.slice Ao49 t620.length co49)) (fun _ h_ => h_.1))))) (bz_ (bq_ HB)));replace HO608:=A_ (Kd.R_elder' (by exact (rm_ (rf_ (p:=⟨gb623,2,none⟩) (rf_ (p:=⟨gb623,1,none⟩) (rf_ (p:=⟨gb623,0,none⟩) (Kd.R_types HO608.out BK623.out (by decide)) (fun _ hk => hk.2) (.int .i64 t618)) (fun _ hk => hk.2) (.int .i64 t619)) (fun _ hk => hk.2) (.slice Ao49 t620.length co49)) (fun _ h_ => h_.1))) (Kd.R_base ho0) hb);replace HO613:=A_ (Kd.R_elder' (by exact (rm_ (rf_ (p:=⟨gb623,2,none⟩) (rf_ (p:=⟨gb623,1,none⟩) (rf_ (p:=⟨gb623,0,none⟩) (Kd.R_types HO613.out BK623.out (by decide)) (fun _ hk => hk.2) (.int .i64 t618)) (fun _ hk => hk.2) (.int .i64 t619)) (fun _ hk => hk.2) (.slice Ao49 t620.length co49)) (fun _ h_ => h_.1))) (Kd.R_base ho0) hb);replace HO622:=A_ (Kd.R_elder' (by exact (rm_ (rf_ (p:=⟨gb623,2,none⟩) (rf_ (p:=⟨gb623,1,none⟩) (rf_ (p:=⟨gb623,0,none⟩) (Kd.R_types HO622.out BK623.out (by decide)) (fun _ hk => hk.2) (.int .i64 t618)) (fun _ hk => hk.2) (.int .i64 t619)) (fun _ hk => hk.2) (.slice Ao49 t620.length co49)) (fun _ h_ => h_.1))) (Kd.R_base ho0) hb);replace BK600:=A_ (kb_ (g:=gb600) (o:=.cells #[.int .i64 a1_0,.int .i64 a1_1,.slice A1_2 l1_2.length c1_2] 55 (0,0)) (kz_ BK600) hb);replace BK601:=A_ (kb_ (g:=gb601) (o:=.cells #[.int .i64 a2_0,.int .i64 a2_1,.slice A2_2 l2_2.length c2_2] 55 (0,0)) (kz_ BK601) hb);replace BK623:=A_ (kb_ (g:=gb623) (o:=.cells #[.int .i64 t618,.int .i64 t619,.slice Ao49 t620.length co49] 24 (0,0)) (kz_ BK623) hb);replace HB:=bS_ HB hb;(try clear hb);(try clear ho0))|((with_reducible refine gate_dst (N:=11) rfl ?_);refine bE_ 11 #[.int .i64 0,.int .i64 0,.slice none 0 0] 24 ?_;intro gb629 hg w52 hbox hb;replace HO608:=rB_ HO608 hb;replace HO613:=rB_ HO613 hb;replace HO616:=rB_ HO616 hb;replace HO622:=rB_ HO622 hb;replace HO628:=rB_ HO628 hb;have BK629:=A_ (hbox);have GW629:=gE_ hg HB;have GE629:=gE_ hg HB;replace HB:=bS_ HB hb;have NB600_629:=nB_ hg BK600;have NB629_600:=nC_ hg BK600;replace BK600:=kB_ BK600 hb;have NB601_629:=nB_ hg BK601;have NB629_601:=nC_ hg BK601;replace BK601:=kB_ BK601 hb;have NB623_629:=nB_ hg BK623;have NB629_623:=nC_ hg BK623;replace BK623:=kB_ BK623 hb;clear hb hbox hg;have hnb53:=NB629_600.out;have hnc53:=NB600_629.out;have hnb54:=NB629_601.out;have hnc54:=NB601_629.out;have hnb55:=NB629_623.out;have hnc55:=NB623_629.out;obtain ⟨hcz56_0,hcz56_1,hcz56_2,hfz56_0,hfz56_1,hfz56_2⟩:=k3f_ BK629;obtain ⟨Ao57,co57,eo57⟩:=Kd.R_slice HO628.out;subst eo57;obtain ⟨hcz58_0,hcz58_1,hcz58_2,hfz58_0,hfz58_1,hfz58_2⟩:=k3f_ BK623)|((with_reducible refine gate_callee (f:=35) rfl ?_);refine gL_ (some 49) Try.func35 #[.string a0,.agg #[.int .i64 t618,.int .i64 t619,.slice Ao49 t620.length co49],.agg #[.int .i64 t624,.int .i64 t625,.slice Ao57 t626.length co57]] ?_;(with_reducible refine (impl_LogSteps.calls k a0 t618 t619 _ _ t620 t624 t625 _ _ t626 t630 t633 _ ?side1 ?side2 ?side3 ?side4 A28.out).mono ?_);(case side1 => refine (Kd.R_reads' (e:=69) (base:=w.heap.size) (ok:=fun k_ => (((True ∧ some k_ ≠ (.slice Ao40 t606.length co40 : Value).ownBlock) ∧ some k_ ≠ (.slice Ao41 t611.length co41 : Value).ownBlock) ∧ some k_ ≠ (.slice Ao57 t626.length co57 : Value).ownBlock)) (n:=t620.length) (c:=co49) ?_).2.2;exact (by exact (rm_ (rf_ (p:=⟨gb629,2,none⟩) (rf_ (p:=⟨gb629,1,none⟩) (rf_ (p:=⟨gb629,0,none⟩) (Kd.R_types HO622.out BK629.out (by decide)) (fun _ hk => hk.2) (.int .i64 t624)) (fun _ hk => hk.2) (.int .i64 t625)) (fun _ hk => hk.2) (.slice Ao57 t626.length co57)) (fun _ h_ => h_.1))));(case side2 => exact (Kd.R_reads' HO622.out).2.1);(case side3 => refine (Kd.R_reads' (e:=69) (base:=w.heap.size) (ok:=fun k_ => (((True ∧ some k_ ≠ (.slice Ao40 t606.length co40 : Value).ownBlock) ∧ some k_ ≠ (.slice Ao41 t611.length co41 : Value).ownBlock) ∧ some k_ ≠ (.slice Ao49 t620.length co49 : Value).ownBlock)) (n:=t626.length) (c:=co57) ?_).2.2;exact (by exact (rm_ (rf_ (p:=⟨gb629,2,none⟩) (rf_ (p:=⟨gb629,1,none⟩) (rf_ (p:=⟨gb629,0,none⟩) (Kd.R_types HO628.out BK629.out (by decide)) (fun _ hk => hk.2) (.int .i64 t624)) (fun _ hk => hk.2) (.int .i64 t625)) (fun _ hk => hk.2) (.slice Ao57 t626.length co57)) (fun _ h_ => h_.1))));(case side4 => exact (Kd.R_reads' HO628.out).2.1);rintro e w59 ⟨v631,rfl,ho0,hb⟩;refine ⟨_,rfl,?_⟩;replace HO608:=A_ (rb_ (by exact (rm_ (rf_ (p:=⟨gb629,2,none⟩) (rf_ (p:=⟨gb629,1,none⟩) (rf_ (p:=⟨gb629,0,none⟩) (Kd.R_types HO608.out BK629.out (by decide)) (fun _ hk => hk.2) (.int .i64 t624)) (fun _ hk => hk.2) (.int .i64 t625)) (fun _ hk => hk.2) (.slice Ao57 t626.length co57)) (fun _ h_ => h_.1))) hb);replace HO613:=A_ (rb_ (by exact (rm_ (rf_ (p:=⟨gb629,2,none⟩) (rf_ (p:=⟨gb629,1,none⟩) (rf_ (p:=⟨gb629,0,none⟩) (Kd.R_types HO613.out BK629.out (by decide)) (fun _ hk => hk.2) (.int .i64 t624)) (fun _ hk => hk.2) (.int .i64 t625)) (fun _ hk => hk.2) (.slice Ao57 t626.length co57)) (fun _ h_ => h_.1))) hb);replace HO622:=A_ (rb_ (by exact (rm_ (rf_ (p:=⟨gb629,2,none⟩) (rf_ (p:=⟨gb629,1,none⟩) (rf_ (p:=⟨gb629,0,none⟩) (Kd.R_types HO622.out BK629.out (by decide)) (fun _ hk => hk.2) (.int .i64 t624)) (fun _ hk => hk.2) (.int .i64 t625)) (fun _ hk => hk.2) (.slice Ao57 t626.length co57)) (fun _ h_ => h_.1))) hb);replace HO628:=A_ (rb_ (by exact (rm_ (rf_ (p:=⟨gb629,2,none⟩) (rf_ (p:=⟨gb629,1,none⟩) (rf_ (p:=⟨gb629,0,none⟩) (Kd.R_types HO628.out BK629.out (by decide)) (fun _ hk => hk.2) (.int .i64 t624)) (fun _ hk => hk.2) (.int .i64 t625)) (fun _ hk => hk.2) (.slice Ao57 t626.length co57)) (fun _ h_ => h_.1))) hb);have HO632:=A_ (rw_ (Kd.R_new' ho0 (Kd.R_lt (by exact (rm_ (rf_ (p:=⟨gb629,2,none⟩) (rf_ (p:=⟨gb629,1,none⟩) (rf_ (p:=⟨gb629,0,none⟩) (Kd.R_types HO616.out BK629.out (by decide)) (fun _ hk => hk.2) (.int .i64 t624)) (fun _ hk => hk.2) (.int .i64 t625)) (fun _ hk => hk.2) (.slice Ao57 t626.length co57)) (fun _ h_ => h_.1))))) (bz_ (bq_ HB)));replace HO616:=A_ (Kd.R_elder' (by exact (rm_ (rf_ (p:=⟨gb629,2,none⟩) (rf_ (p:=⟨gb629,1,none⟩) (rf_ (p:=⟨gb629,0,none⟩) (Kd.R_types HO616.out BK629.out (by decide)) (fun _ hk => hk.2) (.int .i64 t624)) (fun _ hk => hk.2) (.int .i64 t625)) (fun _ hk => hk.2) (.slice Ao57 t626.length co57)) (fun _ h_ => h_.1))) (Kd.R_base ho0) hb);replace BK600:=A_ (kb_ (g:=gb600) (o:=.cells #[.int .i64 a1_0,.int .i64 a1_1,.slice A1_2 l1_2.length c1_2] 55 (0,0)) (kz_ BK600) hb);replace BK601:=A_ (kb_ (g:=gb601) (o:=.cells #[.int .i64 a2_0,.int .i64 a2_1,.slice A2_2 l2_2.length c2_2] 55 (0,0)) (kz_ BK601) hb);replace BK623:=A_ (kb_ (g:=gb623) (o:=.cells #[.int .i64 t618,.int .i64 t619,.slice Ao49 t620.length co49] 24 (0,0)) (kz_ BK623) hb);replace BK629:=A_ (kb_ (g:=gb629) (o:=.cells #[.int .i64 t624,.int .i64 t625,.slice Ao57 t626.length co57] 24 (0,0)) (kz_ BK629) hb);replace HB:=bS_ HB hb;(try clear hb);(try clear ho0)))
    go_cut [60] (fun v60 wc => ∃ (kq : Nat) (x60_28 : Bool),v60 = .bool x60_28 ∧ Aside0 (laws_FnExactLogSteps.j0 kq a0 t614 t617 t630 t633 x60_28 a1_0 a1_1 l1_2 a2_0 a2_1 l2_2 t618 t619 t620 t624 t625 t626 = some r) ∧ Aside0 (kq ≤ k) ∧ Aside0 (Kd.R k126 126 wc w.heap.size (fun k_ => some k_ ≠ (v631 : Value).ownBlock) v615 t614) ∧ Aside0 (Kd.R k126 126 wc w.heap.size (fun k_ => some k_ ≠ (v615 : Value).ownBlock) v631 t630) ∧ Aside0 (Kd.R k69 69 wc w.heap.size (fun k_ => some k_ ≠ ((.slice Ao57 t626.length co57) : Value).ownBlock) (.slice Ao49 t620.length co49) t620) ∧ Aside0 (Kd.R k69 69 wc w.heap.size (fun k_ => some k_ ≠ ((.slice Ao49 t620.length co49) : Value).ownBlock) (.slice Ao57 t626.length co57) t626) ∧ Aside0 (wc.heap[gb600]? = some (.cells #[.int .i64 a1_0,.int .i64 a1_1,(.slice A1_2 l1_2.length c1_2)] 55 (0,0))) ∧ Aside0 (wc.heap[gb601]? = some (.cells #[.int .i64 a2_0,.int .i64 a2_1,(.slice A2_2 l2_2.length c2_2)] 55 (0,0))) ∧ Aside0 (wc.heap[gb623]? = some (.cells #[.int .i64 t618,.int .i64 t619,(.slice Ao49 t620.length co49)] 24 (0,0))) ∧ Aside0 (wc.heap[gb629]? = some (.cells #[.int .i64 t624,.int .i64 t625,(.slice Ao57 t626.length co57)] 24 (0,0))) ∧ Aside0 (Below w.heap.size w wc))
    case first =>
     have H:=HC29.out;clear HC29;replace H:=ob_.mp H;obtain ⟨t634,A600,H⟩:=H;have A60:=A_ A600;clear A600
     by_cases c61 : t634 = true
     ·subst c61
      rw [if_pos rfl] at H;have H':=A_ H;clear H;obtain ⟨Ao62,co62,eo62⟩:=Kd.R_slice HO632.out;subst eo62;obtain ⟨Ao63,co63,eo63⟩:=Kd.R_slice HO616.out;subst eo63
      go_wp2_with (((with_reducible refine gate_callee (f:=36) rfl ?_);refine gL_ (some 54) Try.func36 #[.slice Ao62 t630.length co62,.slice Ao63 t614.length co63] ?_;(with_reducible refine (laws_eqRawS.calls k _ _ t630 _ _ t614 true _ ?side1 ?side2 ?side3 ?side4 A60.out).mono ?_);(case side1 => repeat (exact (Kd.R_reads' HO632.out).2.2));(case side2 => exact (Kd.R_reads' HO632.out).2.1);(case side3 => repeat (exact (Kd.R_reads' HO616.out).2.2));(case side4 => exact (Kd.R_reads' HO616.out).2.1);rintro e w64 ⟨rfl,hb⟩;refine ⟨_,rfl,?_⟩;replace HO608:=rB_ HO608 hb;replace HO613:=rB_ HO613 hb;replace HO616:=rB_ HO616 hb;replace HO622:=rB_ HO622 hb;replace HO628:=rB_ HO628 hb;replace HO632:=rB_ HO632 hb;replace BK600:=kB_ BK600 hb;replace BK601:=kB_ BK601 hb;replace BK623:=kB_ BK623 hb;replace BK629:=kB_ BK629 hb;replace HB:=bS_ HB hb;(try clear hb)))
      go_meet
      case rel => exact ⟨_,((t633 != t617)),(by rfl),H',⟨by omega⟩,⟨by exact rm_ HO616.out (fun _ hk => hk.2)⟩,⟨by exact rm_ HO632.out (fun _ hk => hk.2)⟩,⟨by exact rm_ HO622.out (fun _ hk => hk.2)⟩,⟨by exact rm_ HO628.out (fun _ hk => hk.2)⟩,⟨kq_ BK600⟩,⟨kq_ BK601⟩,⟨kq_ BK623⟩,⟨kq_ BK629⟩,⟨bq_ HB⟩⟩
     ·replace c61:=Bool.eq_false_iff.mpr c61;subst c61
      have H1 : (laws_FnExactLogSteps.j0 k a0 t614 t617 t630 t633 true a1_0 a1_1 l1_2 a2_0 a2_1 l2_2 t618 t619 t620 t624 t625 t626) = some r:=by rw [if_neg (show ¬ (false = true) by decide)] at H;exact H
      clear H;have H:=H1;clear H1;have H':=A_ H;clear H;obtain ⟨Ao65,co65,eo65⟩:=Kd.R_slice HO632.out;subst eo65;obtain ⟨Ao66,co66,eo66⟩:=Kd.R_slice HO616.out;subst eo66
      go_wp2_with (((with_reducible refine gate_callee (f:=36) rfl ?_);refine gL_ (some 54) Try.func36 #[.slice Ao65 t630.length co65,.slice Ao66 t614.length co66] ?_;(with_reducible refine (laws_eqRawS.calls k _ _ t630 _ _ t614 false _ ?side1 ?side2 ?side3 ?side4 A60.out).mono ?_);(case side1 => repeat (exact (Kd.R_reads' HO632.out).2.2));(case side2 => exact (Kd.R_reads' HO632.out).2.1);(case side3 => repeat (exact (Kd.R_reads' HO616.out).2.2));(case side4 => exact (Kd.R_reads' HO616.out).2.1);rintro e w67 ⟨rfl,hb⟩;refine ⟨_,rfl,?_⟩;replace HO608:=rB_ HO608 hb;replace HO613:=rB_ HO613 hb;replace HO616:=rB_ HO616 hb;replace HO622:=rB_ HO622 hb;replace HO628:=rB_ HO628 hb;replace HO632:=rB_ HO632 hb;replace BK600:=kB_ BK600 hb;replace BK601:=kB_ BK601 hb;replace BK623:=kB_ BK623 hb;replace BK629:=kB_ BK629 hb;replace HB:=bS_ HB hb;(try clear hb)))
      go_meet
      case rel => exact ⟨_,(true),(by rfl),H',⟨by omega⟩,⟨by exact rm_ HO616.out (fun _ hk => hk.2)⟩,⟨by exact rm_ HO632.out (fun _ hk => hk.2)⟩,⟨by exact rm_ HO622.out (fun _ hk => hk.2)⟩,⟨by exact rm_ HO628.out (fun _ hk => hk.2)⟩,⟨kq_ BK600⟩,⟨kq_ BK601⟩,⟨kq_ BK623⟩,⟨kq_ BK629⟩,⟨bq_ HB⟩⟩
    case rest =>
     clear HC29
     try clear c1
     try clear c2
     try clear p2
     try clear c3
     try clear c4
     try clear c4b0
     try clear c4b1
     try clear c5
     try clear c6
     try clear c7
     try clear c8
     try clear c8b0
     try clear c11
     try clear c15
     try clear c15b0
     try clear c18
     try clear c32
     try clear c33
     try clear c34
     try clear c35
     try clear c36
     try clear c46
     try clear c47
     try clear c53
     try clear c54
     try clear c55
     try clear c61
     try clear hcz12_0
     try clear hcz12_1
     try clear hcz12_2
     try clear hcz19_0
     try clear hcz19_1
     try clear hcz19_2
     try clear hcz21_0
     try clear hcz21_1
     try clear hcz21_2
     try clear hcz33_0
     try clear hcz33_1
     try clear hcz33_2
     try clear hcz35_0
     try clear hcz35_1
     try clear hcz35_2
     try clear hcz43_0
     try clear hcz43_1
     try clear hcz43_2
     try clear hcz48_0
     try clear hcz48_1
     try clear hcz48_2
     try clear hcz50_0
     try clear hcz50_1
     try clear hcz50_2
     try clear hcz56_0
     try clear hcz56_1
     try clear hcz56_2
     try clear hcz58_0
     try clear hcz58_1
     try clear hcz58_2
     try clear hfz12_0
     try clear hfz12_1
     try clear hfz12_2
     try clear hfz19_0
     try clear hfz19_1
     try clear hfz19_2
     try clear hfz21_0
     try clear hfz21_1
     try clear hfz21_2
     try clear hfz33_0
     try clear hfz33_1
     try clear hfz33_2
     try clear hfz35_0
     try clear hfz35_1
     try clear hfz35_2
     try clear hfz43_0
     try clear hfz43_1
     try clear hfz43_2
     try clear hfz48_0
     try clear hfz48_1
     try clear hfz48_2
     try clear hfz50_0
     try clear hfz50_1
     try clear hfz50_2
     try clear hfz56_0
     try clear hfz56_1
     try clear hfz56_2
     try clear hfz58_0
     try clear hfz58_1
     try clear hfz58_2
     obtain ⟨kq,x60_28,rfl,HA,HJ28,HO_8,HO_12,HO_624002,HO_630002,BK600,BK601,BK623,BK629,HB⟩:=hcut
     cases kq with
     | zero => exact absurd HA.out (by simp [laws_FnExactLogSteps.j0])
     | succ kj28 =>
      have H:=HA.out;clear HA;simp only [laws_FnExactLogSteps.j0] at H
      by_cases c68 : x60_28 = true
      ·subst c68
       rw [if_pos rfl] at H;obtain rfl:=Option.some.inj H;go_wp2;go_ret;exact ⟨ex_,bq_ HB⟩
      ·replace c68:=Bool.eq_false_iff.mpr c68;subst c68
       have H1 : ((laws_toLog.f kj28 a1_0 a1_1 l1_2).bind fun bt635 => ((laws_eqLog.f kj28 t618 t619 t620 bt635.1 bt635.2.1 bt635.2.2).bind fun t640 => (if t640 = true then ((laws_toLog.f kj28 a2_0 a2_1 l2_2).bind fun bt641 => ((laws_eqLog.f kj28 t624 t625 t626 bt641.1 bt641.2.1 bt641.2.2).bind fun t646 => (if t646 = true then ((laws_markLog.f kj28 t618 t619 t620 1).bind fun bt647 => ((laws_markLog.f kj28 t624 t625 t626 bt647.1).bind fun bt649 => (if bt649.1 < 0 then (laws_FnExactLogSteps.j1 kj28 a0 t614 t617 t630 true a1_0 a1_1 l1_2 a2_0 a2_1 l2_2) else ((laws_eqRawS.f kj28 t630 t614).bind fun t651 => (if t651 = true then (laws_FnExactLogSteps.j1 kj28 a0 t614 t617 t630 (t633 != t617) a1_0 a1_1 l1_2 a2_0 a2_1 l2_2) else (laws_FnExactLogSteps.j1 kj28 a0 t614 t617 t630 true a1_0 a1_1 l1_2 a2_0 a2_1 l2_2)))))) else (some false)))) else (some false)))) = some r:=by rw [if_neg (show ¬ (false = true) by decide)] at H;exact H
       clear H;have H:=H1;clear H1;replace H:=ob_.mp H;obtain ⟨⟨t635,t636,t637⟩,A690,H⟩:=H;(try dsimp only at H);have A69:=A_ A690;clear A690;replace H:=ob_.mp H;obtain ⟨t640,A700,H⟩:=H;have A70:=A_ A700;clear A700
       by_cases c71 : t640 = true
       ·subst c71
        rw [if_pos rfl] at H;replace H:=ob_.mp H;obtain ⟨⟨t641,t642,t643⟩,A720,H⟩:=H;(try dsimp only at H);have A72:=A_ A720;clear A720;replace H:=ob_.mp H;obtain ⟨t646,A730,H⟩:=H;have A73:=A_ A730;clear A730
        by_cases c74 : t646 = true
        ·subst c74
         rw [if_pos rfl] at H;replace H:=ob_.mp H;obtain ⟨⟨t647,t648⟩,A750,H⟩:=H;(try dsimp only at H);have A75:=A_ A750;clear A750;replace H:=ob_.mp H;obtain ⟨⟨t649,t650⟩,A760,H⟩:=H;(try dsimp only at H);have A76:=A_ A760;clear A760;have HC77:=A_ H;clear H
         try go_wp2
         replace HO_8:=A_ (Rd_ HO_8.out);replace HO_12:=A_ (Rd_ HO_12.out);replace HO_624002:=A_ (Rd_ HO_624002.out);replace HO_630002:=A_ (Rd_ HO_630002.out);replace BK600:=A_ (kd_ BK600.out);replace BK601:=A_ (kd_ BK601.out);replace BK623:=A_ (kd_ BK623.out);replace BK629:=A_ (kd_ BK629.out);replace HB:=A_ (pd_ HB.out);refine start_ (n:=5) (S:=fun w' => w'.cell? ⟨gb623,0,none⟩ = some (.int .i64 t618) ∧ w'.cell? ⟨gb623,1,none⟩ = some (.int .i64 t619) ∧ w'.cell? ⟨gb623,2,none⟩ = some (.slice Ao49 t620.length co49) ∧ w'.cell? ⟨gb600,0,none⟩ = some (.int .i64 a1_0) ∧ w'.cell? ⟨gb600,1,none⟩ = some (.int .i64 a1_1) ∧ w'.cell? ⟨gb600,2,none⟩ = some (.slice A1_2 l1_2.length c1_2)) (ds:=[]) #[false,false,false,false,false] (by kernel_rfl) rfl rfl ⟨kC_ BK623 0,kC_ BK623 1,kC_ BK623 2,kC_ BK600 0,kC_ BK600 1,kC_ BK600 2⟩ (fun hHeld => ?_);generalize wc.drew = w78 at HO_8 HO_12 HO_624002 HO_630002 BK600 BK601 BK623 BK629 HB hHeld ⊢;refine take_ (i:=0) (N:=some 61) (v:=?_) (a':=?_) #[true,false,false,false,false] rfl rfl (by kernel_rfl) (fun _ _ _ h => h) (Or.inl ⟨by rfl,?_⟩) hHeld ?_ ?_;rotate_left
         ·rintro w' ⟨s0,s1,s2,s3,s4,s5⟩;go_simp;with_reducible rfl
         rotate_left
         ·exact ux_
         refine take_ (i:=1) (N:=some 62) (v:=?_) (a':=?_) #[true,true,false,false,false] rfl rfl (by kernel_rfl) (fun _ _ _ h => h) (Or.inl ⟨by rfl,?_⟩) hHeld ?_ ?_;rotate_left
         ·rintro w' ⟨s0,s1,s2,s3,s4,s5⟩;go_simp;with_reducible rfl
         rotate_left
         ·exact ux_
         refine one_ (i:=2) (N:=some 63) #[true,true,true,false,false] rfl rfl (by kernel_rfl) (by decide) (fun K hK => ?_);refine gs_ Try.func34 #[.agg #[.int .i64 a1_0,.int .i64 a1_1,.slice A1_2 l1_2.length c1_2]] ?_;with_reducible refine (laws_toLog.calls kj28 a1_0 a1_1 _ _ l1_2 t635 t636 t637 _ ?side1 ?side2 A69.out).mono ?_
         (case side1 => repeat (exact (Kd.C_below HR1_2.out HB.out)))
         (case side2 => exact HC1_2.out)
         rintro e w79 ⟨v638,rfl,ho0,hb⟩;refine ⟨_,rfl,?_⟩;replace HO_8:=rB_ HO_8 hb;replace HO_12:=rB_ HO_12 hb;have HO639:=A_ (rw_ (Kd.R_new' (Kd.R_new' ho0 (Kd.R_lt (rq_ HO_624002))) (Kd.R_lt (rq_ HO_630002))) (bz_ (bq_ HB)));replace HO_624002:=A_ (Kd.R_elder' (rq_ HO_624002) (Kd.R_base ho0) hb);replace HO_630002:=A_ (Kd.R_elder' (rq_ HO_630002) (Kd.R_base ho0) hb);replace BK600:=kB_ BK600 hb;replace BK601:=kB_ BK601 hb;replace BK623:=kB_ BK623 hb;replace BK629:=kB_ BK629 hb;replace HB:=bS_ HB hb
         (try clear hb)
         (try clear ho0)
         obtain ⟨Ao80,co80,eo80⟩:=Kd.R_slice HO639.out
         (subst eo80)
         refine hK.out _ _ ⟨kC_ BK623 0,kC_ BK623 1,kC_ BK623 2,kC_ BK600 0,kC_ BK600 1,kC_ BK600 2⟩ (fun hHeld => ?_);clear hK K;refine nX_ (some 63) ?_
         refine one_ (i:=3) (N:=some 64) #[true,true,true,true,false] rfl rfl (by kernel_rfl) (by decide) (fun K hK => ?_);refine gs_ Try.func10 #[.agg #[.int .i64 t618,.int .i64 t619,.slice Ao49 t620.length co49],.agg #[.int .i64 t635,.int .i64 t636,.slice Ao80 t637.length co80]] ?_;with_reducible refine (laws_eqLog.calls kj28 t618 t619 _ _ t620 t635 t636 _ _ t637 true _ ?side1 ?side2 ?side3 ?side4 A70.out).mono ?_
         (case side1 => repeat (exact (Kd.R_reads' HO_624002.out).2.2))
         (case side2 => exact (Kd.R_reads' HO_624002.out).2.1)
         (case side3 => repeat (exact (Kd.R_reads' HO639.out).2.2))
         (case side4 => exact (Kd.R_reads' HO639.out).2.1)
         rintro e w81 ⟨rfl,hb⟩;refine ⟨_,rfl,?_⟩;replace HO_8:=rB_ HO_8 hb;replace HO_12:=rB_ HO_12 hb;replace HO_624002:=rB_ HO_624002 hb;replace HO_630002:=rB_ HO_630002 hb;replace HO639:=rB_ HO639 hb;replace BK600:=kB_ BK600 hb;replace BK601:=kB_ BK601 hb;replace BK623:=kB_ BK623 hb;replace BK629:=kB_ BK629 hb;replace HB:=bS_ HB hb
         (try clear hb)
         refine hK.out _ _ ⟨kC_ BK623 0,kC_ BK623 1,kC_ BK623 2,kC_ BK600 0,kC_ BK600 1,kC_ BK600 2⟩ (fun hHeld => ?_);clear hK K;refine nX_ (some 64) ?_
         refine pure_ (i:=4) (N:=some 65) (v:=?_) (a':=?_) #[true,true,true,true,true] rfl rfl (by kernel_rfl) (fun _ _ _ h => h) (Or.inl ⟨by rfl,?_⟩) ?_ ?_;rotate_left
         ·intro w';go_simp;with_reducible rfl
         rotate_left
         ·exact ux_
         refine done_ (by kernel_rfl) ?_
         try go_wp2
         replace HO_8:=A_ (Rd_ HO_8.out);replace HO_12:=A_ (Rd_ HO_12.out);replace HO_624002:=A_ (Rd_ HO_624002.out);replace HO_630002:=A_ (Rd_ HO_630002.out);replace HO639:=A_ (Rd_ HO639.out);replace BK600:=A_ (kd_ BK600.out);replace BK601:=A_ (kd_ BK601.out);replace BK623:=A_ (kd_ BK623.out);replace BK629:=A_ (kd_ BK629.out);replace HB:=A_ (pd_ HB.out);refine start_ (n:=5) (S:=fun w' => w'.cell? ⟨gb629,0,none⟩ = some (.int .i64 t624) ∧ w'.cell? ⟨gb629,1,none⟩ = some (.int .i64 t625) ∧ w'.cell? ⟨gb629,2,none⟩ = some (.slice Ao57 t626.length co57) ∧ w'.cell? ⟨gb601,0,none⟩ = some (.int .i64 a2_0) ∧ w'.cell? ⟨gb601,1,none⟩ = some (.int .i64 a2_1) ∧ w'.cell? ⟨gb601,2,none⟩ = some (.slice A2_2 l2_2.length c2_2)) (ds:=[]) #[false,false,false,false,false] (by kernel_rfl) rfl rfl ⟨kC_ BK629 0,kC_ BK629 1,kC_ BK629 2,kC_ BK601 0,kC_ BK601 1,kC_ BK601 2⟩ (fun hHeld => ?_);generalize w81.drew = w82 at HO_8 HO_12 HO_624002 HO_630002 HO639 BK600 BK601 BK623 BK629 HB hHeld ⊢;refine take_ (i:=0) (N:=some 66) (v:=?_) (a':=?_) #[true,false,false,false,false] rfl rfl (by kernel_rfl) (fun _ _ _ h => h) (Or.inl ⟨by rfl,?_⟩) hHeld ?_ ?_;rotate_left
         ·rintro w' ⟨s0,s1,s2,s3,s4,s5⟩;go_simp;with_reducible rfl
         rotate_left
         ·exact ux_
         refine take_ (i:=1) (N:=some 67) (v:=?_) (a':=?_) #[true,true,false,false,false] rfl rfl (by kernel_rfl) (fun _ _ _ h => h) (Or.inl ⟨by rfl,?_⟩) hHeld ?_ ?_;rotate_left
         ·rintro w' ⟨s0,s1,s2,s3,s4,s5⟩;go_simp;with_reducible rfl
         rotate_left
         ·exact ux_
         refine one_ (i:=2) (N:=some 68) #[true,true,true,false,false] rfl rfl (by kernel_rfl) (by decide) (fun K hK => ?_);refine gs_ Try.func34 #[.agg #[.int .i64 a2_0,.int .i64 a2_1,.slice A2_2 l2_2.length c2_2]] ?_;with_reducible refine (laws_toLog.calls kj28 a2_0 a2_1 _ _ l2_2 t641 t642 t643 _ ?side1 ?side2 A72.out).mono ?_
         (case side1 => repeat (exact (Kd.C_below HR2_2.out HB.out)))
         (case side2 => exact HC2_2.out)
         rintro e w83 ⟨v644,rfl,ho0,hb⟩;refine ⟨_,rfl,?_⟩;replace HO_8:=rB_ HO_8 hb;replace HO_12:=rB_ HO_12 hb;have HO645:=A_ (rw_ (Kd.R_new' (Kd.R_new' (Kd.R_new' ho0 (Kd.R_lt (rq_ HO_624002))) (Kd.R_lt (rq_ HO_630002))) (Kd.R_lt (rq_ HO639))) (bz_ (bq_ HB)));replace HO_624002:=A_ (Kd.R_elder' (rq_ HO_624002) (Kd.R_base ho0) hb);replace HO_630002:=A_ (Kd.R_elder' (rq_ HO_630002) (Kd.R_base ho0) hb);replace HO639:=A_ (Kd.R_elder' (rq_ HO639) (Kd.R_base ho0) hb);replace BK600:=kB_ BK600 hb;replace BK601:=kB_ BK601 hb;replace BK623:=kB_ BK623 hb;replace BK629:=kB_ BK629 hb;replace HB:=bS_ HB hb
         (try clear hb)
         (try clear ho0)
         obtain ⟨Ao84,co84,eo84⟩:=Kd.R_slice HO645.out
         (subst eo84)
         refine hK.out _ _ ⟨kC_ BK629 0,kC_ BK629 1,kC_ BK629 2,kC_ BK601 0,kC_ BK601 1,kC_ BK601 2⟩ (fun hHeld => ?_);clear hK K;refine nX_ (some 68) ?_
         refine one_ (i:=3) (N:=some 69) #[true,true,true,true,false] rfl rfl (by kernel_rfl) (by decide) (fun K hK => ?_);refine gs_ Try.func10 #[.agg #[.int .i64 t624,.int .i64 t625,.slice Ao57 t626.length co57],.agg #[.int .i64 t641,.int .i64 t642,.slice Ao84 t643.length co84]] ?_;with_reducible refine (laws_eqLog.calls kj28 t624 t625 _ _ t626 t641 t642 _ _ t643 true _ ?side1 ?side2 ?side3 ?side4 A73.out).mono ?_
         (case side1 => repeat (exact (Kd.R_reads' HO_630002.out).2.2))
         (case side2 => exact (Kd.R_reads' HO_630002.out).2.1)
         (case side3 => repeat (exact (Kd.R_reads' HO645.out).2.2))
         (case side4 => exact (Kd.R_reads' HO645.out).2.1)
         rintro e w85 ⟨rfl,hb⟩;refine ⟨_,rfl,?_⟩;replace HO_8:=rB_ HO_8 hb;replace HO_12:=rB_ HO_12 hb;replace HO_624002:=rB_ HO_624002 hb;replace HO_630002:=rB_ HO_630002 hb;replace HO639:=rB_ HO639 hb;replace HO645:=rB_ HO645 hb;replace BK600:=kB_ BK600 hb;replace BK601:=kB_ BK601 hb;replace BK623:=kB_ BK623 hb;replace BK629:=kB_ BK629 hb;replace HB:=bS_ HB hb
         (try clear hb)
         refine hK.out _ _ ⟨kC_ BK629 0,kC_ BK629 1,kC_ BK629 2,kC_ BK601 0,kC_ BK601 1,kC_ BK601 2⟩ (fun hHeld => ?_);clear hK K;refine nX_ (some 69) ?_
         refine pure_ (i:=4) (N:=some 70) (v:=?_) (a':=?_) #[true,true,true,true,true] rfl rfl (by kernel_rfl) (fun _ _ _ h => h) (Or.inl ⟨by rfl,?_⟩) ?_ ?_;rotate_left
         ·intro w';go_simp;with_reducible rfl
         rotate_left
         ·exact ux_
         refine done_ (by kernel_rfl) ?_;have hnb86:=NB623_600.out;have hnc86:=NB600_623.out;have hnb87:=NB623_601.out;have hnc87:=NB601_623.out;have hnb88:=NB623_629.out;have hnc88:=NB629_623.out;obtain ⟨hcz89_0,hcz89_1,hcz89_2,hfz89_0,hfz89_1,hfz89_2⟩:=k3f_ BK623
         go_upto_region 23 with (first|((with_reducible refine gate_callee (f:=11) rfl ?_);refine gL_ (some 73) Try.func11 #[.agg #[.int .i64 t618,.int .i64 t619,.slice Ao49 t620.length co49],.int .i64 1] ?_;(with_reducible refine (laws_markLog.calls kj28 t618 t619 (fun k_ => some k_ = (.slice Ao49 t620.length co49 : Value).ownBlock) (.slice Ao49 t620.length co49) t620 1 t647 t648 w _ ?side1 ?side2 A75.out).mono ?_);(case side1 => exact bq_ HB);(case side2 => exact Kd.R_tight rfl HO_624002.out);rintro e w90 ⟨rfl,hy0,hb,hkp⟩;refine ⟨_,rfl,?_⟩;replace HO_8:=A_ (rm_ (ok':=fun k_ => some k_ ≠ (v631 : Value).ownBlock) (Kd.R_keptB ((Kd.R_apart' HO_8.out (ry_ HO_624002.out) (by decide))) hkp (fun k_ hk_ hs_ => (hk_.2) hs_)) (fun k_ hk_ => hk_.1.1));replace HO_12:=A_ (rm_ (ok':=fun k_ => some k_ ≠ (v615 : Value).ownBlock) (Kd.R_keptB ((Kd.R_apart' HO_12.out (ry_ HO_624002.out) (by decide))) hkp (fun k_ hk_ hs_ => (hk_.2) hs_)) (fun k_ hk_ => hk_.1.1));replace HO_630002:=A_ (rm_ (ok':=fun k_ => some k_ ≠ (.slice Ao49 t620.length co49 : Value).ownBlock ∧ some k_ ≠ (.slice Ao80 t637.length co80 : Value).ownBlock ∧ some k_ ≠ (.slice Ao84 t643.length co84 : Value).ownBlock) (Kd.R_keptB (HO_630002.out) hkp (fun k_ hk_ hs_ => (hk_.1.1) hs_)) (fun k_ hk_ => ⟨hk_.1.1.1,hk_.1.1.2,hk_.1.2⟩));replace BK600:=A_ (blk_kept (kq_ BK600) hkp (fun hs_ => (fun e_ => (re_ HO_624002.out BK600.out (by decide)) e_) hs_));replace BK601:=A_ (blk_kept (kq_ BK601) hkp (fun hs_ => (fun e_ => (re_ HO_624002.out BK601.out (by decide)) e_) hs_));replace BK623:=A_ (blk_kept (kq_ BK623) hkp (fun hs_ => (fun e_ => (re_ HO_624002.out BK623.out (by decide)) e_) hs_));replace BK629:=A_ (blk_kept (kq_ BK629) hkp (fun hs_ => (fun e_ => (re_ HO_624002.out BK629.out (by decide)) e_) hs_));replace HO_624002:=A_ (Kd.R_reok rfl hy0 (fun k_ e_ => HO_624002.out.1 k_ e_));replace HO639:=A_ (rm_ (ok':=fun k_ => some k_ ≠ (.slice Ao49 t620.length co49 : Value).ownBlock ∧ some k_ ≠ (.slice Ao57 t626.length co57 : Value).ownBlock ∧ some k_ ≠ (.slice Ao84 t643.length co84 : Value).ownBlock) (Kd.R_keptB (HO639.out) hkp (fun k_ hk_ hs_ => (hk_.1.1.2) hs_)) (fun k_ hk_ => ⟨hk_.1.1.1.2,hk_.1.1.2,hk_.1.2⟩));replace HO645:=A_ (rm_ (ok':=fun k_ => some k_ ≠ (.slice Ao49 t620.length co49 : Value).ownBlock ∧ some k_ ≠ (.slice Ao57 t626.length co57 : Value).ownBlock ∧ some k_ ≠ (.slice Ao80 t637.length co80 : Value).ownBlock) (Kd.R_keptB (HO645.out) hkp (fun k_ hk_ hs_ => (hk_.1.1.2) hs_)) (fun k_ hk_ => ⟨hk_.1.1.1.2,hk_.1.1.2,hk_.1.2⟩));replace HB:=A_ (hb);(try clear hb);(try clear hkp);(try clear hy0);have hnb91:=NB629_600.out;have hnc91:=NB600_629.out;have hnb92:=NB629_601.out;have hnc92:=NB601_629.out;obtain ⟨hcz93_0,hcz93_1,hcz93_2,hfz93_0,hfz93_1,hfz93_2⟩:=k3f_ BK629)|((with_reducible refine gate_callee (f:=11) rfl ?_);refine gL_ (some 76) Try.func11 #[.agg #[.int .i64 t624,.int .i64 t625,.slice Ao57 t626.length co57],.int .i64 t647] ?_;(with_reducible refine (laws_markLog.calls kj28 t624 t625 (fun k_ => some k_ = (.slice Ao57 t626.length co57 : Value).ownBlock) (.slice Ao57 t626.length co57) t626 t647 t649 t650 w _ ?side1 ?side2 A76.out).mono ?_);(case side1 => exact bq_ HB);(case side2 => exact Kd.R_tight rfl HO_630002.out);rintro e w94 ⟨rfl,hy0,hb,hkp⟩;refine ⟨_,rfl,?_⟩;replace HO_8:=A_ (rm_ (ok':=fun k_ => some k_ ≠ (v631 : Value).ownBlock) (Kd.R_keptB ((Kd.R_apart' HO_8.out (ry_ HO_630002.out) (by decide))) hkp (fun k_ hk_ hs_ => (hk_.2) hs_)) (fun k_ hk_ => hk_.1.1));replace HO_12:=A_ (rm_ (ok':=fun k_ => some k_ ≠ (v615 : Value).ownBlock) (Kd.R_keptB ((Kd.R_apart' HO_12.out (ry_ HO_630002.out) (by decide))) hkp (fun k_ hk_ hs_ => (hk_.2) hs_)) (fun k_ hk_ => hk_.1.1));replace HO_624002:=A_ (rm_ (ok':=fun k_ => some k_ ≠ (.slice Ao57 t626.length co57 : Value).ownBlock ∧ some k_ ≠ (.slice Ao80 t637.length co80 : Value).ownBlock ∧ some k_ ≠ (.slice Ao84 t643.length co84 : Value).ownBlock) (Kd.R_keptB (HO_624002.out) hkp (fun k_ hk_ hs_ => (hk_.1.1) hs_)) (fun k_ hk_ => ⟨hk_.1.1.1,hk_.1.1.2,hk_.1.2⟩));replace BK600:=A_ (blk_kept (kq_ BK600) hkp (fun hs_ => (fun e_ => (re_ HO_630002.out BK600.out (by decide)) e_) hs_));replace BK601:=A_ (blk_kept (kq_ BK601) hkp (fun hs_ => (fun e_ => (re_ HO_630002.out BK601.out (by decide)) e_) hs_));replace BK623:=A_ (blk_kept (kq_ BK623) hkp (fun hs_ => (fun e_ => (re_ HO_630002.out BK623.out (by decide)) e_) hs_));replace BK629:=A_ (blk_kept (kq_ BK629) hkp (fun hs_ => (fun e_ => (re_ HO_630002.out BK629.out (by decide)) e_) hs_));replace HO_630002:=A_ (Kd.R_reok rfl hy0 (fun k_ e_ => HO_630002.out.1 k_ e_));replace HO639:=A_ (rm_ (ok':=fun k_ => some k_ ≠ (.slice Ao49 t620.length co49 : Value).ownBlock ∧ some k_ ≠ (.slice Ao57 t626.length co57 : Value).ownBlock ∧ some k_ ≠ (.slice Ao84 t643.length co84 : Value).ownBlock) (Kd.R_keptB (HO639.out) hkp (fun k_ hk_ hs_ => (hk_.2.1) hs_)) (fun k_ hk_ => ⟨hk_.1.1,hk_.1.2.1,hk_.1.2.2⟩));replace HO645:=A_ (rm_ (ok':=fun k_ => some k_ ≠ (.slice Ao49 t620.length co49 : Value).ownBlock ∧ some k_ ≠ (.slice Ao57 t626.length co57 : Value).ownBlock ∧ some k_ ≠ (.slice Ao80 t637.length co80 : Value).ownBlock) (Kd.R_keptB (HO645.out) hkp (fun k_ hk_ hs_ => (hk_.2.1) hs_)) (fun k_ hk_ => ⟨hk_.1.1,hk_.1.2.1,hk_.1.2.2⟩));replace HB:=A_ (hb);(try clear hb);(try clear hkp);(try clear hy0)))
         go_cut [89] (fun v89 wc => ∃ (kq : Nat) (x89_76 : Bool),v89 = .bool x89_76 ∧ Aside0 (laws_FnExactLogSteps.j1 kq a0 t614 t617 t630 x89_76 a1_0 a1_1 l1_2 a2_0 a2_1 l2_2 = some r) ∧ Aside0 (kq ≤ kj28) ∧ Aside0 (Kd.R k126 126 wc w.heap.size (fun k_ => some k_ ≠ (v631 : Value).ownBlock) v615 t614) ∧ Aside0 (Kd.R k126 126 wc w.heap.size (fun k_ => some k_ ≠ (v615 : Value).ownBlock) v631 t630) ∧ Aside0 (Kd.R k69 69 wc w.heap.size (fun k_ => some k_ ≠ ((.slice Ao57 t626.length co57) : Value).ownBlock) (.slice Ao49 t620.length co49) t648) ∧ Aside0 (Kd.R k69 69 wc w.heap.size (fun k_ => some k_ ≠ ((.slice Ao49 t620.length co49) : Value).ownBlock) (.slice Ao57 t626.length co57) t650) ∧ Aside0 (wc.heap[gb600]? = some (.cells #[.int .i64 a1_0,.int .i64 a1_1,(.slice A1_2 l1_2.length c1_2)] 55 (0,0))) ∧ Aside0 (wc.heap[gb601]? = some (.cells #[.int .i64 a2_0,.int .i64 a2_1,(.slice A2_2 l2_2.length c2_2)] 55 (0,0))) ∧ Aside0 (wc.heap[gb623]? = some (.cells #[.int .i64 t618,.int .i64 t619,(.slice Ao49 t620.length co49)] 24 (0,0))) ∧ Aside0 (wc.heap[gb629]? = some (.cells #[.int .i64 t624,.int .i64 t625,(.slice Ao57 t626.length co57)] 24 (0,0))) ∧ Aside0 (Below w.heap.size w wc))
         case first =>
          have H:=HC77.out;clear HC77
          by_cases c95 : t649 < 0
          ·rw [if_pos c95] at H;have c95b0 : decide (t649 < 0) = true:=de_ c95;clear c95
           (skip)
           have H':=A_ H;clear H;go_wp2
           go_meet
           case rel => exact ⟨_,(true),(by rfl),H',⟨by have:=HJ28.out;omega⟩,⟨HO_8.out⟩,⟨HO_12.out⟩,⟨by exact rm_ HO_624002.out (fun _ hk => hk.1)⟩,⟨by exact rm_ HO_630002.out (fun _ hk => hk.1)⟩,⟨kq_ BK600⟩,⟨kq_ BK601⟩,⟨kq_ BK623⟩,⟨kq_ BK629⟩,⟨bq_ HB⟩⟩
          ·rw [if_neg c95] at H;have c95b0 : decide (t649 < 0) = false:=decide_eq_false c95;clear c95
           (skip)
           replace H:=ob_.mp H;obtain ⟨t651,A960,H⟩:=H;have A96:=A_ A960;clear A960
           by_cases c97 : t651 = true
           ·subst c97
            rw [if_pos rfl] at H;have H':=A_ H;clear H;obtain ⟨Ao98,co98,eo98⟩:=Kd.R_slice HO_12.out;subst eo98;obtain ⟨Ao99,co99,eo99⟩:=Kd.R_slice HO_8.out;subst eo99
            go_wp2_with ((go_at_call 36;(with_reducible refine (laws_eqRawS.calls kj28 _ _ t630 _ _ t614 true _ ?side1 ?side2 ?side3 ?side4 A96.out).mono ?_);(case side1 => repeat (exact (Kd.R_reads' HO_12.out).2.2));(case side2 => exact (Kd.R_reads' HO_12.out).2.1);(case side3 => repeat (exact (Kd.R_reads' HO_8.out).2.2));(case side4 => exact (Kd.R_reads' HO_8.out).2.1);rintro e w100 ⟨rfl,hb⟩;replace HO_8:=rB_ HO_8 hb;replace HO_12:=rB_ HO_12 hb;replace HO_624002:=rB_ HO_624002 hb;replace HO_630002:=rB_ HO_630002 hb;replace HO639:=rB_ HO639 hb;replace HO645:=rB_ HO645 hb;replace BK600:=kB_ BK600 hb;replace BK601:=kB_ BK601 hb;replace BK623:=kB_ BK623 hb;replace BK629:=kB_ BK629 hb;replace HB:=bS_ HB hb;(try clear hb)))
            go_meet
            case rel => exact ⟨_,((t633 != t617)),(by rfl),H',⟨by have:=HJ28.out;omega⟩,⟨HO_8.out⟩,⟨HO_12.out⟩,⟨by exact rm_ HO_624002.out (fun _ hk => hk.1)⟩,⟨by exact rm_ HO_630002.out (fun _ hk => hk.1)⟩,⟨kq_ BK600⟩,⟨kq_ BK601⟩,⟨kq_ BK623⟩,⟨kq_ BK629⟩,⟨bq_ HB⟩⟩
           ·replace c97:=Bool.eq_false_iff.mpr c97;subst c97
            have H1 : (laws_FnExactLogSteps.j1 kj28 a0 t614 t617 t630 true a1_0 a1_1 l1_2 a2_0 a2_1 l2_2) = some r:=by rw [if_neg (show ¬ (false = true) by decide)] at H;exact H
            clear H;have H:=H1;clear H1;have H':=A_ H;clear H;obtain ⟨Ao101,co101,eo101⟩:=Kd.R_slice HO_12.out;subst eo101;obtain ⟨Ao102,co102,eo102⟩:=Kd.R_slice HO_8.out;subst eo102
            go_wp2_with ((go_at_call 36;(with_reducible refine (laws_eqRawS.calls kj28 _ _ t630 _ _ t614 false _ ?side1 ?side2 ?side3 ?side4 A96.out).mono ?_);(case side1 => repeat (exact (Kd.R_reads' HO_12.out).2.2));(case side2 => exact (Kd.R_reads' HO_12.out).2.1);(case side3 => repeat (exact (Kd.R_reads' HO_8.out).2.2));(case side4 => exact (Kd.R_reads' HO_8.out).2.1);rintro e w103 ⟨rfl,hb⟩;replace HO_8:=rB_ HO_8 hb;replace HO_12:=rB_ HO_12 hb;replace HO_624002:=rB_ HO_624002 hb;replace HO_630002:=rB_ HO_630002 hb;replace HO639:=rB_ HO639 hb;replace HO645:=rB_ HO645 hb;replace BK600:=kB_ BK600 hb;replace BK601:=kB_ BK601 hb;replace BK623:=kB_ BK623 hb;replace BK629:=kB_ BK629 hb;replace HB:=bS_ HB hb;(try clear hb)))
            go_meet
            case rel => exact ⟨_,(true),(by rfl),H',⟨by have:=HJ28.out;omega⟩,⟨HO_8.out⟩,⟨HO_12.out⟩,⟨by exact rm_ HO_624002.out (fun _ hk => hk.1)⟩,⟨by exact rm_ HO_630002.out (fun _ hk => hk.1)⟩,⟨kq_ BK600⟩,⟨kq_ BK601⟩,⟨kq_ BK623⟩,⟨kq_ BK629⟩,⟨bq_ HB⟩⟩
         case rest =>
          clear HC77
          try clear c1
          try clear c2
          try clear p2
          try clear c3
          try clear c4
          try clear c4b0
          try clear c4b1
          try clear c5
          try clear c6
          try clear c7
          try clear c8
          try clear c8b0
          try clear c9
          try clear c10
          try clear c11
          try clear c15
          try clear c15b0
          try clear c18
          try clear c32
          try clear c33
          try clear c34
          try clear c35
          try clear c36
          try clear c46
          try clear c47
          try clear c53
          try clear c54
          try clear c55
          try clear c61
          try clear c68
          try clear c71
          try clear c74
          try clear c86
          try clear c87
          try clear c88
          try clear c91
          try clear c92
          try clear c95
          try clear c95b0
          try clear c97
          try clear hcz12_0
          try clear hcz12_1
          try clear hcz12_2
          try clear hcz19_0
          try clear hcz19_1
          try clear hcz19_2
          try clear hcz21_0
          try clear hcz21_1
          try clear hcz21_2
          try clear hcz33_0
          try clear hcz33_1
          try clear hcz33_2
          try clear hcz35_0
          try clear hcz35_1
          try clear hcz35_2
          try clear hcz43_0
          try clear hcz43_1
          try clear hcz43_2
          try clear hcz48_0
          try clear hcz48_1
          try clear hcz48_2
          try clear hcz50_0
          try clear hcz50_1
          try clear hcz50_2
          try clear hcz56_0
          try clear hcz56_1
          try clear hcz56_2
          try clear hcz58_0
          try clear hcz58_1
          try clear hcz58_2
          try clear hcz89_0
          try clear hcz89_1
          try clear hcz89_2
          try clear hcz93_0
          try clear hcz93_1
          try clear hcz93_2
          try clear hfz12_0
          try clear hfz12_1
          try clear hfz12_2
          try clear hfz19_0
          try clear hfz19_1
          try clear hfz19_2
          try clear hfz21_0
          try clear hfz21_1
          try clear hfz21_2
          try clear hfz33_0
          try clear hfz33_1
          try clear hfz33_2
          try clear hfz35_0
          try clear hfz35_1
          try clear hfz35_2
          try clear hfz43_0
          try clear hfz43_1
          try clear hfz43_2
          try clear hfz48_0
          try clear hfz48_1
          try clear hfz48_2
          try clear hfz50_0
          try clear hfz50_1
          try clear hfz50_2
          try clear hfz56_0
          try clear hfz56_1
          try clear hfz56_2
          try clear hfz58_0
          try clear hfz58_1
          try clear hfz58_2
          try clear hfz89_0
          try clear hfz89_1
          try clear hfz89_2
          try clear hfz93_0
          try clear hfz93_1
          try clear hfz93_2
          try clear p2
          obtain ⟨kq,x89_76,rfl,HA,HJ76,HO_8,HO_12,HO_624002,HO_630002,BK600,BK601,BK623,BK629,HB⟩:=hcut;have hl624002_76:=(Kd.R_reads' HO_624002.out).1;rw [hl624002_76] at HO_624002
          (try simp only [hl624002_76] at BK623)
          (try simp only [hl624002_76] at HO_630002)
          have hl630002_76:=(Kd.R_reads' HO_630002.out).1;rw [hl630002_76] at HO_630002
          (try simp only [hl630002_76] at BK629)
          (try simp only [hl630002_76] at HO_624002)
          cases kq with
          | zero => exact absurd HA.out (by simp [laws_FnExactLogSteps.j1])
          | succ kj76 =>
           have H:=HA.out;clear HA;simp only [laws_FnExactLogSteps.j1] at H
           by_cases c104 : x89_76 = true
           ·subst c104
            rw [if_pos rfl] at H;obtain rfl:=Option.some.inj H;go_wp2;go_ret;exact ⟨ex_,bq_ HB⟩
           ·replace c104:=Bool.eq_false_iff.mpr c104;subst c104
            have H1 : ((laws_markRawS.f kj76 t630 1).bind fun bt652 => ((laws_heldRawS.f kj76 bt652.2 1).bind fun t654 => (if t654 < 0 then (some false) else (if t654 = bt652.1 then ((laws_toLog.f kj76 a1_0 a1_1 l1_2).bind fun bt655 => ((laws_toLog.f kj76 a2_0 a2_1 l2_2).bind fun bt660 => ((impl_LogSteps.f kj76 a0 bt655.1 bt655.2.1 bt655.2.2 bt660.1 bt660.2.1 bt660.2.2).bind fun bt665 => ((laws_eqRawS.f kj76 bt665.1 t614).bind fun t669 => (if t669 = true then (laws_FnExactLogSteps.j2 kj76 bt652.2 bt652.1 (bt665.2 != t617)) else (laws_FnExactLogSteps.j2 kj76 bt652.2 bt652.1 true)))))) else (some false))))) = some r:=by rw [if_neg (show ¬ (false = true) by decide)] at H;exact H
            clear H;have H:=H1;clear H1;replace H:=ob_.mp H;obtain ⟨⟨t652,t653⟩,A1050,H⟩:=H;(try dsimp only at H);have A105:=A_ A1050;clear A1050;replace H:=ob_.mp H;obtain ⟨t654,A1060,H⟩:=H;have A106:=A_ A1060;clear A1060
            by_cases c107 : t654 < 0
            ·rw [if_pos c107] at H;have c107b0 : decide (t654 < 0) = true:=de_ c107;clear c107;obtain rfl:=Option.some.inj H;obtain ⟨Ao108,co108,eo108⟩:=Kd.R_slice HO_12.out;subst eo108
             go_wp2_with (first|((with_reducible refine gate_callee (f:=37) rfl ?_);refine gL_ (some 92) Try.func37 #[.slice Ao108 t630.length co108,.int .i64 1] ?_;(with_reducible refine (laws_markRawS.calls kj76 (fun k_ => some k_ = (.slice Ao108 t630.length co108 : Value).ownBlock) (.slice Ao108 t630.length co108) t630 1 t652 t653 w _ ?side1 ?side2 A105.out).mono ?_);(case side1 => exact bq_ HB);(case side2 => exact Kd.R_tight rfl HO_12.out);rintro e w109 ⟨rfl,hy0,hb,hkp⟩;refine ⟨_,rfl,?_⟩;replace HO_8:=A_ (rm_ (ok':=fun k_ => some k_ ≠ (.slice Ao108 t630.length co108 : Value).ownBlock) (Kd.R_keptB (HO_8.out) hkp (fun k_ hk_ hs_ => (hk_) hs_)) (fun k_ hk_ => hk_.1));replace HO_624002:=A_ (rm_ (ok':=fun k_ => some k_ ≠ (.slice Ao57 t650.length co57 : Value).ownBlock) (Kd.R_keptB ((Kd.R_apart' HO_624002.out (ry_ HO_12.out) (by decide))) hkp (fun k_ hk_ hs_ => (hk_.2) hs_)) (fun k_ hk_ => hk_.1.1));replace HO_630002:=A_ (rm_ (ok':=fun k_ => some k_ ≠ (.slice Ao49 t648.length co49 : Value).ownBlock) (Kd.R_keptB ((Kd.R_apart' HO_630002.out (ry_ HO_12.out) (by decide))) hkp (fun k_ hk_ hs_ => (hk_.2) hs_)) (fun k_ hk_ => hk_.1.1));replace BK600:=A_ (blk_kept (kq_ BK600) hkp (fun hs_ => (fun e_ => (re_ HO_12.out BK600.out (by decide)) e_) hs_));replace BK601:=A_ (blk_kept (kq_ BK601) hkp (fun hs_ => (fun e_ => (re_ HO_12.out BK601.out (by decide)) e_) hs_));replace BK623:=A_ (blk_kept (kq_ BK623) hkp (fun hs_ => (fun e_ => (re_ HO_12.out BK623.out (by decide)) e_) hs_));replace BK629:=A_ (blk_kept (kq_ BK629) hkp (fun hs_ => (fun e_ => (re_ HO_12.out BK629.out (by decide)) e_) hs_));replace HO_12:=A_ (Kd.R_reok rfl hy0 (fun k_ e_ => HO_12.out.1 k_ e_));replace HB:=A_ (hb);(try clear hb);(try clear hkp);(try clear hy0))|((with_reducible refine gate_callee (f:=38) rfl ?_);refine goesL_ (some 95) rfl rfl Try.func38 (by kernel_rfl) rfl #[.slice Ao108 t653.length co108,.int .i64 1] rfl (by (try simp only [s4_,s5_,s6_]);(rw [show t653.length = t630.length from (Kd.R_reads' HO_12.out).1.symm] <;> rfl)) ?_;(with_reducible refine (laws_heldRawS.calls kj76 _ _ t653 1 t654 _ ?side1 ?side2 A106.out).mono ?_);(case side1 => repeat (exact (Kd.R_reads' HO_12.out).2.2));(case side2 => rw [show t653.length = t630.length from (Kd.R_reads' HO_12.out).1.symm];exact (Kd.R_reads' HO_12.out).2.1);rintro e w110 ⟨rfl,hb⟩;refine ⟨_,rfl,?_⟩;replace HO_8:=rB_ HO_8 hb;replace HO_12:=rB_ HO_12 hb;replace HO_624002:=rB_ HO_624002 hb;replace HO_630002:=rB_ HO_630002 hb;replace BK600:=kB_ BK600 hb;replace BK601:=kB_ BK601 hb;replace BK623:=kB_ BK623 hb;replace BK629:=kB_ BK629 hb;replace HB:=bS_ HB hb;(try clear hb)))
             go_ret;exact ⟨ex_,bq_ HB⟩
            ·rw [if_neg c107] at H;have c107b0 : decide (t654 < 0) = false:=decide_eq_false c107;clear c107
             by_cases c111 : t654 = t652
             ·rw [if_pos c111] at H;have c111b0 : (t654 == t652) = true:=beq_iff_eq.mpr c111;have c111b1 : (t654 != t652) = false:=bne_eq_false_iff_eq.mpr c111;clear c111;replace H:=ob_.mp H;obtain ⟨⟨t655,t656,t657⟩,A1120,H⟩:=H;(try dsimp only at H);have A112:=A_ A1120;clear A1120;replace H:=ob_.mp H;obtain ⟨⟨t660,t661,t662⟩,A1130,H⟩:=H;(try dsimp only at H);have A113:=A_ A1130;clear A1130;replace H:=ob_.mp H;obtain ⟨⟨t665,t668⟩,A1140,H⟩:=H;(try dsimp only at H);have A114:=A_ A1140;clear A1140;have HC115:=A_ H;clear H;obtain ⟨Ao116,co116,eo116⟩:=Kd.R_slice HO_12.out;subst eo116
              try go_wp2_with (first|((with_reducible refine gate_callee (f:=37) rfl ?_);refine gL_ (some 92) Try.func37 #[.slice Ao116 t630.length co116,.int .i64 1] ?_;(with_reducible refine (laws_markRawS.calls kj76 (fun k_ => some k_ = (.slice Ao116 t630.length co116 : Value).ownBlock) (.slice Ao116 t630.length co116) t630 1 t652 t653 w _ ?side1 ?side2 A105.out).mono ?_);(case side1 => exact bq_ HB);(case side2 => exact Kd.R_tight rfl HO_12.out);rintro e w117 ⟨rfl,hy0,hb,hkp⟩;refine ⟨_,rfl,?_⟩;replace HO_8:=A_ (rm_ (ok':=fun k_ => some k_ ≠ (.slice Ao116 t630.length co116 : Value).ownBlock) (Kd.R_keptB (HO_8.out) hkp (fun k_ hk_ hs_ => (hk_) hs_)) (fun k_ hk_ => hk_.1));replace HO_624002:=A_ (rm_ (ok':=fun k_ => some k_ ≠ (.slice Ao57 t650.length co57 : Value).ownBlock) (Kd.R_keptB ((Kd.R_apart' HO_624002.out (ry_ HO_12.out) (by decide))) hkp (fun k_ hk_ hs_ => (hk_.2) hs_)) (fun k_ hk_ => hk_.1.1));replace HO_630002:=A_ (rm_ (ok':=fun k_ => some k_ ≠ (.slice Ao49 t648.length co49 : Value).ownBlock) (Kd.R_keptB ((Kd.R_apart' HO_630002.out (ry_ HO_12.out) (by decide))) hkp (fun k_ hk_ hs_ => (hk_.2) hs_)) (fun k_ hk_ => hk_.1.1));replace BK600:=A_ (blk_kept (kq_ BK600) hkp (fun hs_ => (fun e_ => (re_ HO_12.out BK600.out (by decide)) e_) hs_));replace BK601:=A_ (blk_kept (kq_ BK601) hkp (fun hs_ => (fun e_ => (re_ HO_12.out BK601.out (by decide)) e_) hs_));replace BK623:=A_ (blk_kept (kq_ BK623) hkp (fun hs_ => (fun e_ => (re_ HO_12.out BK623.out (by decide)) e_) hs_));replace BK629:=A_ (blk_kept (kq_ BK629) hkp (fun hs_ => (fun e_ => (re_ HO_12.out BK629.out (by decide)) e_) hs_));replace HO_12:=A_ (Kd.R_reok rfl hy0 (fun k_ e_ => HO_12.out.1 k_ e_));replace HB:=A_ (hb);(try clear hb);(try clear hkp);(try clear hy0))|((with_reducible refine gate_callee (f:=38) rfl ?_);refine goesL_ (some 95) rfl rfl Try.func38 (by kernel_rfl) rfl #[.slice Ao116 t653.length co116,.int .i64 1] rfl (by (try simp only [s4_,s5_,s6_]);(rw [show t653.length = t630.length from (Kd.R_reads' HO_12.out).1.symm] <;> rfl)) ?_;(with_reducible refine (laws_heldRawS.calls kj76 _ _ t653 1 t654 _ ?side1 ?side2 A106.out).mono ?_);(case side1 => repeat (exact (Kd.R_reads' HO_12.out).2.2));(case side2 => rw [show t653.length = t630.length from (Kd.R_reads' HO_12.out).1.symm];exact (Kd.R_reads' HO_12.out).2.1);rintro e w118 ⟨rfl,hb⟩;refine ⟨_,rfl,?_⟩;replace HO_8:=rB_ HO_8 hb;replace HO_12:=rB_ HO_12 hb;replace HO_624002:=rB_ HO_624002 hb;replace HO_630002:=rB_ HO_630002 hb;replace BK600:=kB_ BK600 hb;replace BK601:=kB_ BK601 hb;replace BK623:=kB_ BK623 hb;replace BK629:=kB_ BK629 hb;replace HB:=bS_ HB hb;(try clear hb)))
              replace HO_8:=A_ (Rd_ HO_8.out);replace HO_12:=A_ (Rd_ HO_12.out);replace HO_624002:=A_ (Rd_ HO_624002.out);replace HO_630002:=A_ (Rd_ HO_630002.out);replace BK600:=A_ (kd_ BK600.out);replace BK601:=A_ (kd_ BK601.out);replace BK623:=A_ (kd_ BK623.out);replace BK629:=A_ (kd_ BK629.out);replace HB:=A_ (pd_ HB.out);refine start_ (n:=11) (S:=fun w' => w'.cell? ⟨gb600,0,none⟩ = some (.int .i64 a1_0) ∧ w'.cell? ⟨gb600,1,none⟩ = some (.int .i64 a1_1) ∧ w'.cell? ⟨gb600,2,none⟩ = some (.slice A1_2 l1_2.length c1_2) ∧ w'.cell? ⟨gb601,0,none⟩ = some (.int .i64 a2_0) ∧ w'.cell? ⟨gb601,1,none⟩ = some (.int .i64 a2_1) ∧ w'.cell? ⟨gb601,2,none⟩ = some (.slice A2_2 l2_2.length c2_2)) (ds:=[]) #[false,false,false,false,false,false,false,false,false,false,false] (by kernel_rfl) rfl rfl ⟨kC_ BK600 0,kC_ BK600 1,kC_ BK600 2,kC_ BK601 0,kC_ BK601 1,kC_ BK601 2⟩ (fun hHeld => ?_);refine with_tabW laws_FnExactLogSteps.tab33 laws_FnExactLogSteps.bits33 (fun HT_ HW_ => ?_);generalize w118.drew = w119 at HO_8 HO_12 HO_624002 HO_630002 BK600 BK601 BK623 BK629 HB hHeld ⊢;refine pU_ 0 (some 102) ?_
              refine tK_ 1 (some 103) hHeld ?_
              refine tK_ 3 (some 105) hHeld ?_
              refine oN_ 2 (some 104) (fun K hK => ?_);refine gs_ Try.func34 #[.agg #[.int .i64 a1_0,.int .i64 a1_1,.slice A1_2 l1_2.length c1_2]] ?_;with_reducible refine (laws_toLog.calls kj76 a1_0 a1_1 _ _ l1_2 t655 t656 t657 _ ?side1 ?side2 A112.out).mono ?_
              (case side1 => repeat (exact (Kd.C_below HR1_2.out HB.out)))
              (case side2 => exact HC1_2.out)
              rintro e w120 ⟨v658,rfl,ho0,hb⟩;refine ⟨_,rfl,?_⟩;replace HO_8:=rB_ HO_8 hb;replace HO_12:=rB_ HO_12 hb;have HO659:=A_ (rw_ (Kd.R_new' (Kd.R_new' ho0 (Kd.R_lt (rq_ HO_624002))) (Kd.R_lt (rq_ HO_630002))) (bz_ (bq_ HB)));replace HO_624002:=A_ (Kd.R_elder' (rq_ HO_624002) (Kd.R_base ho0) hb);replace HO_630002:=A_ (Kd.R_elder' (rq_ HO_630002) (Kd.R_base ho0) hb);replace BK600:=kB_ BK600 hb;replace BK601:=kB_ BK601 hb;replace BK623:=kB_ BK623 hb;replace BK629:=kB_ BK629 hb;replace HB:=bS_ HB hb
              (try clear hb)
              (try clear ho0)
              refine hK.out _ _ ⟨kC_ BK600 0,kC_ BK600 1,kC_ BK600 2,kC_ BK601 0,kC_ BK601 1,kC_ BK601 2⟩ (fun hHeld => ?_);clear hK K;refine nX_ (some 104) ?_
              refine oN_ 4 (some 106) (fun K hK => ?_);refine gs_ Try.func34 #[.agg #[.int .i64 a2_0,.int .i64 a2_1,.slice A2_2 l2_2.length c2_2]] ?_;with_reducible refine (laws_toLog.calls kj76 a2_0 a2_1 _ _ l2_2 t660 t661 t662 _ ?side1 ?side2 A113.out).mono ?_
              (case side1 => repeat (exact (Kd.C_below HR2_2.out HB.out)))
              (case side2 => exact HC2_2.out)
              rintro e w121 ⟨v663,rfl,ho0,hb⟩;refine ⟨_,rfl,?_⟩;replace HO_8:=rB_ HO_8 hb;replace HO_12:=rB_ HO_12 hb;have HO664:=A_ (rw_ (Kd.R_new' (Kd.R_new' (Kd.R_new' ho0 (Kd.R_lt (rq_ HO_624002))) (Kd.R_lt (rq_ HO_630002))) (Kd.R_lt (rq_ HO659))) (bz_ (bq_ HB)));replace HO_624002:=A_ (Kd.R_elder' (rq_ HO_624002) (Kd.R_base ho0) hb);replace HO_630002:=A_ (Kd.R_elder' (rq_ HO_630002) (Kd.R_base ho0) hb);replace HO659:=A_ (Kd.R_elder' (rq_ HO659) (Kd.R_base ho0) hb);replace BK600:=kB_ BK600 hb;replace BK601:=kB_ BK601 hb;replace BK623:=kB_ BK623 hb;replace BK629:=kB_ BK629 hb;replace HB:=bS_ HB hb
              (try clear hb)
              (try clear ho0)
              obtain ⟨Ao122,co122,eo122⟩:=Kd.R_slice HO659.out
              (subst eo122)
              obtain ⟨Ao123,co123,eo123⟩:=Kd.R_slice HO664.out
              (subst eo123)
              refine hK.out _ _ ⟨kC_ BK600 0,kC_ BK600 1,kC_ BK600 2,kC_ BK601 0,kC_ BK601 1,kC_ BK601 2⟩ (fun hHeld => ?_);clear hK K;refine nX_ (some 106) ?_
              refine oN_ 5 (some 107) (fun K hK => ?_);refine gs_ Try.func35 #[.string a0,.agg #[.int .i64 t655,.int .i64 t656,.slice Ao122 t657.length co122],.agg #[.int .i64 t660,.int .i64 t661,.slice Ao123 t662.length co123]] ?_;with_reducible refine (impl_LogSteps.calls kj76 a0 t655 t656 _ _ t657 t660 t661 _ _ t662 t665 t668 _ ?side1 ?side2 ?side3 ?side4 A114.out).mono ?_
              (case side1 => repeat (exact (Kd.R_reads' HO659.out).2.2))
              (case side2 => exact (Kd.R_reads' HO659.out).2.1)
              (case side3 => repeat (exact (Kd.R_reads' HO664.out).2.2))
              (case side4 => exact (Kd.R_reads' HO664.out).2.1)
              rintro e w124 ⟨v666,rfl,ho0,hb⟩;refine ⟨_,rfl,?_⟩;replace HO_624002:=rB_ HO_624002 hb;replace HO_630002:=rB_ HO_630002 hb;replace HO659:=rB_ HO659 hb;replace HO664:=rB_ HO664 hb;have HO667:=A_ (rw_ (Kd.R_new' (Kd.R_new' ho0 (Kd.R_lt (rq_ HO_8))) (Kd.R_lt (rq_ HO_12))) (bz_ (bq_ HB)));replace HO_8:=A_ (Kd.R_elder' (rq_ HO_8) (Kd.R_base ho0) hb);replace HO_12:=A_ (Kd.R_elder' (rq_ HO_12) (Kd.R_base ho0) hb);replace BK600:=kB_ BK600 hb;replace BK601:=kB_ BK601 hb;replace BK623:=kB_ BK623 hb;replace BK629:=kB_ BK629 hb;replace HB:=bS_ HB hb
              (try clear hb)
              (try clear ho0)
              refine hK.out _ _ ⟨kC_ BK600 0,kC_ BK600 1,kC_ BK600 2,kC_ BK601 0,kC_ BK601 1,kC_ BK601 2⟩ (fun hHeld => ?_);clear hK K;refine nX_ (some 107) ?_
              refine pU_ 6 (some 101) ?_
              refine pU_ 7 (some 108) ?_
              refine pU_ 8 (some 109) ?_
              refine pU_ 9 (some 17) ?_
              refine pU_ 10 (some 18) ?_
              refine done_ (done_of HT_.out (by kernel_rfl)) ?_
              go_upto_region 34 with (fail)
              go_cut [118] (fun v118 wc => ∃ (kq : Nat) (x118_114 : Bool),v118 = .bool x118_114 ∧ Aside0 (laws_FnExactLogSteps.j2 kq t653 t652 x118_114 = some r) ∧ Aside0 (kq ≤ kj76) ∧ Aside0 (Kd.R k126 126 wc w.heap.size (fun _ => True) (.slice Ao116 t630.length co116) t653) ∧ Aside0 (Kd.R k69 69 wc w.heap.size (fun k_ => some k_ ≠ ((.slice Ao57 t650.length co57) : Value).ownBlock) (.slice Ao49 t648.length co49) t648) ∧ Aside0 (Kd.R k69 69 wc w.heap.size (fun k_ => some k_ ≠ ((.slice Ao49 t648.length co49) : Value).ownBlock) (.slice Ao57 t650.length co57) t650) ∧ Aside0 (wc.heap[gb600]? = some (.cells #[.int .i64 a1_0,.int .i64 a1_1,(.slice A1_2 l1_2.length c1_2)] 55 (0,0))) ∧ Aside0 (wc.heap[gb601]? = some (.cells #[.int .i64 a2_0,.int .i64 a2_1,(.slice A2_2 l2_2.length c2_2)] 55 (0,0))) ∧ Aside0 (wc.heap[gb623]? = some (.cells #[.int .i64 t618,.int .i64 t619,(.slice Ao49 t648.length co49)] 24 (0,0))) ∧ Aside0 (wc.heap[gb629]? = some (.cells #[.int .i64 t624,.int .i64 t625,(.slice Ao57 t650.length co57)] 24 (0,0))) ∧ Aside0 (Below w.heap.size w wc))
              case first =>
               have H:=HC115.out;clear HC115;replace H:=ob_.mp H;obtain ⟨t669,A1250,H⟩:=H;have A125:=A_ A1250;clear A1250
               by_cases c126 : t669 = true
               ·subst c126
                rw [if_pos rfl] at H;have H':=A_ H;clear H;obtain ⟨Ao127,co127,eo127⟩:=Kd.R_slice HO667.out;subst eo127;obtain ⟨Ao128,co128,eo128⟩:=Kd.R_slice HO_8.out;subst eo128
                go_wp2_with (((with_reducible refine gate_callee (f:=36) rfl ?_);refine gL_ (some 112) Try.func36 #[.slice Ao127 t665.length co127,.slice Ao128 t614.length co128] ?_;(with_reducible refine (laws_eqRawS.calls kj76 _ _ t665 _ _ t614 true _ ?side1 ?side2 ?side3 ?side4 A125.out).mono ?_);(case side1 => repeat (exact (Kd.R_reads' HO667.out).2.2));(case side2 => exact (Kd.R_reads' HO667.out).2.1);(case side3 => repeat (exact (Kd.R_reads' HO_8.out).2.2));(case side4 => exact (Kd.R_reads' HO_8.out).2.1);rintro e w129 ⟨rfl,hb⟩;refine ⟨_,rfl,?_⟩;replace HO_8:=rB_ HO_8 hb;replace HO_12:=rB_ HO_12 hb;replace HO_624002:=rB_ HO_624002 hb;replace HO_630002:=rB_ HO_630002 hb;replace HO659:=rB_ HO659 hb;replace HO664:=rB_ HO664 hb;replace HO667:=rB_ HO667 hb;replace BK600:=kB_ BK600 hb;replace BK601:=kB_ BK601 hb;replace BK623:=kB_ BK623 hb;replace BK629:=kB_ BK629 hb;replace HB:=bS_ HB hb;(try clear hb)))
                go_meet
                case rel => exact ⟨_,((t668 != t617)),(by rfl),H',⟨by have:=HJ28.out;have:=HJ76.out;omega⟩,⟨by skip;exact rm_ HO_12.out (fun _ hk => trivial)⟩,⟨by skip;exact rm_ HO_624002.out (fun _ hk => hk.1.1)⟩,⟨by skip;exact rm_ HO_630002.out (fun _ hk => hk.1.1)⟩,⟨by skip;exact BK600.out⟩,⟨by skip;exact BK601.out⟩,⟨by skip;exact BK623.out⟩,⟨by skip;exact BK629.out⟩,⟨bq_ HB⟩⟩
               ·replace c126:=Bool.eq_false_iff.mpr c126;subst c126
                have H1 : (laws_FnExactLogSteps.j2 kj76 t653 t652 true) = some r:=by rw [if_neg (show ¬ (false = true) by decide)] at H;exact H
                clear H;have H:=H1;clear H1;have H':=A_ H;clear H;obtain ⟨Ao130,co130,eo130⟩:=Kd.R_slice HO667.out;subst eo130;obtain ⟨Ao131,co131,eo131⟩:=Kd.R_slice HO_8.out;subst eo131
                go_wp2_with (((with_reducible refine gate_callee (f:=36) rfl ?_);refine gL_ (some 112) Try.func36 #[.slice Ao130 t665.length co130,.slice Ao131 t614.length co131] ?_;(with_reducible refine (laws_eqRawS.calls kj76 _ _ t665 _ _ t614 false _ ?side1 ?side2 ?side3 ?side4 A125.out).mono ?_);(case side1 => repeat (exact (Kd.R_reads' HO667.out).2.2));(case side2 => exact (Kd.R_reads' HO667.out).2.1);(case side3 => repeat (exact (Kd.R_reads' HO_8.out).2.2));(case side4 => exact (Kd.R_reads' HO_8.out).2.1);rintro e w132 ⟨rfl,hb⟩;refine ⟨_,rfl,?_⟩;replace HO_8:=rB_ HO_8 hb;replace HO_12:=rB_ HO_12 hb;replace HO_624002:=rB_ HO_624002 hb;replace HO_630002:=rB_ HO_630002 hb;replace HO659:=rB_ HO659 hb;replace HO664:=rB_ HO664 hb;replace HO667:=rB_ HO667 hb;replace BK600:=kB_ BK600 hb;replace BK601:=kB_ BK601 hb;replace BK623:=kB_ BK623 hb;replace BK629:=kB_ BK629 hb;replace HB:=bS_ HB hb;(try clear hb)))
                go_meet
                case rel => exact ⟨_,(true),(by rfl),H',⟨by have:=HJ28.out;have:=HJ76.out;omega⟩,⟨by skip;exact rm_ HO_12.out (fun _ hk => trivial)⟩,⟨by skip;exact rm_ HO_624002.out (fun _ hk => hk.1.1)⟩,⟨by skip;exact rm_ HO_630002.out (fun _ hk => hk.1.1)⟩,⟨by skip;exact BK600.out⟩,⟨by skip;exact BK601.out⟩,⟨by skip;exact BK623.out⟩,⟨by skip;exact BK629.out⟩,⟨bq_ HB⟩⟩
              case rest =>
               clear HC115
               try clear c1
               try clear c2
               try clear p2
               try clear c3
               try clear c4
               try clear c4b0
               try clear c4b1
               try clear c5
               try clear c6
               try clear c7
               try clear c8
               try clear c8b0
               try clear c9
               try clear c10
               try clear c11
               try clear c12
               try clear c15
               try clear c15b0
               try clear c18
               try clear c32
               try clear c33
               try clear c34
               try clear c35
               try clear c36
               try clear c37
               try clear c38
               try clear c46
               try clear c47
               try clear c53
               try clear c54
               try clear c55
               try clear c61
               try clear c68
               try clear c71
               try clear c74
               try clear c86
               try clear c87
               try clear c88
               try clear c91
               try clear c92
               try clear c95
               try clear c95b0
               try clear c97
               try clear c104
               try clear c107
               try clear c107b0
               try clear c111
               try clear c111b0
               try clear c111b1
               try clear c126
               try clear hcz12_0
               try clear hcz12_1
               try clear hcz12_2
               try clear hcz19_0
               try clear hcz19_1
               try clear hcz19_2
               try clear hcz21_0
               try clear hcz21_1
               try clear hcz21_2
               try clear hcz33_0
               try clear hcz33_1
               try clear hcz33_2
               try clear hcz35_0
               try clear hcz35_1
               try clear hcz35_2
               try clear hcz43_0
               try clear hcz43_1
               try clear hcz43_2
               try clear hcz48_0
               try clear hcz48_1
               try clear hcz48_2
               try clear hcz50_0
               try clear hcz50_1
               try clear hcz50_2
               try clear hcz56_0
               try clear hcz56_1
               try clear hcz56_2
               try clear hcz58_0
               try clear hcz58_1
               try clear hcz58_2
               try clear hcz89_0
               try clear hcz89_1
               try clear hcz89_2
               try clear hcz93_0
               try clear hcz93_1
               try clear hcz93_2
               try clear hfz12_0
               try clear hfz12_1
               try clear hfz12_2
               try clear hfz19_0
               try clear hfz19_1
               try clear hfz19_2
               try clear hfz21_0
               try clear hfz21_1
               try clear hfz21_2
               try clear hfz33_0
               try clear hfz33_1
               try clear hfz33_2
               try clear hfz35_0
               try clear hfz35_1
               try clear hfz35_2
               try clear hfz43_0
               try clear hfz43_1
               try clear hfz43_2
               try clear hfz48_0
               try clear hfz48_1
               try clear hfz48_2
               try clear hfz50_0
               try clear hfz50_1
               try clear hfz50_2
               try clear hfz56_0
               try clear hfz56_1
               try clear hfz56_2
               try clear hfz58_0
               try clear hfz58_1
               try clear hfz58_2
               try clear hfz89_0
               try clear hfz89_1
               try clear hfz89_2
               try clear hfz93_0
               try clear hfz93_1
               try clear hfz93_2
               try clear p2
               obtain ⟨kq,x118_114,rfl,HA,HJ114,HO_12,HO_624002,HO_630002,BK600,BK601,BK623,BK629,HB⟩:=hcut;have hl12_114:=(Kd.R_reads' HO_12.out).1;rw [hl12_114] at HO_12
               (try simp only [hl12_114])
               cases kq with
               | zero => exact absurd HA.out (by simp [laws_FnExactLogSteps.j2])
               | succ kj114 =>
                have H:=HA.out;clear HA;simp only [laws_FnExactLogSteps.j2] at H
                by_cases c133 : x118_114 = true
                ·subst c133
                 rw [if_pos rfl] at H;obtain rfl:=Option.some.inj H;go_wp2;go_ret;exact ⟨ex_,bq_ HB⟩
                ·replace c133:=Bool.eq_false_iff.mpr c133;subst c133
                 have H1 : ((laws_heldRawS.f kj114 t653 1).bind fun t670 => (if t670 < 0 then (some false) else (if t670 = t652 then (some true) else (some false)))) = some r:=by rw [if_neg (show ¬ (false = true) by decide)] at H;exact H
                 clear H;have H:=H1;clear H1;replace H:=ob_.mp H;obtain ⟨t670,A1340,H⟩:=H;have A134:=A_ A1340;clear A1340
                 by_cases c135 : t670 < 0
                 ·rw [if_pos c135] at H;have c135b0 : decide (t670 < 0) = true:=de_ c135;clear c135;obtain rfl:=Option.some.inj H
                  go_wp2_with (((with_reducible refine gate_callee (f:=38) rfl ?_);refine gL_ (some 121) Try.func38 #[.slice Ao116 t653.length co116,.int .i64 1] ?_;(with_reducible refine (laws_heldRawS.calls kj114 _ _ t653 1 t670 _ ?side1 ?side2 A134.out).mono ?_);(case side1 => repeat (exact (Kd.R_reads' HO_12.out).2.2));(case side2 => exact (Kd.R_reads' HO_12.out).2.1);rintro e w136 ⟨rfl,hb⟩;refine ⟨_,rfl,?_⟩;replace HO_12:=rB_ HO_12 hb;replace HO_624002:=rB_ HO_624002 hb;replace HO_630002:=rB_ HO_630002 hb;replace BK600:=kB_ BK600 hb;replace BK601:=kB_ BK601 hb;replace BK623:=kB_ BK623 hb;replace BK629:=kB_ BK629 hb;replace HB:=bS_ HB hb;(try clear hb)))
                  go_ret;exact ⟨ex_,bq_ HB⟩
                 ·rw [if_neg c135] at H;have c135b0 : decide (t670 < 0) = false:=decide_eq_false c135;clear c135
                  by_cases c137 : t670 = t652
                  ·rw [if_pos c137] at H;have c137b0 : (t670 == t652) = true:=beq_iff_eq.mpr c137;have c137b1 : (t670 != t652) = false:=bne_eq_false_iff_eq.mpr c137;clear c137;obtain rfl:=Option.some.inj H
                   go_wp2_with (((with_reducible refine gate_callee (f:=38) rfl ?_);refine gL_ (some 121) Try.func38 #[.slice Ao116 t653.length co116,.int .i64 1] ?_;(with_reducible refine (laws_heldRawS.calls kj114 _ _ t653 1 t670 _ ?side1 ?side2 A134.out).mono ?_);(case side1 => repeat (exact (Kd.R_reads' HO_12.out).2.2));(case side2 => exact (Kd.R_reads' HO_12.out).2.1);rintro e w138 ⟨rfl,hb⟩;refine ⟨_,rfl,?_⟩;replace HO_12:=rB_ HO_12 hb;replace HO_624002:=rB_ HO_624002 hb;replace HO_630002:=rB_ HO_630002 hb;replace BK600:=kB_ BK600 hb;replace BK601:=kB_ BK601 hb;replace BK623:=kB_ BK623 hb;replace BK629:=kB_ BK629 hb;replace HB:=bS_ HB hb;(try clear hb)))
                   go_ret;exact ⟨ex_,bq_ HB⟩
                  ·rw [if_neg c137] at H;have c137b0 : (t670 == t652) = false:=beq_eq_false_iff_ne.mpr c137;have c137b1 : (t670 != t652) = true:=bne_iff_ne.mpr c137;obtain rfl:=Option.some.inj H
                   go_wp2_with (((with_reducible refine gate_callee (f:=38) rfl ?_);refine gL_ (some 121) Try.func38 #[.slice Ao116 t653.length co116,.int .i64 1] ?_;(with_reducible refine (laws_heldRawS.calls kj114 _ _ t653 1 t670 _ ?side1 ?side2 A134.out).mono ?_);(case side1 => repeat (exact (Kd.R_reads' HO_12.out).2.2));(case side2 => exact (Kd.R_reads' HO_12.out).2.1);rintro e w139 ⟨rfl,hb⟩;refine ⟨_,rfl,?_⟩;replace HO_12:=rB_ HO_12 hb;replace HO_624002:=rB_ HO_624002 hb;replace HO_630002:=rB_ HO_630002 hb;replace BK600:=kB_ BK600 hb;replace BK601:=kB_ BK601 hb;replace BK623:=kB_ BK623 hb;replace BK629:=kB_ BK629 hb;replace HB:=bS_ HB hb;(try clear hb)))
                   go_ret;exact ⟨ex_,bq_ HB⟩
             ·rw [if_neg c111] at H;have c111b0 : (t654 == t652) = false:=beq_eq_false_iff_ne.mpr c111;have c111b1 : (t654 != t652) = true:=bne_iff_ne.mpr c111;obtain rfl:=Option.some.inj H;obtain ⟨Ao140,co140,eo140⟩:=Kd.R_slice HO_12.out;subst eo140
              go_wp2_with (first|((with_reducible refine gate_callee (f:=37) rfl ?_);refine gL_ (some 92) Try.func37 #[.slice Ao140 t630.length co140,.int .i64 1] ?_;(with_reducible refine (laws_markRawS.calls kj76 (fun k_ => some k_ = (.slice Ao140 t630.length co140 : Value).ownBlock) (.slice Ao140 t630.length co140) t630 1 t652 t653 w _ ?side1 ?side2 A105.out).mono ?_);(case side1 => exact bq_ HB);(case side2 => exact Kd.R_tight rfl HO_12.out);rintro e w141 ⟨rfl,hy0,hb,hkp⟩;refine ⟨_,rfl,?_⟩;replace HO_8:=A_ (rm_ (ok':=fun k_ => some k_ ≠ (.slice Ao140 t630.length co140 : Value).ownBlock) (Kd.R_keptB (HO_8.out) hkp (fun k_ hk_ hs_ => (hk_) hs_)) (fun k_ hk_ => hk_.1));replace HO_624002:=A_ (rm_ (ok':=fun k_ => some k_ ≠ (.slice Ao57 t650.length co57 : Value).ownBlock) (Kd.R_keptB ((Kd.R_apart' HO_624002.out (ry_ HO_12.out) (by decide))) hkp (fun k_ hk_ hs_ => (hk_.2) hs_)) (fun k_ hk_ => hk_.1.1));replace HO_630002:=A_ (rm_ (ok':=fun k_ => some k_ ≠ (.slice Ao49 t648.length co49 : Value).ownBlock) (Kd.R_keptB ((Kd.R_apart' HO_630002.out (ry_ HO_12.out) (by decide))) hkp (fun k_ hk_ hs_ => (hk_.2) hs_)) (fun k_ hk_ => hk_.1.1));replace BK600:=A_ (blk_kept (kq_ BK600) hkp (fun hs_ => (fun e_ => (re_ HO_12.out BK600.out (by decide)) e_) hs_));replace BK601:=A_ (blk_kept (kq_ BK601) hkp (fun hs_ => (fun e_ => (re_ HO_12.out BK601.out (by decide)) e_) hs_));replace BK623:=A_ (blk_kept (kq_ BK623) hkp (fun hs_ => (fun e_ => (re_ HO_12.out BK623.out (by decide)) e_) hs_));replace BK629:=A_ (blk_kept (kq_ BK629) hkp (fun hs_ => (fun e_ => (re_ HO_12.out BK629.out (by decide)) e_) hs_));replace HO_12:=A_ (Kd.R_reok rfl hy0 (fun k_ e_ => HO_12.out.1 k_ e_));replace HB:=A_ (hb);(try clear hb);(try clear hkp);(try clear hy0))|((with_reducible refine gate_callee (f:=38) rfl ?_);refine goesL_ (some 95) rfl rfl Try.func38 (by kernel_rfl) rfl #[.slice Ao140 t653.length co140,.int .i64 1] rfl (by (try simp only [s4_,s5_,s6_]);(rw [show t653.length = t630.length from (Kd.R_reads' HO_12.out).1.symm] <;> rfl)) ?_;(with_reducible refine (laws_heldRawS.calls kj76 _ _ t653 1 t654 _ ?side1 ?side2 A106.out).mono ?_);(case side1 => repeat (exact (Kd.R_reads' HO_12.out).2.2));(case side2 => rw [show t653.length = t630.length from (Kd.R_reads' HO_12.out).1.symm];exact (Kd.R_reads' HO_12.out).2.1);rintro e w142 ⟨rfl,hb⟩;refine ⟨_,rfl,?_⟩;replace HO_8:=rB_ HO_8 hb;replace HO_12:=rB_ HO_12 hb;replace HO_624002:=rB_ HO_624002 hb;replace HO_630002:=rB_ HO_630002 hb;replace BK600:=kB_ BK600 hb;replace BK601:=kB_ BK601 hb;replace BK623:=kB_ BK623 hb;replace BK629:=kB_ BK629 hb;replace HB:=bS_ HB hb;(try clear hb)))
              go_ret;exact ⟨ex_,bq_ HB⟩
        ·replace c74:=Bool.eq_false_iff.mpr c74;subst c74
         have H1 : (some false) = some r:=by rw [if_neg (show ¬ (false = true) by decide)] at H;exact H
         clear H;have H:=H1;clear H1;obtain rfl:=Option.some.inj H
         try go_wp2
         replace HO_8:=A_ (Rd_ HO_8.out);replace HO_12:=A_ (Rd_ HO_12.out);replace HO_624002:=A_ (Rd_ HO_624002.out);replace HO_630002:=A_ (Rd_ HO_630002.out);replace BK600:=A_ (kd_ BK600.out);replace BK601:=A_ (kd_ BK601.out);replace BK623:=A_ (kd_ BK623.out);replace BK629:=A_ (kd_ BK629.out);replace HB:=A_ (pd_ HB.out);refine start_ (n:=5) (S:=fun w' => w'.cell? ⟨gb623,0,none⟩ = some (.int .i64 t618) ∧ w'.cell? ⟨gb623,1,none⟩ = some (.int .i64 t619) ∧ w'.cell? ⟨gb623,2,none⟩ = some (.slice Ao49 t620.length co49) ∧ w'.cell? ⟨gb600,0,none⟩ = some (.int .i64 a1_0) ∧ w'.cell? ⟨gb600,1,none⟩ = some (.int .i64 a1_1) ∧ w'.cell? ⟨gb600,2,none⟩ = some (.slice A1_2 l1_2.length c1_2)) (ds:=[]) #[false,false,false,false,false] (by kernel_rfl) rfl rfl ⟨kC_ BK623 0,kC_ BK623 1,kC_ BK623 2,kC_ BK600 0,kC_ BK600 1,kC_ BK600 2⟩ (fun hHeld => ?_);generalize wc.drew = w143 at HO_8 HO_12 HO_624002 HO_630002 BK600 BK601 BK623 BK629 HB hHeld ⊢;refine take_ (i:=0) (N:=some 61) (v:=?_) (a':=?_) #[true,false,false,false,false] rfl rfl (by kernel_rfl) (fun _ _ _ h => h) (Or.inl ⟨by rfl,?_⟩) hHeld ?_ ?_;rotate_left
         ·rintro w' ⟨s0,s1,s2,s3,s4,s5⟩;go_simp;with_reducible rfl
         rotate_left
         ·exact ux_
         refine take_ (i:=1) (N:=some 62) (v:=?_) (a':=?_) #[true,true,false,false,false] rfl rfl (by kernel_rfl) (fun _ _ _ h => h) (Or.inl ⟨by rfl,?_⟩) hHeld ?_ ?_;rotate_left
         ·rintro w' ⟨s0,s1,s2,s3,s4,s5⟩;go_simp;with_reducible rfl
         rotate_left
         ·exact ux_
         refine one_ (i:=2) (N:=some 63) #[true,true,true,false,false] rfl rfl (by kernel_rfl) (by decide) (fun K hK => ?_);refine gs_ Try.func34 #[.agg #[.int .i64 a1_0,.int .i64 a1_1,.slice A1_2 l1_2.length c1_2]] ?_;with_reducible refine (laws_toLog.calls kj28 a1_0 a1_1 _ _ l1_2 t635 t636 t637 _ ?side1 ?side2 A69.out).mono ?_
         (case side1 => repeat (exact (Kd.C_below HR1_2.out HB.out)))
         (case side2 => exact HC1_2.out)
         rintro e w144 ⟨v638,rfl,ho0,hb⟩;refine ⟨_,rfl,?_⟩;replace HO_8:=rB_ HO_8 hb;replace HO_12:=rB_ HO_12 hb;have HO639:=A_ (rw_ (Kd.R_new' (Kd.R_new' ho0 (Kd.R_lt (rq_ HO_624002))) (Kd.R_lt (rq_ HO_630002))) (bz_ (bq_ HB)));replace HO_624002:=A_ (Kd.R_elder' (rq_ HO_624002) (Kd.R_base ho0) hb);replace HO_630002:=A_ (Kd.R_elder' (rq_ HO_630002) (Kd.R_base ho0) hb);replace BK600:=kB_ BK600 hb;replace BK601:=kB_ BK601 hb;replace BK623:=kB_ BK623 hb;replace BK629:=kB_ BK629 hb;replace HB:=bS_ HB hb
         (try clear hb)
         (try clear ho0)
         obtain ⟨Ao145,co145,eo145⟩:=Kd.R_slice HO639.out
         (subst eo145)
         refine hK.out _ _ ⟨kC_ BK623 0,kC_ BK623 1,kC_ BK623 2,kC_ BK600 0,kC_ BK600 1,kC_ BK600 2⟩ (fun hHeld => ?_);clear hK K;refine nX_ (some 63) ?_
         refine one_ (i:=3) (N:=some 64) #[true,true,true,true,false] rfl rfl (by kernel_rfl) (by decide) (fun K hK => ?_);refine gs_ Try.func10 #[.agg #[.int .i64 t618,.int .i64 t619,.slice Ao49 t620.length co49],.agg #[.int .i64 t635,.int .i64 t636,.slice Ao145 t637.length co145]] ?_;with_reducible refine (laws_eqLog.calls kj28 t618 t619 _ _ t620 t635 t636 _ _ t637 true _ ?side1 ?side2 ?side3 ?side4 A70.out).mono ?_
         (case side1 => repeat (exact (Kd.R_reads' HO_624002.out).2.2))
         (case side2 => exact (Kd.R_reads' HO_624002.out).2.1)
         (case side3 => repeat (exact (Kd.R_reads' HO639.out).2.2))
         (case side4 => exact (Kd.R_reads' HO639.out).2.1)
         rintro e w146 ⟨rfl,hb⟩;refine ⟨_,rfl,?_⟩;replace HO_8:=rB_ HO_8 hb;replace HO_12:=rB_ HO_12 hb;replace HO_624002:=rB_ HO_624002 hb;replace HO_630002:=rB_ HO_630002 hb;replace HO639:=rB_ HO639 hb;replace BK600:=kB_ BK600 hb;replace BK601:=kB_ BK601 hb;replace BK623:=kB_ BK623 hb;replace BK629:=kB_ BK629 hb;replace HB:=bS_ HB hb
         (try clear hb)
         refine hK.out _ _ ⟨kC_ BK623 0,kC_ BK623 1,kC_ BK623 2,kC_ BK600 0,kC_ BK600 1,kC_ BK600 2⟩ (fun hHeld => ?_);clear hK K;refine nX_ (some 64) ?_
         refine pure_ (i:=4) (N:=some 65) (v:=?_) (a':=?_) #[true,true,true,true,true] rfl rfl (by kernel_rfl) (fun _ _ _ h => h) (Or.inl ⟨by rfl,?_⟩) ?_ ?_;rotate_left
         ·intro w';go_simp;with_reducible rfl
         rotate_left
         ·exact ux_
         refine done_ (by kernel_rfl) ?_
         try go_wp2
         replace HO_8:=A_ (Rd_ HO_8.out);replace HO_12:=A_ (Rd_ HO_12.out);replace HO_624002:=A_ (Rd_ HO_624002.out);replace HO_630002:=A_ (Rd_ HO_630002.out);replace HO639:=A_ (Rd_ HO639.out);replace BK600:=A_ (kd_ BK600.out);replace BK601:=A_ (kd_ BK601.out);replace BK623:=A_ (kd_ BK623.out);replace BK629:=A_ (kd_ BK629.out);replace HB:=A_ (pd_ HB.out);refine start_ (n:=5) (S:=fun w' => w'.cell? ⟨gb629,0,none⟩ = some (.int .i64 t624) ∧ w'.cell? ⟨gb629,1,none⟩ = some (.int .i64 t625) ∧ w'.cell? ⟨gb629,2,none⟩ = some (.slice Ao57 t626.length co57) ∧ w'.cell? ⟨gb601,0,none⟩ = some (.int .i64 a2_0) ∧ w'.cell? ⟨gb601,1,none⟩ = some (.int .i64 a2_1) ∧ w'.cell? ⟨gb601,2,none⟩ = some (.slice A2_2 l2_2.length c2_2)) (ds:=[]) #[false,false,false,false,false] (by kernel_rfl) rfl rfl ⟨kC_ BK629 0,kC_ BK629 1,kC_ BK629 2,kC_ BK601 0,kC_ BK601 1,kC_ BK601 2⟩ (fun hHeld => ?_);generalize w146.drew = w147 at HO_8 HO_12 HO_624002 HO_630002 HO639 BK600 BK601 BK623 BK629 HB hHeld ⊢;refine take_ (i:=0) (N:=some 66) (v:=?_) (a':=?_) #[true,false,false,false,false] rfl rfl (by kernel_rfl) (fun _ _ _ h => h) (Or.inl ⟨by rfl,?_⟩) hHeld ?_ ?_;rotate_left
         ·rintro w' ⟨s0,s1,s2,s3,s4,s5⟩;go_simp;with_reducible rfl
         rotate_left
         ·exact ux_
         refine take_ (i:=1) (N:=some 67) (v:=?_) (a':=?_) #[true,true,false,false,false] rfl rfl (by kernel_rfl) (fun _ _ _ h => h) (Or.inl ⟨by rfl,?_⟩) hHeld ?_ ?_;rotate_left
         ·rintro w' ⟨s0,s1,s2,s3,s4,s5⟩;go_simp;with_reducible rfl
         rotate_left
         ·exact ux_
         refine one_ (i:=2) (N:=some 68) #[true,true,true,false,false] rfl rfl (by kernel_rfl) (by decide) (fun K hK => ?_);refine gs_ Try.func34 #[.agg #[.int .i64 a2_0,.int .i64 a2_1,.slice A2_2 l2_2.length c2_2]] ?_;with_reducible refine (laws_toLog.calls kj28 a2_0 a2_1 _ _ l2_2 t641 t642 t643 _ ?side1 ?side2 A72.out).mono ?_
         (case side1 => repeat (exact (Kd.C_below HR2_2.out HB.out)))
         (case side2 => exact HC2_2.out)
         rintro e w148 ⟨v644,rfl,ho0,hb⟩;refine ⟨_,rfl,?_⟩;replace HO_8:=rB_ HO_8 hb;replace HO_12:=rB_ HO_12 hb;have HO645:=A_ (rw_ (Kd.R_new' (Kd.R_new' (Kd.R_new' ho0 (Kd.R_lt (rq_ HO_624002))) (Kd.R_lt (rq_ HO_630002))) (Kd.R_lt (rq_ HO639))) (bz_ (bq_ HB)));replace HO_624002:=A_ (Kd.R_elder' (rq_ HO_624002) (Kd.R_base ho0) hb);replace HO_630002:=A_ (Kd.R_elder' (rq_ HO_630002) (Kd.R_base ho0) hb);replace HO639:=A_ (Kd.R_elder' (rq_ HO639) (Kd.R_base ho0) hb);replace BK600:=kB_ BK600 hb;replace BK601:=kB_ BK601 hb;replace BK623:=kB_ BK623 hb;replace BK629:=kB_ BK629 hb;replace HB:=bS_ HB hb
         (try clear hb)
         (try clear ho0)
         obtain ⟨Ao149,co149,eo149⟩:=Kd.R_slice HO645.out
         (subst eo149)
         refine hK.out _ _ ⟨kC_ BK629 0,kC_ BK629 1,kC_ BK629 2,kC_ BK601 0,kC_ BK601 1,kC_ BK601 2⟩ (fun hHeld => ?_);clear hK K;refine nX_ (some 68) ?_
         refine one_ (i:=3) (N:=some 69) #[true,true,true,true,false] rfl rfl (by kernel_rfl) (by decide) (fun K hK => ?_);refine gs_ Try.func10 #[.agg #[.int .i64 t624,.int .i64 t625,.slice Ao57 t626.length co57],.agg #[.int .i64 t641,.int .i64 t642,.slice Ao149 t643.length co149]] ?_;with_reducible refine (laws_eqLog.calls kj28 t624 t625 _ _ t626 t641 t642 _ _ t643 false _ ?side1 ?side2 ?side3 ?side4 A73.out).mono ?_
         (case side1 => repeat (exact (Kd.R_reads' HO_630002.out).2.2))
         (case side2 => exact (Kd.R_reads' HO_630002.out).2.1)
         (case side3 => repeat (exact (Kd.R_reads' HO645.out).2.2))
         (case side4 => exact (Kd.R_reads' HO645.out).2.1)
         rintro e w150 ⟨rfl,hb⟩;refine ⟨_,rfl,?_⟩;replace HO_8:=rB_ HO_8 hb;replace HO_12:=rB_ HO_12 hb;replace HO_624002:=rB_ HO_624002 hb;replace HO_630002:=rB_ HO_630002 hb;replace HO639:=rB_ HO639 hb;replace HO645:=rB_ HO645 hb;replace BK600:=kB_ BK600 hb;replace BK601:=kB_ BK601 hb;replace BK623:=kB_ BK623 hb;replace BK629:=kB_ BK629 hb;replace HB:=bS_ HB hb
         (try clear hb)
         refine hK.out _ _ ⟨kC_ BK629 0,kC_ BK629 1,kC_ BK629 2,kC_ BK601 0,kC_ BK601 1,kC_ BK601 2⟩ (fun hHeld => ?_);clear hK K;refine nX_ (some 69) ?_
         refine pure_ (i:=4) (N:=some 70) (v:=?_) (a':=?_) #[true,true,true,true,true] rfl rfl (by kernel_rfl) (fun _ _ _ h => h) (Or.inl ⟨by rfl,?_⟩) ?_ ?_;rotate_left
         ·intro w';go_simp;with_reducible rfl
         rotate_left
         ·exact ux_
         refine done_ (by kernel_rfl) ?_
         try go_wp2
         go_ret;exact ⟨ex_,bq_ HB⟩
       ·replace c71:=Bool.eq_false_iff.mpr c71;subst c71
        have H1 : (some false) = some r:=by rw [if_neg (show ¬ (false = true) by decide)] at H;exact H
        clear H;have H:=H1;clear H1;obtain rfl:=Option.some.inj H
        try go_wp2
        replace HO_8:=A_ (Rd_ HO_8.out);replace HO_12:=A_ (Rd_ HO_12.out);replace HO_624002:=A_ (Rd_ HO_624002.out);replace HO_630002:=A_ (Rd_ HO_630002.out);replace BK600:=A_ (kd_ BK600.out);replace BK601:=A_ (kd_ BK601.out);replace BK623:=A_ (kd_ BK623.out);replace BK629:=A_ (kd_ BK629.out);replace HB:=A_ (pd_ HB.out);refine start_ (n:=5) (S:=fun w' => w'.cell? ⟨gb623,0,none⟩ = some (.int .i64 t618) ∧ w'.cell? ⟨gb623,1,none⟩ = some (.int .i64 t619) ∧ w'.cell? ⟨gb623,2,none⟩ = some (.slice Ao49 t620.length co49) ∧ w'.cell? ⟨gb600,0,none⟩ = some (.int .i64 a1_0) ∧ w'.cell? ⟨gb600,1,none⟩ = some (.int .i64 a1_1) ∧ w'.cell? ⟨gb600,2,none⟩ = some (.slice A1_2 l1_2.length c1_2)) (ds:=[]) #[false,false,false,false,false] (by kernel_rfl) rfl rfl ⟨kC_ BK623 0,kC_ BK623 1,kC_ BK623 2,kC_ BK600 0,kC_ BK600 1,kC_ BK600 2⟩ (fun hHeld => ?_);generalize wc.drew = w151 at HO_8 HO_12 HO_624002 HO_630002 BK600 BK601 BK623 BK629 HB hHeld ⊢;refine take_ (i:=0) (N:=some 61) (v:=?_) (a':=?_) #[true,false,false,false,false] rfl rfl (by kernel_rfl) (fun _ _ _ h => h) (Or.inl ⟨by rfl,?_⟩) hHeld ?_ ?_;rotate_left
        ·rintro w' ⟨s0,s1,s2,s3,s4,s5⟩;go_simp;with_reducible rfl
        rotate_left
        ·exact ux_
        refine take_ (i:=1) (N:=some 62) (v:=?_) (a':=?_) #[true,true,false,false,false] rfl rfl (by kernel_rfl) (fun _ _ _ h => h) (Or.inl ⟨by rfl,?_⟩) hHeld ?_ ?_;rotate_left
        ·rintro w' ⟨s0,s1,s2,s3,s4,s5⟩;go_simp;with_reducible rfl
        rotate_left
        ·exact ux_
        refine one_ (i:=2) (N:=some 63) #[true,true,true,false,false] rfl rfl (by kernel_rfl) (by decide) (fun K hK => ?_);refine gs_ Try.func34 #[.agg #[.int .i64 a1_0,.int .i64 a1_1,.slice A1_2 l1_2.length c1_2]] ?_;with_reducible refine (laws_toLog.calls kj28 a1_0 a1_1 _ _ l1_2 t635 t636 t637 _ ?side1 ?side2 A69.out).mono ?_
        (case side1 => repeat (exact (Kd.C_below HR1_2.out HB.out)))
        (case side2 => exact HC1_2.out)
        rintro e w152 ⟨v638,rfl,ho0,hb⟩;refine ⟨_,rfl,?_⟩;replace HO_8:=rB_ HO_8 hb;replace HO_12:=rB_ HO_12 hb;have HO639:=A_ (rw_ (Kd.R_new' (Kd.R_new' ho0 (Kd.R_lt (rq_ HO_624002))) (Kd.R_lt (rq_ HO_630002))) (bz_ (bq_ HB)));replace HO_624002:=A_ (Kd.R_elder' (rq_ HO_624002) (Kd.R_base ho0) hb);replace HO_630002:=A_ (Kd.R_elder' (rq_ HO_630002) (Kd.R_base ho0) hb);replace BK600:=kB_ BK600 hb;replace BK601:=kB_ BK601 hb;replace BK623:=kB_ BK623 hb;replace BK629:=kB_ BK629 hb;replace HB:=bS_ HB hb
        (try clear hb)
        (try clear ho0)
        obtain ⟨Ao153,co153,eo153⟩:=Kd.R_slice HO639.out
        (subst eo153)
        refine hK.out _ _ ⟨kC_ BK623 0,kC_ BK623 1,kC_ BK623 2,kC_ BK600 0,kC_ BK600 1,kC_ BK600 2⟩ (fun hHeld => ?_);clear hK K;refine nX_ (some 63) ?_
        refine one_ (i:=3) (N:=some 64) #[true,true,true,true,false] rfl rfl (by kernel_rfl) (by decide) (fun K hK => ?_);refine gs_ Try.func10 #[.agg #[.int .i64 t618,.int .i64 t619,.slice Ao49 t620.length co49],.agg #[.int .i64 t635,.int .i64 t636,.slice Ao153 t637.length co153]] ?_;with_reducible refine (laws_eqLog.calls kj28 t618 t619 _ _ t620 t635 t636 _ _ t637 false _ ?side1 ?side2 ?side3 ?side4 A70.out).mono ?_
        (case side1 => repeat (exact (Kd.R_reads' HO_624002.out).2.2))
        (case side2 => exact (Kd.R_reads' HO_624002.out).2.1)
        (case side3 => repeat (exact (Kd.R_reads' HO639.out).2.2))
        (case side4 => exact (Kd.R_reads' HO639.out).2.1)
        rintro e w154 ⟨rfl,hb⟩;refine ⟨_,rfl,?_⟩;replace HO_8:=rB_ HO_8 hb;replace HO_12:=rB_ HO_12 hb;replace HO_624002:=rB_ HO_624002 hb;replace HO_630002:=rB_ HO_630002 hb;replace HO639:=rB_ HO639 hb;replace BK600:=kB_ BK600 hb;replace BK601:=kB_ BK601 hb;replace BK623:=kB_ BK623 hb;replace BK629:=kB_ BK629 hb;replace HB:=bS_ HB hb
        (try clear hb)
        refine hK.out _ _ ⟨kC_ BK623 0,kC_ BK623 1,kC_ BK623 2,kC_ BK600 0,kC_ BK600 1,kC_ BK600 2⟩ (fun hHeld => ?_);clear hK K;refine nX_ (some 64) ?_
        refine pure_ (i:=4) (N:=some 65) (v:=?_) (a':=?_) #[true,true,true,true,true] rfl rfl (by kernel_rfl) (fun _ _ _ h => h) (Or.inl ⟨by rfl,?_⟩) ?_ ?_;rotate_left
        ·intro w';go_simp;with_reducible rfl
        rotate_left
        ·exact ux_
        refine done_ (by kernel_rfl) ?_
        try go_wp2
        go_ret;exact ⟨ex_,bq_ HB⟩
end Go.Proofs.Ytbcgnncbiblibaa.PFnExactLogSteps
