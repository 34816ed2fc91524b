/- The contracts of the Go functions that this law reaches: what each call returns, by a plain Lean function of its arguments. No conditions but those each contract names. By the kit's print.py, run by this session's wip/gen/pp.py with facts and hand proofs beside it: not to the letter what print.sh prints. -/
import Derived.Test.YtgpafelepkhdoaaPFnBehindx0
import Derived.Test.YtgpafelepkhdoaaPFnBehindx2
import Derived.Test.YtgpafelepkhdoaaPFnBehindx3
import Derived.Test.YtgpafelepkhdoaaPFnBehindx4
import Derived.Test.YtgpafelepkhdoaaPFnBehindx5
import Derived.Test.YtgpafelepkhdoaaPFnBehindx18
namespace Go.Proofs.Ytgpafelepkhdoaa.PFnBehind
open Go.RowKit Go.Proofs.YtgpafelepkhdoaaW.PrintWords Go.Proofs.YtgpafelepkhdoaaW.PrintLast Go.Proofs.YtgpafelepkhdoaaW.PrintMore
attribute [local go_sem] max2_int min2_int max_two min_two max_three min_three max_four min_four
set_option linter.unusedVariables false
set_option linter.unusedSimpArgs false
attribute [local go_sem high] eqA37
mutual
def laws_FnBehind.j0 : Nat → Int → Int → Bool → Int → Int → List (S37) → Int → Int → List (S37) → Option (Bool)
 | 0,_,_,_,_,_,_,_,_,_ => none
 | k + 1,x6,x7,x80,x515000,x515001,x515002,x527000,x527001,x527002 => if x80 = true then (some false) else (laws_FnBehind.l0 k x6 x7 x6 x515000 x515001 x515002 x527000 x527001 x527002)
def laws_FnBehind.l0 : Nat → Int → Int → Int → Int → Int → List (S37) → Int → Int → List (S37) → Option (Bool)
 | 0,_,_,_,_,_,_,_,_,_ => none
 | k + 1,x6,x7,x13,x515000,x515001,x515002,x527000,x527001,x527002 => (laws_lastOf.f x515000 x515001 x515002).bind fun t532 => (if x13 ≤ t532 then ((impl_LogTerm.f x527000 x527001 x527002 x13).bind fun t539 => ((impl_LogTerm.f x515000 x515001 x515002 x13).bind fun t540 => (if t539 = t540 then (if x13 > x6 then (if 0 ≤ (wrap64 ((wrap64 (x13 - x6)) - 1)) then (if (wrap64 ((wrap64 (x13 - x6)) - 1)) < (x527002.length : Int) then (if 0 ≤ (wrap64 ((wrap64 (x13 - x515000)) - 1)) then (if (wrap64 ((wrap64 (x13 - x515000)) - 1)) < (x515002.length : Int) then (if (!(((rd_T37 x527002 (wrap64 ((wrap64 (x13 - x6)) - 1))).f0) == ((rd_T37 x515002 (wrap64 ((wrap64 (x13 - x515000)) - 1))).f0)) || (!(((rd_T37 x527002 (wrap64 ((wrap64 (x13 - x6)) - 1))).f1) == ((rd_T37 x515002 (wrap64 ((wrap64 (x13 - x515000)) - 1))).f1)) || (!((((rd_T37 x527002 (wrap64 ((wrap64 (x13 - x6)) - 1))).f2).toList) == (((rd_T37 x515002 (wrap64 ((wrap64 (x13 - x515000)) - 1))).f2).toList))))) = true then (some false) else (laws_FnBehind.l0 k x6 x7 (wrap64 (x13 + 1)) x515000 x515001 x515002 x527000 x527001 x527002)) else (none)) else (none)) else (none)) else (none)) else (laws_FnBehind.l0 k x6 x7 (wrap64 (x13 + 1)) x515000 x515001 x515002 x527000 x527001 x527002)) else (some false)))) else ((impl_LogBehind.f k x515000 x515001 x515002 x6 (wrap64 (x7 + 1))).bind fun bt533 => (if (bt533.2.2.length : Int) = 0 then (some (bt533.1 == x6)) else (some false))))
end
def laws_FnBehind.f (k : Nat) (l0 : List Int) : Option (Bool) := (laws_big.f l0).bind fun t502 => (if t502 = true then (some true) else ((spec_DrawRightLogs.f k l0).bind fun bt503 => ((spec_DrawPlaces.f k l0).bind fun t516 => (if 4 < (t516.length : Int) then (if (wrap64 ((bt503.2.2.2.1.length : Int) + 1)) = 0 then (none) else ((impl_LogTerm.f bt503.2.1 bt503.2.2.1 bt503.2.2.2.1 (wrap64 (bt503.2.1 + (Int.tmod (rd t516 4) (wrap64 ((bt503.2.2.2.1.length : Int) + 1)))))).bind fun t520 => ((impl_LogBehind.f k bt503.2.1 bt503.2.2.1 bt503.2.2.2.1 (wrap64 (bt503.2.1 + (Int.tmod (rd t516 4) (wrap64 ((bt503.2.2.2.1.length : Int) + 1))))) t520).bind fun bt521 => ((impl_LogLast.f bt503.2.1 bt503.2.2.1 bt503.2.2.2.1).bind fun bt527 => ((impl_LogLast.f bt521.1 bt521.2.1 bt521.2.2).bind fun bt529 => (if bt521.1 = (wrap64 (bt503.2.1 + (Int.tmod (rd t516 4) (wrap64 ((bt503.2.2.2.1.length : Int) + 1))))) then (if bt521.2.1 = t520 then (if bt527.1 = bt529.1 then (if bt527.2 = bt529.2 then ((impl_LogOk.f k bt521.1 bt521.2.1 bt521.2.2).bind fun t531 => (if t531 = true then (laws_FnBehind.j0 k (wrap64 (bt503.2.1 + (Int.tmod (rd t516 4) (wrap64 ((bt503.2.2.2.1.length : Int) + 1))))) t520 (decide (t520 < 0)) bt503.2.1 bt503.2.2.1 bt503.2.2.2.1 bt521.1 bt521.2.1 bt521.2.2) else (laws_FnBehind.j0 k (wrap64 (bt503.2.1 + (Int.tmod (rd t516 4) (wrap64 ((bt503.2.2.2.1.length : Int) + 1))))) t520 true bt503.2.1 bt503.2.2.1 bt503.2.2.2.1 bt521.1 bt521.2.1 bt521.2.2))) else (laws_FnBehind.j0 k (wrap64 (bt503.2.1 + (Int.tmod (rd t516 4) (wrap64 ((bt503.2.2.2.1.length : Int) + 1))))) t520 true bt503.2.1 bt503.2.2.1 bt503.2.2.2.1 bt521.1 bt521.2.1 bt521.2.2)) else (laws_FnBehind.j0 k (wrap64 (bt503.2.1 + (Int.tmod (rd t516 4) (wrap64 ((bt503.2.2.2.1.length : Int) + 1))))) t520 true bt503.2.1 bt503.2.2.1 bt503.2.2.2.1 bt521.1 bt521.2.1 bt521.2.2)) else (laws_FnBehind.j0 k (wrap64 (bt503.2.1 + (Int.tmod (rd t516 4) (wrap64 ((bt503.2.2.2.1.length : Int) + 1))))) t520 true bt503.2.1 bt503.2.2.1 bt503.2.2.2.1 bt521.1 bt521.2.1 bt521.2.2)) else (laws_FnBehind.j0 k (wrap64 (bt503.2.1 + (Int.tmod (rd t516 4) (wrap64 ((bt503.2.2.2.1.length : Int) + 1))))) t520 true bt503.2.1 bt503.2.2.1 bt503.2.2.2.1 bt521.1 bt521.2.1 bt521.2.2))))))) else (none)))))
theorem laws_FnBehind.mono_l : ∀ k, (∀ y0 y1 y2 y3 y4 y5 y6 y7 y8, LeO (laws_FnBehind.j0 k y0 y1 y2 y3 y4 y5 y6 y7 y8) (laws_FnBehind.j0 (k + 1) y0 y1 y2 y3 y4 y5 y6 y7 y8)) ∧ (∀ y0 y1 y2 y3 y4 y5 y6 y7 y8, LeO (laws_FnBehind.l0 k y0 y1 y2 y3 y4 y5 y6 y7 y8) (laws_FnBehind.l0 (k + 1) y0 y1 y2 y3 y4 y5 y6 y7 y8))
 | 0 => ⟨fun _ _ _ _ _ _ _ _ _ r h => by simp [laws_FnBehind.j0] at h,fun _ _ _ _ _ _ _ _ _ r h => by simp [laws_FnBehind.l0] at h⟩
 | k + 1 => by
  obtain ⟨ih0,ih1⟩:=laws_FnBehind.mono_l k;refine ⟨?_,?_⟩
  ·intro y0 y1 y2 y3 y4 y5 y6 y7 y8
   unfold laws_FnBehind.j0
   repeat' first
   | (with_reducible exact ih0 _ _ _ _ _ _ _ _ _)
   | (with_reducible exact ih1 _ _ _ _ _ _ _ _ _)
   | (with_reducible exact impl_LogBehind.mono _ _ _ _ _ _)
   | (with_reducible exact impl_LogOk.mono _ _ _ _)
   | (with_reducible exact spec_DrawPlaces.mono _ _)
   | (with_reducible exact spec_DrawRightLogs.mono _ _)
   | (with_reducible exact LeO.refl _)
   | (with_reducible exact LeO.none _)
   | (with_reducible refine LeO.ite ?_ ?_)
   | (with_reducible refine LeO.bind ?_ (fun _ => ?_))
  ·intro y0 y1 y2 y3 y4 y5 y6 y7 y8
   unfold laws_FnBehind.l0
   repeat' first
   | (with_reducible exact ih0 _ _ _ _ _ _ _ _ _)
   | (with_reducible exact ih1 _ _ _ _ _ _ _ _ _)
   | (with_reducible exact impl_LogBehind.mono _ _ _ _ _ _)
   | (with_reducible exact impl_LogOk.mono _ _ _ _)
   | (with_reducible exact spec_DrawPlaces.mono _ _)
   | (with_reducible exact spec_DrawRightLogs.mono _ _)
   | (with_reducible exact LeO.refl _)
   | (with_reducible exact LeO.none _)
   | (with_reducible refine LeO.ite ?_ ?_)
   | (with_reducible refine LeO.bind ?_ (fun _ => ?_))
theorem laws_FnBehind.mono : ∀ a0 k, LeO (laws_FnBehind.f k a0) (laws_FnBehind.f (k + 1) a0) := by
 intro a0 k;obtain ⟨ih0,ih1⟩:=laws_FnBehind.mono_l k
 unfold laws_FnBehind.f
 repeat' first
   | (with_reducible exact ih0 _ _ _ _ _ _ _ _ _)
   | (with_reducible exact ih1 _ _ _ _ _ _ _ _ _)
   | (with_reducible exact impl_LogBehind.mono _ _ _ _ _ _)
   | (with_reducible exact impl_LogOk.mono _ _ _ _)
   | (with_reducible exact spec_DrawPlaces.mono _ _)
   | (with_reducible exact spec_DrawRightLogs.mono _ _)
   | (with_reducible exact LeO.refl _)
   | (with_reducible exact LeO.none _)
   | (with_reducible refine LeO.ite ?_ ?_)
   | (with_reducible refine LeO.bind ?_ (fun _ => ?_))
def laws_FnBehind.T4 : Bool × List (List Nat × List Nat) := (true, [([], []), ([0], [0]), ([], []), ([2], [2]), ([3], [3]), ([4], [4]), ([], []), ([6], [6]), ([7], [7]), ([8], [8]), ([5, 9], [5, 9]), ([1, 10], [1, 10]), ([11, 3, 0, 1, 2, 3, 4, 5, 6, 7, 8, 9, 10, 11], [11])])
def laws_FnBehind.B4 : List Nat := [0, 1, 0, 4, 12, 28, 0, 64, 192, 448, 1020, 2047, 4095]
theorem laws_FnBehind.tab4 : rtab .any (opsOf Try.f13 4) = laws_FnBehind.T4 := by kernel_rfl
theorem laws_FnBehind.bits4 : waitsOk laws_FnBehind.T4.2 laws_FnBehind.B4 = true := by kernel_rfl
def laws_FnBehind.T14 : Bool × List (List Nat × List Nat) := (true, [([], []), ([], []), ([0, 1], [0, 1]), ([], []), ([], []), ([3, 4, 2], [3, 4]), ([2, 5], [2, 5]), ([6, 5], [6]), ([7], [7]), ([7], [7]), ([8, 9, 7], [7, 8, 9]), ([10, 7, 7], [7, 10]), ([11], [11]), ([12, 11], [11, 12]), ([11], [11]), ([11], [11]), ([14, 15, 11], [11, 14, 15]), ([16, 11], [11, 16]), ([13, 17, 11], [11, 13, 17]), ([18, 11], [11, 18]), ([11], [11]), ([20, 11], [11, 20]), ([11], [11]), ([11], [11]), ([23, 11], [11, 23]), ([22, 24, 11], [11, 22, 24]), ([25, 11], [11, 25]), ([21, 26, 11], [11, 21, 26]), ([27, 11], [11, 27]), ([19, 28, 11], [11, 19, 28]), ([11, 29, 7], [7, 11, 29]), ([7, 30], [7, 30])])
def laws_FnBehind.B14 : List Nat := [0, 0, 3, 0, 0, 31, 63, 127, 255, 255, 1023, 2047, 4095, 8191, 4095, 4095, 53247, 118783, 262143, 524287, 4095, 1052671, 4095, 4095, 8392703, 29364223, 62918655, 133173247, 267390975, 536870911, 1073741823, 2147483647]
theorem laws_FnBehind.tab14 : rtab .any (opsOf Try.f13 14) = laws_FnBehind.T14 := by kernel_rfl
theorem laws_FnBehind.bits14 : waitsOk laws_FnBehind.T14.2 laws_FnBehind.B14 = true := by kernel_rfl
set_option maxHeartbeats 8000000 in
set_option maxRecDepth 100000 in
theorem laws_FnBehind.calls (k : Nat) (A0 : Option Addr) (c0 : Nat) (l0 : List Int) (r : Bool) (w : World) (hr0 : Kd.C (Kd.int .u8) w A0 l0.length l0) (hc0 : l0.length ≤ c0) (h : laws_FnBehind.f k l0 = some r) (hr1_ : r = true) :
  Calls Try.prog 13 #[.slice A0 l0.length c0] w fun e w' => e = .returned (.bool r) ∧ Below w.heap.size w w':=by
 have hu60:=Try.underlying60;have hu37:=Try.underlying37;have HR0:=A_ hr0;have HC0:=A_ hc0;clear hr0 hc0;have HB:=A_ (Below.refl w.heap.size w);have H : ((laws_big.f l0).bind fun t502 => (if t502 = true then (some true) else ((spec_DrawRightLogs.f k l0).bind fun bt503 => ((spec_DrawPlaces.f k l0).bind fun t516 => (if 4 < (t516.length : Int) then (if (wrap64 ((bt503.2.2.2.1.length : Int) + 1)) = 0 then (none) else ((impl_LogTerm.f bt503.2.1 bt503.2.2.1 bt503.2.2.2.1 (wrap64 (bt503.2.1 + (Int.tmod (rd t516 4) (wrap64 ((bt503.2.2.2.1.length : Int) + 1)))))).bind fun t520 => ((impl_LogBehind.f k bt503.2.1 bt503.2.2.1 bt503.2.2.2.1 (wrap64 (bt503.2.1 + (Int.tmod (rd t516 4) (wrap64 ((bt503.2.2.2.1.length : Int) + 1))))) t520).bind fun bt521 => ((impl_LogLast.f bt503.2.1 bt503.2.2.1 bt503.2.2.2.1).bind fun bt527 => ((impl_LogLast.f bt521.1 bt521.2.1 bt521.2.2).bind fun bt529 => (if bt521.1 = (wrap64 (bt503.2.1 + (Int.tmod (rd t516 4) (wrap64 ((bt503.2.2.2.1.length : Int) + 1))))) then (if bt521.2.1 = t520 then (if bt527.1 = bt529.1 then (if bt527.2 = bt529.2 then ((impl_LogOk.f k bt521.1 bt521.2.1 bt521.2.2).bind fun t531 => (if t531 = true then (laws_FnBehind.j0 k (wrap64 (bt503.2.1 + (Int.tmod (rd t516 4) (wrap64 ((bt503.2.2.2.1.length : Int) + 1))))) t520 (decide (t520 < 0)) bt503.2.1 bt503.2.2.1 bt503.2.2.2.1 bt521.1 bt521.2.1 bt521.2.2) else (laws_FnBehind.j0 k (wrap64 (bt503.2.1 + (Int.tmod (rd t516 4) (wrap64 ((bt503.2.2.2.1.length : Int) + 1))))) t520 true bt503.2.1 bt503.2.2.1 bt503.2.2.2.1 bt521.1 bt521.2.1 bt521.2.2))) else (laws_FnBehind.j0 k (wrap64 (bt503.2.1 + (Int.tmod (rd t516 4) (wrap64 ((bt503.2.2.2.1.length : Int) + 1))))) t520 true bt503.2.1 bt503.2.2.1 bt503.2.2.2.1 bt521.1 bt521.2.1 bt521.2.2)) else (laws_FnBehind.j0 k (wrap64 (bt503.2.1 + (Int.tmod (rd t516 4) (wrap64 ((bt503.2.2.2.1.length : Int) + 1))))) t520 true bt503.2.1 bt503.2.2.1 bt503.2.2.2.1 bt521.1 bt521.2.1 bt521.2.2)) else (laws_FnBehind.j0 k (wrap64 (bt503.2.1 + (Int.tmod (rd t516 4) (wrap64 ((bt503.2.2.2.1.length : Int) + 1))))) t520 true bt503.2.1 bt503.2.2.1 bt503.2.2.2.1 bt521.1 bt521.2.1 bt521.2.2)) else (laws_FnBehind.j0 k (wrap64 (bt503.2.1 + (Int.tmod (rd t516 4) (wrap64 ((bt503.2.2.2.1.length : Int) + 1))))) t520 true bt503.2.1 bt503.2.2.1 bt503.2.2.2.1 bt521.1 bt521.2.1 bt521.2.2))))))) else (none)))))) = some r:=h;clear h;replace H:=ob_.mp H;obtain ⟨t502,A20,H⟩:=H;replace H : (if t502 = true then (some true) else ((spec_DrawRightLogs.f k l0).bind fun bt503 => ((spec_DrawPlaces.f k l0).bind fun t516 => (if 4 < (t516.length : Int) then (if (wrap64 ((bt503.2.2.2.1.length : Int) + 1)) = 0 then (none) else ((impl_LogTerm.f bt503.2.1 bt503.2.2.1 bt503.2.2.2.1 (wrap64 (bt503.2.1 + (Int.tmod (rd t516 4) (wrap64 ((bt503.2.2.2.1.length : Int) + 1)))))).bind fun t520 => ((impl_LogBehind.f k bt503.2.1 bt503.2.2.1 bt503.2.2.2.1 (wrap64 (bt503.2.1 + (Int.tmod (rd t516 4) (wrap64 ((bt503.2.2.2.1.length : Int) + 1))))) t520).bind fun bt521 => ((impl_LogLast.f bt503.2.1 bt503.2.2.1 bt503.2.2.2.1).bind fun bt527 => ((impl_LogLast.f bt521.1 bt521.2.1 bt521.2.2).bind fun bt529 => (if bt521.1 = (wrap64 (bt503.2.1 + (Int.tmod (rd t516 4) (wrap64 ((bt503.2.2.2.1.length : Int) + 1))))) then (if bt521.2.1 = t520 then (if bt527.1 = bt529.1 then (if bt527.2 = bt529.2 then ((impl_LogOk.f k bt521.1 bt521.2.1 bt521.2.2).bind fun t531 => (if t531 = true then (laws_FnBehind.j0 k (wrap64 (bt503.2.1 + (Int.tmod (rd t516 4) (wrap64 ((bt503.2.2.2.1.length : Int) + 1))))) t520 (decide (t520 < 0)) bt503.2.1 bt503.2.2.1 bt503.2.2.2.1 bt521.1 bt521.2.1 bt521.2.2) else (laws_FnBehind.j0 k (wrap64 (bt503.2.1 + (Int.tmod (rd t516 4) (wrap64 ((bt503.2.2.2.1.length : Int) + 1))))) t520 true bt503.2.1 bt503.2.2.1 bt503.2.2.2.1 bt521.1 bt521.2.1 bt521.2.2))) else (laws_FnBehind.j0 k (wrap64 (bt503.2.1 + (Int.tmod (rd t516 4) (wrap64 ((bt503.2.2.2.1.length : Int) + 1))))) t520 true bt503.2.1 bt503.2.2.1 bt503.2.2.2.1 bt521.1 bt521.2.1 bt521.2.2)) else (laws_FnBehind.j0 k (wrap64 (bt503.2.1 + (Int.tmod (rd t516 4) (wrap64 ((bt503.2.2.2.1.length : Int) + 1))))) t520 true bt503.2.1 bt503.2.2.1 bt503.2.2.2.1 bt521.1 bt521.2.1 bt521.2.2)) else (laws_FnBehind.j0 k (wrap64 (bt503.2.1 + (Int.tmod (rd t516 4) (wrap64 ((bt503.2.2.2.1.length : Int) + 1))))) t520 true bt503.2.1 bt503.2.2.1 bt503.2.2.2.1 bt521.1 bt521.2.1 bt521.2.2)) else (laws_FnBehind.j0 k (wrap64 (bt503.2.1 + (Int.tmod (rd t516 4) (wrap64 ((bt503.2.2.2.1.length : Int) + 1))))) t520 true bt503.2.1 bt503.2.2.1 bt503.2.2.2.1 bt521.1 bt521.2.1 bt521.2.2))))))) else (none))))) = some r:=H;have A2:=A_ A20;clear A20
 by_cases c3 : t502 = true
 ·subst c3
  have H1 : (some true) = some r:=by rw [if_pos rfl] at H;exact H
  clear H;have H:=H1;clear H1;obtain rfl:=Option.some.inj H;go_enter Try.func13,Try.ntmps13
  go_wp2_with (first|((with_reducible refine gate_callee (f:=15) rfl ?_);refine goesL_ (some 16) rfl rfl Try.func15 (by kernel_rfl) rfl #[.slice A0 l0.length c0] rfl aq_ ?_;(with_reducible refine (laws_big.calls _ _ l0 true _ ?side1 ?side2 A2.out).mono ?_);(case side1 => repeat (first|exact HR0.out|(with_reducible refine Kd.C_alloc ?_ _)|(with_reducible refine Kd.C_drewN ?_ _)|(with_reducible refine Kd.C_drew ?_)));(case side2 => exact HC0.out);rintro e w' ⟨rfl,⟨nd,rfl⟩⟩;refine ⟨_,rfl,?_⟩))
  go_ret;exact ⟨ex_,bq_ HB⟩
 ·replace c3:=Bool.eq_false_iff.mpr c3;subst c3
  have H1 : ((spec_DrawRightLogs.f k l0).bind fun bt503 => ((spec_DrawPlaces.f k l0).bind fun t516 => (if 4 < (t516.length : Int) then (if (wrap64 ((bt503.2.2.2.1.length : Int) + 1)) = 0 then (none) else ((impl_LogTerm.f bt503.2.1 bt503.2.2.1 bt503.2.2.2.1 (wrap64 (bt503.2.1 + (Int.tmod (rd t516 4) (wrap64 ((bt503.2.2.2.1.length : Int) + 1)))))).bind fun t520 => ((impl_LogBehind.f k bt503.2.1 bt503.2.2.1 bt503.2.2.2.1 (wrap64 (bt503.2.1 + (Int.tmod (rd t516 4) (wrap64 ((bt503.2.2.2.1.length : Int) + 1))))) t520).bind fun bt521 => ((impl_LogLast.f bt503.2.1 bt503.2.2.1 bt503.2.2.2.1).bind fun bt527 => ((impl_LogLast.f bt521.1 bt521.2.1 bt521.2.2).bind fun bt529 => (if bt521.1 = (wrap64 (bt503.2.1 + (Int.tmod (rd t516 4) (wrap64 ((bt503.2.2.2.1.length : Int) + 1))))) then (if bt521.2.1 = t520 then (if bt527.1 = bt529.1 then (if bt527.2 = bt529.2 then ((impl_LogOk.f k bt521.1 bt521.2.1 bt521.2.2).bind fun t531 => (if t531 = true then (laws_FnBehind.j0 k (wrap64 (bt503.2.1 + (Int.tmod (rd t516 4) (wrap64 ((bt503.2.2.2.1.length : Int) + 1))))) t520 (decide (t520 < 0)) bt503.2.1 bt503.2.2.1 bt503.2.2.2.1 bt521.1 bt521.2.1 bt521.2.2) else (laws_FnBehind.j0 k (wrap64 (bt503.2.1 + (Int.tmod (rd t516 4) (wrap64 ((bt503.2.2.2.1.length : Int) + 1))))) t520 true bt503.2.1 bt503.2.2.1 bt503.2.2.2.1 bt521.1 bt521.2.1 bt521.2.2))) else (laws_FnBehind.j0 k (wrap64 (bt503.2.1 + (Int.tmod (rd t516 4) (wrap64 ((bt503.2.2.2.1.length : Int) + 1))))) t520 true bt503.2.1 bt503.2.2.1 bt503.2.2.2.1 bt521.1 bt521.2.1 bt521.2.2)) else (laws_FnBehind.j0 k (wrap64 (bt503.2.1 + (Int.tmod (rd t516 4) (wrap64 ((bt503.2.2.2.1.length : Int) + 1))))) t520 true bt503.2.1 bt503.2.2.1 bt503.2.2.2.1 bt521.1 bt521.2.1 bt521.2.2)) else (laws_FnBehind.j0 k (wrap64 (bt503.2.1 + (Int.tmod (rd t516 4) (wrap64 ((bt503.2.2.2.1.length : Int) + 1))))) t520 true bt503.2.1 bt503.2.2.1 bt503.2.2.2.1 bt521.1 bt521.2.1 bt521.2.2)) else (laws_FnBehind.j0 k (wrap64 (bt503.2.1 + (Int.tmod (rd t516 4) (wrap64 ((bt503.2.2.2.1.length : Int) + 1))))) t520 true bt503.2.1 bt503.2.2.1 bt503.2.2.2.1 bt521.1 bt521.2.1 bt521.2.2))))))) else (none)))) = some r:=by rw [if_neg (show ¬ (false = true) by decide)] at H;exact H
  clear H;have H:=H1;clear H1;replace H:=ob_.mp H;obtain ⟨⟨t503,t504,t505,t506,t509,t510,t511⟩,A40,H⟩:=H;replace H : ((spec_DrawPlaces.f k l0).bind fun t516 => (if 4 < (t516.length : Int) then (if (wrap64 ((t506.length : Int) + 1)) = 0 then (none) else ((impl_LogTerm.f t504 t505 t506 (wrap64 (t504 + (Int.tmod (rd t516 4) (wrap64 ((t506.length : Int) + 1)))))).bind fun t520 => ((impl_LogBehind.f k t504 t505 t506 (wrap64 (t504 + (Int.tmod (rd t516 4) (wrap64 ((t506.length : Int) + 1))))) t520).bind fun bt521 => ((impl_LogLast.f t504 t505 t506).bind fun bt527 => ((impl_LogLast.f bt521.1 bt521.2.1 bt521.2.2).bind fun bt529 => (if bt521.1 = (wrap64 (t504 + (Int.tmod (rd t516 4) (wrap64 ((t506.length : Int) + 1))))) then (if bt521.2.1 = t520 then (if bt527.1 = bt529.1 then (if bt527.2 = bt529.2 then ((impl_LogOk.f k bt521.1 bt521.2.1 bt521.2.2).bind fun t531 => (if t531 = true then (laws_FnBehind.j0 k (wrap64 (t504 + (Int.tmod (rd t516 4) (wrap64 ((t506.length : Int) + 1))))) t520 (decide (t520 < 0)) t504 t505 t506 bt521.1 bt521.2.1 bt521.2.2) else (laws_FnBehind.j0 k (wrap64 (t504 + (Int.tmod (rd t516 4) (wrap64 ((t506.length : Int) + 1))))) t520 true t504 t505 t506 bt521.1 bt521.2.1 bt521.2.2))) else (laws_FnBehind.j0 k (wrap64 (t504 + (Int.tmod (rd t516 4) (wrap64 ((t506.length : Int) + 1))))) t520 true t504 t505 t506 bt521.1 bt521.2.1 bt521.2.2)) else (laws_FnBehind.j0 k (wrap64 (t504 + (Int.tmod (rd t516 4) (wrap64 ((t506.length : Int) + 1))))) t520 true t504 t505 t506 bt521.1 bt521.2.1 bt521.2.2)) else (laws_FnBehind.j0 k (wrap64 (t504 + (Int.tmod (rd t516 4) (wrap64 ((t506.length : Int) + 1))))) t520 true t504 t505 t506 bt521.1 bt521.2.1 bt521.2.2)) else (laws_FnBehind.j0 k (wrap64 (t504 + (Int.tmod (rd t516 4) (wrap64 ((t506.length : Int) + 1))))) t520 true t504 t505 t506 bt521.1 bt521.2.1 bt521.2.2))))))) else (none))) = some r:=H;have A4:=A_ A40;clear A40;replace H:=ob_.mp H;obtain ⟨t516,A50,H⟩:=H;replace H : (if 4 < (t516.length : Int) then (if (wrap64 ((t506.length : Int) + 1)) = 0 then (none) else ((impl_LogTerm.f t504 t505 t506 (wrap64 (t504 + (Int.tmod (rd t516 4) (wrap64 ((t506.length : Int) + 1)))))).bind fun t520 => ((impl_LogBehind.f k t504 t505 t506 (wrap64 (t504 + (Int.tmod (rd t516 4) (wrap64 ((t506.length : Int) + 1))))) t520).bind fun bt521 => ((impl_LogLast.f t504 t505 t506).bind fun bt527 => ((impl_LogLast.f bt521.1 bt521.2.1 bt521.2.2).bind fun bt529 => (if bt521.1 = (wrap64 (t504 + (Int.tmod (rd t516 4) (wrap64 ((t506.length : Int) + 1))))) then (if bt521.2.1 = t520 then (if bt527.1 = bt529.1 then (if bt527.2 = bt529.2 then ((impl_LogOk.f k bt521.1 bt521.2.1 bt521.2.2).bind fun t531 => (if t531 = true then (laws_FnBehind.j0 k (wrap64 (t504 + (Int.tmod (rd t516 4) (wrap64 ((t506.length : Int) + 1))))) t520 (decide (t520 < 0)) t504 t505 t506 bt521.1 bt521.2.1 bt521.2.2) else (laws_FnBehind.j0 k (wrap64 (t504 + (Int.tmod (rd t516 4) (wrap64 ((t506.length : Int) + 1))))) t520 true t504 t505 t506 bt521.1 bt521.2.1 bt521.2.2))) else (laws_FnBehind.j0 k (wrap64 (t504 + (Int.tmod (rd t516 4) (wrap64 ((t506.length : Int) + 1))))) t520 true t504 t505 t506 bt521.1 bt521.2.1 bt521.2.2)) else (laws_FnBehind.j0 k (wrap64 (t504 + (Int.tmod (rd t516 4) (wrap64 ((t506.length : Int) + 1))))) t520 true t504 t505 t506 bt521.1 bt521.2.1 bt521.2.2)) else (laws_FnBehind.j0 k (wrap64 (t504 + (Int.tmod (rd t516 4) (wrap64 ((t506.length : Int) + 1))))) t520 true t504 t505 t506 bt521.1 bt521.2.1 bt521.2.2)) else (laws_FnBehind.j0 k (wrap64 (t504 + (Int.tmod (rd t516 4) (wrap64 ((t506.length : Int) + 1))))) t520 true t504 t505 t506 bt521.1 bt521.2.1 bt521.2.2))))))) else (none)) = some r:=H;have A5:=A_ A50;clear A50
  by_cases c6 : 4 < (t516.length : Int)
  ·rw [if_pos c6] at H;have c6b0 : decide (4 < (t516.length : Int)) = true:=de_ c6;have c6b1 : decide (4 < t516.length) = true:=de_ (by omega);clear c6
   by_cases c7 : (wrap64 ((t506.length : Int) + 1)) = 0
   ·rw [if_pos c7] at H;exact absurd H (by simp)
   ·rw [if_neg c7] at H;have c7b0 : ((wrap64 ((t506.length : Int) + 1)) == 0) = false:=beq_eq_false_iff_ne.mpr c7;have c7b1 : ((wrap64 ((t506.length : Int) + 1)) != 0) = true:=bne_iff_ne.mpr c7;replace H:=ob_.mp H;obtain ⟨t520,A80,H⟩:=H;replace H : ((impl_LogBehind.f k t504 t505 t506 (wrap64 (t504 + (Int.tmod (rd t516 4) (wrap64 ((t506.length : Int) + 1))))) t520).bind fun bt521 => ((impl_LogLast.f t504 t505 t506).bind fun bt527 => ((impl_LogLast.f bt521.1 bt521.2.1 bt521.2.2).bind fun bt529 => (if bt521.1 = (wrap64 (t504 + (Int.tmod (rd t516 4) (wrap64 ((t506.length : Int) + 1))))) then (if bt521.2.1 = t520 then (if bt527.1 = bt529.1 then (if bt527.2 = bt529.2 then ((impl_LogOk.f k bt521.1 bt521.2.1 bt521.2.2).bind fun t531 => (if t531 = true then (laws_FnBehind.j0 k (wrap64 (t504 + (Int.tmod (rd t516 4) (wrap64 ((t506.length : Int) + 1))))) t520 (decide (t520 < 0)) t504 t505 t506 bt521.1 bt521.2.1 bt521.2.2) else (laws_FnBehind.j0 k (wrap64 (t504 + (Int.tmod (rd t516 4) (wrap64 ((t506.length : Int) + 1))))) t520 true t504 t505 t506 bt521.1 bt521.2.1 bt521.2.2))) else (laws_FnBehind.j0 k (wrap64 (t504 + (Int.tmod (rd t516 4) (wrap64 ((t506.length : Int) + 1))))) t520 true t504 t505 t506 bt521.1 bt521.2.1 bt521.2.2)) else (laws_FnBehind.j0 k (wrap64 (t504 + (Int.tmod (rd t516 4) (wrap64 ((t506.length : Int) + 1))))) t520 true t504 t505 t506 bt521.1 bt521.2.1 bt521.2.2)) else (laws_FnBehind.j0 k (wrap64 (t504 + (Int.tmod (rd t516 4) (wrap64 ((t506.length : Int) + 1))))) t520 true t504 t505 t506 bt521.1 bt521.2.1 bt521.2.2)) else (laws_FnBehind.j0 k (wrap64 (t504 + (Int.tmod (rd t516 4) (wrap64 ((t506.length : Int) + 1))))) t520 true t504 t505 t506 bt521.1 bt521.2.1 bt521.2.2))))) = some r:=H;have A8:=A_ A80;clear A80;replace H:=ob_.mp H;obtain ⟨⟨t521,t522,t523⟩,A90,H⟩:=H;replace H : ((impl_LogLast.f t504 t505 t506).bind fun bt527 => ((impl_LogLast.f t521 t522 t523).bind fun bt529 => (if t521 = (wrap64 (t504 + (Int.tmod (rd t516 4) (wrap64 ((t506.length : Int) + 1))))) then (if t522 = t520 then (if bt527.1 = bt529.1 then (if bt527.2 = bt529.2 then ((impl_LogOk.f k t521 t522 t523).bind fun t531 => (if t531 = true then (laws_FnBehind.j0 k (wrap64 (t504 + (Int.tmod (rd t516 4) (wrap64 ((t506.length : Int) + 1))))) t520 (decide (t520 < 0)) t504 t505 t506 t521 t522 t523) else (laws_FnBehind.j0 k (wrap64 (t504 + (Int.tmod (rd t516 4) (wrap64 ((t506.length : Int) + 1))))) t520 true t504 t505 t506 t521 t522 t523))) else (laws_FnBehind.j0 k (wrap64 (t504 + (Int.tmod (rd t516 4) (wrap64 ((t506.length : Int) + 1))))) t520 true t504 t505 t506 t521 t522 t523)) else (laws_FnBehind.j0 k (wrap64 (t504 + (Int.tmod (rd t516 4) (wrap64 ((t506.length : Int) + 1))))) t520 true t504 t505 t506 t521 t522 t523)) else (laws_FnBehind.j0 k (wrap64 (t504 + (Int.tmod (rd t516 4) (wrap64 ((t506.length : Int) + 1))))) t520 true t504 t505 t506 t521 t522 t523)) else (laws_FnBehind.j0 k (wrap64 (t504 + (Int.tmod (rd t516 4) (wrap64 ((t506.length : Int) + 1))))) t520 true t504 t505 t506 t521 t522 t523)))) = some r:=H;have A9:=A_ A90;clear A90;replace H:=ob_.mp H;obtain ⟨⟨t527,t528⟩,A100,H⟩:=H;replace H : ((impl_LogLast.f t521 t522 t523).bind fun bt529 => (if t521 = (wrap64 (t504 + (Int.tmod (rd t516 4) (wrap64 ((t506.length : Int) + 1))))) then (if t522 = t520 then (if t527 = bt529.1 then (if t528 = bt529.2 then ((impl_LogOk.f k t521 t522 t523).bind fun t531 => (if t531 = true then (laws_FnBehind.j0 k (wrap64 (t504 + (Int.tmod (rd t516 4) (wrap64 ((t506.length : Int) + 1))))) t520 (decide (t520 < 0)) t504 t505 t506 t521 t522 t523) else (laws_FnBehind.j0 k (wrap64 (t504 + (Int.tmod (rd t516 4) (wrap64 ((t506.length : Int) + 1))))) t520 true t504 t505 t506 t521 t522 t523))) else (laws_FnBehind.j0 k (wrap64 (t504 + (Int.tmod (rd t516 4) (wrap64 ((t506.length : Int) + 1))))) t520 true t504 t505 t506 t521 t522 t523)) else (laws_FnBehind.j0 k (wrap64 (t504 + (Int.tmod (rd t516 4) (wrap64 ((t506.length : Int) + 1))))) t520 true t504 t505 t506 t521 t522 t523)) else (laws_FnBehind.j0 k (wrap64 (t504 + (Int.tmod (rd t516 4) (wrap64 ((t506.length : Int) + 1))))) t520 true t504 t505 t506 t521 t522 t523)) else (laws_FnBehind.j0 k (wrap64 (t504 + (Int.tmod (rd t516 4) (wrap64 ((t506.length : Int) + 1))))) t520 true t504 t505 t506 t521 t522 t523))) = some r:=H;have A10:=A_ A100;clear A100;replace H:=ob_.mp H;obtain ⟨⟨t529,t530⟩,A110,H⟩:=H;replace H : (if t521 = (wrap64 (t504 + (Int.tmod (rd t516 4) (wrap64 ((t506.length : Int) + 1))))) then (if t522 = t520 then (if t527 = t529 then (if t528 = t530 then ((impl_LogOk.f k t521 t522 t523).bind fun t531 => (if t531 = true then (laws_FnBehind.j0 k (wrap64 (t504 + (Int.tmod (rd t516 4) (wrap64 ((t506.length : Int) + 1))))) t520 (decide (t520 < 0)) t504 t505 t506 t521 t522 t523) else (laws_FnBehind.j0 k (wrap64 (t504 + (Int.tmod (rd t516 4) (wrap64 ((t506.length : Int) + 1))))) t520 true t504 t505 t506 t521 t522 t523))) else (laws_FnBehind.j0 k (wrap64 (t504 + (Int.tmod (rd t516 4) (wrap64 ((t506.length : Int) + 1))))) t520 true t504 t505 t506 t521 t522 t523)) else (laws_FnBehind.j0 k (wrap64 (t504 + (Int.tmod (rd t516 4) (wrap64 ((t506.length : Int) + 1))))) t520 true t504 t505 t506 t521 t522 t523)) else (laws_FnBehind.j0 k (wrap64 (t504 + (Int.tmod (rd t516 4) (wrap64 ((t506.length : Int) + 1))))) t520 true t504 t505 t506 t521 t522 t523)) else (laws_FnBehind.j0 k (wrap64 (t504 + (Int.tmod (rd t516 4) (wrap64 ((t506.length : Int) + 1))))) t520 true t504 t505 t506 t521 t522 t523)) = some r:=H;have A11:=A_ A110;clear A110;have HC12:=A_ H;clear H;go_enter Try.func13,Try.ntmps13
    try go_wp2_with (first|((with_reducible refine gate_callee (f:=15) rfl ?_);refine goesL_ (some 16) rfl rfl Try.func15 (by kernel_rfl) rfl #[.slice A0 l0.length c0] rfl aq_ ?_;(with_reducible refine (laws_big.calls _ _ l0 false _ ?side1 ?side2 A2.out).mono ?_);(case side1 => repeat (first|exact HR0.out|(with_reducible refine Kd.C_alloc ?_ _)|(with_reducible refine Kd.C_drewN ?_ _)|(with_reducible refine Kd.C_drew ?_)));(case side2 => exact HC0.out);rintro e w' ⟨rfl,⟨nd,rfl⟩⟩;refine ⟨_,rfl,?_⟩)|((with_reducible refine gate_callee (f:=62) rfl ?_);refine goesL_ (some 19) rfl rfl Try.func62 (by kernel_rfl) rfl #[.slice A0 l0.length c0] rfl aq_ ?_;(with_reducible refine (spec_DrawRightLogs.calls k _ _ l0 t503 t504 t505 t506 t509 t510 t511 _ ?side1 ?side2 A4.out).mono ?_);(case side1 => repeat (first|exact HR0.out|(with_reducible refine Kd.C_alloc ?_ _)|(with_reducible refine Kd.C_drewN ?_ _)|(with_reducible refine Kd.C_drew ?_)));(case side2 => exact HC0.out);rintro e w13 ⟨v507,v512,rfl,ho0,ho1,hb⟩;refine ⟨_,rfl,?_⟩;have HO508:=A_ (rw_ ho0 (bz_ (bq_ HB)));have HO513:=A_ (rw_ ho1 (bz_ (bq_ HB)));replace HB:=A_ (bs_ (bq_ HB) hb);(try clear hb);(try clear hb2);(try clear hk);(try clear hi);(try clear ho0);(try clear ho1))|((with_reducible refine gate_dst (N:=4) rfl ?_);refine box_event ?hg (N:=4) ?hd (cs:=#[.int .i64 0,.int .i64 0,.slice none 0 0]) (t:=60) ?hr ?_;(case hd => rfl);(case hg => rfl);(case hr => exact gx_);intro gb514 hg w14 hbox hb;replace HO508:=A_ (rb_ (rq_ HO508) hb);replace HO513:=A_ (rb_ (rq_ HO513) hb);have BK514:=A_ (hbox);have GW514:=A_ ((by rw [hg];exact (bz_ (bq_ HB)) : w.heap.size ≤ gb514));have GE514:=A_ ((by rw [hg];exact (bz_ (bq_ HB)) : w.heap.size ≤ gb514));replace HB:=A_ (bs_ (bq_ HB) hb);clear hb hbox hg)|((with_reducible refine gate_dst (N:=5) rfl ?_);refine box_event ?hg (N:=5) ?hd (cs:=#[.int .i64 0,.int .i64 0,.slice none 0 0]) (t:=60) ?hr ?_;(case hd => rfl);(case hg => rfl);(case hr => exact gx_);intro gb515 hg w15 hbox hb;replace HO508:=A_ (rb_ (rq_ HO508) hb);replace HO513:=A_ (rb_ (rq_ HO513) hb);have BK515:=A_ (hbox);have GW515:=A_ ((by rw [hg];exact (bz_ (bq_ HB)) : w.heap.size ≤ gb515));have GE515:=A_ ((by rw [hg];exact (bz_ (bq_ HB)) : w.heap.size ≤ gb515));replace HB:=A_ (bs_ (bq_ HB) hb);have NB514_515:=A_ ((by rw [hg];exact nl_ (kl_ (g:=gb514) (o:=.cells #[.int .i64 0,.int .i64 0,.slice none 0 0] 60 (0,0)) (kq_ BK514)) : gb514 ≠ gb515));have NB515_514:=A_ ((by rw [hg];exact ng_ (kl_ (g:=gb514) (o:=.cells #[.int .i64 0,.int .i64 0,.slice none 0 0] 60 (0,0)) (kq_ BK514)) : gb515 ≠ gb514));replace BK514:=A_ (kb_ (kq_ BK514) hb);clear hb hbox hg;have hnb16:=NB514_515.out;have hnc16:=NB515_514.out;have hcz17_0:=kC_ BK514 0;have hcz17_1:=kC_ BK514 1;have hcz17_2:=kC_ BK514 2;have hfz17_0:=kf_ BK514.out 0;have hfz17_1:=kf_ BK514.out 1;have hfz17_2:=kf_ BK514.out 2;obtain ⟨Ao18,co18,eo18⟩:=Kd.R_slice HO508.out;subst eo18;have hcz19_0:=kC_ BK515 0;have hcz19_1:=kC_ BK515 1;have hcz19_2:=kC_ BK515 2;have hfz19_0:=kf_ BK515.out 0;have hfz19_1:=kf_ BK515.out 1;have hfz19_2:=kf_ BK515.out 2;obtain ⟨Ao20,co20,eo20⟩:=Kd.R_slice HO513.out;subst eo20))
    have n0_ : Aside0 (Kd.R k37 37 ((((((w15.setCell ⟨gb514,0,none⟩ (.int .i64 t504)).setCell ⟨gb514,1,none⟩ (.int .i64 t505)).setCell ⟨gb514,2,none⟩ (.slice Ao18 t506.length co18)).setCell ⟨gb515,0,none⟩ (.int .i64 t509)).setCell ⟨gb515,1,none⟩ (.int .i64 t510)).setCell ⟨gb515,2,none⟩ (.slice Ao20 t511.length co20)) w.heap.size (fun k_ => some k_ ≠ (.slice Ao20 t511.length co20 : Value).ownBlock) (.slice Ao18 t506.length co18) t506):=⟨by (with_reducible repeat (first|apply ra_|apply rn_|apply Rd_));exact rm_ (rf_ (p:=⟨gb515,2,none⟩) (rf_ (p:=⟨gb515,1,none⟩) (rf_ (p:=⟨gb515,0,none⟩) (rf_ (p:=⟨gb514,2,none⟩) (rf_ (p:=⟨gb514,1,none⟩) (rf_ (p:=⟨gb514,0,none⟩) (Kd.R_types (Kd.R_types HO508.out BK514.out (by decide)) BK515.out (by decide)) (fun _ hk => hk.1.2) (.int .i64 t504)) (fun _ hk => hk.1.2) (.int .i64 t505)) (fun _ hk => hk.1.2) (.slice Ao18 t506.length co18)) (fun _ hk => hk.2) (.int .i64 t509)) (fun _ hk => hk.2) (.int .i64 t510)) (fun _ hk => hk.2) (.slice Ao20 t511.length co20)) (fun _ hk => hk.1.1)⟩;have n1_ : Aside0 (Kd.R k37 37 ((((((w15.setCell ⟨gb514,0,none⟩ (.int .i64 t504)).setCell ⟨gb514,1,none⟩ (.int .i64 t505)).setCell ⟨gb514,2,none⟩ (.slice Ao18 t506.length co18)).setCell ⟨gb515,0,none⟩ (.int .i64 t509)).setCell ⟨gb515,1,none⟩ (.int .i64 t510)).setCell ⟨gb515,2,none⟩ (.slice Ao20 t511.length co20)) w.heap.size (fun k_ => some k_ ≠ (.slice Ao18 t506.length co18 : Value).ownBlock) (.slice Ao20 t511.length co20) t511):=⟨by (with_reducible repeat (first|apply ra_|apply rn_|apply Rd_));exact rm_ (rf_ (p:=⟨gb515,2,none⟩) (rf_ (p:=⟨gb515,1,none⟩) (rf_ (p:=⟨gb515,0,none⟩) (rf_ (p:=⟨gb514,2,none⟩) (rf_ (p:=⟨gb514,1,none⟩) (rf_ (p:=⟨gb514,0,none⟩) (Kd.R_types (Kd.R_types HO513.out BK514.out (by decide)) BK515.out (by decide)) (fun _ hk => hk.1.2) (.int .i64 t504)) (fun _ hk => hk.1.2) (.int .i64 t505)) (fun _ hk => hk.1.2) (.slice Ao18 t506.length co18)) (fun _ hk => hk.2) (.int .i64 t509)) (fun _ hk => hk.2) (.int .i64 t510)) (fun _ hk => hk.2) (.slice Ao20 t511.length co20)) (fun _ hk => hk.1.1)⟩;have n2_ : Aside0 (((((((w15.setCell ⟨gb514,0,none⟩ (.int .i64 t504)).setCell ⟨gb514,1,none⟩ (.int .i64 t505)).setCell ⟨gb514,2,none⟩ (.slice Ao18 t506.length co18)).setCell ⟨gb515,0,none⟩ (.int .i64 t509)).setCell ⟨gb515,1,none⟩ (.int .i64 t510)).setCell ⟨gb515,2,none⟩ (.slice Ao20 t511.length co20)).heap[gb514]? = some (.cells #[.int .i64 t504,.int .i64 t505,.slice Ao18 t506.length co18] 60 (0,0))):=⟨by (with_reducible repeat (first|refine kn_ ?_ _|refine kd_ ?_|refine ka_ ?_ _));refine kr_ ?_ NB514_515.out _;(with_reducible repeat (first|refine kn_ ?_ _|refine kd_ ?_|refine ka_ ?_ _));refine kr_ ?_ NB514_515.out _;(with_reducible repeat (first|refine kn_ ?_ _|refine kd_ ?_|refine ka_ ?_ _));refine kr_ ?_ NB514_515.out _;(with_reducible repeat (first|refine kn_ ?_ _|refine kd_ ?_|refine ka_ ?_ _));refine ku_ (cs:=#[.int .i64 t504,.int .i64 t505,.slice none 0 0]) ?_ 2 _ rfl;(with_reducible repeat (first|refine kn_ ?_ _|refine kd_ ?_|refine ka_ ?_ _));refine ku_ (cs:=#[.int .i64 t504,.int .i64 0,.slice none 0 0]) ?_ 1 _ rfl;(with_reducible repeat (first|refine kn_ ?_ _|refine kd_ ?_|refine ka_ ?_ _));refine ku_ (cs:=#[.int .i64 0,.int .i64 0,.slice none 0 0]) ?_ 0 _ rfl;(with_reducible repeat (first|refine kn_ ?_ _|refine kd_ ?_|refine ka_ ?_ _));exact BK514.out⟩;have n3_ : Aside0 (((((((w15.setCell ⟨gb514,0,none⟩ (.int .i64 t504)).setCell ⟨gb514,1,none⟩ (.int .i64 t505)).setCell ⟨gb514,2,none⟩ (.slice Ao18 t506.length co18)).setCell ⟨gb515,0,none⟩ (.int .i64 t509)).setCell ⟨gb515,1,none⟩ (.int .i64 t510)).setCell ⟨gb515,2,none⟩ (.slice Ao20 t511.length co20)).heap[gb515]? = some (.cells #[.int .i64 t509,.int .i64 t510,.slice Ao20 t511.length co20] 60 (0,0))):=⟨by (with_reducible repeat (first|refine kn_ ?_ _|refine kd_ ?_|refine ka_ ?_ _));refine ku_ (cs:=#[.int .i64 t509,.int .i64 t510,.slice none 0 0]) ?_ 2 _ rfl;(with_reducible repeat (first|refine kn_ ?_ _|refine kd_ ?_|refine ka_ ?_ _));refine ku_ (cs:=#[.int .i64 t509,.int .i64 0,.slice none 0 0]) ?_ 1 _ rfl;(with_reducible repeat (first|refine kn_ ?_ _|refine kd_ ?_|refine ka_ ?_ _));refine ku_ (cs:=#[.int .i64 0,.int .i64 0,.slice none 0 0]) ?_ 0 _ rfl;(with_reducible repeat (first|refine kn_ ?_ _|refine kd_ ?_|refine ka_ ?_ _));refine kr_ ?_ NB515_514.out _;(with_reducible repeat (first|refine kn_ ?_ _|refine kd_ ?_|refine ka_ ?_ _));refine kr_ ?_ NB515_514.out _;(with_reducible repeat (first|refine kn_ ?_ _|refine kd_ ?_|refine ka_ ?_ _));refine kr_ ?_ NB515_514.out _;(with_reducible repeat (first|refine kn_ ?_ _|refine kd_ ?_|refine ka_ ?_ _));exact BK515.out⟩;have n4_ : Aside0 (Below w.heap.size w ((((((w15.setCell ⟨gb514,0,none⟩ (.int .i64 t504)).setCell ⟨gb514,1,none⟩ (.int .i64 t505)).setCell ⟨gb514,2,none⟩ (.slice Ao18 t506.length co18)).setCell ⟨gb515,0,none⟩ (.int .i64 t509)).setCell ⟨gb515,1,none⟩ (.int .i64 t510)).setCell ⟨gb515,2,none⟩ (.slice Ao20 t511.length co20))):=⟨bq_ HB⟩
    (try clear HO508)
    (try clear HO513)
    (try clear BK514)
    (try clear BK515)
    (try clear HB)
    generalize ((((((w15.setCell ⟨gb514,0,none⟩ (.int .i64 t504)).setCell ⟨gb514,1,none⟩ (.int .i64 t505)).setCell ⟨gb514,2,none⟩ (.slice Ao18 t506.length co18)).setCell ⟨gb515,0,none⟩ (.int .i64 t509)).setCell ⟨gb515,1,none⟩ (.int .i64 t510)).setCell ⟨gb515,2,none⟩ (.slice Ao20 t511.length co20)) = w21 at n0_ n1_ n2_ n3_ n4_ ⊢;have HO508:=n0_;have HO513:=n1_;have BK514:=n2_;have BK515:=n3_;have HB:=n4_;clear n0_ n1_ n2_ n3_ n4_;replace HO508:=A_ (Rd_ HO508.out);replace HO513:=A_ (Rd_ HO513.out);replace BK514:=A_ (kd_ BK514.out);replace BK515:=A_ (kd_ BK515.out);replace HB:=A_ (pd_ HB.out);refine start_ (n:=13) (S:=fun w' => w'.cell? ⟨gb514,0,none⟩ = some (.int .i64 t504) ∧ w'.cell? ⟨gb514,1,none⟩ = some (.int .i64 t505) ∧ w'.cell? ⟨gb514,2,none⟩ = some (.slice Ao18 t506.length co18)) (ds:=[]) #[false,false,false,false,false,false,false,false,false,false,false,false,false] (by kernel_rfl) rfl rfl ⟨kC_ BK514 0,kC_ BK514 1,kC_ BK514 2⟩ (fun hHeld => ?_);refine with_tabW laws_FnBehind.tab4 laws_FnBehind.bits4 (fun HT_ HW_ => ?_);generalize w21.drew = w22 at HO508 HO513 BK514 BK515 HB hHeld ⊢;refine pure_ (i:=0) (N:=some 23) (v:=?_) (a':=?_) #[true,false,false,false,false,false,false,false,false,false,false,false,false] rfl rfl (any_of HT_.out (by kernel_rfl)) (fun _ _ _ h => h) (Or.inl ⟨by rfl,?_⟩) ?_ ?_;rotate_left
    ·intro w';go_simp;with_reducible rfl
    rotate_left
    ·exact ux_
    refine pure_ (i:=2) (N:=some 25) (v:=?_) (a':=?_) #[true,false,true,false,false,false,false,false,false,false,false,false,false] rfl rfl (any_of HT_.out (by kernel_rfl)) (fun _ _ _ h => h) (Or.inl ⟨by rfl,?_⟩) ?_ ?_;rotate_left
    ·intro w';go_simp;with_reducible rfl
    rotate_left
    ·exact ux_
    refine pure_ (i:=6) (N:=some 29) (v:=?_) (a':=?_) #[true,false,true,false,false,false,true,false,false,false,false,false,false] rfl rfl (any_of HT_.out (by kernel_rfl)) (fun _ _ _ h => h) (Or.inl ⟨by rfl,?_⟩) ?_ ?_;rotate_left
    ·intro w';go_simp;with_reducible rfl
    rotate_left
    ·exact ux_
    refine take_ (i:=1) (N:=some 24) (v:=?_) (a':=?_) #[true,true,true,false,false,false,true,false,false,false,false,false,false] rfl rfl (take_ofW HT_.out HW_.out (by kernel_rfl)) (fun _ _ _ h => h) (Or.inl ⟨by rfl,?_⟩) hHeld ?_ ?_;rotate_left
    ·rintro w' ⟨s0,s1,s2⟩;go_simp;with_reducible rfl
    rotate_left
    ·exact ux_
    refine take_ (i:=7) (N:=some 30) (v:=?_) (a':=?_) #[true,true,true,false,false,false,true,true,false,false,false,false,false] rfl rfl (take_ofW HT_.out HW_.out (by kernel_rfl)) (fun _ _ _ h => h) (Or.inl ⟨by rfl,?_⟩) hHeld ?_ ?_;rotate_left
    ·rintro w' ⟨s0,s1,s2⟩;go_simp;with_reducible rfl
    rotate_left
    ·exact ux_
    refine pure_ (i:=8) (N:=some 31) (v:=?_) (a':=?_) #[true,true,true,false,false,false,true,true,true,false,false,false,false] rfl rfl (any_of HT_.out (by kernel_rfl)) (fun _ _ _ h => h) (Or.inl ⟨by rfl,?_⟩) ?_ ?_;rotate_left
    ·intro w';go_simp;with_reducible rfl
    rotate_left
    ·exact ux_
    refine pure_ (i:=9) (N:=some 32) (v:=?_) (a':=?_) #[true,true,true,false,false,false,true,true,true,true,false,false,false] rfl rfl (any_of HT_.out (by kernel_rfl)) (fun _ _ _ h => h) (Or.inl ⟨by rfl,?_⟩) ?_ ?_;rotate_left
    ·intro w';go_simp;with_reducible rfl
    rotate_left
    ·exact ux_
    refine one_ (i:=3) (N:=some 26) #[true,true,true,true,false,false,true,true,true,true,false,false,false] rfl rfl (one_of HT_.out (by kernel_rfl)) (by decide) (fun K hK => ?_);refine goes_ Try.func63 (by kernel_rfl) rfl #[.slice A0 l0.length c0] (by rfl) rfl rfl aq_ ?_;with_reducible refine (spec_DrawPlaces.calls k _ _ l0 t516 _ ?side1 ?side2 A5.out).mono ?_
    (case side1 => repeat (first|exact (Kd.C_below HR0.out HB.out)|(with_reducible refine Kd.C_alloc ?_ _)|(with_reducible refine Kd.C_drewN ?_ _)|(with_reducible refine Kd.C_drew ?_)))
    (case side2 => exact HC0.out)
    rintro e w23 ⟨v517,rfl,ho0,hb⟩;refine ⟨_,rfl,?_⟩;replace HO508:=A_ (rb_ (rq_ HO508) hb);replace HO513:=A_ (rb_ (rq_ HO513) hb);have HO518:=A_ (rw_ ho0 (bz_ (bq_ HB)));replace BK514:=A_ (kb_ (kq_ BK514) hb);replace BK515:=A_ (kb_ (kq_ BK515) hb);replace HB:=A_ (bs_ (bq_ HB) hb)
    (try clear hb)
    (try clear hb2)
    (try clear hk)
    (try clear hi)
    (try clear ho0)
    obtain ⟨Ao24,co24,eo24⟩:=Kd.R_slice HO518.out
    (first|subst eo24|(injection eo24 with f1_ f2_ f3_;have f4_:=f1_.symm;have f5_:=f3_.symm;clear f1_ f2_ f3_;subst f4_;subst f5_))
    have p519 : 0 ≤ (4 : Int):=(by omega);have q519 : 4 < (t516.length : Int):=oda_;obtain ⟨ad519,e519,hx519_0⟩:=Kd.at_int (Kd.R_reads' HO518.out).2.2 4 p519 q519
    cases e519
    (try simp only [show (4 : Int).toNat = 4 from rfl,Nat.reduceMul,Nat.reduceEqDiff,Go.Addr.add,↓reduceIte] at hx519_0)
    have qi519 : (4 < t516.length) = True:=eq_true (by omega)
    (try rw [show ((4 : Int)).toNat = 4 from rfl] at hx519_0)
    replace p519:=eq_true p519;replace q519:=eq_true q519;refine hK.out _ _ ⟨kC_ BK514 0,kC_ BK514 1,kC_ BK514 2⟩ (fun hHeld => ?_);clear hK K;refine norm_ (a':=?_) ?_ ?_;rotate_left
    ·show Act.put _ (some 26) _ = _;simp only [Act.put,s1_,s2_,s3_,i64_w,i32_w];rfl
    refine pure_ (i:=4) (N:=some 27) (v:=?_) (a':=?_) #[true,true,true,true,true,false,true,true,true,true,false,false,false] rfl rfl (any_of HT_.out (by kernel_rfl)) (fun _ _ _ h => h) (Or.inl ⟨by rfl,?_⟩) ?_ ?_;rotate_left
    ·intro w';go_simp;with_reducible rfl
    rotate_left
    ·exact ux_
    refine one_ (i:=5) (N:=some 28) #[true,true,true,true,true,true,true,true,true,true,false,false,false] rfl rfl (one_of HT_.out (by kernel_rfl)) (by decide) (fun K hK => ?_);refine value_ (w1:=?_) (v:=?_) (by rfl) rfl ?_ ?_;rotate_left 2
    ·go_simp
     constructor
     ·rfl
     ·rfl
    refine hK.out _ _ ⟨kC_ BK514 0,kC_ BK514 1,kC_ BK514 2⟩ (fun hHeld => ?_);clear hK K;refine norm_ (a':=?_) ?_ ?_;rotate_left
    ·show Act.put _ (some 28) _ = _;simp only [Act.put,s1_,s2_,s3_,i64_w,i32_w];rfl
    refine pure_ (i:=10) (N:=some 33) (v:=?_) (a':=?_) #[true,true,true,true,true,true,true,true,true,true,true,false,false] rfl rfl (any_of HT_.out (by kernel_rfl)) (fun _ _ _ h => h) (Or.inl ⟨by rfl,?_⟩) ?_ ?_;rotate_left
    ·intro w';go_simp;with_reducible rfl
    rotate_left
    ·exact ux_
    refine pure_ (i:=11) (N:=some 34) (v:=?_) (a':=?_) #[true,true,true,true,true,true,true,true,true,true,true,true,false] rfl rfl (any_of HT_.out (by kernel_rfl)) (fun _ _ _ h => h) (Or.inl ⟨by rfl,?_⟩) ?_ ?_;rotate_left
    ·intro w';go_simp;with_reducible rfl
    rotate_left
    ·exact ux_
    refine pure_ (i:=12) (N:=some 6) (v:=?_) (a':=?_) #[true,true,true,true,true,true,true,true,true,true,true,true,true] rfl rfl (any_of HT_.out (by kernel_rfl)) (fun _ _ _ h => h) (Or.inl ⟨by rfl,?_⟩) ?_ ?_;rotate_left
    ·intro w';go_simp;with_reducible rfl
    rotate_left
    ·exact ux_
    refine done_ (done_of HT_.out (by kernel_rfl)) ?_;have hcz25_0:=kC_ BK514 0;have hcz25_1:=kC_ BK514 1;have hcz25_2:=kC_ BK514 2;have hfz25_0:=kf_ BK514.out 0;have hfz25_1:=kf_ BK514.out 1;have hfz25_2:=kf_ BK514.out 2
    go_upto_region 9 with (first|((with_reducible refine gate_callee (f:=64) rfl ?_);refine goesL_ (some 37) rfl rfl Try.func64 (by kernel_rfl) rfl #[.agg #[.int .i64 t504,.int .i64 t505,.slice Ao18 t506.length co18],.int .i64 (wrap64 (t504 + (Int.tmod (rd t516 4) (wrap64 ((t506.length : Int) + 1)))))] rfl aq_ ?_;(with_reducible refine (impl_LogTerm.calls t504 t505 _ _ t506 (wrap64 (t504 + (Int.tmod (rd t516 4) (wrap64 ((t506.length : Int) + 1))))) t520 _ ?side1 ?side2 A8.out).mono ?_);(case side1 => repeat (first|exact (Kd.R_reads' HO508.out).2.2|(with_reducible refine Kd.C_alloc ?_ _)|(with_reducible refine Kd.C_drewN ?_ _)|(with_reducible refine Kd.C_drew ?_)));(case side2 => exact (Kd.R_reads' HO508.out).2.1);rintro e w26 ⟨rfl,hb⟩;refine ⟨_,rfl,?_⟩;replace HO508:=A_ (rb_ (rq_ HO508) hb);replace HO513:=A_ (rb_ (rq_ HO513) hb);replace HO518:=A_ (rb_ (rq_ HO518) hb);replace BK514:=A_ (kb_ (kq_ BK514) hb);replace BK515:=A_ (kb_ (kq_ BK515) hb);replace HB:=A_ (bs_ (bq_ HB) hb);(try clear hb);(try clear hb2);(try clear hk);(try clear hi);have hcz27_0:=kC_ BK514 0;have hcz27_1:=kC_ BK514 1;have hcz27_2:=kC_ BK514 2;have hfz27_0:=kf_ BK514.out 0;have hfz27_1:=kf_ BK514.out 1;have hfz27_2:=kf_ BK514.out 2)|((with_reducible refine gate_callee (f:=38) rfl ?_);refine goesL_ (some 41) rfl rfl Try.func38 (by kernel_rfl) rfl #[.agg #[.int .i64 t504,.int .i64 t505,.slice Ao18 t506.length co18],.int .i64 (wrap64 (t504 + (Int.tmod (rd t516 4) (wrap64 ((t506.length : Int) + 1))))),.int .i64 t520] rfl aq_ ?_;(with_reducible refine (impl_LogBehind.calls k t504 t505 _ _ t506 (wrap64 (t504 + (Int.tmod (rd t516 4) (wrap64 ((t506.length : Int) + 1))))) t520 t521 t522 t523 _ ?side1 ?side2 A9.out).mono ?_);(case side1 => repeat (first|exact (Kd.R_reads' HO508.out).2.2|(with_reducible refine Kd.C_alloc ?_ _)|(with_reducible refine Kd.C_drewN ?_ _)|(with_reducible refine Kd.C_drew ?_)));(case side2 => exact (Kd.R_reads' HO508.out).2.1);rintro e w28 ⟨v524,rfl,ho0,hb⟩;refine ⟨_,rfl,?_⟩;replace HO518:=A_ (rb_ (rq_ HO518) hb);have HO525:=A_ (rw_ (Kd.R_new' (Kd.R_new' ho0 (Kd.R_lt (rq_ HO508))) (Kd.R_lt (rq_ HO513))) (bz_ (bq_ HB)));replace HO508:=A_ (Kd.R_elder' (rq_ HO508) (Kd.R_base ho0) hb);replace HO513:=A_ (Kd.R_elder' (rq_ HO513) (Kd.R_base ho0) hb);replace BK514:=A_ (kb_ (kq_ BK514) hb);replace BK515:=A_ (kb_ (kq_ BK515) hb);replace HB:=A_ (bs_ (bq_ HB) hb);(try clear hb);(try clear hb2);(try clear hk);(try clear hi);(try clear ho0))|((with_reducible refine gate_dst (N:=8) rfl ?_);refine box_event ?hg (N:=8) ?hd (cs:=#[.int .i64 0,.int .i64 0,.slice none 0 0]) (t:=60) ?hr ?_;(case hd => rfl);(case hg => rfl);(case hr => exact gx_);intro gb526 hg w29 hbox hb;replace HO508:=A_ (rb_ (rq_ HO508) hb);replace HO513:=A_ (rb_ (rq_ HO513) hb);replace HO518:=A_ (rb_ (rq_ HO518) hb);replace HO525:=A_ (rb_ (rq_ HO525) hb);have BK526:=A_ (hbox);have GW526:=A_ ((by rw [hg];exact (bz_ (bq_ HB)) : w.heap.size ≤ gb526));have GE526:=A_ ((by rw [hg];exact (bz_ (bq_ HB)) : w.heap.size ≤ gb526));replace HB:=A_ (bs_ (bq_ HB) hb);have NB514_526:=A_ ((by rw [hg];exact nl_ (kl_ (g:=gb514) (o:=.cells #[.int .i64 t504,.int .i64 t505,.slice Ao18 t506.length co18] 60 (0,0)) (kq_ BK514)) : gb514 ≠ gb526));have NB526_514:=A_ ((by rw [hg];exact ng_ (kl_ (g:=gb514) (o:=.cells #[.int .i64 t504,.int .i64 t505,.slice Ao18 t506.length co18] 60 (0,0)) (kq_ BK514)) : gb526 ≠ gb514));replace BK514:=A_ (kb_ (kq_ BK514) hb);have NB515_526:=A_ ((by rw [hg];exact nl_ (kl_ (g:=gb515) (o:=.cells #[.int .i64 t509,.int .i64 t510,.slice Ao20 t511.length co20] 60 (0,0)) (kq_ BK515)) : gb515 ≠ gb526));have NB526_515:=A_ ((by rw [hg];exact ng_ (kl_ (g:=gb515) (o:=.cells #[.int .i64 t509,.int .i64 t510,.slice Ao20 t511.length co20] 60 (0,0)) (kq_ BK515)) : gb526 ≠ gb515));replace BK515:=A_ (kb_ (kq_ BK515) hb);clear hb hbox hg;have hnb30:=NB526_514.out;have hnc30:=NB514_526.out;have hnb31:=NB526_515.out;have hnc31:=NB515_526.out;have hcz32_0:=kC_ BK526 0;have hcz32_1:=kC_ BK526 1;have hcz32_2:=kC_ BK526 2;have hfz32_0:=kf_ BK526.out 0;have hfz32_1:=kf_ BK526.out 1;have hfz32_2:=kf_ BK526.out 2;obtain ⟨Ao33,co33,eo33⟩:=Kd.R_slice HO525.out;subst eo33;have hcz34_0:=kC_ BK514 0;have hcz34_1:=kC_ BK514 1;have hcz34_2:=kC_ BK514 2;have hfz34_0:=kf_ BK514.out 0;have hfz34_1:=kf_ BK514.out 1;have hfz34_2:=kf_ BK514.out 2)|((with_reducible refine gate_callee (f:=65) rfl ?_);refine goesL_ (some 44) rfl rfl Try.func65 (by kernel_rfl) rfl #[.agg #[.int .i64 t504,.int .i64 t505,.slice Ao18 t506.length co18]] rfl aq_ ?_;(with_reducible refine (impl_LogLast.calls t504 t505 _ _ t506 t527 t528 _ ?side1 ?side2 A10.out).mono ?_);(case side1 => refine (Kd.R_reads' (e:=37) (base:=w.heap.size) (ok:=fun k_ => (some k_ ≠ (.slice Ao20 t511.length co20 : Value).ownBlock ∧ some k_ ≠ (.slice Ao33 t523.length co33 : Value).ownBlock)) (n:=t506.length) (c:=co18) ?_).2.2;exact (by (with_reducible repeat (first|apply ra_|apply rn_|apply Rd_));exact (rm_ (rf_ (p:=⟨gb526,2,none⟩) (rf_ (p:=⟨gb526,1,none⟩) (rf_ (p:=⟨gb526,0,none⟩) (Kd.R_types HO508.out BK526.out (by decide)) (fun _ hk => hk.2) (.int .i64 t521)) (fun _ hk => hk.2) (.int .i64 t522)) (fun _ hk => hk.2) (.slice Ao33 t523.length co33)) (fun _ h_ => h_.1))));(case side2 => exact (Kd.R_reads' HO508.out).2.1);rintro e w35 ⟨rfl,hb⟩;refine ⟨_,rfl,?_⟩;replace HO508:=A_ (rb_ (by (with_reducible repeat (first|apply ra_|apply rn_|apply Rd_));exact (rm_ (rf_ (p:=⟨gb526,2,none⟩) (rf_ (p:=⟨gb526,1,none⟩) (rf_ (p:=⟨gb526,0,none⟩) (Kd.R_types HO508.out BK526.out (by decide)) (fun _ hk => hk.2) (.int .i64 t521)) (fun _ hk => hk.2) (.int .i64 t522)) (fun _ hk => hk.2) (.slice Ao33 t523.length co33)) (fun _ h_ => h_.1))) hb);replace HO513:=A_ (rb_ (by (with_reducible repeat (first|apply ra_|apply rn_|apply Rd_));exact (rm_ (rf_ (p:=⟨gb526,2,none⟩) (rf_ (p:=⟨gb526,1,none⟩) (rf_ (p:=⟨gb526,0,none⟩) (Kd.R_types HO513.out BK526.out (by decide)) (fun _ hk => hk.2) (.int .i64 t521)) (fun _ hk => hk.2) (.int .i64 t522)) (fun _ hk => hk.2) (.slice Ao33 t523.length co33)) (fun _ h_ => h_.1))) hb);replace HO518:=A_ (rb_ (by (with_reducible repeat (first|apply ra_|apply rn_|apply Rd_));exact (rm_ (rf_ (p:=⟨gb526,2,none⟩) (rf_ (p:=⟨gb526,1,none⟩) (rf_ (p:=⟨gb526,0,none⟩) (Kd.R_types HO518.out BK526.out (by decide)) (fun _ hk => hk.2) (.int .i64 t521)) (fun _ hk => hk.2) (.int .i64 t522)) (fun _ hk => hk.2) (.slice Ao33 t523.length co33)) (fun _ h_ => h_.1))) hb);replace HO525:=A_ (rb_ (by (with_reducible repeat (first|apply ra_|apply rn_|apply Rd_));exact (rm_ (rf_ (p:=⟨gb526,2,none⟩) (rf_ (p:=⟨gb526,1,none⟩) (rf_ (p:=⟨gb526,0,none⟩) (Kd.R_types HO525.out BK526.out (by decide)) (fun _ hk => hk.2) (.int .i64 t521)) (fun _ hk => hk.2) (.int .i64 t522)) (fun _ hk => hk.2) (.slice Ao33 t523.length co33)) (fun _ h_ => h_.1))) hb);replace BK514:=A_ (kb_ (g:=gb514) (o:=.cells #[.int .i64 t504,.int .i64 t505,.slice Ao18 t506.length co18] 60 (0,0)) (by (with_reducible repeat (first|refine kn_ ?_ _|refine kd_ ?_|refine ka_ ?_ _));refine kr_ ?_ NB514_526.out _;(with_reducible repeat (first|refine kn_ ?_ _|refine kd_ ?_|refine ka_ ?_ _));refine kr_ ?_ NB514_526.out _;(with_reducible repeat (first|refine kn_ ?_ _|refine kd_ ?_|refine ka_ ?_ _));refine kr_ ?_ NB514_526.out _;(with_reducible repeat (first|refine kn_ ?_ _|refine kd_ ?_|refine ka_ ?_ _));exact BK514.out) hb);replace BK515:=A_ (kb_ (g:=gb515) (o:=.cells #[.int .i64 t509,.int .i64 t510,.slice Ao20 t511.length co20] 60 (0,0)) (by (with_reducible repeat (first|refine kn_ ?_ _|refine kd_ ?_|refine ka_ ?_ _));refine kr_ ?_ NB515_526.out _;(with_reducible repeat (first|refine kn_ ?_ _|refine kd_ ?_|refine ka_ ?_ _));refine kr_ ?_ NB515_526.out _;(with_reducible repeat (first|refine kn_ ?_ _|refine kd_ ?_|refine ka_ ?_ _));refine kr_ ?_ NB515_526.out _;(with_reducible repeat (first|refine kn_ ?_ _|refine kd_ ?_|refine ka_ ?_ _));exact BK515.out) hb);replace BK526:=A_ (kb_ (g:=gb526) (o:=.cells #[.int .i64 t521,.int .i64 t522,.slice Ao33 t523.length co33] 60 (0,0)) (by (with_reducible repeat (first|refine kn_ ?_ _|refine kd_ ?_|refine ka_ ?_ _));refine ku_ (cs:=#[.int .i64 t521,.int .i64 t522,.slice none 0 0]) ?_ 2 _ rfl;(with_reducible repeat (first|refine kn_ ?_ _|refine kd_ ?_|refine ka_ ?_ _));refine ku_ (cs:=#[.int .i64 t521,.int .i64 0,.slice none 0 0]) ?_ 1 _ rfl;(with_reducible repeat (first|refine kn_ ?_ _|refine kd_ ?_|refine ka_ ?_ _));refine ku_ (cs:=#[.int .i64 0,.int .i64 0,.slice none 0 0]) ?_ 0 _ rfl;(with_reducible repeat (first|refine kn_ ?_ _|refine kd_ ?_|refine ka_ ?_ _));exact BK526.out) hb);replace HB:=A_ (bs_ (bq_ HB) hb);(try clear hb);(try clear hb2);(try clear hk);(try clear hi);have hcz36_0:=kC_ BK526 0;have hcz36_1:=kC_ BK526 1;have hcz36_2:=kC_ BK526 2;have hfz36_0:=kf_ BK526.out 0;have hfz36_1:=kf_ BK526.out 1;have hfz36_2:=kf_ BK526.out 2)|((with_reducible refine gate_callee (f:=65) rfl ?_);refine goesL_ (some 49) rfl rfl Try.func65 (by kernel_rfl) rfl #[.agg #[.int .i64 t521,.int .i64 t522,.slice Ao33 t523.length co33]] rfl aq_ ?_;(with_reducible refine (impl_LogLast.calls t521 t522 _ _ t523 t529 t530 _ ?side1 ?side2 A11.out).mono ?_);(case side1 => repeat (first|exact (Kd.R_reads' HO525.out).2.2|(with_reducible refine Kd.C_alloc ?_ _)|(with_reducible refine Kd.C_drewN ?_ _)|(with_reducible refine Kd.C_drew ?_)));(case side2 => exact (Kd.R_reads' HO525.out).2.1);rintro e w37 ⟨rfl,hb⟩;refine ⟨_,rfl,?_⟩;replace HO508:=A_ (rb_ (rq_ HO508) hb);replace HO513:=A_ (rb_ (rq_ HO513) hb);replace HO518:=A_ (rb_ (rq_ HO518) hb);replace HO525:=A_ (rb_ (rq_ HO525) hb);replace BK514:=A_ (kb_ (kq_ BK514) hb);replace BK515:=A_ (kb_ (kq_ BK515) hb);replace BK526:=A_ (kb_ (kq_ BK526) hb);replace HB:=A_ (bs_ (bq_ HB) hb);(try clear hb);(try clear hb2);(try clear hk);(try clear hi)))
    (try simp only [Act.put,s1_,s2_,s3_])
    go_cut [80] (fun v80 wc => ∃ (kq : Nat) (x80_11 : Bool),v80 = .bool x80_11 ∧ Aside0 (laws_FnBehind.j0 kq (wrap64 (t504 + (Int.tmod (rd t516 4) (wrap64 ((t506.length : Int) + 1))))) t520 x80_11 t504 t505 t506 t521 t522 t523 = some r) ∧ Aside0 (kq ≤ k) ∧ Aside0 (Kd.R k37 37 wc w.heap.size (fun k_ => some k_ ≠ ((.slice Ao20 t511.length co20) : Value).ownBlock ∧ some k_ ≠ ((.slice Ao33 t523.length co33) : Value).ownBlock) (.slice Ao18 t506.length co18) t506) ∧ Aside0 (Kd.R k37 37 wc w.heap.size (fun k_ => some k_ ≠ ((.slice Ao18 t506.length co18) : Value).ownBlock ∧ some k_ ≠ ((.slice Ao33 t523.length co33) : Value).ownBlock) (.slice Ao20 t511.length co20) t511) ∧ Aside0 (Kd.R k37 37 wc w.heap.size (fun k_ => some k_ ≠ ((.slice Ao18 t506.length co18) : Value).ownBlock ∧ some k_ ≠ ((.slice Ao20 t511.length co20) : Value).ownBlock) (.slice Ao33 t523.length co33) t523) ∧ Aside0 (wc.heap[gb514]? = some (.cells #[.int .i64 t504,.int .i64 t505,(.slice Ao18 t506.length co18)] 60 (0,0))) ∧ Aside0 (wc.heap[gb515]? = some (.cells #[.int .i64 t509,.int .i64 t510,(.slice Ao20 t511.length co20)] 60 (0,0))) ∧ Aside0 (wc.heap[gb526]? = some (.cells #[.int .i64 t521,.int .i64 t522,(.slice Ao33 t523.length co33)] 60 (0,0))) ∧ Aside0 (Below w.heap.size w wc))
    case first =>
     have H:=HC12.out;clear HC12
     by_cases c38 : t521 = (wrap64 (t504 + (Int.tmod (rd t516 4) (wrap64 ((t506.length : Int) + 1)))))
     ·rw [if_pos c38] at H;have c38b0 : (t521 == (wrap64 (t504 + (Int.tmod (rd t516 4) (wrap64 ((t506.length : Int) + 1)))))) = true:=beq_iff_eq.mpr c38;have c38b1 : (t521 != (wrap64 (t504 + (Int.tmod (rd t516 4) (wrap64 ((t506.length : Int) + 1)))))) = false:=bne_eq_false_iff_eq.mpr c38;clear c38
      (first|rw [c38b0]|(simp only [i64_w,i32_w];rw [c38b0])|skip)
      by_cases c39 : t522 = t520
      ·rw [if_pos c39] at H;have c39b0 : (t522 == t520) = true:=beq_iff_eq.mpr c39;have c39b1 : (t522 != t520) = false:=bne_eq_false_iff_eq.mpr c39;clear c39
       by_cases c40 : t527 = t529
       ·rw [if_pos c40] at H;have c40b0 : (t527 == t529) = true:=beq_iff_eq.mpr c40;have c40b1 : (t527 != t529) = false:=bne_eq_false_iff_eq.mpr c40;clear c40
        by_cases c41 : t528 = t530
        ·rw [if_pos c41] at H;have c41b0 : (t528 == t530) = true:=beq_iff_eq.mpr c41;have c41b1 : (t528 != t530) = false:=bne_eq_false_iff_eq.mpr c41;clear c41;replace H:=ob_.mp H;obtain ⟨t531,A420,H⟩:=H;replace H : (if t531 = true then (laws_FnBehind.j0 k (wrap64 (t504 + (Int.tmod (rd t516 4) (wrap64 ((t506.length : Int) + 1))))) t520 (decide (t520 < 0)) t504 t505 t506 t521 t522 t523) else (laws_FnBehind.j0 k (wrap64 (t504 + (Int.tmod (rd t516 4) (wrap64 ((t506.length : Int) + 1))))) t520 true t504 t505 t506 t521 t522 t523)) = some r:=H;have A42:=A_ A420;clear A420
         by_cases c43 : t531 = true
         ·subst c43
          have H1 : (laws_FnBehind.j0 k (wrap64 (t504 + (Int.tmod (rd t516 4) (wrap64 ((t506.length : Int) + 1))))) t520 (decide (t520 < 0)) t504 t505 t506 t521 t522 t523) = some r:=by rw [if_pos rfl] at H;exact H
          clear H;have H:=H1;clear H1;have H':=A_ H;clear H;have hnb44:=NB526_514.out;have hnc44:=NB514_526.out;have hnb45:=NB526_515.out;have hnc45:=NB515_526.out;have hcz46_0:=kC_ BK526 0;have hcz46_1:=kC_ BK526 1;have hcz46_2:=kC_ BK526 2;have hfz46_0:=kf_ BK526.out 0;have hfz46_1:=kf_ BK526.out 1;have hfz46_2:=kf_ BK526.out 2
          go_wp2_with (first|(go_at_call 66;(with_reducible refine (impl_LogOk.calls k t521 t522 _ _ t523 true _ ?side1 ?side2 A42.out).mono ?_);(case side1 => repeat (first|exact (Kd.R_reads' HO525.out).2.2|(with_reducible refine Kd.C_alloc ?_ _)|(with_reducible refine Kd.C_drewN ?_ _)|(with_reducible refine Kd.C_drew ?_)));(case side2 => exact (Kd.R_reads' HO525.out).2.1);rintro e w47 ⟨rfl,hb⟩;replace HO508:=A_ (rb_ (rq_ HO508) hb);replace HO513:=A_ (rb_ (rq_ HO513) hb);replace HO518:=A_ (rb_ (rq_ HO518) hb);replace HO525:=A_ (rb_ (rq_ HO525) hb);replace BK514:=A_ (kb_ (kq_ BK514) hb);replace BK515:=A_ (kb_ (kq_ BK515) hb);replace BK526:=A_ (kb_ (kq_ BK526) hb);replace HB:=A_ (bs_ (bq_ HB) hb);(try clear hb);(try clear hb2);(try clear hk);(try clear hi)))
          go_meet
          case rel => exact ⟨_,(decide (t520 < 0)),(by first|rfl|(simp;done)|(simp [*];done)),H',⟨by first|omega|exact Nat.le_refl _⟩,⟨by (with_reducible repeat (first|apply ra_|apply rn_|apply Rd_));exact HO508.out⟩,⟨by (with_reducible repeat (first|apply ra_|apply rn_|apply Rd_));exact HO513.out⟩,⟨by (with_reducible repeat (first|apply ra_|apply rn_|apply Rd_));exact rm_ HO525.out (fun _ hk => ⟨hk.1.2,hk.2⟩)⟩,⟨kq_ BK514⟩,⟨kq_ BK515⟩,⟨kq_ BK526⟩,⟨bq_ HB⟩⟩
         ·replace c43:=Bool.eq_false_iff.mpr c43;subst c43
          have H1 : (laws_FnBehind.j0 k (wrap64 (t504 + (Int.tmod (rd t516 4) (wrap64 ((t506.length : Int) + 1))))) t520 true t504 t505 t506 t521 t522 t523) = some r:=by rw [if_neg (show ¬ (false = true) by decide)] at H;exact H
          clear H;have H:=H1;clear H1;have H':=A_ H;clear H;have hnb48:=NB526_514.out;have hnc48:=NB514_526.out;have hnb49:=NB526_515.out;have hnc49:=NB515_526.out;have hcz50_0:=kC_ BK526 0;have hcz50_1:=kC_ BK526 1;have hcz50_2:=kC_ BK526 2;have hfz50_0:=kf_ BK526.out 0;have hfz50_1:=kf_ BK526.out 1;have hfz50_2:=kf_ BK526.out 2
          go_wp2_with (first|(go_at_call 66;(with_reducible refine (impl_LogOk.calls k t521 t522 _ _ t523 false _ ?side1 ?side2 A42.out).mono ?_);(case side1 => repeat (first|exact (Kd.R_reads' HO525.out).2.2|(with_reducible refine Kd.C_alloc ?_ _)|(with_reducible refine Kd.C_drewN ?_ _)|(with_reducible refine Kd.C_drew ?_)));(case side2 => exact (Kd.R_reads' HO525.out).2.1);rintro e w51 ⟨rfl,hb⟩;replace HO508:=A_ (rb_ (rq_ HO508) hb);replace HO513:=A_ (rb_ (rq_ HO513) hb);replace HO518:=A_ (rb_ (rq_ HO518) hb);replace HO525:=A_ (rb_ (rq_ HO525) hb);replace BK514:=A_ (kb_ (kq_ BK514) hb);replace BK515:=A_ (kb_ (kq_ BK515) hb);replace BK526:=A_ (kb_ (kq_ BK526) hb);replace HB:=A_ (bs_ (bq_ HB) hb);(try clear hb);(try clear hb2);(try clear hk);(try clear hi)))
          go_meet
          case rel => exact ⟨_,(true),(by first|rfl|(simp;done)|(simp [*];done)),H',⟨by first|omega|exact Nat.le_refl _⟩,⟨by (with_reducible repeat (first|apply ra_|apply rn_|apply Rd_));exact HO508.out⟩,⟨by (with_reducible repeat (first|apply ra_|apply rn_|apply Rd_));exact HO513.out⟩,⟨by (with_reducible repeat (first|apply ra_|apply rn_|apply Rd_));exact rm_ HO525.out (fun _ hk => ⟨hk.1.2,hk.2⟩)⟩,⟨kq_ BK514⟩,⟨kq_ BK515⟩,⟨kq_ BK526⟩,⟨bq_ HB⟩⟩
        ·rw [if_neg c41] at H;have c41b0 : (t528 == t530) = false:=beq_eq_false_iff_ne.mpr c41;have c41b1 : (t528 != t530) = true:=bne_iff_ne.mpr c41;have H':=A_ H;clear H;have hnb52:=NB526_514.out;have hnc52:=NB514_526.out;have hnb53:=NB526_515.out;have hnc53:=NB515_526.out;have hcz54_0:=kC_ BK526 0;have hcz54_1:=kC_ BK526 1;have hcz54_2:=kC_ BK526 2;have hfz54_0:=kf_ BK526.out 0;have hfz54_1:=kf_ BK526.out 1;have hfz54_2:=kf_ BK526.out 2;go_wp2
         go_meet
         case rel => exact ⟨_,(true),(by first|rfl|(simp;done)|(simp [*];done)),H',⟨by first|omega|exact Nat.le_refl _⟩,⟨by (with_reducible repeat (first|apply ra_|apply rn_|apply Rd_));exact HO508.out⟩,⟨by (with_reducible repeat (first|apply ra_|apply rn_|apply Rd_));exact HO513.out⟩,⟨by (with_reducible repeat (first|apply ra_|apply rn_|apply Rd_));exact rm_ HO525.out (fun _ hk => ⟨hk.1.2,hk.2⟩)⟩,⟨kq_ BK514⟩,⟨kq_ BK515⟩,⟨kq_ BK526⟩,⟨bq_ HB⟩⟩
       ·rw [if_neg c40] at H;have c40b0 : (t527 == t529) = false:=beq_eq_false_iff_ne.mpr c40;have c40b1 : (t527 != t529) = true:=bne_iff_ne.mpr c40;have H':=A_ H;clear H;have hnb55:=NB526_514.out;have hnc55:=NB514_526.out;have hnb56:=NB526_515.out;have hnc56:=NB515_526.out;have hcz57_0:=kC_ BK526 0;have hcz57_1:=kC_ BK526 1;have hcz57_2:=kC_ BK526 2;have hfz57_0:=kf_ BK526.out 0;have hfz57_1:=kf_ BK526.out 1;have hfz57_2:=kf_ BK526.out 2;go_wp2
        go_meet
        case rel => exact ⟨_,(true),(by first|rfl|(simp;done)|(simp [*];done)),H',⟨by first|omega|exact Nat.le_refl _⟩,⟨by (with_reducible repeat (first|apply ra_|apply rn_|apply Rd_));exact HO508.out⟩,⟨by (with_reducible repeat (first|apply ra_|apply rn_|apply Rd_));exact HO513.out⟩,⟨by (with_reducible repeat (first|apply ra_|apply rn_|apply Rd_));exact rm_ HO525.out (fun _ hk => ⟨hk.1.2,hk.2⟩)⟩,⟨kq_ BK514⟩,⟨kq_ BK515⟩,⟨kq_ BK526⟩,⟨bq_ HB⟩⟩
      ·rw [if_neg c39] at H;have c39b0 : (t522 == t520) = false:=beq_eq_false_iff_ne.mpr c39;have c39b1 : (t522 != t520) = true:=bne_iff_ne.mpr c39;have H':=A_ H;clear H;have hnb58:=NB526_514.out;have hnc58:=NB514_526.out;have hnb59:=NB526_515.out;have hnc59:=NB515_526.out;have hcz60_0:=kC_ BK526 0;have hcz60_1:=kC_ BK526 1;have hcz60_2:=kC_ BK526 2;have hfz60_0:=kf_ BK526.out 0;have hfz60_1:=kf_ BK526.out 1;have hfz60_2:=kf_ BK526.out 2;go_wp2
       go_meet
       case rel => exact ⟨_,(true),(by first|rfl|(simp;done)|(simp [*];done)),H',⟨by first|omega|exact Nat.le_refl _⟩,⟨by (with_reducible repeat (first|apply ra_|apply rn_|apply Rd_));exact HO508.out⟩,⟨by (with_reducible repeat (first|apply ra_|apply rn_|apply Rd_));exact HO513.out⟩,⟨by (with_reducible repeat (first|apply ra_|apply rn_|apply Rd_));exact rm_ HO525.out (fun _ hk => ⟨hk.1.2,hk.2⟩)⟩,⟨kq_ BK514⟩,⟨kq_ BK515⟩,⟨kq_ BK526⟩,⟨bq_ HB⟩⟩
     ·rw [if_neg c38] at H;have c38b0 : (t521 == (wrap64 (t504 + (Int.tmod (rd t516 4) (wrap64 ((t506.length : Int) + 1)))))) = false:=beq_eq_false_iff_ne.mpr c38;have c38b1 : (t521 != (wrap64 (t504 + (Int.tmod (rd t516 4) (wrap64 ((t506.length : Int) + 1)))))) = true:=bne_iff_ne.mpr c38
      (first|rw [c38b0]|(simp only [i64_w,i32_w];rw [c38b0])|skip)
      have H':=A_ H;clear H;have hnb61:=NB526_514.out;have hnc61:=NB514_526.out;have hnb62:=NB526_515.out;have hnc62:=NB515_526.out;have hcz63_0:=kC_ BK526 0;have hcz63_1:=kC_ BK526 1;have hcz63_2:=kC_ BK526 2;have hfz63_0:=kf_ BK526.out 0;have hfz63_1:=kf_ BK526.out 1;have hfz63_2:=kf_ BK526.out 2;go_wp2
      go_meet
      case rel => exact ⟨_,(true),(by first|rfl|(simp;done)|(simp [*];done)),H',⟨by first|omega|exact Nat.le_refl _⟩,⟨by (with_reducible repeat (first|apply ra_|apply rn_|apply Rd_));exact HO508.out⟩,⟨by (with_reducible repeat (first|apply ra_|apply rn_|apply Rd_));exact HO513.out⟩,⟨by (with_reducible repeat (first|apply ra_|apply rn_|apply Rd_));exact rm_ HO525.out (fun _ hk => ⟨hk.1.2,hk.2⟩)⟩,⟨kq_ BK514⟩,⟨kq_ BK515⟩,⟨kq_ BK526⟩,⟨bq_ HB⟩⟩
    case rest =>
     clear HC12
     try clear c1
     try clear p2
     try clear c3
     try clear c4
     try clear c5
     try clear p5
     try clear q5
     try clear hx5
     try clear qi5
     try clear c6
     try clear c6b0
     try clear c6b1
     try clear p6
     try clear c7
     try clear c7b0
     try clear c7b1
     try clear c13
     try clear c15
     try clear c16
     try clear c30
     try clear c31
     try clear c38
     try clear c38b0
     try clear c38b1
     try clear c39
     try clear c39b0
     try clear c39b1
     try clear c40
     try clear c40b0
     try clear c40b1
     try clear c41
     try clear c41b0
     try clear c41b1
     try clear c43
     try clear c44
     try clear c45
     try clear c48
     try clear c49
     try clear p51
     try clear q51
     try clear hx51
     try clear qi51
     try clear c52
     try clear c53
     try clear c55
     try clear c56
     try clear c58
     try clear c59
     try clear c61
     try clear c62
     try clear c63
     try clear hcz17_0
     try clear hcz17_1
     try clear hcz17_2
     try clear hcz19_0
     try clear hcz19_1
     try clear hcz19_2
     try clear hcz25_0
     try clear hcz25_1
     try clear hcz25_2
     try clear hcz27_0
     try clear hcz27_1
     try clear hcz27_2
     try clear hcz32_0
     try clear hcz32_1
     try clear hcz32_2
     try clear hcz34_0
     try clear hcz34_1
     try clear hcz34_2
     try clear hcz36_0
     try clear hcz36_1
     try clear hcz36_2
     try clear hcz46_0
     try clear hcz46_1
     try clear hcz46_2
     try clear hcz50_0
     try clear hcz50_1
     try clear hcz50_2
     try clear hcz54_0
     try clear hcz54_1
     try clear hcz54_2
     try clear hcz57_0
     try clear hcz57_1
     try clear hcz57_2
     try clear hcz60_0
     try clear hcz60_1
     try clear hcz60_2
     try clear hcz63_0
     try clear hcz63_1
     try clear hcz63_2
     try clear hfz17_0
     try clear hfz17_1
     try clear hfz17_2
     try clear hfz19_0
     try clear hfz19_1
     try clear hfz19_2
     try clear hfz25_0
     try clear hfz25_1
     try clear hfz25_2
     try clear hfz27_0
     try clear hfz27_1
     try clear hfz27_2
     try clear hfz32_0
     try clear hfz32_1
     try clear hfz32_2
     try clear hfz34_0
     try clear hfz34_1
     try clear hfz34_2
     try clear hfz36_0
     try clear hfz36_1
     try clear hfz36_2
     try clear hfz46_0
     try clear hfz46_1
     try clear hfz46_2
     try clear hfz50_0
     try clear hfz50_1
     try clear hfz50_2
     try clear hfz54_0
     try clear hfz54_1
     try clear hfz54_2
     try clear hfz57_0
     try clear hfz57_1
     try clear hfz57_2
     try clear hfz60_0
     try clear hfz60_1
     try clear hfz60_2
     try clear hfz63_0
     try clear hfz63_1
     try clear hfz63_2
     try clear hx519_0
     try clear p519
     try clear q519
     obtain ⟨kq,x80_11,rfl,HA,HJ11,HO_515002,HO_516002,HO_527002,BK514,BK515,BK526,HB⟩:=hcut
     cases kq with
     | zero => exact absurd HA.out (by simp [laws_FnBehind.j0])
     | succ kj11 =>
      have H:=HA.out;clear HA;simp only [laws_FnBehind.j0] at H
      by_cases c64 : x80_11 = true
      ·subst c64
       have H1 : (some false) = some r:=by rw [if_pos rfl] at H;exact H
       clear H;have H:=H1;clear H1;obtain rfl:=Option.some.inj H
       cases hr1_
      ·replace c64:=Bool.eq_false_iff.mpr c64;subst c64
       have H1 : (laws_FnBehind.l0 kj11 (wrap64 (t504 + (Int.tmod (rd t516 4) (wrap64 ((t506.length : Int) + 1))))) t520 (wrap64 (t504 + (Int.tmod (rd t516 4) (wrap64 ((t506.length : Int) + 1))))) t504 t505 t506 t521 t522 t523) = some r:=by rw [if_neg (show ¬ (false = true) by decide)] at H;exact H
       clear H;have H:=H1;clear H1;have H':=A_ H;clear H;go_wp2
       go_loopg [13] kj11 (fun kq v13 w' => ∃ (x13_2 : Int),v13 = .int .i64 x13_2 ∧ Aside0 (laws_FnBehind.l0 kq (wrap64 (t504 + (Int.tmod (rd t516 4) (wrap64 ((t506.length : Int) + 1))))) t520 x13_2 t504 t505 t506 t521 t522 t523 = some r) ∧ Aside0 (kq ≤ kj11) ∧ Aside0 (Kd.R k37 37 w' w.heap.size (fun k_ => some k_ ≠ ((.slice Ao20 t511.length co20) : Value).ownBlock ∧ some k_ ≠ ((.slice Ao33 t523.length co33) : Value).ownBlock) (.slice Ao18 t506.length co18) t506) ∧ Aside0 (Kd.R k37 37 w' w.heap.size (fun k_ => some k_ ≠ ((.slice Ao18 t506.length co18) : Value).ownBlock ∧ some k_ ≠ ((.slice Ao33 t523.length co33) : Value).ownBlock) (.slice Ao20 t511.length co20) t511) ∧ Aside0 (Kd.R k37 37 w' w.heap.size (fun k_ => some k_ ≠ ((.slice Ao18 t506.length co18) : Value).ownBlock ∧ some k_ ≠ ((.slice Ao20 t511.length co20) : Value).ownBlock) (.slice Ao33 t523.length co33) t523) ∧ Aside0 (w'.heap[gb514]? = some (.cells #[.int .i64 t504,.int .i64 t505,(.slice Ao18 t506.length co18)] 60 (0,0))) ∧ Aside0 (w'.heap[gb515]? = some (.cells #[.int .i64 t509,.int .i64 t510,(.slice Ao20 t511.length co20)] 60 (0,0))) ∧ Aside0 (w'.heap[gb526]? = some (.cells #[.int .i64 t521,.int .i64 t522,(.slice Ao33 t523.length co33)] 60 (0,0))) ∧ Aside0 (Below w.heap.size w w'))
       case atStart => exact ⟨((wrap64 (t504 + (Int.tmod (rd t516 4) (wrap64 ((t506.length : Int) + 1)))))),(by first|rfl|(simp;done)|(simp [*];done)),H',⟨Nat.le_refl _⟩,⟨by (with_reducible repeat (first|apply ra_|apply rn_|apply Rd_));exact HO_515002.out⟩,⟨by (with_reducible repeat (first|apply ra_|apply rn_|apply Rd_));exact HO_516002.out⟩,⟨by (with_reducible repeat (first|apply ra_|apply rn_|apply Rd_));exact HO_527002.out⟩,⟨kq_ BK514⟩,⟨kq_ BK515⟩,⟨kq_ BK526⟩,⟨bq_ HB⟩⟩
       case round =>
        clear H'
        try clear c1
        try clear p2
        try clear c3
        try clear c4
        try clear c5
        try clear p5
        try clear q5
        try clear hx5
        try clear qi5
        try clear c6
        try clear c6b0
        try clear c6b1
        try clear p6
        try clear c7
        try clear c7b0
        try clear c7b1
        try clear c13
        try clear c15
        try clear c16
        try clear c30
        try clear c31
        try clear c38
        try clear c38b0
        try clear c38b1
        try clear c39
        try clear c39b0
        try clear c39b1
        try clear c40
        try clear c40b0
        try clear c40b1
        try clear c41
        try clear c41b0
        try clear c41b1
        try clear c43
        try clear c44
        try clear c45
        try clear c48
        try clear c49
        try clear p51
        try clear q51
        try clear hx51
        try clear qi51
        try clear c52
        try clear c53
        try clear c55
        try clear c56
        try clear c58
        try clear c59
        try clear c61
        try clear c62
        try clear c63
        try clear c64
        try clear p64
        try clear hcz17_0
        try clear hcz17_1
        try clear hcz17_2
        try clear hcz19_0
        try clear hcz19_1
        try clear hcz19_2
        try clear hcz25_0
        try clear hcz25_1
        try clear hcz25_2
        try clear hcz27_0
        try clear hcz27_1
        try clear hcz27_2
        try clear hcz32_0
        try clear hcz32_1
        try clear hcz32_2
        try clear hcz34_0
        try clear hcz34_1
        try clear hcz34_2
        try clear hcz36_0
        try clear hcz36_1
        try clear hcz36_2
        try clear hcz46_0
        try clear hcz46_1
        try clear hcz46_2
        try clear hcz50_0
        try clear hcz50_1
        try clear hcz50_2
        try clear hcz54_0
        try clear hcz54_1
        try clear hcz54_2
        try clear hcz57_0
        try clear hcz57_1
        try clear hcz57_2
        try clear hcz60_0
        try clear hcz60_1
        try clear hcz60_2
        try clear hcz63_0
        try clear hcz63_1
        try clear hcz63_2
        try clear hfz17_0
        try clear hfz17_1
        try clear hfz17_2
        try clear hfz19_0
        try clear hfz19_1
        try clear hfz19_2
        try clear hfz25_0
        try clear hfz25_1
        try clear hfz25_2
        try clear hfz27_0
        try clear hfz27_1
        try clear hfz27_2
        try clear hfz32_0
        try clear hfz32_1
        try clear hfz32_2
        try clear hfz34_0
        try clear hfz34_1
        try clear hfz34_2
        try clear hfz36_0
        try clear hfz36_1
        try clear hfz36_2
        try clear hfz46_0
        try clear hfz46_1
        try clear hfz46_2
        try clear hfz50_0
        try clear hfz50_1
        try clear hfz50_2
        try clear hfz54_0
        try clear hfz54_1
        try clear hfz54_2
        try clear hfz57_0
        try clear hfz57_1
        try clear hfz57_2
        try clear hfz60_0
        try clear hfz60_1
        try clear hfz60_2
        try clear hfz63_0
        try clear hfz63_1
        try clear hfz63_2
        try clear hx519_0
        try clear p2
        try clear p5
        try clear p51
        try clear p519
        try clear p6
        try clear q5
        try clear q51
        try clear q519
        obtain ⟨x13_2,rfl,HA,HK2,HO_515002,HO_516002,HO_527002,BK514,BK515,BK526,HB⟩:=hrel
        cases gk with
        | zero => exact absurd HA.out (by simp [laws_FnBehind.l0])
        | succ k2 =>
         have H:=HA.out;clear HA;simp only [laws_FnBehind.l0] at H;replace H:=ob_.mp H;obtain ⟨t532,A650,H⟩:=H;replace H : (if x13_2 ≤ t532 then ((impl_LogTerm.f t521 t522 t523 x13_2).bind fun t539 => ((impl_LogTerm.f t504 t505 t506 x13_2).bind fun t540 => (if t539 = t540 then (if x13_2 > (wrap64 (t504 + (Int.tmod (rd t516 4) (wrap64 ((t506.length : Int) + 1))))) then (if 0 ≤ (wrap64 ((wrap64 (x13_2 - (wrap64 (t504 + (Int.tmod (rd t516 4) (wrap64 ((t506.length : Int) + 1))))))) - 1)) then (if (wrap64 ((wrap64 (x13_2 - (wrap64 (t504 + (Int.tmod (rd t516 4) (wrap64 ((t506.length : Int) + 1))))))) - 1)) < (t523.length : Int) then (if 0 ≤ (wrap64 ((wrap64 (x13_2 - t504)) - 1)) then (if (wrap64 ((wrap64 (x13_2 - t504)) - 1)) < (t506.length : Int) then (if (!(((rd_T37 t523 (wrap64 ((wrap64 (x13_2 - (wrap64 (t504 + (Int.tmod (rd t516 4) (wrap64 ((t506.length : Int) + 1))))))) - 1))).f0) == ((rd_T37 t506 (wrap64 ((wrap64 (x13_2 - t504)) - 1))).f0)) || (!(((rd_T37 t523 (wrap64 ((wrap64 (x13_2 - (wrap64 (t504 + (Int.tmod (rd t516 4) (wrap64 ((t506.length : Int) + 1))))))) - 1))).f1) == ((rd_T37 t506 (wrap64 ((wrap64 (x13_2 - t504)) - 1))).f1)) || (!((((rd_T37 t523 (wrap64 ((wrap64 (x13_2 - (wrap64 (t504 + (Int.tmod (rd t516 4) (wrap64 ((t506.length : Int) + 1))))))) - 1))).f2).toList) == (((rd_T37 t506 (wrap64 ((wrap64 (x13_2 - t504)) - 1))).f2).toList))))) = true then (some false) else (laws_FnBehind.l0 k2 (wrap64 (t504 + (Int.tmod (rd t516 4) (wrap64 ((t506.length : Int) + 1))))) t520 (wrap64 (x13_2 + 1)) t504 t505 t506 t521 t522 t523)) else (none)) else (none)) else (none)) else (none)) else (laws_FnBehind.l0 k2 (wrap64 (t504 + (Int.tmod (rd t516 4) (wrap64 ((t506.length : Int) + 1))))) t520 (wrap64 (x13_2 + 1)) t504 t505 t506 t521 t522 t523)) else (some false)))) else ((impl_LogBehind.f k2 t504 t505 t506 (wrap64 (t504 + (Int.tmod (rd t516 4) (wrap64 ((t506.length : Int) + 1))))) (wrap64 (t520 + 1))).bind fun bt533 => (if (bt533.2.2.length : Int) = 0 then (some (bt533.1 == (wrap64 (t504 + (Int.tmod (rd t516 4) (wrap64 ((t506.length : Int) + 1))))))) else (some false)))) = some r:=H;have A65:=A_ A650;clear A650
         by_cases c66 : x13_2 ≤ t532
         ·rw [if_pos c66] at H;have c66b0 : decide (x13_2 ≤ t532) = true:=de_ c66;clear c66;replace H:=ob_.mp H;obtain ⟨t539,A670,H⟩:=H;replace H : ((impl_LogTerm.f t504 t505 t506 x13_2).bind fun t540 => (if t539 = t540 then (if x13_2 > (wrap64 (t504 + (Int.tmod (rd t516 4) (wrap64 ((t506.length : Int) + 1))))) then (if 0 ≤ (wrap64 ((wrap64 (x13_2 - (wrap64 (t504 + (Int.tmod (rd t516 4) (wrap64 ((t506.length : Int) + 1))))))) - 1)) then (if (wrap64 ((wrap64 (x13_2 - (wrap64 (t504 + (Int.tmod (rd t516 4) (wrap64 ((t506.length : Int) + 1))))))) - 1)) < (t523.length : Int) then (if 0 ≤ (wrap64 ((wrap64 (x13_2 - t504)) - 1)) then (if (wrap64 ((wrap64 (x13_2 - t504)) - 1)) < (t506.length : Int) then (if (!(((rd_T37 t523 (wrap64 ((wrap64 (x13_2 - (wrap64 (t504 + (Int.tmod (rd t516 4) (wrap64 ((t506.length : Int) + 1))))))) - 1))).f0) == ((rd_T37 t506 (wrap64 ((wrap64 (x13_2 - t504)) - 1))).f0)) || (!(((rd_T37 t523 (wrap64 ((wrap64 (x13_2 - (wrap64 (t504 + (Int.tmod (rd t516 4) (wrap64 ((t506.length : Int) + 1))))))) - 1))).f1) == ((rd_T37 t506 (wrap64 ((wrap64 (x13_2 - t504)) - 1))).f1)) || (!((((rd_T37 t523 (wrap64 ((wrap64 (x13_2 - (wrap64 (t504 + (Int.tmod (rd t516 4) (wrap64 ((t506.length : Int) + 1))))))) - 1))).f2).toList) == (((rd_T37 t506 (wrap64 ((wrap64 (x13_2 - t504)) - 1))).f2).toList))))) = true then (some false) else (laws_FnBehind.l0 k2 (wrap64 (t504 + (Int.tmod (rd t516 4) (wrap64 ((t506.length : Int) + 1))))) t520 (wrap64 (x13_2 + 1)) t504 t505 t506 t521 t522 t523)) else (none)) else (none)) else (none)) else (none)) else (laws_FnBehind.l0 k2 (wrap64 (t504 + (Int.tmod (rd t516 4) (wrap64 ((t506.length : Int) + 1))))) t520 (wrap64 (x13_2 + 1)) t504 t505 t506 t521 t522 t523)) else (some false))) = some r:=H;have A67:=A_ A670;clear A670;replace H:=ob_.mp H;obtain ⟨t540,A680,H⟩:=H;replace H : (if t539 = t540 then (if x13_2 > (wrap64 (t504 + (Int.tmod (rd t516 4) (wrap64 ((t506.length : Int) + 1))))) then (if 0 ≤ (wrap64 ((wrap64 (x13_2 - (wrap64 (t504 + (Int.tmod (rd t516 4) (wrap64 ((t506.length : Int) + 1))))))) - 1)) then (if (wrap64 ((wrap64 (x13_2 - (wrap64 (t504 + (Int.tmod (rd t516 4) (wrap64 ((t506.length : Int) + 1))))))) - 1)) < (t523.length : Int) then (if 0 ≤ (wrap64 ((wrap64 (x13_2 - t504)) - 1)) then (if (wrap64 ((wrap64 (x13_2 - t504)) - 1)) < (t506.length : Int) then (if (!(((rd_T37 t523 (wrap64 ((wrap64 (x13_2 - (wrap64 (t504 + (Int.tmod (rd t516 4) (wrap64 ((t506.length : Int) + 1))))))) - 1))).f0) == ((rd_T37 t506 (wrap64 ((wrap64 (x13_2 - t504)) - 1))).f0)) || (!(((rd_T37 t523 (wrap64 ((wrap64 (x13_2 - (wrap64 (t504 + (Int.tmod (rd t516 4) (wrap64 ((t506.length : Int) + 1))))))) - 1))).f1) == ((rd_T37 t506 (wrap64 ((wrap64 (x13_2 - t504)) - 1))).f1)) || (!((((rd_T37 t523 (wrap64 ((wrap64 (x13_2 - (wrap64 (t504 + (Int.tmod (rd t516 4) (wrap64 ((t506.length : Int) + 1))))))) - 1))).f2).toList) == (((rd_T37 t506 (wrap64 ((wrap64 (x13_2 - t504)) - 1))).f2).toList))))) = true then (some false) else (laws_FnBehind.l0 k2 (wrap64 (t504 + (Int.tmod (rd t516 4) (wrap64 ((t506.length : Int) + 1))))) t520 (wrap64 (x13_2 + 1)) t504 t505 t506 t521 t522 t523)) else (none)) else (none)) else (none)) else (none)) else (laws_FnBehind.l0 k2 (wrap64 (t504 + (Int.tmod (rd t516 4) (wrap64 ((t506.length : Int) + 1))))) t520 (wrap64 (x13_2 + 1)) t504 t505 t506 t521 t522 t523)) else (some false)) = some r:=H;have A68:=A_ A680;clear A680
          by_cases c69 : t539 = t540
          ·rw [if_pos c69] at H;have c69b0 : (t539 == t540) = true:=beq_iff_eq.mpr c69;have c69b1 : (t539 != t540) = false:=bne_eq_false_iff_eq.mpr c69;clear c69
           by_cases c70 : x13_2 > (wrap64 (t504 + (Int.tmod (rd t516 4) (wrap64 ((t506.length : Int) + 1)))))
           ·rw [if_pos c70] at H;have c70b0 : decide ((wrap64 (t504 + (Int.tmod (rd t516 4) (wrap64 ((t506.length : Int) + 1))))) < x13_2) = true:=de_ c70;clear c70;obtain ⟨ji71,hji71⟩ : ∃ j_ : Int,(wrap64 ((wrap64 (x13_2 - (wrap64 (t504 + (Int.tmod (rd t516 4) (wrap64 ((t506.length : Int) + 1))))))) - 1)) = j_:=⟨_,rfl⟩
            replace H : (if 0 ≤ (ji71) then (if (ji71) < (t523.length : Int) then (if 0 ≤ (wrap64 ((wrap64 (x13_2 - t504)) - 1)) then (if (wrap64 ((wrap64 (x13_2 - t504)) - 1)) < (t506.length : Int) then (if (!(((rd_T37 t523 (ji71)).f0) == ((rd_T37 t506 (wrap64 ((wrap64 (x13_2 - t504)) - 1))).f0)) || (!(((rd_T37 t523 (ji71)).f1) == ((rd_T37 t506 (wrap64 ((wrap64 (x13_2 - t504)) - 1))).f1)) || (!((((rd_T37 t523 (ji71)).f2).toList) == (((rd_T37 t506 (wrap64 ((wrap64 (x13_2 - t504)) - 1))).f2).toList))))) = true then (some false) else (laws_FnBehind.l0 k2 (wrap64 (t504 + (Int.tmod (rd t516 4) (wrap64 ((t506.length : Int) + 1))))) t520 (wrap64 (x13_2 + 1)) t504 t505 t506 t521 t522 t523)) else (none)) else (none)) else (none)) else (none)) = some r:=by first|(rw [hji71] at H;exact H)|(simp only [hji71] at H ⊢;exact H)
            (try rw [hji71] at A65)
            (try rw [hji71] at A67)
            (try rw [hji71] at A68)
            have hji71w : (IntKind.i64.wrap ((wrap64 (x13_2 - (wrap64 (t504 + (Int.tmod (rd t516 4) (wrap64 ((t506.length : Int) + 1))))))) - 1)) = ji71:=(i64_w _).trans hji71
            by_cases c72 : 0 ≤ (ji71)
            ·rw [if_pos c72] at H;have c72b0 : decide (0 ≤ (ji71)) = true:=de_ c72;clear c72
             by_cases c73 : (ji71) < (t523.length : Int)
             ·rw [if_pos c73] at H;have c73b0 : decide ((ji71) < (t523.length : Int)) = true:=de_ c73;clear c73;obtain ⟨ji74,hji74⟩ : ∃ j_ : Int,(wrap64 ((wrap64 (x13_2 - t504)) - 1)) = j_:=⟨_,rfl⟩
              replace H : (if 0 ≤ (ji74) then (if (ji74) < (t506.length : Int) then (if (!(((rd_T37 t523 (ji71)).f0) == ((rd_T37 t506 (ji74)).f0)) || (!(((rd_T37 t523 (ji71)).f1) == ((rd_T37 t506 (ji74)).f1)) || (!((((rd_T37 t523 (ji71)).f2).toList) == (((rd_T37 t506 (ji74)).f2).toList))))) = true then (some false) else (laws_FnBehind.l0 k2 (wrap64 (t504 + (Int.tmod (rd t516 4) (wrap64 ((t506.length : Int) + 1))))) t520 (wrap64 (x13_2 + 1)) t504 t505 t506 t521 t522 t523)) else (none)) else (none)) = some r:=by first|(rw [hji74] at H;exact H)|(simp only [hji74] at H ⊢;exact H)
              (try rw [hji74] at A65)
              (try rw [hji74] at A67)
              (try rw [hji74] at A68)
              have hji74w : (IntKind.i64.wrap ((wrap64 (x13_2 - t504)) - 1)) = ji74:=(i64_w _).trans hji74
              by_cases c75 : 0 ≤ (ji74)
              ·rw [if_pos c75] at H;have c75b0 : decide (0 ≤ (ji74)) = true:=de_ c75;clear c75
               by_cases c76 : (ji74) < (t506.length : Int)
               ·rw [if_pos c76] at H;have c76b0 : decide ((ji74) < (t506.length : Int)) = true:=de_ c76;clear c76
                by_cases c77 : (!(((rd_T37 t523 (ji71)).f0) == ((rd_T37 t506 (ji74)).f0)) || (!(((rd_T37 t523 (ji71)).f1) == ((rd_T37 t506 (ji74)).f1)) || (!((((rd_T37 t523 (ji71)).f2).toList) == (((rd_T37 t506 (ji74)).f2).toList))))) = true
                ·rw [if_pos c77] at H;have c77b0 : (!(((rd_T37 t523 (ji71)).f0) == ((rd_T37 t506 (ji74)).f0)) || (!(((rd_T37 t523 (ji71)).f1) == ((rd_T37 t506 (ji74)).f1)) || (!((((rd_T37 t523 (ji71)).f2).toList) == (((rd_T37 t506 (ji74)).f2).toList))))) = true:=c77;clear c77;obtain rfl:=Option.some.inj H
                 cases hr1_
                ·rw [if_neg c77] at H
                 have c77b0 : (!(((rd_T37 t523 (ji71)).f0) == ((rd_T37 t506 (ji74)).f0)) || (!(((rd_T37 t523 (ji71)).f1) == ((rd_T37 t506 (ji74)).f1)) || (!((((rd_T37 t523 (ji71)).f2).toList) == (((rd_T37 t506 (ji74)).f2).toList))))) = false:=by simpa using c77
                 clear c77;have H':=A_ H;clear H;have hnb85:=NB514_515.out;have hnc85:=NB515_514.out;have hnb86:=NB514_526.out;have hnc86:=NB526_514.out;have hcz87_0:=kC_ BK514 0;have hcz87_1:=kC_ BK514 1;have hcz87_2:=kC_ BK514 2;have hfz87_0:=kf_ BK514.out 0;have hfz87_1:=kf_ BK514.out 1;have hfz87_2:=kf_ BK514.out 2
                 try go_wp2_with (first|((with_reducible refine gate_callee (f:=67) rfl ?_);refine goesL_ (some 84) rfl rfl Try.func67 (by kernel_rfl) rfl #[.agg #[.int .i64 t504,.int .i64 t505,.slice Ao18 t506.length co18]] rfl aq_ ?_;(with_reducible refine (laws_lastOf.calls t504 t505 _ _ t506 t532 _ ?side1 ?side2 A65.out).mono ?_);(case side1 => repeat (first|exact (Kd.R_reads' HO_515002.out).2.2|(with_reducible refine Kd.C_alloc ?_ _)|(with_reducible refine Kd.C_drewN ?_ _)|(with_reducible refine Kd.C_drew ?_)));(case side2 => exact (Kd.R_reads' HO_515002.out).2.1);rintro e w88 ⟨rfl,hb⟩;refine ⟨_,rfl,?_⟩;replace HO_515002:=A_ (rb_ (rq_ HO_515002) hb);replace HO_516002:=A_ (rb_ (rq_ HO_516002) hb);replace HO_527002:=A_ (rb_ (rq_ HO_527002) hb);replace BK514:=A_ (kb_ (kq_ BK514) hb);replace BK515:=A_ (kb_ (kq_ BK515) hb);replace BK526:=A_ (kb_ (kq_ BK526) hb);replace HB:=A_ (bs_ (bq_ HB) hb);(try clear hb);(try clear hb2);(try clear hk);(try clear hi)))
                 replace HO_515002:=A_ (Rd_ HO_515002.out);replace HO_516002:=A_ (Rd_ HO_516002.out);replace HO_527002:=A_ (Rd_ HO_527002.out);replace BK514:=A_ (kd_ BK514.out);replace BK515:=A_ (kd_ BK515.out);replace BK526:=A_ (kd_ BK526.out);replace HB:=A_ (pd_ HB.out);have p541 : 0 ≤ ((ji71) : Int):=oda_;have q541 : (ji71) < (t523.length : Int):=oda_;obtain ⟨ad541,e541,hx541_0,hx541_1,hx541_2⟩:=at_T37 (Kd.R_reads' HO_527002.out).2.2 (ji71) p541 q541
                 cases e541
                 replace p541:=eq_true p541;replace q541:=eq_true q541;have p542 : 0 ≤ ((ji74) : Int):=oda_;have q542 : (ji74) < (t506.length : Int):=oda_;obtain ⟨ad542,e542,hx542_0,hx542_1,hx542_2⟩:=at_T37 (Kd.R_reads' HO_515002.out).2.2 (ji74) p542 q542
                 cases e542
                 replace p542:=eq_true p542;replace q542:=eq_true q542;refine start_ (n:=32) (S:=fun w' => w'.cell? ⟨gb526,0,none⟩ = some (.int .i64 t521) ∧ w'.cell? ⟨gb526,1,none⟩ = some (.int .i64 t522) ∧ w'.cell? ⟨gb526,2,none⟩ = some (.slice (some ad541) t523.length co33) ∧ w'.cell? ⟨gb514,0,none⟩ = some (.int .i64 t504) ∧ w'.cell? ⟨gb514,1,none⟩ = some (.int .i64 t505) ∧ w'.cell? ⟨gb514,2,none⟩ = some (.slice (some ad542) t506.length co18) ∧ w'.cell? (ad541.add (((ji71)).toNat * 3)) = some (.int .i64 ((rd_T37 t523 (ji71)).f0)) ∧ w'.cell? ⟨(ad541.add (((ji71)).toNat * 3)).block,(ad541.add (((ji71)).toNat * 3)).off + 1,none⟩ = some (.int .i64 ((rd_T37 t523 (ji71)).f1)) ∧ w'.cell? ⟨(ad541.add (((ji71)).toNat * 3)).block,(ad541.add (((ji71)).toNat * 3)).off + 2,none⟩ = some (.string ((rd_T37 t523 (ji71)).f2)) ∧ w'.cell? (ad542.add (((ji74)).toNat * 3)) = some (.int .i64 ((rd_T37 t506 (ji74)).f0)) ∧ w'.cell? ⟨(ad542.add (((ji74)).toNat * 3)).block,(ad542.add (((ji74)).toNat * 3)).off + 1,none⟩ = some (.int .i64 ((rd_T37 t506 (ji74)).f1)) ∧ w'.cell? ⟨(ad542.add (((ji74)).toNat * 3)).block,(ad542.add (((ji74)).toNat * 3)).off + 2,none⟩ = some (.string ((rd_T37 t506 (ji74)).f2))) (ds:=[]) #[false,false,false,false,false,false,false,false,false,false,false,false,false,false,false,false,false,false,false,false,false,false,false,false,false,false,false,false,false,false,false,false] (by kernel_rfl) rfl rfl ⟨kC_ BK526 0,kC_ BK526 1,kC_ BK526 2,kC_ BK514 0,kC_ BK514 1,kC_ BK514 2,hx541_0,hx541_1,hx541_2,hx542_0,hx542_1,hx542_2⟩ (fun hHeld => ?_);refine with_tabW laws_FnBehind.tab14 laws_FnBehind.bits14 (fun HT_ HW_ => ?_);generalize w88.drew = w89 at HO_515002 HO_516002 HO_527002 BK514 BK515 BK526 HB hx541_0 hx541_1 hx541_2 hx542_0 hx542_1 hx542_2 hHeld ⊢;refine pure_ (i:=1) (N:=some 89) (v:=?_) (a':=?_) #[false,true,false,false,false,false,false,false,false,false,false,false,false,false,false,false,false,false,false,false,false,false,false,false,false,false,false,false,false,false,false,false] rfl rfl (any_of HT_.out (by kernel_rfl)) (fun _ _ _ h => h) (Or.inl ⟨by rfl,?_⟩) ?_ ?_;rotate_left
                 ·intro w';go_simp;with_reducible rfl
                 rotate_left
                 ·exact ux_
                 refine pure_ (i:=4) (N:=some 92) (v:=?_) (a':=?_) #[false,true,false,false,true,false,false,false,false,false,false,false,false,false,false,false,false,false,false,false,false,false,false,false,false,false,false,false,false,false,false,false] rfl rfl (any_of HT_.out (by kernel_rfl)) (fun _ _ _ h => h) (Or.inl ⟨by rfl,?_⟩) ?_ ?_;rotate_left
                 ·intro w';go_simp;with_reducible rfl
                 rotate_left
                 ·exact ux_
                 refine take_ (i:=0) (N:=some 88) (v:=?_) (a':=?_) #[true,true,false,false,true,false,false,false,false,false,false,false,false,false,false,false,false,false,false,false,false,false,false,false,false,false,false,false,false,false,false,false] rfl rfl (take_ofW HT_.out HW_.out (by kernel_rfl)) (fun _ _ _ h => h) (Or.inl ⟨by rfl,?_⟩) hHeld ?_ ?_;rotate_left
                 ·rintro w' ⟨s0,s1,s2,s3,s4,s5,s6,s7,s8,s9,s10,s11⟩;go_simp;with_reducible rfl
                 rotate_left
                 ·exact ux_
                 refine take_ (i:=3) (N:=some 91) (v:=?_) (a':=?_) #[true,true,false,true,true,false,false,false,false,false,false,false,false,false,false,false,false,false,false,false,false,false,false,false,false,false,false,false,false,false,false,false] rfl rfl (take_ofW HT_.out HW_.out (by kernel_rfl)) (fun _ _ _ h => h) (Or.inl ⟨by rfl,?_⟩) hHeld ?_ ?_;rotate_left
                 ·rintro w' ⟨s0,s1,s2,s3,s4,s5,s6,s7,s8,s9,s10,s11⟩;go_simp;with_reducible rfl
                 rotate_left
                 ·exact ux_
                 refine one_ (i:=2) (N:=some 90) #[true,true,true,true,true,false,false,false,false,false,false,false,false,false,false,false,false,false,false,false,false,false,false,false,false,false,false,false,false,false,false,false] rfl rfl (one_of HT_.out (by kernel_rfl)) (by decide) (fun K hK => ?_);refine goes_ Try.func64 (by kernel_rfl) rfl #[.agg #[.int .i64 t521,.int .i64 t522,.slice (some ad541) t523.length co33],.int .i64 x13_2] (by rfl) rfl rfl aq_ ?_;with_reducible refine (impl_LogTerm.calls t521 t522 _ _ t523 x13_2 t539 _ ?side1 ?side2 A67.out).mono ?_
                 (case side1 => repeat (first|exact (Kd.R_reads' HO_527002.out).2.2|(with_reducible refine Kd.C_alloc ?_ _)|(with_reducible refine Kd.C_drewN ?_ _)|(with_reducible refine Kd.C_drew ?_)))
                 (case side2 => exact (Kd.R_reads' HO_527002.out).2.1)
                 rintro e w90 ⟨rfl,hb⟩;have HS6_:=(hb.cell (wb_ _ _ (hHeld.2.2.2.2.2.2.1))).trans (hHeld.2.2.2.2.2.2.1);have HS7_:=(hb.cell (wb_ _ _ (hHeld.2.2.2.2.2.2.2.1))).trans (hHeld.2.2.2.2.2.2.2.1);have HS8_:=(hb.cell (wb_ _ _ (hHeld.2.2.2.2.2.2.2.2.1))).trans (hHeld.2.2.2.2.2.2.2.2.1);have HS9_:=(hb.cell (wb_ _ _ (hHeld.2.2.2.2.2.2.2.2.2.1))).trans (hHeld.2.2.2.2.2.2.2.2.2.1);have HS10_:=(hb.cell (wb_ _ _ (hHeld.2.2.2.2.2.2.2.2.2.2.1))).trans (hHeld.2.2.2.2.2.2.2.2.2.2.1);have HS11_:=(hb.cell (wb_ _ _ (hHeld.2.2.2.2.2.2.2.2.2.2.2))).trans (hHeld.2.2.2.2.2.2.2.2.2.2.2);refine ⟨_,rfl,?_⟩;replace HO_515002:=A_ (rb_ (rq_ HO_515002) hb);replace HO_516002:=A_ (rb_ (rq_ HO_516002) hb);replace HO_527002:=A_ (rb_ (rq_ HO_527002) hb);replace BK514:=A_ (kb_ (kq_ BK514) hb);replace BK515:=A_ (kb_ (kq_ BK515) hb);replace BK526:=A_ (kb_ (kq_ BK526) hb);replace HB:=A_ (bs_ (bq_ HB) hb)
                 (try clear hb)
                 (try clear hb2)
                 (try clear hk)
                 (try clear hi)
                 refine hK.out _ _ ⟨kC_ BK526 0,kC_ BK526 1,kC_ BK526 2,kC_ BK514 0,kC_ BK514 1,kC_ BK514 2,HS6_,HS7_,HS8_,HS9_,HS10_,HS11_⟩ (fun hHeld => ?_);clear hK K;refine norm_ (a':=?_) ?_ ?_;rotate_left
                 ·show Act.put _ (some 90) _ = _;simp only [Act.put,s1_,s2_,s3_,i64_w,i32_w];rfl
                 refine one_ (i:=5) (N:=some 93) #[true,true,true,true,true,true,false,false,false,false,false,false,false,false,false,false,false,false,false,false,false,false,false,false,false,false,false,false,false,false,false,false] rfl rfl (one_of HT_.out (by kernel_rfl)) (by decide) (fun K hK => ?_);refine goes_ Try.func64 (by kernel_rfl) rfl #[.agg #[.int .i64 t504,.int .i64 t505,.slice (some ad542) t506.length co18],.int .i64 x13_2] (by rfl) rfl rfl aq_ ?_;with_reducible refine (impl_LogTerm.calls t504 t505 _ _ t506 x13_2 t540 _ ?side1 ?side2 A68.out).mono ?_
                 (case side1 => repeat (first|exact (Kd.R_reads' HO_515002.out).2.2|(with_reducible refine Kd.C_alloc ?_ _)|(with_reducible refine Kd.C_drewN ?_ _)|(with_reducible refine Kd.C_drew ?_)))
                 (case side2 => exact (Kd.R_reads' HO_515002.out).2.1)
                 rintro e w91 ⟨rfl,hb⟩;have HS6_:=(hb.cell (wb_ _ _ (hHeld.2.2.2.2.2.2.1))).trans (hHeld.2.2.2.2.2.2.1);have HS7_:=(hb.cell (wb_ _ _ (hHeld.2.2.2.2.2.2.2.1))).trans (hHeld.2.2.2.2.2.2.2.1);have HS8_:=(hb.cell (wb_ _ _ (hHeld.2.2.2.2.2.2.2.2.1))).trans (hHeld.2.2.2.2.2.2.2.2.1);have HS9_:=(hb.cell (wb_ _ _ (hHeld.2.2.2.2.2.2.2.2.2.1))).trans (hHeld.2.2.2.2.2.2.2.2.2.1);have HS10_:=(hb.cell (wb_ _ _ (hHeld.2.2.2.2.2.2.2.2.2.2.1))).trans (hHeld.2.2.2.2.2.2.2.2.2.2.1);have HS11_:=(hb.cell (wb_ _ _ (hHeld.2.2.2.2.2.2.2.2.2.2.2))).trans (hHeld.2.2.2.2.2.2.2.2.2.2.2);refine ⟨_,rfl,?_⟩;replace HO_515002:=A_ (rb_ (rq_ HO_515002) hb);replace HO_516002:=A_ (rb_ (rq_ HO_516002) hb);replace HO_527002:=A_ (rb_ (rq_ HO_527002) hb);replace BK514:=A_ (kb_ (kq_ BK514) hb);replace BK515:=A_ (kb_ (kq_ BK515) hb);replace BK526:=A_ (kb_ (kq_ BK526) hb);replace HB:=A_ (bs_ (bq_ HB) hb)
                 (try clear hb)
                 (try clear hb2)
                 (try clear hk)
                 (try clear hi)
                 refine hK.out _ _ ⟨kC_ BK526 0,kC_ BK526 1,kC_ BK526 2,kC_ BK514 0,kC_ BK514 1,kC_ BK514 2,HS6_,HS7_,HS8_,HS9_,HS10_,HS11_⟩ (fun hHeld => ?_);clear hK K;refine norm_ (a':=?_) ?_ ?_;rotate_left
                 ·show Act.put _ (some 93) _ = _;simp only [Act.put,s1_,s2_,s3_,i64_w,i32_w];rfl
                 refine pure_ (i:=6) (N:=some 94) (v:=?_) (a':=?_) #[true,true,true,true,true,true,true,false,false,false,false,false,false,false,false,false,false,false,false,false,false,false,false,false,false,false,false,false,false,false,false,false] rfl rfl (any_of HT_.out (by kernel_rfl)) (fun _ _ _ h => h) (Or.inl ⟨by rfl,?_⟩) ?_ ?_;rotate_left
                 ·intro w';go_simp;with_reducible rfl
                 rotate_left
                 ·exact ux_
                 refine pure_ (i:=7) (N:=some 95) (v:=?_) (a':=?_) #[true,true,true,true,true,true,true,true,false,false,false,false,false,false,false,false,false,false,false,false,false,false,false,false,false,false,false,false,false,false,false,false] rfl rfl (any_of HT_.out (by kernel_rfl)) (fun _ _ _ h => h) (Or.inl ⟨by rfl,?_⟩) ?_ ?_;rotate_left
                 ·intro w';go_simp;with_reducible rfl
                 rotate_left
                 ·exact ux_
                 refine pure_ (i:=8) (N:=some 96) (v:=?_) (a':=?_) #[true,true,true,true,true,true,true,true,true,false,false,false,false,false,false,false,false,false,false,false,false,false,false,false,false,false,false,false,false,false,false,false] rfl rfl (any_of HT_.out (by kernel_rfl)) (fun _ _ _ h => h) (Or.inl ⟨by rfl,?_⟩) ?_ ?_;rotate_left
                 ·intro w';go_simp;with_reducible rfl
                 rotate_left
                 ·exact ux_
                 refine pure_ (i:=9) (N:=some 97) (v:=?_) (a':=?_) #[true,true,true,true,true,true,true,true,true,true,false,false,false,false,false,false,false,false,false,false,false,false,false,false,false,false,false,false,false,false,false,false] rfl rfl (any_of HT_.out (by kernel_rfl)) (fun _ _ _ h => h) (Or.inl ⟨by rfl,?_⟩) ?_ ?_;rotate_left
                 ·intro w';go_simp;with_reducible rfl
                 rotate_left
                 ·exact ux_
                 refine pure_ (i:=10) (N:=some 98) (v:=?_) (a':=?_) #[true,true,true,true,true,true,true,true,true,true,true,false,false,false,false,false,false,false,false,false,false,false,false,false,false,false,false,false,false,false,false,false] rfl rfl (any_of HT_.out (by kernel_rfl)) (fun _ _ _ h => h) (Or.inl ⟨by rfl,?_⟩) ?_ ?_;rotate_left
                 ·intro w';go_simp;with_reducible rfl
                 rotate_left
                 ·exact ux_
                 refine pure_ (i:=11) (N:=some 99) (v:=?_) (a':=?_) #[true,true,true,true,true,true,true,true,true,true,true,true,false,false,false,false,false,false,false,false,false,false,false,false,false,false,false,false,false,false,false,false] rfl rfl (any_of HT_.out (by kernel_rfl)) (fun _ _ _ h => h) (Or.inl ⟨by rfl,?_⟩) ?_ ?_;rotate_left
                 ·intro w';go_simp;with_reducible rfl
                 rotate_left
                 ·exact ux_
                 refine pure_ (i:=12) (N:=some 100) (v:=?_) (a':=?_) #[true,true,true,true,true,true,true,true,true,true,true,true,true,false,false,false,false,false,false,false,false,false,false,false,false,false,false,false,false,false,false,false] rfl rfl (any_of HT_.out (by kernel_rfl)) (fun _ _ _ h => h) (Or.inl ⟨by rfl,?_⟩) ?_ ?_;rotate_left
                 ·intro w';go_simp;with_reducible rfl
                 rotate_left
                 ·exact ux_
                 refine pure_ (i:=14) (N:=some 102) (v:=?_) (a':=?_) #[true,true,true,true,true,true,true,true,true,true,true,true,true,false,true,false,false,false,false,false,false,false,false,false,false,false,false,false,false,false,false,false] rfl rfl (any_of HT_.out (by kernel_rfl)) (fun _ _ _ h => h) (Or.inl ⟨by rfl,?_⟩) ?_ ?_;rotate_left
                 ·intro w';go_simp;with_reducible rfl
                 rotate_left
                 ·exact ux_
                 refine pure_ (i:=15) (N:=some 103) (v:=?_) (a':=?_) #[true,true,true,true,true,true,true,true,true,true,true,true,true,false,true,true,false,false,false,false,false,false,false,false,false,false,false,false,false,false,false,false] rfl rfl (any_of HT_.out (by kernel_rfl)) (fun _ _ _ h => h) (Or.inl ⟨by rfl,?_⟩) ?_ ?_;rotate_left
                 ·intro w';go_simp;with_reducible rfl
                 rotate_left
                 ·exact ux_
                 refine pure_ (i:=16) (N:=some 104) (v:=?_) (a':=?_) #[true,true,true,true,true,true,true,true,true,true,true,true,true,false,true,true,true,false,false,false,false,false,false,false,false,false,false,false,false,false,false,false] rfl rfl (any_of HT_.out (by kernel_rfl)) (fun _ _ _ h => h) (Or.inl ⟨by rfl,?_⟩) ?_ ?_;rotate_left
                 ·intro w';go_simp;with_reducible rfl
                 rotate_left
                 ·exact ux_
                 refine pure_ (i:=17) (N:=some 105) (v:=?_) (a':=?_) #[true,true,true,true,true,true,true,true,true,true,true,true,true,false,true,true,true,true,false,false,false,false,false,false,false,false,false,false,false,false,false,false] rfl rfl (any_of HT_.out (by kernel_rfl)) (fun _ _ _ h => h) (Or.inl ⟨by rfl,?_⟩) ?_ ?_;rotate_left
                 ·intro w';go_simp;with_reducible rfl
                 rotate_left
                 ·exact ux_
                 refine pure_ (i:=20) (N:=some 108) (v:=?_) (a':=?_) #[true,true,true,true,true,true,true,true,true,true,true,true,true,false,true,true,true,true,false,false,true,false,false,false,false,false,false,false,false,false,false,false] rfl rfl (any_of HT_.out (by kernel_rfl)) (fun _ _ _ h => h) (Or.inl ⟨by rfl,?_⟩) ?_ ?_;rotate_left
                 ·intro w';go_simp;with_reducible rfl
                 rotate_left
                 ·exact ux_
                 refine pure_ (i:=22) (N:=some 110) (v:=?_) (a':=?_) #[true,true,true,true,true,true,true,true,true,true,true,true,true,false,true,true,true,true,false,false,true,false,true,false,false,false,false,false,false,false,false,false] rfl rfl (any_of HT_.out (by kernel_rfl)) (fun _ _ _ h => h) (Or.inl ⟨by rfl,?_⟩) ?_ ?_;rotate_left
                 ·intro w';go_simp;with_reducible rfl
                 rotate_left
                 ·exact ux_
                 refine pure_ (i:=23) (N:=some 111) (v:=?_) (a':=?_) #[true,true,true,true,true,true,true,true,true,true,true,true,true,false,true,true,true,true,false,false,true,false,true,true,false,false,false,false,false,false,false,false] rfl rfl (any_of HT_.out (by kernel_rfl)) (fun _ _ _ h => h) (Or.inl ⟨by rfl,?_⟩) ?_ ?_;rotate_left
                 ·intro w';go_simp;with_reducible rfl
                 rotate_left
                 ·exact ux_
                 refine take_ (i:=13) (N:=some 101) (v:=?_) (a':=?_) #[true,true,true,true,true,true,true,true,true,true,true,true,true,true,true,true,true,true,false,false,true,false,true,true,false,false,false,false,false,false,false,false] rfl rfl (take_ofW HT_.out HW_.out (by kernel_rfl)) (fun _ _ _ h => h) (Or.inl ⟨by rfl,?_⟩) hHeld ?_ ?_;rotate_left
                 ·rintro w' ⟨s0,s1,s2,s3,s4,s5,s6,s7,s8,s9,s10,s11⟩;go_simp;with_reducible rfl
                 rotate_left
                 ·exact ux_
                 refine pure_ (i:=18) (N:=some 106) (v:=?_) (a':=?_) #[true,true,true,true,true,true,true,true,true,true,true,true,true,true,true,true,true,true,true,false,true,false,true,true,false,false,false,false,false,false,false,false] rfl rfl (any_of HT_.out (by kernel_rfl)) (fun _ _ _ h => h) (Or.inl ⟨by rfl,?_⟩) ?_ ?_;rotate_left
                 ·intro w';go_simp;with_reducible rfl
                 rotate_left
                 ·exact ux_
                 refine take_ (i:=19) (N:=some 107) (v:=?_) (a':=?_) #[true,true,true,true,true,true,true,true,true,true,true,true,true,true,true,true,true,true,true,true,true,false,true,true,false,false,false,false,false,false,false,false] rfl rfl (take_ofW HT_.out HW_.out (by kernel_rfl)) (fun _ _ _ h => h) (Or.inl ⟨by rfl,?_⟩) hHeld ?_ ?_;rotate_left
                 ·rintro w' ⟨s0,s1,s2,s3,s4,s5,s6,s7,s8,s9,s10,s11⟩;go_simp;with_reducible rfl
                 rotate_left
                 ·exact ux_
                 refine take_ (i:=21) (N:=some 109) (v:=?_) (a':=?_) #[true,true,true,true,true,true,true,true,true,true,true,true,true,true,true,true,true,true,true,true,true,true,true,true,false,false,false,false,false,false,false,false] rfl rfl (take_ofW HT_.out HW_.out (by kernel_rfl)) (fun _ _ _ h => h) (Or.inl ⟨by rfl,?_⟩) hHeld ?_ ?_;rotate_left
                 ·rintro w' ⟨s0,s1,s2,s3,s4,s5,s6,s7,s8,s9,s10,s11⟩;go_simp;with_reducible rfl
                 rotate_left
                 ·exact ux_
                 refine take_ (i:=24) (N:=some 112) (v:=?_) (a':=?_) #[true,true,true,true,true,true,true,true,true,true,true,true,true,true,true,true,true,true,true,true,true,true,true,true,true,false,false,false,false,false,false,false] rfl rfl (take_ofW HT_.out HW_.out (by kernel_rfl)) (fun _ _ _ h => h) (Or.inl ⟨by rfl,?_⟩) hHeld ?_ ?_;rotate_left
                 ·rintro w' ⟨s0,s1,s2,s3,s4,s5,s6,s7,s8,s9,s10,s11⟩;go_simp;with_reducible rfl
                 rotate_left
                 ·exact ux_
                 refine pure_ (i:=25) (N:=some 113) (v:=?_) (a':=?_) #[true,true,true,true,true,true,true,true,true,true,true,true,true,true,true,true,true,true,true,true,true,true,true,true,true,true,false,false,false,false,false,false] rfl rfl (any_of HT_.out (by kernel_rfl)) (fun _ _ _ h => h) (Or.inl ⟨by rfl,?_⟩) ?_ ?_;rotate_left
                 ·intro w';go_simp;with_reducible rfl
                 rotate_left
                 ·exact ux_
                 refine pure_ (i:=26) (N:=some 114) (v:=?_) (a':=?_) #[true,true,true,true,true,true,true,true,true,true,true,true,true,true,true,true,true,true,true,true,true,true,true,true,true,true,true,false,false,false,false,false] rfl rfl (any_of HT_.out (by kernel_rfl)) (fun _ _ _ h => h) (Or.inl ⟨by rfl,?_⟩) ?_ ?_;rotate_left
                 ·intro w';go_simp;with_reducible rfl
                 rotate_left
                 ·exact ux_
                 refine pure_ (i:=27) (N:=some 115) (v:=?_) (a':=?_) #[true,true,true,true,true,true,true,true,true,true,true,true,true,true,true,true,true,true,true,true,true,true,true,true,true,true,true,true,false,false,false,false] rfl rfl (any_of HT_.out (by kernel_rfl)) (fun _ _ _ h => h) (Or.inl ⟨by rfl,?_⟩) ?_ ?_;rotate_left
                 ·intro w';go_simp;with_reducible rfl
                 rotate_left
                 ·exact ux_
                 refine take_ (i:=28) (N:=some 116) (v:=?_) (a':=?_) #[true,true,true,true,true,true,true,true,true,true,true,true,true,true,true,true,true,true,true,true,true,true,true,true,true,true,true,true,true,false,false,false] rfl rfl (take_ofW HT_.out HW_.out (by kernel_rfl)) (fun _ _ _ h => h) (Or.inl ⟨by rfl,?_⟩) hHeld ?_ ?_;rotate_left
                 ·rintro w' ⟨s0,s1,s2,s3,s4,s5,s6,s7,s8,s9,s10,s11⟩;go_simp;with_reducible rfl
                 rotate_left
                 ·exact ux_
                 refine pure_ (i:=29) (N:=some 117) (v:=?_) (a':=?_) #[true,true,true,true,true,true,true,true,true,true,true,true,true,true,true,true,true,true,true,true,true,true,true,true,true,true,true,true,true,true,false,false] rfl rfl (any_of HT_.out (by kernel_rfl)) (fun _ _ _ h => h) (Or.inl ⟨by rfl,?_⟩) ?_ ?_;rotate_left
                 ·intro w';go_simp;with_reducible rfl
                 rotate_left
                 ·exact ux_
                 refine pure_ (i:=30) (N:=some 118) (v:=?_) (a':=?_) #[true,true,true,true,true,true,true,true,true,true,true,true,true,true,true,true,true,true,true,true,true,true,true,true,true,true,true,true,true,true,true,false] rfl rfl (any_of HT_.out (by kernel_rfl)) (fun _ _ _ h => h) (Or.inl ⟨by rfl,?_⟩) ?_ ?_;rotate_left
                 ·intro w';go_simp;with_reducible rfl
                 rotate_left
                 ·exact ux_
                 refine pure_ (i:=31) (N:=some 119) (v:=?_) (a':=?_) #[true,true,true,true,true,true,true,true,true,true,true,true,true,true,true,true,true,true,true,true,true,true,true,true,true,true,true,true,true,true,true,true] rfl rfl (any_of HT_.out (by kernel_rfl)) (fun _ _ _ h => h) (Or.inl ⟨by rfl,?_⟩) ?_ ?_;rotate_left
                 ·intro w';go_simp;with_reducible rfl
                 rotate_left
                 ·exact ux_
                 refine done_ (done_of HT_.out (by kernel_rfl)) ?_
                 try go_wp2
                 go_roundg k2
                 case measure => have:=HJ11.out;have:=HK2.out;omega
                 case rel => exact ⟨(wrap64 (x13_2 + 1)),(by first|rfl|(simp;done)|(simp [*];done)),H',⟨by have:=HJ11.out;have:=HK2.out;omega⟩,⟨by (with_reducible repeat (first|apply ra_|apply rn_|apply Rd_));exact HO_515002.out⟩,⟨by (with_reducible repeat (first|apply ra_|apply rn_|apply Rd_));exact HO_516002.out⟩,⟨by (with_reducible repeat (first|apply ra_|apply rn_|apply Rd_));exact HO_527002.out⟩,⟨kq_ BK514⟩,⟨kq_ BK515⟩,⟨kq_ BK526⟩,⟨bq_ HB⟩⟩
               ·rw [if_neg c76] at H;exact absurd H (by simp)
              ·rw [if_neg c75] at H;exact absurd H (by simp)
             ·rw [if_neg c73] at H;exact absurd H (by simp)
            ·rw [if_neg c72] at H;exact absurd H (by simp)
           ·rw [if_neg c70] at H;have c70b0 : decide ((wrap64 (t504 + (Int.tmod (rd t516 4) (wrap64 ((t506.length : Int) + 1))))) < x13_2) = false:=decide_eq_false c70;clear c70;have H':=A_ H;clear H;have hnb92:=NB514_515.out;have hnc92:=NB515_514.out;have hnb93:=NB514_526.out;have hnc93:=NB526_514.out;have hcz94_0:=kC_ BK514 0;have hcz94_1:=kC_ BK514 1;have hcz94_2:=kC_ BK514 2;have hfz94_0:=kf_ BK514.out 0;have hfz94_1:=kf_ BK514.out 1;have hfz94_2:=kf_ BK514.out 2
            try go_wp2_with (first|((with_reducible refine gate_callee (f:=67) rfl ?_);refine goesL_ (some 84) rfl rfl Try.func67 (by kernel_rfl) rfl #[.agg #[.int .i64 t504,.int .i64 t505,.slice Ao18 t506.length co18]] rfl aq_ ?_;(with_reducible refine (laws_lastOf.calls t504 t505 _ _ t506 t532 _ ?side1 ?side2 A65.out).mono ?_);(case side1 => repeat (first|exact (Kd.R_reads' HO_515002.out).2.2|(with_reducible refine Kd.C_alloc ?_ _)|(with_reducible refine Kd.C_drewN ?_ _)|(with_reducible refine Kd.C_drew ?_)));(case side2 => exact (Kd.R_reads' HO_515002.out).2.1);rintro e w95 ⟨rfl,hb⟩;refine ⟨_,rfl,?_⟩;replace HO_515002:=A_ (rb_ (rq_ HO_515002) hb);replace HO_516002:=A_ (rb_ (rq_ HO_516002) hb);replace HO_527002:=A_ (rb_ (rq_ HO_527002) hb);replace BK514:=A_ (kb_ (kq_ BK514) hb);replace BK515:=A_ (kb_ (kq_ BK515) hb);replace BK526:=A_ (kb_ (kq_ BK526) hb);replace HB:=A_ (bs_ (bq_ HB) hb);(try clear hb);(try clear hb2);(try clear hk);(try clear hi)))
            replace HO_515002:=A_ (Rd_ HO_515002.out);replace HO_516002:=A_ (Rd_ HO_516002.out);replace HO_527002:=A_ (Rd_ HO_527002.out);replace BK514:=A_ (kd_ BK514.out);replace BK515:=A_ (kd_ BK515.out);replace BK526:=A_ (kd_ BK526.out);replace HB:=A_ (pd_ HB.out);refine start_ (n:=32) (S:=fun w' => w'.cell? ⟨gb526,0,none⟩ = some (.int .i64 t521) ∧ w'.cell? ⟨gb526,1,none⟩ = some (.int .i64 t522) ∧ w'.cell? ⟨gb526,2,none⟩ = some (.slice Ao33 t523.length co33) ∧ w'.cell? ⟨gb514,0,none⟩ = some (.int .i64 t504) ∧ w'.cell? ⟨gb514,1,none⟩ = some (.int .i64 t505) ∧ w'.cell? ⟨gb514,2,none⟩ = some (.slice Ao18 t506.length co18)) (ds:=[]) #[false,false,false,false,false,false,false,false,false,false,false,false,false,false,false,false,false,false,false,false,false,false,false,false,false,false,false,false,false,false,false,false] (by kernel_rfl) rfl rfl ⟨kC_ BK526 0,kC_ BK526 1,kC_ BK526 2,kC_ BK514 0,kC_ BK514 1,kC_ BK514 2⟩ (fun hHeld => ?_);refine with_tabW laws_FnBehind.tab14 laws_FnBehind.bits14 (fun HT_ HW_ => ?_);generalize w95.drew = w96 at HO_515002 HO_516002 HO_527002 BK514 BK515 BK526 HB hHeld ⊢;refine pure_ (i:=1) (N:=some 89) (v:=?_) (a':=?_) #[false,true,false,false,false,false,false,false,false,false,false,false,false,false,false,false,false,false,false,false,false,false,false,false,false,false,false,false,false,false,false,false] rfl rfl (any_of HT_.out (by kernel_rfl)) (fun _ _ _ h => h) (Or.inl ⟨by rfl,?_⟩) ?_ ?_;rotate_left
            ·intro w';go_simp;with_reducible rfl
            rotate_left
            ·exact ux_
            refine pure_ (i:=4) (N:=some 92) (v:=?_) (a':=?_) #[false,true,false,false,true,false,false,false,false,false,false,false,false,false,false,false,false,false,false,false,false,false,false,false,false,false,false,false,false,false,false,false] rfl rfl (any_of HT_.out (by kernel_rfl)) (fun _ _ _ h => h) (Or.inl ⟨by rfl,?_⟩) ?_ ?_;rotate_left
            ·intro w';go_simp;with_reducible rfl
            rotate_left
            ·exact ux_
            refine take_ (i:=0) (N:=some 88) (v:=?_) (a':=?_) #[true,true,false,false,true,false,false,false,false,false,false,false,false,false,false,false,false,false,false,false,false,false,false,false,false,false,false,false,false,false,false,false] rfl rfl (take_ofW HT_.out HW_.out (by kernel_rfl)) (fun _ _ _ h => h) (Or.inl ⟨by rfl,?_⟩) hHeld ?_ ?_;rotate_left
            ·rintro w' ⟨s0,s1,s2,s3,s4,s5⟩;go_simp;with_reducible rfl
            rotate_left
            ·exact ux_
            refine take_ (i:=3) (N:=some 91) (v:=?_) (a':=?_) #[true,true,false,true,true,false,false,false,false,false,false,false,false,false,false,false,false,false,false,false,false,false,false,false,false,false,false,false,false,false,false,false] rfl rfl (take_ofW HT_.out HW_.out (by kernel_rfl)) (fun _ _ _ h => h) (Or.inl ⟨by rfl,?_⟩) hHeld ?_ ?_;rotate_left
            ·rintro w' ⟨s0,s1,s2,s3,s4,s5⟩;go_simp;with_reducible rfl
            rotate_left
            ·exact ux_
            refine one_ (i:=2) (N:=some 90) #[true,true,true,true,true,false,false,false,false,false,false,false,false,false,false,false,false,false,false,false,false,false,false,false,false,false,false,false,false,false,false,false] rfl rfl (one_of HT_.out (by kernel_rfl)) (by decide) (fun K hK => ?_);refine goes_ Try.func64 (by kernel_rfl) rfl #[.agg #[.int .i64 t521,.int .i64 t522,.slice Ao33 t523.length co33],.int .i64 x13_2] (by rfl) rfl rfl aq_ ?_;with_reducible refine (impl_LogTerm.calls t521 t522 _ _ t523 x13_2 t539 _ ?side1 ?side2 A67.out).mono ?_
            (case side1 => repeat (first|exact (Kd.R_reads' HO_527002.out).2.2|(with_reducible refine Kd.C_alloc ?_ _)|(with_reducible refine Kd.C_drewN ?_ _)|(with_reducible refine Kd.C_drew ?_)))
            (case side2 => exact (Kd.R_reads' HO_527002.out).2.1)
            rintro e w97 ⟨rfl,hb⟩;refine ⟨_,rfl,?_⟩;replace HO_515002:=A_ (rb_ (rq_ HO_515002) hb);replace HO_516002:=A_ (rb_ (rq_ HO_516002) hb);replace HO_527002:=A_ (rb_ (rq_ HO_527002) hb);replace BK514:=A_ (kb_ (kq_ BK514) hb);replace BK515:=A_ (kb_ (kq_ BK515) hb);replace BK526:=A_ (kb_ (kq_ BK526) hb);replace HB:=A_ (bs_ (bq_ HB) hb)
            (try clear hb)
            (try clear hb2)
            (try clear hk)
            (try clear hi)
            refine hK.out _ _ ⟨kC_ BK526 0,kC_ BK526 1,kC_ BK526 2,kC_ BK514 0,kC_ BK514 1,kC_ BK514 2⟩ (fun hHeld => ?_);clear hK K;refine norm_ (a':=?_) ?_ ?_;rotate_left
            ·show Act.put _ (some 90) _ = _;simp only [Act.put,s1_,s2_,s3_,i64_w,i32_w];rfl
            refine one_ (i:=5) (N:=some 93) #[true,true,true,true,true,true,false,false,false,false,false,false,false,false,false,false,false,false,false,false,false,false,false,false,false,false,false,false,false,false,false,false] rfl rfl (one_of HT_.out (by kernel_rfl)) (by decide) (fun K hK => ?_);refine goes_ Try.func64 (by kernel_rfl) rfl #[.agg #[.int .i64 t504,.int .i64 t505,.slice Ao18 t506.length co18],.int .i64 x13_2] (by rfl) rfl rfl aq_ ?_;with_reducible refine (impl_LogTerm.calls t504 t505 _ _ t506 x13_2 t540 _ ?side1 ?side2 A68.out).mono ?_
            (case side1 => repeat (first|exact (Kd.R_reads' HO_515002.out).2.2|(with_reducible refine Kd.C_alloc ?_ _)|(with_reducible refine Kd.C_drewN ?_ _)|(with_reducible refine Kd.C_drew ?_)))
            (case side2 => exact (Kd.R_reads' HO_515002.out).2.1)
            rintro e w98 ⟨rfl,hb⟩;refine ⟨_,rfl,?_⟩;replace HO_515002:=A_ (rb_ (rq_ HO_515002) hb);replace HO_516002:=A_ (rb_ (rq_ HO_516002) hb);replace HO_527002:=A_ (rb_ (rq_ HO_527002) hb);replace BK514:=A_ (kb_ (kq_ BK514) hb);replace BK515:=A_ (kb_ (kq_ BK515) hb);replace BK526:=A_ (kb_ (kq_ BK526) hb);replace HB:=A_ (bs_ (bq_ HB) hb)
            (try clear hb)
            (try clear hb2)
            (try clear hk)
            (try clear hi)
            refine hK.out _ _ ⟨kC_ BK526 0,kC_ BK526 1,kC_ BK526 2,kC_ BK514 0,kC_ BK514 1,kC_ BK514 2⟩ (fun hHeld => ?_);clear hK K;refine norm_ (a':=?_) ?_ ?_;rotate_left
            ·show Act.put _ (some 93) _ = _;simp only [Act.put,s1_,s2_,s3_,i64_w,i32_w];rfl
            refine pure_ (i:=6) (N:=some 94) (v:=?_) (a':=?_) #[true,true,true,true,true,true,true,false,false,false,false,false,false,false,false,false,false,false,false,false,false,false,false,false,false,false,false,false,false,false,false,false] rfl rfl (any_of HT_.out (by kernel_rfl)) (fun _ _ _ h => h) (Or.inl ⟨by rfl,?_⟩) ?_ ?_;rotate_left
            ·intro w';go_simp;with_reducible rfl
            rotate_left
            ·exact ux_
            refine pure_ (i:=7) (N:=some 95) (v:=?_) (a':=?_) #[true,true,true,true,true,true,true,true,false,false,false,false,false,false,false,false,false,false,false,false,false,false,false,false,false,false,false,false,false,false,false,false] rfl rfl (any_of HT_.out (by kernel_rfl)) (fun _ _ _ h => h) (Or.inl ⟨by rfl,?_⟩) ?_ ?_;rotate_left
            ·intro w';go_simp;with_reducible rfl
            rotate_left
            ·exact ux_
            refine pure_ (i:=8) (N:=some 96) (v:=?_) (a':=?_) #[true,true,true,true,true,true,true,true,true,false,false,false,false,false,false,false,false,false,false,false,false,false,false,false,false,false,false,false,false,false,false,false] rfl rfl (any_of HT_.out (by kernel_rfl)) (fun _ _ _ h => h) (Or.inl ⟨by rfl,?_⟩) ?_ ?_;rotate_left
            ·intro w';go_simp;with_reducible rfl
            rotate_left
            ·exact ux_
            refine pure_ (i:=9) (N:=some 97) (v:=?_) (a':=?_) #[true,true,true,true,true,true,true,true,true,true,false,false,false,false,false,false,false,false,false,false,false,false,false,false,false,false,false,false,false,false,false,false] rfl rfl (any_of HT_.out (by kernel_rfl)) (fun _ _ _ h => h) (Or.inl ⟨by rfl,?_⟩) ?_ ?_;rotate_left
            ·intro w';go_simp;with_reducible rfl
            rotate_left
            ·exact ux_
            refine pure_ (i:=10) (N:=some 98) (v:=?_) (a':=?_) #[true,true,true,true,true,true,true,true,true,true,true,false,false,false,false,false,false,false,false,false,false,false,false,false,false,false,false,false,false,false,false,false] rfl rfl (any_of HT_.out (by kernel_rfl)) (fun _ _ _ h => h) (Or.inl ⟨by rfl,?_⟩) ?_ ?_;rotate_left
            ·intro w';go_simp;with_reducible rfl
            rotate_left
            ·exact ux_
            refine pure_ (i:=11) (N:=some 99) (v:=?_) (a':=?_) #[true,true,true,true,true,true,true,true,true,true,true,true,false,false,false,false,false,false,false,false,false,false,false,false,false,false,false,false,false,false,false,false] rfl rfl (any_of HT_.out (by kernel_rfl)) (fun _ _ _ h => h) (Or.inl ⟨by rfl,?_⟩) ?_ ?_;rotate_left
            ·intro w';go_simp;with_reducible rfl
            rotate_left
            ·exact ux_
            refine pure_ (i:=12) (N:=some 100) (v:=undef) (a':=?_) #[true,true,true,true,true,true,true,true,true,true,true,true,true,false,false,false,false,false,false,false,false,false,false,false,false,false,false,false,false,false,false,false] rfl rfl (any_of HT_.out (by kernel_rfl)) (fun _ _ _ h => h) (Or.inr ⟨by rfl,rfl⟩) ?_ ?_;rotate_left
            ·exact ux_
            refine pure_ (i:=13) (N:=some 101) (v:=undef) (a':=?_) #[true,true,true,true,true,true,true,true,true,true,true,true,true,true,false,false,false,false,false,false,false,false,false,false,false,false,false,false,false,false,false,false] rfl rfl (any_of HT_.out (by kernel_rfl)) (fun _ _ _ h => h) (Or.inr ⟨by rfl,rfl⟩) ?_ ?_;rotate_left
            ·exact ux_
            refine pure_ (i:=14) (N:=some 102) (v:=undef) (a':=?_) #[true,true,true,true,true,true,true,true,true,true,true,true,true,true,true,false,false,false,false,false,false,false,false,false,false,false,false,false,false,false,false,false] rfl rfl (any_of HT_.out (by kernel_rfl)) (fun _ _ _ h => h) (Or.inr ⟨by rfl,rfl⟩) ?_ ?_;rotate_left
            ·exact ux_
            refine pure_ (i:=15) (N:=some 103) (v:=undef) (a':=?_) #[true,true,true,true,true,true,true,true,true,true,true,true,true,true,true,true,false,false,false,false,false,false,false,false,false,false,false,false,false,false,false,false] rfl rfl (any_of HT_.out (by kernel_rfl)) (fun _ _ _ h => h) (Or.inr ⟨by rfl,rfl⟩) ?_ ?_;rotate_left
            ·exact ux_
            refine pure_ (i:=16) (N:=some 104) (v:=undef) (a':=?_) #[true,true,true,true,true,true,true,true,true,true,true,true,true,true,true,true,true,false,false,false,false,false,false,false,false,false,false,false,false,false,false,false] rfl rfl (any_of HT_.out (by kernel_rfl)) (fun _ _ _ h => h) (Or.inr ⟨by rfl,rfl⟩) ?_ ?_;rotate_left
            ·exact ux_
            refine pure_ (i:=17) (N:=some 105) (v:=undef) (a':=?_) #[true,true,true,true,true,true,true,true,true,true,true,true,true,true,true,true,true,true,false,false,false,false,false,false,false,false,false,false,false,false,false,false] rfl rfl (any_of HT_.out (by kernel_rfl)) (fun _ _ _ h => h) (Or.inr ⟨by rfl,rfl⟩) ?_ ?_;rotate_left
            ·exact ux_
            refine pure_ (i:=18) (N:=some 106) (v:=undef) (a':=?_) #[true,true,true,true,true,true,true,true,true,true,true,true,true,true,true,true,true,true,true,false,false,false,false,false,false,false,false,false,false,false,false,false] rfl rfl (any_of HT_.out (by kernel_rfl)) (fun _ _ _ h => h) (Or.inr ⟨by rfl,rfl⟩) ?_ ?_;rotate_left
            ·exact ux_
            refine pure_ (i:=19) (N:=some 107) (v:=undef) (a':=?_) #[true,true,true,true,true,true,true,true,true,true,true,true,true,true,true,true,true,true,true,true,false,false,false,false,false,false,false,false,false,false,false,false] rfl rfl (any_of HT_.out (by kernel_rfl)) (fun _ _ _ h => h) (Or.inr ⟨by rfl,rfl⟩) ?_ ?_;rotate_left
            ·exact ux_
            refine pure_ (i:=20) (N:=some 108) (v:=undef) (a':=?_) #[true,true,true,true,true,true,true,true,true,true,true,true,true,true,true,true,true,true,true,true,true,false,false,false,false,false,false,false,false,false,false,false] rfl rfl (any_of HT_.out (by kernel_rfl)) (fun _ _ _ h => h) (Or.inr ⟨by rfl,rfl⟩) ?_ ?_;rotate_left
            ·exact ux_
            refine pure_ (i:=21) (N:=some 109) (v:=undef) (a':=?_) #[true,true,true,true,true,true,true,true,true,true,true,true,true,true,true,true,true,true,true,true,true,true,false,false,false,false,false,false,false,false,false,false] rfl rfl (any_of HT_.out (by kernel_rfl)) (fun _ _ _ h => h) (Or.inr ⟨by rfl,rfl⟩) ?_ ?_;rotate_left
            ·exact ux_
            refine pure_ (i:=22) (N:=some 110) (v:=undef) (a':=?_) #[true,true,true,true,true,true,true,true,true,true,true,true,true,true,true,true,true,true,true,true,true,true,true,false,false,false,false,false,false,false,false,false] rfl rfl (any_of HT_.out (by kernel_rfl)) (fun _ _ _ h => h) (Or.inr ⟨by rfl,rfl⟩) ?_ ?_;rotate_left
            ·exact ux_
            refine pure_ (i:=23) (N:=some 111) (v:=undef) (a':=?_) #[true,true,true,true,true,true,true,true,true,true,true,true,true,true,true,true,true,true,true,true,true,true,true,true,false,false,false,false,false,false,false,false] rfl rfl (any_of HT_.out (by kernel_rfl)) (fun _ _ _ h => h) (Or.inr ⟨by rfl,rfl⟩) ?_ ?_;rotate_left
            ·exact ux_
            refine pure_ (i:=24) (N:=some 112) (v:=undef) (a':=?_) #[true,true,true,true,true,true,true,true,true,true,true,true,true,true,true,true,true,true,true,true,true,true,true,true,true,false,false,false,false,false,false,false] rfl rfl (any_of HT_.out (by kernel_rfl)) (fun _ _ _ h => h) (Or.inr ⟨by rfl,rfl⟩) ?_ ?_;rotate_left
            ·exact ux_
            refine pure_ (i:=25) (N:=some 113) (v:=undef) (a':=?_) #[true,true,true,true,true,true,true,true,true,true,true,true,true,true,true,true,true,true,true,true,true,true,true,true,true,true,false,false,false,false,false,false] rfl rfl (any_of HT_.out (by kernel_rfl)) (fun _ _ _ h => h) (Or.inr ⟨by rfl,rfl⟩) ?_ ?_;rotate_left
            ·exact ux_
            refine pure_ (i:=26) (N:=some 114) (v:=undef) (a':=?_) #[true,true,true,true,true,true,true,true,true,true,true,true,true,true,true,true,true,true,true,true,true,true,true,true,true,true,true,false,false,false,false,false] rfl rfl (any_of HT_.out (by kernel_rfl)) (fun _ _ _ h => h) (Or.inr ⟨by rfl,rfl⟩) ?_ ?_;rotate_left
            ·exact ux_
            refine pure_ (i:=27) (N:=some 115) (v:=undef) (a':=?_) #[true,true,true,true,true,true,true,true,true,true,true,true,true,true,true,true,true,true,true,true,true,true,true,true,true,true,true,true,false,false,false,false] rfl rfl (any_of HT_.out (by kernel_rfl)) (fun _ _ _ h => h) (Or.inr ⟨by rfl,rfl⟩) ?_ ?_;rotate_left
            ·exact ux_
            refine pure_ (i:=28) (N:=some 116) (v:=undef) (a':=?_) #[true,true,true,true,true,true,true,true,true,true,true,true,true,true,true,true,true,true,true,true,true,true,true,true,true,true,true,true,true,false,false,false] rfl rfl (any_of HT_.out (by kernel_rfl)) (fun _ _ _ h => h) (Or.inr ⟨by rfl,rfl⟩) ?_ ?_;rotate_left
            ·exact ux_
            refine pure_ (i:=29) (N:=some 117) (v:=undef) (a':=?_) #[true,true,true,true,true,true,true,true,true,true,true,true,true,true,true,true,true,true,true,true,true,true,true,true,true,true,true,true,true,true,false,false] rfl rfl (any_of HT_.out (by kernel_rfl)) (fun _ _ _ h => h) (Or.inr ⟨by rfl,rfl⟩) ?_ ?_;rotate_left
            ·exact ux_
            refine pure_ (i:=30) (N:=some 118) (v:=?_) (a':=?_) #[true,true,true,true,true,true,true,true,true,true,true,true,true,true,true,true,true,true,true,true,true,true,true,true,true,true,true,true,true,true,true,false] rfl rfl (any_of HT_.out (by kernel_rfl)) (fun _ _ _ h => h) (Or.inl ⟨by rfl,?_⟩) ?_ ?_;rotate_left
            ·intro w';go_simp;with_reducible rfl
            rotate_left
            ·exact ux_
            refine pure_ (i:=31) (N:=some 119) (v:=?_) (a':=?_) #[true,true,true,true,true,true,true,true,true,true,true,true,true,true,true,true,true,true,true,true,true,true,true,true,true,true,true,true,true,true,true,true] rfl rfl (any_of HT_.out (by kernel_rfl)) (fun _ _ _ h => h) (Or.inl ⟨by rfl,?_⟩) ?_ ?_;rotate_left
            ·intro w';go_simp;with_reducible rfl
            rotate_left
            ·exact ux_
            refine done_ (done_of HT_.out (by kernel_rfl)) ?_
            try go_wp2
            go_roundg k2
            case measure => have:=HJ11.out;have:=HK2.out;omega
            case rel => exact ⟨(wrap64 (x13_2 + 1)),(by first|rfl|(simp;done)|(simp [*];done)),H',⟨by have:=HJ11.out;have:=HK2.out;omega⟩,⟨by (with_reducible repeat (first|apply ra_|apply rn_|apply Rd_));exact HO_515002.out⟩,⟨by (with_reducible repeat (first|apply ra_|apply rn_|apply Rd_));exact HO_516002.out⟩,⟨by (with_reducible repeat (first|apply ra_|apply rn_|apply Rd_));exact HO_527002.out⟩,⟨kq_ BK514⟩,⟨kq_ BK515⟩,⟨kq_ BK526⟩,⟨bq_ HB⟩⟩
          ·rw [if_neg c69] at H;have c69b0 : (t539 == t540) = false:=beq_eq_false_iff_ne.mpr c69;have c69b1 : (t539 != t540) = true:=bne_iff_ne.mpr c69;obtain rfl:=Option.some.inj H
           cases hr1_
         ·rw [if_neg c66] at H;have c66b0 : decide (x13_2 ≤ t532) = false:=decide_eq_false c66;clear c66;replace H:=ob_.mp H;obtain ⟨⟨t533,t534,t535⟩,A1060,H⟩:=H;replace H : (if (t535.length : Int) = 0 then (some (t533 == (wrap64 (t504 + (Int.tmod (rd t516 4) (wrap64 ((t506.length : Int) + 1))))))) else (some false)) = some r:=H;have A106:=A_ A1060;clear A1060
          by_cases c107 : (t535.length : Int) = 0
          ·rw [if_pos c107] at H;have c107b0 : ((t535.length : Int) == 0) = true:=beq_iff_eq.mpr c107;have c107b1 : ((t535.length : Int) != 0) = false:=bne_eq_false_iff_eq.mpr c107;clear c107;obtain rfl:=Option.some.inj H;have hnb108:=NB514_515.out;have hnc108:=NB515_514.out;have hnb109:=NB514_526.out;have hnc109:=NB526_514.out;have hcz110_0:=kC_ BK514 0;have hcz110_1:=kC_ BK514 1;have hcz110_2:=kC_ BK514 2;have hfz110_0:=kf_ BK514.out 0;have hfz110_1:=kf_ BK514.out 1;have hfz110_2:=kf_ BK514.out 2
           go_wp2_with (first|((with_reducible refine gate_callee (f:=67) rfl ?_);refine goesL_ (some 84) rfl rfl Try.func67 (by kernel_rfl) rfl #[.agg #[.int .i64 t504,.int .i64 t505,.slice Ao18 t506.length co18]] rfl aq_ ?_;(with_reducible refine (laws_lastOf.calls t504 t505 _ _ t506 t532 _ ?side1 ?side2 A65.out).mono ?_);(case side1 => repeat (first|exact (Kd.R_reads' HO_515002.out).2.2|(with_reducible refine Kd.C_alloc ?_ _)|(with_reducible refine Kd.C_drewN ?_ _)|(with_reducible refine Kd.C_drew ?_)));(case side2 => exact (Kd.R_reads' HO_515002.out).2.1);rintro e w111 ⟨rfl,hb⟩;refine ⟨_,rfl,?_⟩;replace HO_515002:=A_ (rb_ (rq_ HO_515002) hb);replace HO_516002:=A_ (rb_ (rq_ HO_516002) hb);replace HO_527002:=A_ (rb_ (rq_ HO_527002) hb);replace BK514:=A_ (kb_ (kq_ BK514) hb);replace BK515:=A_ (kb_ (kq_ BK515) hb);replace BK526:=A_ (kb_ (kq_ BK526) hb);replace HB:=A_ (bs_ (bq_ HB) hb);(try clear hb);(try clear hb2);(try clear hk);(try clear hi);have hcz112_0:=kC_ BK514 0;have hcz112_1:=kC_ BK514 1;have hcz112_2:=kC_ BK514 2;have hfz112_0:=kf_ BK514.out 0;have hfz112_1:=kf_ BK514.out 1;have hfz112_2:=kf_ BK514.out 2)|((with_reducible refine gate_callee (f:=38) rfl ?_);refine goesL_ (some 124) rfl rfl Try.func38 (by kernel_rfl) rfl #[.agg #[.int .i64 t504,.int .i64 t505,.slice Ao18 t506.length co18],.int .i64 (wrap64 (t504 + (Int.tmod (rd t516 4) (wrap64 ((t506.length : Int) + 1))))),.int .i64 (wrap64 (t520 + 1))] rfl aq_ ?_;(with_reducible refine (impl_LogBehind.calls k2 t504 t505 _ _ t506 (wrap64 (t504 + (Int.tmod (rd t516 4) (wrap64 ((t506.length : Int) + 1))))) (wrap64 (t520 + 1)) t533 t534 t535 _ ?side1 ?side2 A106.out).mono ?_);(case side1 => repeat (first|exact (Kd.R_reads' HO_515002.out).2.2|(with_reducible refine Kd.C_alloc ?_ _)|(with_reducible refine Kd.C_drewN ?_ _)|(with_reducible refine Kd.C_drew ?_)));(case side2 => exact (Kd.R_reads' HO_515002.out).2.1);rintro e w113 ⟨v536,rfl,ho0,hb⟩;refine ⟨_,rfl,?_⟩;have HO537:=A_ (rw_ (Kd.R_new' (Kd.R_new' (Kd.R_new' ho0 (Kd.R_lt (rq_ HO_515002))) (Kd.R_lt (rq_ HO_516002))) (Kd.R_lt (rq_ HO_527002))) (bz_ (bq_ HB)));replace HO_515002:=A_ (Kd.R_elder' (rq_ HO_515002) (Kd.R_base ho0) hb);replace HO_516002:=A_ (Kd.R_elder' (rq_ HO_516002) (Kd.R_base ho0) hb);replace HO_527002:=A_ (Kd.R_elder' (rq_ HO_527002) (Kd.R_base ho0) hb);replace BK514:=A_ (kb_ (kq_ BK514) hb);replace BK515:=A_ (kb_ (kq_ BK515) hb);replace BK526:=A_ (kb_ (kq_ BK526) hb);replace HB:=A_ (bs_ (bq_ HB) hb);(try clear hb);(try clear hb2);(try clear hk);(try clear hi);(try clear ho0))|((with_reducible refine gate_dst (N:=14) rfl ?_);refine box_event ?hg (N:=14) ?hd (cs:=#[.int .i64 0,.int .i64 0,.slice none 0 0]) (t:=60) ?hr ?_;(case hd => rfl);(case hg => rfl);(case hr => exact gx_);intro gb538 hg w114 hbox hb;replace HO_515002:=A_ (rb_ (rq_ HO_515002) hb);replace HO_516002:=A_ (rb_ (rq_ HO_516002) hb);replace HO_527002:=A_ (rb_ (rq_ HO_527002) hb);replace HO537:=A_ (rb_ (rq_ HO537) hb);have BK538:=A_ (hbox);have GW538:=A_ ((by rw [hg];exact (bz_ (bq_ HB)) : w.heap.size ≤ gb538));have GE538:=A_ ((by rw [hg];exact (bz_ (bq_ HB)) : w.heap.size ≤ gb538));replace HB:=A_ (bs_ (bq_ HB) hb);have NB514_538:=A_ ((by rw [hg];exact nl_ (kl_ (g:=gb514) (o:=.cells #[.int .i64 t504,.int .i64 t505,.slice Ao18 t506.length co18] 60 (0,0)) (kq_ BK514)) : gb514 ≠ gb538));have NB538_514:=A_ ((by rw [hg];exact ng_ (kl_ (g:=gb514) (o:=.cells #[.int .i64 t504,.int .i64 t505,.slice Ao18 t506.length co18] 60 (0,0)) (kq_ BK514)) : gb538 ≠ gb514));replace BK514:=A_ (kb_ (kq_ BK514) hb);have NB515_538:=A_ ((by rw [hg];exact nl_ (kl_ (g:=gb515) (o:=.cells #[.int .i64 t509,.int .i64 t510,.slice Ao20 t511.length co20] 60 (0,0)) (kq_ BK515)) : gb515 ≠ gb538));have NB538_515:=A_ ((by rw [hg];exact ng_ (kl_ (g:=gb515) (o:=.cells #[.int .i64 t509,.int .i64 t510,.slice Ao20 t511.length co20] 60 (0,0)) (kq_ BK515)) : gb538 ≠ gb515));replace BK515:=A_ (kb_ (kq_ BK515) hb);have NB526_538:=A_ ((by rw [hg];exact nl_ (kl_ (g:=gb526) (o:=.cells #[.int .i64 t521,.int .i64 t522,.slice Ao33 t523.length co33] 60 (0,0)) (kq_ BK526)) : gb526 ≠ gb538));have NB538_526:=A_ ((by rw [hg];exact ng_ (kl_ (g:=gb526) (o:=.cells #[.int .i64 t521,.int .i64 t522,.slice Ao33 t523.length co33] 60 (0,0)) (kq_ BK526)) : gb538 ≠ gb526));replace BK526:=A_ (kb_ (kq_ BK526) hb);clear hb hbox hg;have hnb115:=NB538_514.out;have hnc115:=NB514_538.out;have hnb116:=NB538_515.out;have hnc116:=NB515_538.out;have hnb117:=NB538_526.out;have hnc117:=NB526_538.out;have hcz118_0:=kC_ BK538 0;have hcz118_1:=kC_ BK538 1;have hcz118_2:=kC_ BK538 2;have hfz118_0:=kf_ BK538.out 0;have hfz118_1:=kf_ BK538.out 1;have hfz118_2:=kf_ BK538.out 2;obtain ⟨Ao119,co119,eo119⟩:=Kd.R_slice HO537.out;subst eo119))
           go_ret;exact ⟨ex_,bq_ HB⟩
          ·rw [if_neg c107] at H;have c107b0 : ((t535.length : Int) == 0) = false:=beq_eq_false_iff_ne.mpr c107;have c107b1 : ((t535.length : Int) != 0) = true:=bne_iff_ne.mpr c107
           have c107b2 : ¬ (t535 = []):=fun h_ => c107 (by rw [h_];rfl)
           obtain rfl:=Option.some.inj H
           cases hr1_
  ·rw [if_neg c6] at H;exact absurd H (by simp)
def laws_FnBehind.Pure : Prop := ∀ (l0 : List Int), l0.length ≤ maxLen → l0.length * 1 ≤ 140737488351232 → (∀ x ∈ l0, (Lit.int .u8 x).wf = true) → ∃ k, laws_FnBehind.f k l0 = some true
theorem laws_FnBehind.walk (P : laws_FnBehind.Pure) (a0 : Option Addr) (len0 cap0 : Nat) (z0 : List Int) (w : World) (w0 : (a0 = none ∧ len0 = 0 ∧ cap0 = 0 ∧ z0 = []) ∨ ∃ x, a0 = some x ∧ len0 ≤ cap0 ∧ cap0 ≤ maxLen ∧ z0.length = cap0 ∧ (∀ i, i < z0.length → w.cell? (x.add i) = some (.int .u8 (z0.getD i 0))) ∧ ∀ n ∈ z0, (Lit.int .u8 n).wf = true) (y0 : len0 * 1 ≤ 140737488351232) :
  Calls Try.prog 13 #[.slice a0 len0 cap0] w fun e w' => e = .returned (.bool true) ∧ Below w.heap.size w w':=by
 obtain ⟨l0,rfl,hr0,hm0,hw0,hc0⟩:=ReadsInt.ofRowC w0;obtain ⟨k,h⟩:=P l0 hm0 y0 hw0;refine (laws_FnBehind.calls k _ _ l0 true w (Kd.C_of_reads (d:=(0 : Int)) (h1:=fun _ => rfl) hr0) hc0 h rfl).mono ?_;rintro e w' ⟨rfl,hd⟩;exact ⟨rfl,hd⟩
end Go.Proofs.Ytgpafelepkhdoaa.PFnBehind
