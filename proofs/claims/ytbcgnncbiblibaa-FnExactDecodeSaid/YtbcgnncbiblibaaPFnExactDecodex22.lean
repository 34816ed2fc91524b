/- The contracts of the Go functions that this law reaches: what each call returns, by a plain Lean function of its arguments. No conditions but those each contract names. By the kit's print.py, run by this session's wip/gen/pp.py with facts and hand proofs beside it: not to the letter what print.sh prints. -/
import Derived.Test.YtbcgnncbiblibaaPFnExactDecodex0
import Derived.Test.YtbcgnncbiblibaaPFnExactDecodex9
import Derived.Test.YtbcgnncbiblibaaPFnExactDecodex18
import Derived.Test.YtbcgnncbiblibaaPFnExactDecodex19
import Derived.Test.YtbcgnncbiblibaaPFnExactDecodex20
import Derived.Test.YtbcgnncbiblibaaPFnExactDecodex21
namespace Go.Proofs.Ytbcgnncbiblibaa.PFnExactDecode
open Go.RowKit Go.Proofs.YtbcgnncbiblibaaW.PrintWords Go.Proofs.YtbcgnncbiblibaaW.PrintLast Go.Proofs.YtbcgnncbiblibaaW.PrintMore
attribute [local go_sem] max2_int min2_int max_two min_two max_three min_three max_four min_four
set_option linter.unusedVariables false
set_option linter.unusedSimpArgs false
mutual
def laws_FnExactDecode.j0 : Nat → ByteArray → Bool → Bool → Int → Int → Int → Int → Int → Int → Int → Bool → List (S69) → List Int → ByteArray → Bool → Int → Int → Int → Int → Int → Int → Int → Bool → List (S69) → List Int → ByteArray → Bool → Option (Bool)
 | 0,_,_,_,_,_,_,_,_,_,_,_,_,_,_,_,_,_,_,_,_,_,_,_,_,_,_,_ => none
 | k + 1,x0,x4,x32,x453000,x453001,x453002,x453003,x453004,x453005,x453006,x453007,x453008,x453009,x453010,x453011,x471000,x471001,x471002,x471003,x471004,x471005,x471006,x471007,x471008,x471009,x471010,x471011 => if x32 = true then (some false) else ((laws_markMessage.f k x471000 x471001 x471002 x471003 x471004 x471005 x471006 x471007 x471008 x471009 x471010 x471011 1).bind fun bt472 => ((laws_heldMessage.f k x471000 x471001 x471002 x471003 x471004 x471005 x471006 x471007 bt472.2.1 bt472.2.2 x471010 x471011 1).bind fun t475 => (if t475 < 0 then (some false) else (if t475 = bt472.1 then ((impl_Decode.f k x0).bind fun bt476 => ((laws_eqMessage.f k bt476.1 bt476.2.1 bt476.2.2.1 bt476.2.2.2.1 bt476.2.2.2.2.1 bt476.2.2.2.2.2.1 bt476.2.2.2.2.2.2.1 bt476.2.2.2.2.2.2.2.1 bt476.2.2.2.2.2.2.2.2.1 bt476.2.2.2.2.2.2.2.2.2.1 bt476.2.2.2.2.2.2.2.2.2.2.1 bt476.2.2.2.2.2.2.2.2.2.2.2.1 x453000 x453001 x453002 x453003 x453004 x453005 x453006 x453007 x453008 x453009 x453010 x453011).bind fun t494 => (if t494 = true then (laws_FnExactDecode.j1 k bt472.1 (bt476.2.2.2.2.2.2.2.2.2.2.2.2 != x4) x471000 x471001 x471002 x471003 x471004 x471005 x471006 x471007 bt472.2.1 bt472.2.2 x471010 x471011) else (laws_FnExactDecode.j1 k bt472.1 true x471000 x471001 x471002 x471003 x471004 x471005 x471006 x471007 bt472.2.1 bt472.2.2 x471010 x471011)))) else (some false)))))
def laws_FnExactDecode.j1 : Nat → Int → Bool → Int → Int → Int → Int → Int → Int → Int → Bool → List (S69) → List Int → ByteArray → Bool → Option (Bool)
 | 0,_,_,_,_,_,_,_,_,_,_,_,_,_,_ => none
 | k + 1,x7,x57,x471000,x471001,x471002,x471003,x471004,x471005,x471006,x471007,x471008,x471009,x471010,x471011 => if x57 = true then (some false) else ((laws_heldMessage.f k x471000 x471001 x471002 x471003 x471004 x471005 x471006 x471007 x471008 x471009 x471010 x471011 1).bind fun t495 => (if t495 < 0 then (some false) else (if t495 = x7 then (some true) else (some false))))
end
def laws_FnExactDecode.f (k : Nat) (a0 : ByteArray) : Option (Bool) := if (a0.size : Int) > 1048576 then (some true) else ((spec_Decode.f k a0).bind fun bt435 => ((impl_Decode.f k a0).bind fun bt453 => ((laws_eqMessage.f k bt453.1 bt453.2.1 bt453.2.2.1 bt453.2.2.2.1 bt453.2.2.2.2.1 bt453.2.2.2.2.2.1 bt453.2.2.2.2.2.2.1 bt453.2.2.2.2.2.2.2.1 bt453.2.2.2.2.2.2.2.2.1 bt453.2.2.2.2.2.2.2.2.2.1 bt453.2.2.2.2.2.2.2.2.2.2.1 bt453.2.2.2.2.2.2.2.2.2.2.2.1 bt435.1 bt435.2.1 bt435.2.2.1 bt435.2.2.2.1 bt435.2.2.2.2.1 bt435.2.2.2.2.2.1 bt435.2.2.2.2.2.2.1 bt435.2.2.2.2.2.2.2.1 bt435.2.2.2.2.2.2.2.2.1 bt435.2.2.2.2.2.2.2.2.2.1 bt435.2.2.2.2.2.2.2.2.2.2.1 bt435.2.2.2.2.2.2.2.2.2.2.2.1).bind fun t471 => (if t471 = true then (laws_FnExactDecode.j0 k a0 bt435.2.2.2.2.2.2.2.2.2.2.2.2 (bt453.2.2.2.2.2.2.2.2.2.2.2.2 != bt435.2.2.2.2.2.2.2.2.2.2.2.2) bt435.1 bt435.2.1 bt435.2.2.1 bt435.2.2.2.1 bt435.2.2.2.2.1 bt435.2.2.2.2.2.1 bt435.2.2.2.2.2.2.1 bt435.2.2.2.2.2.2.2.1 bt435.2.2.2.2.2.2.2.2.1 bt435.2.2.2.2.2.2.2.2.2.1 bt435.2.2.2.2.2.2.2.2.2.2.1 bt435.2.2.2.2.2.2.2.2.2.2.2.1 bt453.1 bt453.2.1 bt453.2.2.1 bt453.2.2.2.1 bt453.2.2.2.2.1 bt453.2.2.2.2.2.1 bt453.2.2.2.2.2.2.1 bt453.2.2.2.2.2.2.2.1 bt453.2.2.2.2.2.2.2.2.1 bt453.2.2.2.2.2.2.2.2.2.1 bt453.2.2.2.2.2.2.2.2.2.2.1 bt453.2.2.2.2.2.2.2.2.2.2.2.1) else (laws_FnExactDecode.j0 k a0 bt435.2.2.2.2.2.2.2.2.2.2.2.2 true bt435.1 bt435.2.1 bt435.2.2.1 bt435.2.2.2.1 bt435.2.2.2.2.1 bt435.2.2.2.2.2.1 bt435.2.2.2.2.2.2.1 bt435.2.2.2.2.2.2.2.1 bt435.2.2.2.2.2.2.2.2.1 bt435.2.2.2.2.2.2.2.2.2.1 bt435.2.2.2.2.2.2.2.2.2.2.1 bt435.2.2.2.2.2.2.2.2.2.2.2.1 bt453.1 bt453.2.1 bt453.2.2.1 bt453.2.2.2.1 bt453.2.2.2.2.1 bt453.2.2.2.2.2.1 bt453.2.2.2.2.2.2.1 bt453.2.2.2.2.2.2.2.1 bt453.2.2.2.2.2.2.2.2.1 bt453.2.2.2.2.2.2.2.2.2.1 bt453.2.2.2.2.2.2.2.2.2.2.1 bt453.2.2.2.2.2.2.2.2.2.2.2.1)))))
theorem laws_FnExactDecode.mono_l : ∀ k, (∀ y0 y1 y2 y3 y4 y5 y6 y7 y8 y9 y10 y11 y12 y13 y14 y15 y16 y17 y18 y19 y20 y21 y22 y23 y24 y25 y26, LeO (laws_FnExactDecode.j0 k y0 y1 y2 y3 y4 y5 y6 y7 y8 y9 y10 y11 y12 y13 y14 y15 y16 y17 y18 y19 y20 y21 y22 y23 y24 y25 y26) (laws_FnExactDecode.j0 (k + 1) y0 y1 y2 y3 y4 y5 y6 y7 y8 y9 y10 y11 y12 y13 y14 y15 y16 y17 y18 y19 y20 y21 y22 y23 y24 y25 y26)) ∧ (∀ y0 y1 y2 y3 y4 y5 y6 y7 y8 y9 y10 y11 y12 y13, LeO (laws_FnExactDecode.j1 k y0 y1 y2 y3 y4 y5 y6 y7 y8 y9 y10 y11 y12 y13) (laws_FnExactDecode.j1 (k + 1) y0 y1 y2 y3 y4 y5 y6 y7 y8 y9 y10 y11 y12 y13))
 | 0 => ⟨fun _ _ _ _ _ _ _ _ _ _ _ _ _ _ _ _ _ _ _ _ _ _ _ _ _ _ _ r h => by simp [laws_FnExactDecode.j0] at h,fun _ _ _ _ _ _ _ _ _ _ _ _ _ _ r h => by simp [laws_FnExactDecode.j1] at h⟩
 | k + 1 => by
  obtain ⟨ih0,ih1⟩:=laws_FnExactDecode.mono_l k;refine ⟨?_,?_⟩
  ·intro y0 y1 y2 y3 y4 y5 y6 y7 y8 y9 y10 y11 y12 y13 y14 y15 y16 y17 y18 y19 y20 y21 y22 y23 y24 y25 y26
   unfold laws_FnExactDecode.j0
   repeat' first
   | (with_reducible exact ih0 _ _ _ _ _ _ _ _ _ _ _ _ _ _ _ _ _ _ _ _ _ _ _ _ _ _ _)
   | (with_reducible exact ih1 _ _ _ _ _ _ _ _ _ _ _ _ _ _)
   | (with_reducible exact impl_Decode.mono _ _)
   | (with_reducible exact laws_eqMessage.mono _ _ _ _ _ _ _ _ _ _ _ _ _ _ _ _ _ _ _ _ _ _ _ _ _)
   | (with_reducible exact laws_heldMessage.mono _ _ _ _ _ _ _ _ _ _ _ _ _ _)
   | (with_reducible exact laws_markMessage.mono _ _ _ _ _ _ _ _ _ _ _ _ _ _)
   | (with_reducible exact spec_Decode.mono _ _)
   | (with_reducible exact LeO.refl _)
   | (with_reducible exact LeO.none _)
   | (with_reducible refine LeO.ite ?_ ?_)
   | (with_reducible refine LeO.bind ?_ (fun _ => ?_))
  ·intro y0 y1 y2 y3 y4 y5 y6 y7 y8 y9 y10 y11 y12 y13
   unfold laws_FnExactDecode.j1
   repeat' first
   | (with_reducible exact ih0 _ _ _ _ _ _ _ _ _ _ _ _ _ _ _ _ _ _ _ _ _ _ _ _ _ _ _)
   | (with_reducible exact ih1 _ _ _ _ _ _ _ _ _ _ _ _ _ _)
   | (with_reducible exact impl_Decode.mono _ _)
   | (with_reducible exact laws_eqMessage.mono _ _ _ _ _ _ _ _ _ _ _ _ _ _ _ _ _ _ _ _ _ _ _ _ _)
   | (with_reducible exact laws_heldMessage.mono _ _ _ _ _ _ _ _ _ _ _ _ _ _)
   | (with_reducible exact laws_markMessage.mono _ _ _ _ _ _ _ _ _ _ _ _ _ _)
   | (with_reducible exact spec_Decode.mono _ _)
   | (with_reducible exact LeO.refl _)
   | (with_reducible exact LeO.none _)
   | (with_reducible refine LeO.ite ?_ ?_)
   | (with_reducible refine LeO.bind ?_ (fun _ => ?_))
theorem laws_FnExactDecode.mono : ∀ a0 k, LeO (laws_FnExactDecode.f k a0) (laws_FnExactDecode.f (k + 1) a0) := by
 intro a0 k;obtain ⟨ih0,ih1⟩:=laws_FnExactDecode.mono_l k
 unfold laws_FnExactDecode.f
 repeat' first
   | (with_reducible exact ih0 _ _ _ _ _ _ _ _ _ _ _ _ _ _ _ _ _ _ _ _ _ _ _ _ _ _ _)
   | (with_reducible exact ih1 _ _ _ _ _ _ _ _ _ _ _ _ _ _)
   | (with_reducible exact impl_Decode.mono _ _)
   | (with_reducible exact laws_eqMessage.mono _ _ _ _ _ _ _ _ _ _ _ _ _ _ _ _ _ _ _ _ _ _ _ _ _)
   | (with_reducible exact laws_heldMessage.mono _ _ _ _ _ _ _ _ _ _ _ _ _ _)
   | (with_reducible exact laws_markMessage.mono _ _ _ _ _ _ _ _ _ _ _ _ _ _)
   | (with_reducible exact spec_Decode.mono _ _)
   | (with_reducible exact LeO.refl _)
   | (with_reducible exact LeO.none _)
   | (with_reducible refine LeO.ite ?_ ?_)
   | (with_reducible refine LeO.bind ?_ (fun _ => ?_))
set_option maxHeartbeats 8000000 in
set_option maxRecDepth 100000 in
theorem laws_FnExactDecode.calls (k : Nat) (a0 : ByteArray) (r : Bool) (w : World) (h : laws_FnExactDecode.f k a0 = some r) (hr1_ : r = true) :
  Calls Try.prog 5 #[.string a0] w fun e w' => e = .returned (.bool r) ∧ Below w.heap.size w w':=by
 have hu41:=Try.underlying41;have HB:=A_ (Below.refl w.heap.size w);unfold laws_FnExactDecode.f at h;have H:=h;clear h
 by_cases c2 : (a0.size : Int) > 1048576
 ·rw [if_pos c2] at H;have c2b0 : decide (1048576 < (a0.size : Int)) = true:=de_ c2;have c2b1 : decide (1048576 < a0.size) = true:=de_ (by omega);clear c2;obtain rfl:=Option.some.inj H;go_enter Try.func5,Try.ntmps5;go_wp2;go_ret;exact ⟨ex_,bq_ HB⟩
 ·rw [if_neg c2] at H;have c2b0 : decide (1048576 < (a0.size : Int)) = false:=decide_eq_false c2;have c2b1 : decide (1048576 < a0.size) = false:=decide_eq_false (by omega);clear c2;replace H:=ob_.mp H;obtain ⟨⟨t435,t436,t437,t438,t439,t440,t441,t442,t443,t446,t449,t450,t451⟩,A30,H⟩:=H;(try dsimp only at H);have A3:=A_ A30;clear A30;replace H:=ob_.mp H;obtain ⟨⟨t453,t454,t455,t456,t457,t458,t459,t460,t461,t464,t467,t468,t469⟩,A40,H⟩:=H;(try dsimp only at H);have A4:=A_ A40;clear A40;have HC5:=A_ H;clear H;go_enter Try.func5,Try.ntmps5
  go_upto_region 5 with (first|((with_reducible refine gate_callee (f:=21) rfl ?_);refine gL_ (some 16) Try.func21 #[.string a0] ?_;(with_reducible refine (spec_Decode.calls k a0 t435 t436 t437 t438 t439 t440 t441 t442 t443 t446 t449 t450 t451 _ A3.out).mono ?_);rintro e w6 ⟨v444,v447,rfl,ho0,ho1,hb⟩;refine ⟨_,rfl,?_⟩;have HO445:=A_ (rw_ ho0 (bz_ (bq_ HB)));have HO448:=A_ (rw_ ho1 (bz_ (bq_ HB)));replace HB:=bS_ HB hb;(try clear hb);(try clear ho0);(try clear ho1))|((with_reducible refine gate_dst (N:=3) rfl ?_);refine bE_ 3 #[.int .i64 0,.int .i64 0,.int .i64 0,.int .i64 0,.int .i64 0,.int .i64 0,.int .i64 0,.bool false,.slice none 0 0,.slice none 0 0,.string (⟨#[]⟩ : ByteArray),.bool false] 41 ?_;intro gb452 hg w7 hbox hb;replace HO445:=rB_ HO445 hb;replace HO448:=rB_ HO448 hb;have BK452:=A_ (hbox);have GW452:=gE_ hg HB;have GE452:=gE_ hg HB;replace HB:=bS_ HB hb;clear hb hbox hg;obtain ⟨hcz8_0,hcz8_1,hcz8_2,hcz8_3,hcz8_4,hcz8_5,hcz8_6,hcz8_7,hcz8_8,hcz8_9,hcz8_10,hcz8_11,hfz8_0,hfz8_1,hfz8_2,hfz8_3,hfz8_4,hfz8_5,hfz8_6,hfz8_7,hfz8_8,hfz8_9,hfz8_10,hfz8_11⟩:=k12f_ BK452;obtain ⟨Ao9,co9,eo9⟩:=Kd.R_slice HO445.out;subst eo9;obtain ⟨Ao10,co10,eo10⟩:=Kd.R_slice HO448.out;subst eo10)|((with_reducible refine gate_callee (f:=22) rfl ?_);refine gL_ (some 21) Try.func22 #[.string a0] ?_;(with_reducible refine (impl_Decode.calls k a0 t453 t454 t455 t456 t457 t458 t459 t460 t461 t464 t467 t468 t469 _ A4.out).mono ?_);rintro e w11 ⟨v462,v465,rfl,ho0,ho1,hb⟩;refine ⟨_,rfl,?_⟩;have HO463:=A_ (rw_ (Kd.R_new' ho0 (Kd.R_lt (by (with_reducible repeat (first|apply ra_|apply rn_|apply Rd_));exact (rm_ (rf_ (p:=⟨gb452,11,none⟩) (rf_ (p:=⟨gb452,10,none⟩) (rf_ (p:=⟨gb452,9,none⟩) (rf_ (p:=⟨gb452,8,none⟩) (rf_ (p:=⟨gb452,7,none⟩) (rf_ (p:=⟨gb452,6,none⟩) (rf_ (p:=⟨gb452,5,none⟩) (rf_ (p:=⟨gb452,4,none⟩) (rf_ (p:=⟨gb452,3,none⟩) (rf_ (p:=⟨gb452,2,none⟩) (rf_ (p:=⟨gb452,1,none⟩) (rf_ (p:=⟨gb452,0,none⟩) (Kd.R_types HO445.out BK452.out (by decide)) (fun _ hk => hk.2) (.int .i64 t435)) (fun _ hk => hk.2) (.int .i64 t436)) (fun _ hk => hk.2) (.int .i64 t437)) (fun _ hk => hk.2) (.int .i64 t438)) (fun _ hk => hk.2) (.int .i64 t439)) (fun _ hk => hk.2) (.int .i64 t440)) (fun _ hk => hk.2) (.int .i64 t441)) (fun _ hk => hk.2) (.bool t442)) (fun _ hk => hk.2) (.slice Ao9 t443.length co9)) (fun _ hk => hk.2) (.slice Ao10 t446.length co10)) (fun _ hk => hk.2) (.string t449)) (fun _ hk => hk.2) (.bool t450)) (fun _ h_ => h_.1))))) (bz_ (bq_ HB)));replace HO445:=A_ (Kd.R_elder' (by (with_reducible repeat (first|apply ra_|apply rn_|apply Rd_));exact (rm_ (rf_ (p:=⟨gb452,11,none⟩) (rf_ (p:=⟨gb452,10,none⟩) (rf_ (p:=⟨gb452,9,none⟩) (rf_ (p:=⟨gb452,8,none⟩) (rf_ (p:=⟨gb452,7,none⟩) (rf_ (p:=⟨gb452,6,none⟩) (rf_ (p:=⟨gb452,5,none⟩) (rf_ (p:=⟨gb452,4,none⟩) (rf_ (p:=⟨gb452,3,none⟩) (rf_ (p:=⟨gb452,2,none⟩) (rf_ (p:=⟨gb452,1,none⟩) (rf_ (p:=⟨gb452,0,none⟩) (Kd.R_types HO445.out BK452.out (by decide)) (fun _ hk => hk.2) (.int .i64 t435)) (fun _ hk => hk.2) (.int .i64 t436)) (fun _ hk => hk.2) (.int .i64 t437)) (fun _ hk => hk.2) (.int .i64 t438)) (fun _ hk => hk.2) (.int .i64 t439)) (fun _ hk => hk.2) (.int .i64 t440)) (fun _ hk => hk.2) (.int .i64 t441)) (fun _ hk => hk.2) (.bool t442)) (fun _ hk => hk.2) (.slice Ao9 t443.length co9)) (fun _ hk => hk.2) (.slice Ao10 t446.length co10)) (fun _ hk => hk.2) (.string t449)) (fun _ hk => hk.2) (.bool t450)) (fun _ h_ => h_.1))) (Kd.R_base ho0) hb);have HO466:=A_ (rw_ (Kd.R_new' ho1 (Kd.R_lt (by (with_reducible repeat (first|apply ra_|apply rn_|apply Rd_));exact (rm_ (rf_ (p:=⟨gb452,11,none⟩) (rf_ (p:=⟨gb452,10,none⟩) (rf_ (p:=⟨gb452,9,none⟩) (rf_ (p:=⟨gb452,8,none⟩) (rf_ (p:=⟨gb452,7,none⟩) (rf_ (p:=⟨gb452,6,none⟩) (rf_ (p:=⟨gb452,5,none⟩) (rf_ (p:=⟨gb452,4,none⟩) (rf_ (p:=⟨gb452,3,none⟩) (rf_ (p:=⟨gb452,2,none⟩) (rf_ (p:=⟨gb452,1,none⟩) (rf_ (p:=⟨gb452,0,none⟩) (Kd.R_types HO448.out BK452.out (by decide)) (fun _ hk => hk.2) (.int .i64 t435)) (fun _ hk => hk.2) (.int .i64 t436)) (fun _ hk => hk.2) (.int .i64 t437)) (fun _ hk => hk.2) (.int .i64 t438)) (fun _ hk => hk.2) (.int .i64 t439)) (fun _ hk => hk.2) (.int .i64 t440)) (fun _ hk => hk.2) (.int .i64 t441)) (fun _ hk => hk.2) (.bool t442)) (fun _ hk => hk.2) (.slice Ao9 t443.length co9)) (fun _ hk => hk.2) (.slice Ao10 t446.length co10)) (fun _ hk => hk.2) (.string t449)) (fun _ hk => hk.2) (.bool t450)) (fun _ h_ => h_.1))))) (bz_ (bq_ HB)));replace HO448:=A_ (Kd.R_elder' (by (with_reducible repeat (first|apply ra_|apply rn_|apply Rd_));exact (rm_ (rf_ (p:=⟨gb452,11,none⟩) (rf_ (p:=⟨gb452,10,none⟩) (rf_ (p:=⟨gb452,9,none⟩) (rf_ (p:=⟨gb452,8,none⟩) (rf_ (p:=⟨gb452,7,none⟩) (rf_ (p:=⟨gb452,6,none⟩) (rf_ (p:=⟨gb452,5,none⟩) (rf_ (p:=⟨gb452,4,none⟩) (rf_ (p:=⟨gb452,3,none⟩) (rf_ (p:=⟨gb452,2,none⟩) (rf_ (p:=⟨gb452,1,none⟩) (rf_ (p:=⟨gb452,0,none⟩) (Kd.R_types HO448.out BK452.out (by decide)) (fun _ hk => hk.2) (.int .i64 t435)) (fun _ hk => hk.2) (.int .i64 t436)) (fun _ hk => hk.2) (.int .i64 t437)) (fun _ hk => hk.2) (.int .i64 t438)) (fun _ hk => hk.2) (.int .i64 t439)) (fun _ hk => hk.2) (.int .i64 t440)) (fun _ hk => hk.2) (.int .i64 t441)) (fun _ hk => hk.2) (.bool t442)) (fun _ hk => hk.2) (.slice Ao9 t443.length co9)) (fun _ hk => hk.2) (.slice Ao10 t446.length co10)) (fun _ hk => hk.2) (.string t449)) (fun _ hk => hk.2) (.bool t450)) (fun _ h_ => h_.1))) (Kd.R_base ho1) hb);replace BK452:=A_ (kb_ (g:=gb452) (o:=.cells #[.int .i64 t435,.int .i64 t436,.int .i64 t437,.int .i64 t438,.int .i64 t439,.int .i64 t440,.int .i64 t441,.bool t442,.slice Ao9 t443.length co9,.slice Ao10 t446.length co10,.string t449,.bool t450] 41 (0,0)) (kz_ BK452) hb);replace HB:=bS_ HB hb;(try clear hb);(try clear ho0);(try clear ho1))|((with_reducible refine gate_dst (N:=5) rfl ?_);refine bE_ 5 #[.int .i64 0,.int .i64 0,.int .i64 0,.int .i64 0,.int .i64 0,.int .i64 0,.int .i64 0,.bool false,.slice none 0 0,.slice none 0 0,.string (⟨#[]⟩ : ByteArray),.bool false] 41 ?_;intro gb470 hg w12 hbox hb;replace HO445:=rB_ HO445 hb;replace HO448:=rB_ HO448 hb;replace HO463:=rB_ HO463 hb;replace HO466:=rB_ HO466 hb;have BK470:=A_ (hbox);have GW470:=gE_ hg HB;have GE470:=gE_ hg HB;replace HB:=bS_ HB hb;have NB452_470:=nB_ hg BK452;have NB470_452:=nC_ hg BK452;replace BK452:=kB_ BK452 hb;clear hb hbox hg;have hnb13:=NB470_452.out;have hnc13:=NB452_470.out;obtain ⟨hcz14_0,hcz14_1,hcz14_2,hcz14_3,hcz14_4,hcz14_5,hcz14_6,hcz14_7,hcz14_8,hcz14_9,hcz14_10,hcz14_11,hfz14_0,hfz14_1,hfz14_2,hfz14_3,hfz14_4,hfz14_5,hfz14_6,hfz14_7,hfz14_8,hfz14_9,hfz14_10,hfz14_11⟩:=k12f_ BK470;obtain ⟨Ao15,co15,eo15⟩:=Kd.R_slice HO463.out;subst eo15;obtain ⟨Ao16,co16,eo16⟩:=Kd.R_slice HO466.out;subst eo16))
  (try simp only [Act.put,s1_,s2_,s3_])
  go_cut [32] (fun v32 wc => ∃ (kq : Nat) (x32_4 : Bool),v32 = .bool x32_4 ∧ Aside0 (laws_FnExactDecode.j0 kq a0 t451 x32_4 t435 t436 t437 t438 t439 t440 t441 t442 t443 t446 t449 t450 t453 t454 t455 t456 t457 t458 t459 t460 t461 t464 t467 t468 = some r) ∧ Aside0 (kq ≤ k) ∧ Aside0 (Kd.R k69 69 wc w.heap.size (fun k_ => some k_ ≠ ((.slice Ao15 t461.length co15) : Value).ownBlock) (.slice Ao9 t443.length co9) t443) ∧ Aside0 (Kd.R (Kd.int .i64) 3 wc w.heap.size (fun k_ => some k_ ≠ ((.slice Ao16 t464.length co16) : Value).ownBlock) (.slice Ao10 t446.length co10) t446) ∧ Aside0 (Kd.R k69 69 wc w.heap.size (fun k_ => some k_ ≠ ((.slice Ao9 t443.length co9) : Value).ownBlock) (.slice Ao15 t461.length co15) t461) ∧ Aside0 (Kd.R (Kd.int .i64) 3 wc w.heap.size (fun k_ => some k_ ≠ ((.slice Ao10 t446.length co10) : Value).ownBlock) (.slice Ao16 t464.length co16) t464) ∧ Aside0 (wc.heap[gb452]? = some (.cells #[.int .i64 t435,.int .i64 t436,.int .i64 t437,.int .i64 t438,.int .i64 t439,.int .i64 t440,.int .i64 t441,.bool t442,(.slice Ao9 t443.length co9),(.slice Ao10 t446.length co10),.string t449,.bool t450] 41 (0,0))) ∧ Aside0 (wc.heap[gb470]? = some (.cells #[.int .i64 t453,.int .i64 t454,.int .i64 t455,.int .i64 t456,.int .i64 t457,.int .i64 t458,.int .i64 t459,.bool t460,(.slice Ao15 t461.length co15),(.slice Ao16 t464.length co16),.string t467,.bool t468] 41 (0,0))) ∧ Aside0 (Below w.heap.size w wc))
  case first =>
   have H:=HC5.out;clear HC5;replace H:=ob_.mp H;obtain ⟨t471,A170,H⟩:=H;(try dsimp only at H);have A17:=A_ A170;clear A170
   by_cases c18 : t471 = true
   ·subst c18
    rw [if_pos rfl] at H;have H':=A_ H;clear H;have hnb19:=NB470_452.out;have hnc19:=NB452_470.out;obtain ⟨hcz20_0,hcz20_1,hcz20_2,hcz20_3,hcz20_4,hcz20_5,hcz20_6,hcz20_7,hcz20_8,hcz20_9,hcz20_10,hcz20_11,hfz20_0,hfz20_1,hfz20_2,hfz20_3,hfz20_4,hfz20_5,hfz20_6,hfz20_7,hfz20_8,hfz20_9,hfz20_10,hfz20_11⟩:=k12f_ BK470;obtain ⟨hcz21_0,hcz21_1,hcz21_2,hcz21_3,hcz21_4,hcz21_5,hcz21_6,hcz21_7,hcz21_8,hcz21_9,hcz21_10,hcz21_11,hfz21_0,hfz21_1,hfz21_2,hfz21_3,hfz21_4,hfz21_5,hfz21_6,hfz21_7,hfz21_8,hfz21_9,hfz21_10,hfz21_11⟩:=k12f_ BK452
    go_wp2_with (first|((with_reducible refine gate_callee (f:=23) rfl ?_);refine gL_ (some 26) Try.func23 #[.agg #[.int .i64 t453,.int .i64 t454,.int .i64 t455,.int .i64 t456,.int .i64 t457,.int .i64 t458,.int .i64 t459,.bool t460,.slice Ao15 t461.length co15,.slice Ao16 t464.length co16,.string t467,.bool t468],.agg #[.int .i64 t435,.int .i64 t436,.int .i64 t437,.int .i64 t438,.int .i64 t439,.int .i64 t440,.int .i64 t441,.bool t442,.slice Ao9 t443.length co9,.slice Ao10 t446.length co10,.string t449,.bool t450]] ?_;(with_reducible refine (laws_eqMessage.calls k t453 t454 t455 t456 t457 t458 t459 t460 _ _ t461 _ _ t464 t467 t468 t435 t436 t437 t438 t439 t440 t441 t442 _ _ t443 _ _ t446 t449 t450 true _ ?side1 ?side2 ?side3 ?side4 ?side5 ?side6 ?side7 ?side8 A17.out).mono ?_);(case side1 => refine (Kd.R_reads' (e:=69) (base:=w.heap.size) (ok:=fun k_ => (True ∧ some k_ ≠ (.slice Ao9 t443.length co9 : Value).ownBlock)) (n:=t461.length) (c:=co15) ?_).2.2;exact (by (with_reducible repeat (first|apply ra_|apply rn_|apply Rd_));exact (rm_ (rf_ (p:=⟨gb470,11,none⟩) (rf_ (p:=⟨gb470,10,none⟩) (rf_ (p:=⟨gb470,9,none⟩) (rf_ (p:=⟨gb470,8,none⟩) (rf_ (p:=⟨gb470,7,none⟩) (rf_ (p:=⟨gb470,6,none⟩) (rf_ (p:=⟨gb470,5,none⟩) (rf_ (p:=⟨gb470,4,none⟩) (rf_ (p:=⟨gb470,3,none⟩) (rf_ (p:=⟨gb470,2,none⟩) (rf_ (p:=⟨gb470,1,none⟩) (rf_ (p:=⟨gb470,0,none⟩) (Kd.R_types HO463.out BK470.out (by decide)) (fun _ hk => hk.2) (.int .i64 t453)) (fun _ hk => hk.2) (.int .i64 t454)) (fun _ hk => hk.2) (.int .i64 t455)) (fun _ hk => hk.2) (.int .i64 t456)) (fun _ hk => hk.2) (.int .i64 t457)) (fun _ hk => hk.2) (.int .i64 t458)) (fun _ hk => hk.2) (.int .i64 t459)) (fun _ hk => hk.2) (.bool t460)) (fun _ hk => hk.2) (.slice Ao15 t461.length co15)) (fun _ hk => hk.2) (.slice Ao16 t464.length co16)) (fun _ hk => hk.2) (.string t467)) (fun _ hk => hk.2) (.bool t468)) (fun _ h_ => h_.1))));(case side2 => exact (Kd.R_reads' HO463.out).2.1);(case side3 => refine (Kd.R_reads' (e:=3) (base:=w.heap.size) (ok:=fun k_ => (True ∧ some k_ ≠ (.slice Ao10 t446.length co10 : Value).ownBlock)) (n:=t464.length) (c:=co16) ?_).2.2;exact (by (with_reducible repeat (first|apply ra_|apply rn_|apply Rd_));exact (rm_ (rf_ (p:=⟨gb470,11,none⟩) (rf_ (p:=⟨gb470,10,none⟩) (rf_ (p:=⟨gb470,9,none⟩) (rf_ (p:=⟨gb470,8,none⟩) (rf_ (p:=⟨gb470,7,none⟩) (rf_ (p:=⟨gb470,6,none⟩) (rf_ (p:=⟨gb470,5,none⟩) (rf_ (p:=⟨gb470,4,none⟩) (rf_ (p:=⟨gb470,3,none⟩) (rf_ (p:=⟨gb470,2,none⟩) (rf_ (p:=⟨gb470,1,none⟩) (rf_ (p:=⟨gb470,0,none⟩) (Kd.R_types HO466.out BK470.out (by decide)) (fun _ hk => hk.2) (.int .i64 t453)) (fun _ hk => hk.2) (.int .i64 t454)) (fun _ hk => hk.2) (.int .i64 t455)) (fun _ hk => hk.2) (.int .i64 t456)) (fun _ hk => hk.2) (.int .i64 t457)) (fun _ hk => hk.2) (.int .i64 t458)) (fun _ hk => hk.2) (.int .i64 t459)) (fun _ hk => hk.2) (.bool t460)) (fun _ hk => hk.2) (.slice Ao15 t461.length co15)) (fun _ hk => hk.2) (.slice Ao16 t464.length co16)) (fun _ hk => hk.2) (.string t467)) (fun _ hk => hk.2) (.bool t468)) (fun _ h_ => h_.1))));(case side4 => exact (Kd.R_reads' HO466.out).2.1);(case side5 => refine (Kd.R_reads' (e:=69) (base:=w.heap.size) (ok:=fun k_ => (True ∧ some k_ ≠ (.slice Ao15 t461.length co15 : Value).ownBlock)) (n:=t443.length) (c:=co9) ?_).2.2;exact (by (with_reducible repeat (first|apply ra_|apply rn_|apply Rd_));exact (rm_ (rf_ (p:=⟨gb470,11,none⟩) (rf_ (p:=⟨gb470,10,none⟩) (rf_ (p:=⟨gb470,9,none⟩) (rf_ (p:=⟨gb470,8,none⟩) (rf_ (p:=⟨gb470,7,none⟩) (rf_ (p:=⟨gb470,6,none⟩) (rf_ (p:=⟨gb470,5,none⟩) (rf_ (p:=⟨gb470,4,none⟩) (rf_ (p:=⟨gb470,3,none⟩) (rf_ (p:=⟨gb470,2,none⟩) (rf_ (p:=⟨gb470,1,none⟩) (rf_ (p:=⟨gb470,0,none⟩) (Kd.R_types HO445.out BK470.out (by decide)) (fun _ hk => hk.2) (.int .i64 t453)) (fun _ hk => hk.2) (.int .i64 t454)) (fun _ hk => hk.2) (.int .i64 t455)) (fun _ hk => hk.2) (.int .i64 t456)) (fun _ hk => hk.2) (.int .i64 t457)) (fun _ hk => hk.2) (.int .i64 t458)) (fun _ hk => hk.2) (.int .i64 t459)) (fun _ hk => hk.2) (.bool t460)) (fun _ hk => hk.2) (.slice Ao15 t461.length co15)) (fun _ hk => hk.2) (.slice Ao16 t464.length co16)) (fun _ hk => hk.2) (.string t467)) (fun _ hk => hk.2) (.bool t468)) (fun _ h_ => h_.1))));(case side6 => exact (Kd.R_reads' HO445.out).2.1);(case side7 => refine (Kd.R_reads' (e:=3) (base:=w.heap.size) (ok:=fun k_ => (True ∧ some k_ ≠ (.slice Ao16 t464.length co16 : Value).ownBlock)) (n:=t446.length) (c:=co10) ?_).2.2;exact (by (with_reducible repeat (first|apply ra_|apply rn_|apply Rd_));exact (rm_ (rf_ (p:=⟨gb470,11,none⟩) (rf_ (p:=⟨gb470,10,none⟩) (rf_ (p:=⟨gb470,9,none⟩) (rf_ (p:=⟨gb470,8,none⟩) (rf_ (p:=⟨gb470,7,none⟩) (rf_ (p:=⟨gb470,6,none⟩) (rf_ (p:=⟨gb470,5,none⟩) (rf_ (p:=⟨gb470,4,none⟩) (rf_ (p:=⟨gb470,3,none⟩) (rf_ (p:=⟨gb470,2,none⟩) (rf_ (p:=⟨gb470,1,none⟩) (rf_ (p:=⟨gb470,0,none⟩) (Kd.R_types HO448.out BK470.out (by decide)) (fun _ hk => hk.2) (.int .i64 t453)) (fun _ hk => hk.2) (.int .i64 t454)) (fun _ hk => hk.2) (.int .i64 t455)) (fun _ hk => hk.2) (.int .i64 t456)) (fun _ hk => hk.2) (.int .i64 t457)) (fun _ hk => hk.2) (.int .i64 t458)) (fun _ hk => hk.2) (.int .i64 t459)) (fun _ hk => hk.2) (.bool t460)) (fun _ hk => hk.2) (.slice Ao15 t461.length co15)) (fun _ hk => hk.2) (.slice Ao16 t464.length co16)) (fun _ hk => hk.2) (.string t467)) (fun _ hk => hk.2) (.bool t468)) (fun _ h_ => h_.1))));(case side8 => exact (Kd.R_reads' HO448.out).2.1);rintro e w22 ⟨rfl,hb⟩;refine ⟨_,rfl,?_⟩;replace HO445:=A_ (rb_ (by (with_reducible repeat (first|apply ra_|apply rn_|apply Rd_));exact (rm_ (rf_ (p:=⟨gb470,11,none⟩) (rf_ (p:=⟨gb470,10,none⟩) (rf_ (p:=⟨gb470,9,none⟩) (rf_ (p:=⟨gb470,8,none⟩) (rf_ (p:=⟨gb470,7,none⟩) (rf_ (p:=⟨gb470,6,none⟩) (rf_ (p:=⟨gb470,5,none⟩) (rf_ (p:=⟨gb470,4,none⟩) (rf_ (p:=⟨gb470,3,none⟩) (rf_ (p:=⟨gb470,2,none⟩) (rf_ (p:=⟨gb470,1,none⟩) (rf_ (p:=⟨gb470,0,none⟩) (Kd.R_types HO445.out BK470.out (by decide)) (fun _ hk => hk.2) (.int .i64 t453)) (fun _ hk => hk.2) (.int .i64 t454)) (fun _ hk => hk.2) (.int .i64 t455)) (fun _ hk => hk.2) (.int .i64 t456)) (fun _ hk => hk.2) (.int .i64 t457)) (fun _ hk => hk.2) (.int .i64 t458)) (fun _ hk => hk.2) (.int .i64 t459)) (fun _ hk => hk.2) (.bool t460)) (fun _ hk => hk.2) (.slice Ao15 t461.length co15)) (fun _ hk => hk.2) (.slice Ao16 t464.length co16)) (fun _ hk => hk.2) (.string t467)) (fun _ hk => hk.2) (.bool t468)) (fun _ h_ => h_.1))) hb);replace HO448:=A_ (rb_ (by (with_reducible repeat (first|apply ra_|apply rn_|apply Rd_));exact (rm_ (rf_ (p:=⟨gb470,11,none⟩) (rf_ (p:=⟨gb470,10,none⟩) (rf_ (p:=⟨gb470,9,none⟩) (rf_ (p:=⟨gb470,8,none⟩) (rf_ (p:=⟨gb470,7,none⟩) (rf_ (p:=⟨gb470,6,none⟩) (rf_ (p:=⟨gb470,5,none⟩) (rf_ (p:=⟨gb470,4,none⟩) (rf_ (p:=⟨gb470,3,none⟩) (rf_ (p:=⟨gb470,2,none⟩) (rf_ (p:=⟨gb470,1,none⟩) (rf_ (p:=⟨gb470,0,none⟩) (Kd.R_types HO448.out BK470.out (by decide)) (fun _ hk => hk.2) (.int .i64 t453)) (fun _ hk => hk.2) (.int .i64 t454)) (fun _ hk => hk.2) (.int .i64 t455)) (fun _ hk => hk.2) (.int .i64 t456)) (fun _ hk => hk.2) (.int .i64 t457)) (fun _ hk => hk.2) (.int .i64 t458)) (fun _ hk => hk.2) (.int .i64 t459)) (fun _ hk => hk.2) (.bool t460)) (fun _ hk => hk.2) (.slice Ao15 t461.length co15)) (fun _ hk => hk.2) (.slice Ao16 t464.length co16)) (fun _ hk => hk.2) (.string t467)) (fun _ hk => hk.2) (.bool t468)) (fun _ h_ => h_.1))) hb);replace HO463:=A_ (rb_ (by (with_reducible repeat (first|apply ra_|apply rn_|apply Rd_));exact (rm_ (rf_ (p:=⟨gb470,11,none⟩) (rf_ (p:=⟨gb470,10,none⟩) (rf_ (p:=⟨gb470,9,none⟩) (rf_ (p:=⟨gb470,8,none⟩) (rf_ (p:=⟨gb470,7,none⟩) (rf_ (p:=⟨gb470,6,none⟩) (rf_ (p:=⟨gb470,5,none⟩) (rf_ (p:=⟨gb470,4,none⟩) (rf_ (p:=⟨gb470,3,none⟩) (rf_ (p:=⟨gb470,2,none⟩) (rf_ (p:=⟨gb470,1,none⟩) (rf_ (p:=⟨gb470,0,none⟩) (Kd.R_types HO463.out BK470.out (by decide)) (fun _ hk => hk.2) (.int .i64 t453)) (fun _ hk => hk.2) (.int .i64 t454)) (fun _ hk => hk.2) (.int .i64 t455)) (fun _ hk => hk.2) (.int .i64 t456)) (fun _ hk => hk.2) (.int .i64 t457)) (fun _ hk => hk.2) (.int .i64 t458)) (fun _ hk => hk.2) (.int .i64 t459)) (fun _ hk => hk.2) (.bool t460)) (fun _ hk => hk.2) (.slice Ao15 t461.length co15)) (fun _ hk => hk.2) (.slice Ao16 t464.length co16)) (fun _ hk => hk.2) (.string t467)) (fun _ hk => hk.2) (.bool t468)) (fun _ h_ => h_.1))) hb);replace HO466:=A_ (rb_ (by (with_reducible repeat (first|apply ra_|apply rn_|apply Rd_));exact (rm_ (rf_ (p:=⟨gb470,11,none⟩) (rf_ (p:=⟨gb470,10,none⟩) (rf_ (p:=⟨gb470,9,none⟩) (rf_ (p:=⟨gb470,8,none⟩) (rf_ (p:=⟨gb470,7,none⟩) (rf_ (p:=⟨gb470,6,none⟩) (rf_ (p:=⟨gb470,5,none⟩) (rf_ (p:=⟨gb470,4,none⟩) (rf_ (p:=⟨gb470,3,none⟩) (rf_ (p:=⟨gb470,2,none⟩) (rf_ (p:=⟨gb470,1,none⟩) (rf_ (p:=⟨gb470,0,none⟩) (Kd.R_types HO466.out BK470.out (by decide)) (fun _ hk => hk.2) (.int .i64 t453)) (fun _ hk => hk.2) (.int .i64 t454)) (fun _ hk => hk.2) (.int .i64 t455)) (fun _ hk => hk.2) (.int .i64 t456)) (fun _ hk => hk.2) (.int .i64 t457)) (fun _ hk => hk.2) (.int .i64 t458)) (fun _ hk => hk.2) (.int .i64 t459)) (fun _ hk => hk.2) (.bool t460)) (fun _ hk => hk.2) (.slice Ao15 t461.length co15)) (fun _ hk => hk.2) (.slice Ao16 t464.length co16)) (fun _ hk => hk.2) (.string t467)) (fun _ hk => hk.2) (.bool t468)) (fun _ h_ => h_.1))) hb);replace BK452:=A_ (kb_ (g:=gb452) (o:=.cells #[.int .i64 t435,.int .i64 t436,.int .i64 t437,.int .i64 t438,.int .i64 t439,.int .i64 t440,.int .i64 t441,.bool t442,.slice Ao9 t443.length co9,.slice Ao10 t446.length co10,.string t449,.bool t450] 41 (0,0)) (kz_ BK452) hb);replace BK470:=A_ (kb_ (g:=gb470) (o:=.cells #[.int .i64 t453,.int .i64 t454,.int .i64 t455,.int .i64 t456,.int .i64 t457,.int .i64 t458,.int .i64 t459,.bool t460,.slice Ao15 t461.length co15,.slice Ao16 t464.length co16,.string t467,.bool t468] 41 (0,0)) (kz_ BK470) hb);replace HB:=bS_ HB hb;(try clear hb)))
    go_meet
    case rel => exact ⟨_,((t469 != t451)),(by first|rfl|(simp;done)|(simp [*];done)),H',⟨by first|omega|exact Nat.le_refl _⟩,⟨by (with_reducible repeat (first|apply ra_|apply rn_|apply Rd_));exact rm_ HO445.out (fun _ hk => hk.2)⟩,⟨by (with_reducible repeat (first|apply ra_|apply rn_|apply Rd_));exact rm_ HO448.out (fun _ hk => hk.2)⟩,⟨by (with_reducible repeat (first|apply ra_|apply rn_|apply Rd_));exact rm_ HO463.out (fun _ hk => hk.2)⟩,⟨by (with_reducible repeat (first|apply ra_|apply rn_|apply Rd_));exact rm_ HO466.out (fun _ hk => hk.2)⟩,⟨kq_ BK452⟩,⟨kq_ BK470⟩,⟨bq_ HB⟩⟩
   ·replace c18:=Bool.eq_false_iff.mpr c18;subst c18
    have H1 : (laws_FnExactDecode.j0 k a0 t451 true t435 t436 t437 t438 t439 t440 t441 t442 t443 t446 t449 t450 t453 t454 t455 t456 t457 t458 t459 t460 t461 t464 t467 t468) = some r:=by rw [if_neg (show ¬ (false = true) by decide)] at H;exact H
    clear H;have H:=H1;clear H1;have H':=A_ H;clear H;have hnb23:=NB470_452.out;have hnc23:=NB452_470.out;obtain ⟨hcz24_0,hcz24_1,hcz24_2,hcz24_3,hcz24_4,hcz24_5,hcz24_6,hcz24_7,hcz24_8,hcz24_9,hcz24_10,hcz24_11,hfz24_0,hfz24_1,hfz24_2,hfz24_3,hfz24_4,hfz24_5,hfz24_6,hfz24_7,hfz24_8,hfz24_9,hfz24_10,hfz24_11⟩:=k12f_ BK470;obtain ⟨hcz25_0,hcz25_1,hcz25_2,hcz25_3,hcz25_4,hcz25_5,hcz25_6,hcz25_7,hcz25_8,hcz25_9,hcz25_10,hcz25_11,hfz25_0,hfz25_1,hfz25_2,hfz25_3,hfz25_4,hfz25_5,hfz25_6,hfz25_7,hfz25_8,hfz25_9,hfz25_10,hfz25_11⟩:=k12f_ BK452
    go_wp2_with (first|((with_reducible refine gate_callee (f:=23) rfl ?_);refine gL_ (some 26) Try.func23 #[.agg #[.int .i64 t453,.int .i64 t454,.int .i64 t455,.int .i64 t456,.int .i64 t457,.int .i64 t458,.int .i64 t459,.bool t460,.slice Ao15 t461.length co15,.slice Ao16 t464.length co16,.string t467,.bool t468],.agg #[.int .i64 t435,.int .i64 t436,.int .i64 t437,.int .i64 t438,.int .i64 t439,.int .i64 t440,.int .i64 t441,.bool t442,.slice Ao9 t443.length co9,.slice Ao10 t446.length co10,.string t449,.bool t450]] ?_;(with_reducible refine (laws_eqMessage.calls k t453 t454 t455 t456 t457 t458 t459 t460 _ _ t461 _ _ t464 t467 t468 t435 t436 t437 t438 t439 t440 t441 t442 _ _ t443 _ _ t446 t449 t450 false _ ?side1 ?side2 ?side3 ?side4 ?side5 ?side6 ?side7 ?side8 A17.out).mono ?_);(case side1 => refine (Kd.R_reads' (e:=69) (base:=w.heap.size) (ok:=fun k_ => (True ∧ some k_ ≠ (.slice Ao9 t443.length co9 : Value).ownBlock)) (n:=t461.length) (c:=co15) ?_).2.2;exact (by (with_reducible repeat (first|apply ra_|apply rn_|apply Rd_));exact (rm_ (rf_ (p:=⟨gb470,11,none⟩) (rf_ (p:=⟨gb470,10,none⟩) (rf_ (p:=⟨gb470,9,none⟩) (rf_ (p:=⟨gb470,8,none⟩) (rf_ (p:=⟨gb470,7,none⟩) (rf_ (p:=⟨gb470,6,none⟩) (rf_ (p:=⟨gb470,5,none⟩) (rf_ (p:=⟨gb470,4,none⟩) (rf_ (p:=⟨gb470,3,none⟩) (rf_ (p:=⟨gb470,2,none⟩) (rf_ (p:=⟨gb470,1,none⟩) (rf_ (p:=⟨gb470,0,none⟩) (Kd.R_types HO463.out BK470.out (by decide)) (fun _ hk => hk.2) (.int .i64 t453)) (fun _ hk => hk.2) (.int .i64 t454)) (fun _ hk => hk.2) (.int .i64 t455)) (fun _ hk => hk.2) (.int .i64 t456)) (fun _ hk => hk.2) (.int .i64 t457)) (fun _ hk => hk.2) (.int .i64 t458)) (fun _ hk => hk.2) (.int .i64 t459)) (fun _ hk => hk.2) (.bool t460)) (fun _ hk => hk.2) (.slice Ao15 t461.length co15)) (fun _ hk => hk.2) (.slice Ao16 t464.length co16)) (fun _ hk => hk.2) (.string t467)) (fun _ hk => hk.2) (.bool t468)) (fun _ h_ => h_.1))));(case side2 => exact (Kd.R_reads' HO463.out).2.1);(case side3 => refine (Kd.R_reads' (e:=3) (base:=w.heap.size) (ok:=fun k_ => (True ∧ some k_ ≠ (.slice Ao10 t446.length co10 : Value).ownBlock)) (n:=t464.length) (c:=co16) ?_).2.2;exact (by (with_reducible repeat (first|apply ra_|apply rn_|apply Rd_));exact (rm_ (rf_ (p:=⟨gb470,11,none⟩) (rf_ (p:=⟨gb470,10,none⟩) (rf_ (p:=⟨gb470,9,none⟩) (rf_ (p:=⟨gb470,8,none⟩) (rf_ (p:=⟨gb470,7,none⟩) (rf_ (p:=⟨gb470,6,none⟩) (rf_ (p:=⟨gb470,5,none⟩) (rf_ (p:=⟨gb470,4,none⟩) (rf_ (p:=⟨gb470,3,none⟩) (rf_ (p:=⟨gb470,2,none⟩) (rf_ (p:=⟨gb470,1,none⟩) (rf_ (p:=⟨gb470,0,none⟩) (Kd.R_types HO466.out BK470.out (by decide)) (fun _ hk => hk.2) (.int .i64 t453)) (fun _ hk => hk.2) (.int .i64 t454)) (fun _ hk => hk.2) (.int .i64 t455)) (fun _ hk => hk.2) (.int .i64 t456)) (fun _ hk => hk.2) (.int .i64 t457)) (fun _ hk => hk.2) (.int .i64 t458)) (fun _ hk => hk.2) (.int .i64 t459)) (fun _ hk => hk.2) (.bool t460)) (fun _ hk => hk.2) (.slice Ao15 t461.length co15)) (fun _ hk => hk.2) (.slice Ao16 t464.length co16)) (fun _ hk => hk.2) (.string t467)) (fun _ hk => hk.2) (.bool t468)) (fun _ h_ => h_.1))));(case side4 => exact (Kd.R_reads' HO466.out).2.1);(case side5 => refine (Kd.R_reads' (e:=69) (base:=w.heap.size) (ok:=fun k_ => (True ∧ some k_ ≠ (.slice Ao15 t461.length co15 : Value).ownBlock)) (n:=t443.length) (c:=co9) ?_).2.2;exact (by (with_reducible repeat (first|apply ra_|apply rn_|apply Rd_));exact (rm_ (rf_ (p:=⟨gb470,11,none⟩) (rf_ (p:=⟨gb470,10,none⟩) (rf_ (p:=⟨gb470,9,none⟩) (rf_ (p:=⟨gb470,8,none⟩) (rf_ (p:=⟨gb470,7,none⟩) (rf_ (p:=⟨gb470,6,none⟩) (rf_ (p:=⟨gb470,5,none⟩) (rf_ (p:=⟨gb470,4,none⟩) (rf_ (p:=⟨gb470,3,none⟩) (rf_ (p:=⟨gb470,2,none⟩) (rf_ (p:=⟨gb470,1,none⟩) (rf_ (p:=⟨gb470,0,none⟩) (Kd.R_types HO445.out BK470.out (by decide)) (fun _ hk => hk.2) (.int .i64 t453)) (fun _ hk => hk.2) (.int .i64 t454)) (fun _ hk => hk.2) (.int .i64 t455)) (fun _ hk => hk.2) (.int .i64 t456)) (fun _ hk => hk.2) (.int .i64 t457)) (fun _ hk => hk.2) (.int .i64 t458)) (fun _ hk => hk.2) (.int .i64 t459)) (fun _ hk => hk.2) (.bool t460)) (fun _ hk => hk.2) (.slice Ao15 t461.length co15)) (fun _ hk => hk.2) (.slice Ao16 t464.length co16)) (fun _ hk => hk.2) (.string t467)) (fun _ hk => hk.2) (.bool t468)) (fun _ h_ => h_.1))));(case side6 => exact (Kd.R_reads' HO445.out).2.1);(case side7 => refine (Kd.R_reads' (e:=3) (base:=w.heap.size) (ok:=fun k_ => (True ∧ some k_ ≠ (.slice Ao16 t464.length co16 : Value).ownBlock)) (n:=t446.length) (c:=co10) ?_).2.2;exact (by (with_reducible repeat (first|apply ra_|apply rn_|apply Rd_));exact (rm_ (rf_ (p:=⟨gb470,11,none⟩) (rf_ (p:=⟨gb470,10,none⟩) (rf_ (p:=⟨gb470,9,none⟩) (rf_ (p:=⟨gb470,8,none⟩) (rf_ (p:=⟨gb470,7,none⟩) (rf_ (p:=⟨gb470,6,none⟩) (rf_ (p:=⟨gb470,5,none⟩) (rf_ (p:=⟨gb470,4,none⟩) (rf_ (p:=⟨gb470,3,none⟩) (rf_ (p:=⟨gb470,2,none⟩) (rf_ (p:=⟨gb470,1,none⟩) (rf_ (p:=⟨gb470,0,none⟩) (Kd.R_types HO448.out BK470.out (by decide)) (fun _ hk => hk.2) (.int .i64 t453)) (fun _ hk => hk.2) (.int .i64 t454)) (fun _ hk => hk.2) (.int .i64 t455)) (fun _ hk => hk.2) (.int .i64 t456)) (fun _ hk => hk.2) (.int .i64 t457)) (fun _ hk => hk.2) (.int .i64 t458)) (fun _ hk => hk.2) (.int .i64 t459)) (fun _ hk => hk.2) (.bool t460)) (fun _ hk => hk.2) (.slice Ao15 t461.length co15)) (fun _ hk => hk.2) (.slice Ao16 t464.length co16)) (fun _ hk => hk.2) (.string t467)) (fun _ hk => hk.2) (.bool t468)) (fun _ h_ => h_.1))));(case side8 => exact (Kd.R_reads' HO448.out).2.1);rintro e w26 ⟨rfl,hb⟩;refine ⟨_,rfl,?_⟩;replace HO445:=A_ (rb_ (by (with_reducible repeat (first|apply ra_|apply rn_|apply Rd_));exact (rm_ (rf_ (p:=⟨gb470,11,none⟩) (rf_ (p:=⟨gb470,10,none⟩) (rf_ (p:=⟨gb470,9,none⟩) (rf_ (p:=⟨gb470,8,none⟩) (rf_ (p:=⟨gb470,7,none⟩) (rf_ (p:=⟨gb470,6,none⟩) (rf_ (p:=⟨gb470,5,none⟩) (rf_ (p:=⟨gb470,4,none⟩) (rf_ (p:=⟨gb470,3,none⟩) (rf_ (p:=⟨gb470,2,none⟩) (rf_ (p:=⟨gb470,1,none⟩) (rf_ (p:=⟨gb470,0,none⟩) (Kd.R_types HO445.out BK470.out (by decide)) (fun _ hk => hk.2) (.int .i64 t453)) (fun _ hk => hk.2) (.int .i64 t454)) (fun _ hk => hk.2) (.int .i64 t455)) (fun _ hk => hk.2) (.int .i64 t456)) (fun _ hk => hk.2) (.int .i64 t457)) (fun _ hk => hk.2) (.int .i64 t458)) (fun _ hk => hk.2) (.int .i64 t459)) (fun _ hk => hk.2) (.bool t460)) (fun _ hk => hk.2) (.slice Ao15 t461.length co15)) (fun _ hk => hk.2) (.slice Ao16 t464.length co16)) (fun _ hk => hk.2) (.string t467)) (fun _ hk => hk.2) (.bool t468)) (fun _ h_ => h_.1))) hb);replace HO448:=A_ (rb_ (by (with_reducible repeat (first|apply ra_|apply rn_|apply Rd_));exact (rm_ (rf_ (p:=⟨gb470,11,none⟩) (rf_ (p:=⟨gb470,10,none⟩) (rf_ (p:=⟨gb470,9,none⟩) (rf_ (p:=⟨gb470,8,none⟩) (rf_ (p:=⟨gb470,7,none⟩) (rf_ (p:=⟨gb470,6,none⟩) (rf_ (p:=⟨gb470,5,none⟩) (rf_ (p:=⟨gb470,4,none⟩) (rf_ (p:=⟨gb470,3,none⟩) (rf_ (p:=⟨gb470,2,none⟩) (rf_ (p:=⟨gb470,1,none⟩) (rf_ (p:=⟨gb470,0,none⟩) (Kd.R_types HO448.out BK470.out (by decide)) (fun _ hk => hk.2) (.int .i64 t453)) (fun _ hk => hk.2) (.int .i64 t454)) (fun _ hk => hk.2) (.int .i64 t455)) (fun _ hk => hk.2) (.int .i64 t456)) (fun _ hk => hk.2) (.int .i64 t457)) (fun _ hk => hk.2) (.int .i64 t458)) (fun _ hk => hk.2) (.int .i64 t459)) (fun _ hk => hk.2) (.bool t460)) (fun _ hk => hk.2) (.slice Ao15 t461.length co15)) (fun _ hk => hk.2) (.slice Ao16 t464.length co16)) (fun _ hk => hk.2) (.string t467)) (fun _ hk => hk.2) (.bool t468)) (fun _ h_ => h_.1))) hb);replace HO463:=A_ (rb_ (by (with_reducible repeat (first|apply ra_|apply rn_|apply Rd_));exact (rm_ (rf_ (p:=⟨gb470,11,none⟩) (rf_ (p:=⟨gb470,10,none⟩) (rf_ (p:=⟨gb470,9,none⟩) (rf_ (p:=⟨gb470,8,none⟩) (rf_ (p:=⟨gb470,7,none⟩) (rf_ (p:=⟨gb470,6,none⟩) (rf_ (p:=⟨gb470,5,none⟩) (rf_ (p:=⟨gb470,4,none⟩) (rf_ (p:=⟨gb470,3,none⟩) (rf_ (p:=⟨gb470,2,none⟩) (rf_ (p:=⟨gb470,1,none⟩) (rf_ (p:=⟨gb470,0,none⟩) (Kd.R_types HO463.out BK470.out (by decide)) (fun _ hk => hk.2) (.int .i64 t453)) (fun _ hk => hk.2) (.int .i64 t454)) (fun _ hk => hk.2) (.int .i64 t455)) (fun _ hk => hk.2) (.int .i64 t456)) (fun _ hk => hk.2) (.int .i64 t457)) (fun _ hk => hk.2) (.int .i64 t458)) (fun _ hk => hk.2) (.int .i64 t459)) (fun _ hk => hk.2) (.bool t460)) (fun _ hk => hk.2) (.slice Ao15 t461.length co15)) (fun _ hk => hk.2) (.slice Ao16 t464.length co16)) (fun _ hk => hk.2) (.string t467)) (fun _ hk => hk.2) (.bool t468)) (fun _ h_ => h_.1))) hb);replace HO466:=A_ (rb_ (by (with_reducible repeat (first|apply ra_|apply rn_|apply Rd_));exact (rm_ (rf_ (p:=⟨gb470,11,none⟩) (rf_ (p:=⟨gb470,10,none⟩) (rf_ (p:=⟨gb470,9,none⟩) (rf_ (p:=⟨gb470,8,none⟩) (rf_ (p:=⟨gb470,7,none⟩) (rf_ (p:=⟨gb470,6,none⟩) (rf_ (p:=⟨gb470,5,none⟩) (rf_ (p:=⟨gb470,4,none⟩) (rf_ (p:=⟨gb470,3,none⟩) (rf_ (p:=⟨gb470,2,none⟩) (rf_ (p:=⟨gb470,1,none⟩) (rf_ (p:=⟨gb470,0,none⟩) (Kd.R_types HO466.out BK470.out (by decide)) (fun _ hk => hk.2) (.int .i64 t453)) (fun _ hk => hk.2) (.int .i64 t454)) (fun _ hk => hk.2) (.int .i64 t455)) (fun _ hk => hk.2) (.int .i64 t456)) (fun _ hk => hk.2) (.int .i64 t457)) (fun _ hk => hk.2) (.int .i64 t458)) (fun _ hk => hk.2) (.int .i64 t459)) (fun _ hk => hk.2) (.bool t460)) (fun _ hk => hk.2) (.slice Ao15 t461.length co15)) (fun _ hk => hk.2) (.slice Ao16 t464.length co16)) (fun _ hk => hk.2) (.string t467)) (fun _ hk => hk.2) (.bool t468)) (fun _ h_ => h_.1))) hb);replace BK452:=A_ (kb_ (g:=gb452) (o:=.cells #[.int .i64 t435,.int .i64 t436,.int .i64 t437,.int .i64 t438,.int .i64 t439,.int .i64 t440,.int .i64 t441,.bool t442,.slice Ao9 t443.length co9,.slice Ao10 t446.length co10,.string t449,.bool t450] 41 (0,0)) (kz_ BK452) hb);replace BK470:=A_ (kb_ (g:=gb470) (o:=.cells #[.int .i64 t453,.int .i64 t454,.int .i64 t455,.int .i64 t456,.int .i64 t457,.int .i64 t458,.int .i64 t459,.bool t460,.slice Ao15 t461.length co15,.slice Ao16 t464.length co16,.string t467,.bool t468] 41 (0,0)) (kz_ BK470) hb);replace HB:=bS_ HB hb;(try clear hb)))
    go_meet
    case rel => exact ⟨_,(true),(by first|rfl|(simp;done)|(simp [*];done)),H',⟨by first|omega|exact Nat.le_refl _⟩,⟨by (with_reducible repeat (first|apply ra_|apply rn_|apply Rd_));exact rm_ HO445.out (fun _ hk => hk.2)⟩,⟨by (with_reducible repeat (first|apply ra_|apply rn_|apply Rd_));exact rm_ HO448.out (fun _ hk => hk.2)⟩,⟨by (with_reducible repeat (first|apply ra_|apply rn_|apply Rd_));exact rm_ HO463.out (fun _ hk => hk.2)⟩,⟨by (with_reducible repeat (first|apply ra_|apply rn_|apply Rd_));exact rm_ HO466.out (fun _ hk => hk.2)⟩,⟨kq_ BK452⟩,⟨kq_ BK470⟩,⟨bq_ HB⟩⟩
  case rest =>
   clear HC5
   try clear c1
   try clear c2
   try clear c2b0
   try clear c2b1
   try clear p2
   try clear c5
   try clear c13
   try clear c18
   try clear c19
   try clear c21
   try clear c22
   try clear c23
   try clear hcz14_0
   try clear hcz14_1
   try clear hcz14_10
   try clear hcz14_11
   try clear hcz14_2
   try clear hcz14_3
   try clear hcz14_4
   try clear hcz14_5
   try clear hcz14_6
   try clear hcz14_7
   try clear hcz14_8
   try clear hcz14_9
   try clear hcz20_0
   try clear hcz20_1
   try clear hcz20_10
   try clear hcz20_11
   try clear hcz20_2
   try clear hcz20_3
   try clear hcz20_4
   try clear hcz20_5
   try clear hcz20_6
   try clear hcz20_7
   try clear hcz20_8
   try clear hcz20_9
   try clear hcz21_0
   try clear hcz21_1
   try clear hcz21_10
   try clear hcz21_11
   try clear hcz21_2
   try clear hcz21_3
   try clear hcz21_4
   try clear hcz21_5
   try clear hcz21_6
   try clear hcz21_7
   try clear hcz21_8
   try clear hcz21_9
   try clear hcz24_0
   try clear hcz24_1
   try clear hcz24_10
   try clear hcz24_11
   try clear hcz24_2
   try clear hcz24_3
   try clear hcz24_4
   try clear hcz24_5
   try clear hcz24_6
   try clear hcz24_7
   try clear hcz24_8
   try clear hcz24_9
   try clear hcz25_0
   try clear hcz25_1
   try clear hcz25_10
   try clear hcz25_11
   try clear hcz25_2
   try clear hcz25_3
   try clear hcz25_4
   try clear hcz25_5
   try clear hcz25_6
   try clear hcz25_7
   try clear hcz25_8
   try clear hcz25_9
   try clear hcz8_0
   try clear hcz8_1
   try clear hcz8_10
   try clear hcz8_11
   try clear hcz8_2
   try clear hcz8_3
   try clear hcz8_4
   try clear hcz8_5
   try clear hcz8_6
   try clear hcz8_7
   try clear hcz8_8
   try clear hcz8_9
   try clear hfz14_0
   try clear hfz14_1
   try clear hfz14_10
   try clear hfz14_11
   try clear hfz14_2
   try clear hfz14_3
   try clear hfz14_4
   try clear hfz14_5
   try clear hfz14_6
   try clear hfz14_7
   try clear hfz14_8
   try clear hfz14_9
   try clear hfz20_0
   try clear hfz20_1
   try clear hfz20_10
   try clear hfz20_11
   try clear hfz20_2
   try clear hfz20_3
   try clear hfz20_4
   try clear hfz20_5
   try clear hfz20_6
   try clear hfz20_7
   try clear hfz20_8
   try clear hfz20_9
   try clear hfz21_0
   try clear hfz21_1
   try clear hfz21_10
   try clear hfz21_11
   try clear hfz21_2
   try clear hfz21_3
   try clear hfz21_4
   try clear hfz21_5
   try clear hfz21_6
   try clear hfz21_7
   try clear hfz21_8
   try clear hfz21_9
   try clear hfz24_0
   try clear hfz24_1
   try clear hfz24_10
   try clear hfz24_11
   try clear hfz24_2
   try clear hfz24_3
   try clear hfz24_4
   try clear hfz24_5
   try clear hfz24_6
   try clear hfz24_7
   try clear hfz24_8
   try clear hfz24_9
   try clear hfz25_0
   try clear hfz25_1
   try clear hfz25_10
   try clear hfz25_11
   try clear hfz25_2
   try clear hfz25_3
   try clear hfz25_4
   try clear hfz25_5
   try clear hfz25_6
   try clear hfz25_7
   try clear hfz25_8
   try clear hfz25_9
   try clear hfz8_0
   try clear hfz8_1
   try clear hfz8_10
   try clear hfz8_11
   try clear hfz8_2
   try clear hfz8_3
   try clear hfz8_4
   try clear hfz8_5
   try clear hfz8_6
   try clear hfz8_7
   try clear hfz8_8
   try clear hfz8_9
   obtain ⟨kq,x32_4,rfl,HA,HJ4,HO_453008,HO_453009,HO_471008,HO_471009,BK452,BK470,HB⟩:=hcut
   cases kq with
   | zero => exact absurd HA.out (by simp [laws_FnExactDecode.j0])
   | succ kj4 =>
    have H:=HA.out;clear HA;simp only [laws_FnExactDecode.j0] at H
    by_cases c27 : x32_4 = true
    ·subst c27
     rw [if_pos rfl] at H;obtain rfl:=Option.some.inj H
     cases hr1_
    ·replace c27:=Bool.eq_false_iff.mpr c27;subst c27
     have H1 : ((laws_markMessage.f kj4 t453 t454 t455 t456 t457 t458 t459 t460 t461 t464 t467 t468 1).bind fun bt472 => ((laws_heldMessage.f kj4 t453 t454 t455 t456 t457 t458 t459 t460 bt472.2.1 bt472.2.2 t467 t468 1).bind fun t475 => (if t475 < 0 then (some false) else (if t475 = bt472.1 then ((impl_Decode.f kj4 a0).bind fun bt476 => ((laws_eqMessage.f kj4 bt476.1 bt476.2.1 bt476.2.2.1 bt476.2.2.2.1 bt476.2.2.2.2.1 bt476.2.2.2.2.2.1 bt476.2.2.2.2.2.2.1 bt476.2.2.2.2.2.2.2.1 bt476.2.2.2.2.2.2.2.2.1 bt476.2.2.2.2.2.2.2.2.2.1 bt476.2.2.2.2.2.2.2.2.2.2.1 bt476.2.2.2.2.2.2.2.2.2.2.2.1 t435 t436 t437 t438 t439 t440 t441 t442 t443 t446 t449 t450).bind fun t494 => (if t494 = true then (laws_FnExactDecode.j1 kj4 bt472.1 (bt476.2.2.2.2.2.2.2.2.2.2.2.2 != t451) t453 t454 t455 t456 t457 t458 t459 t460 bt472.2.1 bt472.2.2 t467 t468) else (laws_FnExactDecode.j1 kj4 bt472.1 true t453 t454 t455 t456 t457 t458 t459 t460 bt472.2.1 bt472.2.2 t467 t468)))) else (some false))))) = some r:=by rw [if_neg (show ¬ (false = true) by decide)] at H;exact H
     clear H;have H:=H1;clear H1;replace H:=ob_.mp H;obtain ⟨⟨t472,t473,t474⟩,A280,H⟩:=H;(try dsimp only at H);have A28:=A_ A280;clear A280;replace H:=ob_.mp H;obtain ⟨t475,A290,H⟩:=H;(try dsimp only at H);have A29:=A_ A290;clear A290
     by_cases c30 : t475 < 0
     ·rw [if_pos c30] at H;have c30b0 : decide (t475 < 0) = true:=de_ c30;clear c30;obtain rfl:=Option.some.inj H
      cases hr1_
     ·rw [if_neg c30] at H;have c30b0 : decide (t475 < 0) = false:=decide_eq_false c30;clear c30
      by_cases c36 : t475 = t472
      ·rw [if_pos c36] at H;have c36b0 : (t475 == t472) = true:=beq_iff_eq.mpr c36;have c36b1 : (t475 != t472) = false:=bne_eq_false_iff_eq.mpr c36;clear c36;replace H:=ob_.mp H;obtain ⟨⟨t476,t477,t478,t479,t480,t481,t482,t483,t484,t487,t490,t491,t492⟩,A370,H⟩:=H;(try dsimp only at H);have A37:=A_ A370;clear A370;have HC38:=A_ H;clear H;have hnb39:=NB470_452.out;have hnc39:=NB452_470.out;obtain ⟨hcz40_0,hcz40_1,hcz40_2,hcz40_3,hcz40_4,hcz40_5,hcz40_6,hcz40_7,hcz40_8,hcz40_9,hcz40_10,hcz40_11,hfz40_0,hfz40_1,hfz40_2,hfz40_3,hfz40_4,hfz40_5,hfz40_6,hfz40_7,hfz40_8,hfz40_9,hfz40_10,hfz40_11⟩:=k12f_ BK470
       go_upto_region 16 with (first|((with_reducible refine gate_callee (f:=24) rfl ?_);refine gL_ (some 35) Try.func24 #[.agg #[.int .i64 t453,.int .i64 t454,.int .i64 t455,.int .i64 t456,.int .i64 t457,.int .i64 t458,.int .i64 t459,.bool t460,.slice Ao15 t461.length co15,.slice Ao16 t464.length co16,.string t467,.bool t468],.int .i64 1] ?_;(with_reducible refine (laws_markMessage.calls kj4 t453 t454 t455 t456 t457 t458 t459 t460 (fun k_ => some k_ = (.slice Ao15 t461.length co15 : Value).ownBlock) (.slice Ao15 t461.length co15) t461 (fun k_ => some k_ = (.slice Ao16 t464.length co16 : Value).ownBlock) (.slice Ao16 t464.length co16) t464 t467 t468 1 t472 t473 t474 w _ ?side1 ?side2 ?side3 A28.out).mono ?_);(case side1 => exact bq_ HB);(case side2 => exact Kd.R_tight rfl HO_471008.out);(case side3 => exact Kd.R_tight rfl HO_471009.out);rintro e w41 ⟨rfl,hy0,hy1,hb,hkp⟩;refine ⟨_,rfl,?_⟩;replace HO_453008:=A_ (rm_ (ok':=fun k_ => some k_ ≠ (.slice Ao15 t461.length co15 : Value).ownBlock) (Kd.R_keptB ((Kd.R_apart' HO_453008.out (ry_ HO_471009.out) (by decide))) hkp (fun k_ hk_ hs_ => Or.elim hs_ (fun e_ => (hk_.1) e_) (fun e_ => (hk_.2) e_))) (fun k_ hk_ => hk_.1.1));replace HO_453009:=A_ (rm_ (ok':=fun k_ => some k_ ≠ (.slice Ao16 t464.length co16 : Value).ownBlock) (Kd.R_keptB ((Kd.R_apart' HO_453009.out (ry_ HO_471008.out) (by decide))) hkp (fun k_ hk_ hs_ => Or.elim hs_ (fun e_ => (hk_.2) e_) (fun e_ => (hk_.1) e_))) (fun k_ hk_ => hk_.1.1));replace BK452:=A_ (blk_kept (kq_ BK452) hkp (fun hs_ => Or.elim hs_ (fun e_ => (fun e_ => (re_ HO_471008.out BK452.out (by decide)) e_) e_) (fun e_ => (fun e_ => (re_ HO_471009.out BK452.out (by decide)) e_) e_)));replace BK470:=A_ (blk_kept (kq_ BK470) hkp (fun hs_ => Or.elim hs_ (fun e_ => (fun e_ => (re_ HO_471008.out BK470.out (by decide)) e_) e_) (fun e_ => (fun e_ => (re_ HO_471009.out BK470.out (by decide)) e_) e_)));replace HO_471008:=A_ (Kd.R_reok rfl hy0 (fun k_ e_ => HO_471008.out.1 k_ e_));replace HO_471009:=A_ (Kd.R_reok rfl hy1 (fun k_ e_ => HO_471009.out.1 k_ e_));replace HB:=A_ (hb);(try clear hb);(try clear hkp);(try clear hy0);(try clear hy1);obtain ⟨hcz42_0,hcz42_1,hcz42_2,hcz42_3,hcz42_4,hcz42_5,hcz42_6,hcz42_7,hcz42_8,hcz42_9,hcz42_10,hcz42_11,hfz42_0,hfz42_1,hfz42_2,hfz42_3,hfz42_4,hfz42_5,hfz42_6,hfz42_7,hfz42_8,hfz42_9,hfz42_10,hfz42_11⟩:=k12f_ BK470)|((with_reducible refine gate_callee (f:=25) rfl ?_);refine goesL_ (some 38) rfl rfl Try.func25 (by kernel_rfl) rfl #[.agg #[.int .i64 t453,.int .i64 t454,.int .i64 t455,.int .i64 t456,.int .i64 t457,.int .i64 t458,.int .i64 t459,.bool t460,.slice Ao15 t473.length co15,.slice Ao16 t474.length co16,.string t467,.bool t468],.int .i64 1] rfl (by (try simp only [s4_,s5_,s6_]);first|done|(rw [show t473.length = t461.length from (Kd.R_reads' HO_471008.out).1.symm,show t474.length = t464.length from (Kd.R_reads' HO_471009.out).1.symm] <;> rfl)|rfl|(simp only [List.length_drop,List.length_take];rfl)) ?_;(with_reducible refine (laws_heldMessage.calls kj4 t453 t454 t455 t456 t457 t458 t459 t460 _ _ t473 _ _ t474 t467 t468 1 t475 _ ?side1 ?side2 ?side3 ?side4 A29.out).mono ?_);(case side1 => repeat (first|exact (Kd.R_reads' HO_471008.out).2.2|(with_reducible refine Kd.C_alloc ?_ _)|(with_reducible refine Kd.C_drewN ?_ _)|(with_reducible refine Kd.C_drew ?_)));(case side2 => rw [show t473.length = t461.length from (Kd.R_reads' HO_471008.out).1.symm];exact (Kd.R_reads' HO_471008.out).2.1);(case side3 => repeat (first|exact (Kd.R_reads' HO_471009.out).2.2|(with_reducible refine Kd.C_alloc ?_ _)|(with_reducible refine Kd.C_drewN ?_ _)|(with_reducible refine Kd.C_drew ?_)));(case side4 => rw [show t474.length = t464.length from (Kd.R_reads' HO_471009.out).1.symm];exact (Kd.R_reads' HO_471009.out).2.1);rintro e w43 ⟨rfl,hb⟩;refine ⟨_,rfl,?_⟩;replace HO_453008:=rB_ HO_453008 hb;replace HO_453009:=rB_ HO_453009 hb;replace HO_471008:=rB_ HO_471008 hb;replace HO_471009:=rB_ HO_471009 hb;replace BK452:=kB_ BK452 hb;replace BK470:=kB_ BK470 hb;replace HB:=bS_ HB hb;(try clear hb))|((with_reducible refine gate_callee (f:=22) rfl ?_);refine gL_ (some 46) Try.func22 #[.string a0] ?_;(with_reducible refine (impl_Decode.calls kj4 a0 t476 t477 t478 t479 t480 t481 t482 t483 t484 t487 t490 t491 t492 _ A37.out).mono ?_);rintro e w44 ⟨v485,v488,rfl,ho0,ho1,hb⟩;refine ⟨_,rfl,?_⟩;have HO486:=A_ (rw_ (Kd.R_new' (Kd.R_new' ho0 (Kd.R_lt (rq_ HO_453008))) (Kd.R_lt (rq_ HO_471008))) (bz_ (bq_ HB)));replace HO_453008:=A_ (Kd.R_elder' (rq_ HO_453008) (Kd.R_base ho0) hb);replace HO_471008:=A_ (Kd.R_elder' (rq_ HO_471008) (Kd.R_base ho0) hb);have HO489:=A_ (rw_ (Kd.R_new' (Kd.R_new' ho1 (Kd.R_lt (rq_ HO_453009))) (Kd.R_lt (rq_ HO_471009))) (bz_ (bq_ HB)));replace HO_453009:=A_ (Kd.R_elder' (rq_ HO_453009) (Kd.R_base ho1) hb);replace HO_471009:=A_ (Kd.R_elder' (rq_ HO_471009) (Kd.R_base ho1) hb);replace BK452:=kB_ BK452 hb;replace BK470:=kB_ BK470 hb;replace HB:=bS_ HB hb;(try clear hb);(try clear ho0);(try clear ho1))|((with_reducible refine gate_dst (N:=9) rfl ?_);refine bE_ 9 #[.int .i64 0,.int .i64 0,.int .i64 0,.int .i64 0,.int .i64 0,.int .i64 0,.int .i64 0,.bool false,.slice none 0 0,.slice none 0 0,.string (⟨#[]⟩ : ByteArray),.bool false] 41 ?_;intro gb493 hg w45 hbox hb;replace HO_453008:=rB_ HO_453008 hb;replace HO_453009:=rB_ HO_453009 hb;replace HO_471008:=rB_ HO_471008 hb;replace HO_471009:=rB_ HO_471009 hb;replace HO486:=rB_ HO486 hb;replace HO489:=rB_ HO489 hb;have BK493:=A_ (hbox);have GW493:=gE_ hg HB;have GE493:=gE_ hg HB;replace HB:=bS_ HB hb;have NB452_493:=nB_ hg BK452;have NB493_452:=nC_ hg BK452;replace BK452:=kB_ BK452 hb;have NB470_493:=nB_ hg BK470;have NB493_470:=nC_ hg BK470;replace BK470:=kB_ BK470 hb;clear hb hbox hg;have hnb46:=NB493_452.out;have hnc46:=NB452_493.out;have hnb47:=NB493_470.out;have hnc47:=NB470_493.out;obtain ⟨hcz48_0,hcz48_1,hcz48_2,hcz48_3,hcz48_4,hcz48_5,hcz48_6,hcz48_7,hcz48_8,hcz48_9,hcz48_10,hcz48_11,hfz48_0,hfz48_1,hfz48_2,hfz48_3,hfz48_4,hfz48_5,hfz48_6,hfz48_7,hfz48_8,hfz48_9,hfz48_10,hfz48_11⟩:=k12f_ BK493;obtain ⟨Ao49,co49,eo49⟩:=Kd.R_slice HO486.out;subst eo49;obtain ⟨Ao50,co50,eo50⟩:=Kd.R_slice HO489.out;subst eo50))
       (try simp only [Act.put,s1_,s2_,s3_])
       go_cut [57] (fun v57 wc => ∃ (kq : Nat) (x57_37 : Bool),v57 = .bool x57_37 ∧ Aside0 (laws_FnExactDecode.j1 kq t472 x57_37 t453 t454 t455 t456 t457 t458 t459 t460 t473 t474 t467 t468 = some r) ∧ Aside0 (kq ≤ kj4) ∧ Aside0 (Kd.R k69 69 wc w.heap.size (fun k_ => some k_ ≠ ((.slice Ao15 t461.length co15) : Value).ownBlock ∧ some k_ ≠ ((.slice Ao49 t484.length co49) : Value).ownBlock) (.slice Ao9 t443.length co9) t443) ∧ Aside0 (Kd.R (Kd.int .i64) 3 wc w.heap.size (fun k_ => some k_ ≠ ((.slice Ao16 t464.length co16) : Value).ownBlock ∧ some k_ ≠ ((.slice Ao50 t487.length co50) : Value).ownBlock) (.slice Ao10 t446.length co10) t446) ∧ Aside0 (Kd.R k69 69 wc w.heap.size (fun k_ => some k_ ≠ ((.slice Ao9 t443.length co9) : Value).ownBlock ∧ some k_ ≠ ((.slice Ao49 t484.length co49) : Value).ownBlock) (.slice Ao15 t461.length co15) t473) ∧ Aside0 (Kd.R (Kd.int .i64) 3 wc w.heap.size (fun k_ => some k_ ≠ ((.slice Ao10 t446.length co10) : Value).ownBlock ∧ some k_ ≠ ((.slice Ao50 t487.length co50) : Value).ownBlock) (.slice Ao16 t464.length co16) t474) ∧ Aside0 (Kd.R k69 69 wc w.heap.size (fun k_ => some k_ ≠ ((.slice Ao9 t443.length co9) : Value).ownBlock ∧ some k_ ≠ ((.slice Ao15 t461.length co15) : Value).ownBlock) (.slice Ao49 t484.length co49) t484) ∧ Aside0 (Kd.R (Kd.int .i64) 3 wc w.heap.size (fun k_ => some k_ ≠ ((.slice Ao10 t446.length co10) : Value).ownBlock ∧ some k_ ≠ ((.slice Ao16 t464.length co16) : Value).ownBlock) (.slice Ao50 t487.length co50) t487) ∧ Aside0 (wc.heap[gb452]? = some (.cells #[.int .i64 t435,.int .i64 t436,.int .i64 t437,.int .i64 t438,.int .i64 t439,.int .i64 t440,.int .i64 t441,.bool t442,(.slice Ao9 t443.length co9),(.slice Ao10 t446.length co10),.string t449,.bool t450] 41 (0,0))) ∧ Aside0 (wc.heap[gb470]? = some (.cells #[.int .i64 t453,.int .i64 t454,.int .i64 t455,.int .i64 t456,.int .i64 t457,.int .i64 t458,.int .i64 t459,.bool t460,(.slice Ao15 t461.length co15),(.slice Ao16 t464.length co16),.string t467,.bool t468] 41 (0,0))) ∧ Aside0 (wc.heap[gb493]? = some (.cells #[.int .i64 t476,.int .i64 t477,.int .i64 t478,.int .i64 t479,.int .i64 t480,.int .i64 t481,.int .i64 t482,.bool t483,(.slice Ao49 t484.length co49),(.slice Ao50 t487.length co50),.string t490,.bool t491] 41 (0,0))) ∧ Aside0 (Below w.heap.size w wc))
       case first =>
        have H:=HC38.out;clear HC38;replace H:=ob_.mp H;obtain ⟨t494,A510,H⟩:=H;(try dsimp only at H);have A51:=A_ A510;clear A510
        by_cases c52 : t494 = true
        ·subst c52
         rw [if_pos rfl] at H;have H':=A_ H;clear H;have hnb53:=NB493_452.out;have hnc53:=NB452_493.out;have hnb54:=NB493_470.out;have hnc54:=NB470_493.out;obtain ⟨hcz55_0,hcz55_1,hcz55_2,hcz55_3,hcz55_4,hcz55_5,hcz55_6,hcz55_7,hcz55_8,hcz55_9,hcz55_10,hcz55_11,hfz55_0,hfz55_1,hfz55_2,hfz55_3,hfz55_4,hfz55_5,hfz55_6,hfz55_7,hfz55_8,hfz55_9,hfz55_10,hfz55_11⟩:=k12f_ BK493;have hnb56:=NB452_470.out;have hnc56:=NB470_452.out;obtain ⟨hcz57_0,hcz57_1,hcz57_2,hcz57_3,hcz57_4,hcz57_5,hcz57_6,hcz57_7,hcz57_8,hcz57_9,hcz57_10,hcz57_11,hfz57_0,hfz57_1,hfz57_2,hfz57_3,hfz57_4,hfz57_5,hfz57_6,hfz57_7,hfz57_8,hfz57_9,hfz57_10,hfz57_11⟩:=k12f_ BK452
         go_wp2_with (first|((with_reducible refine gate_callee (f:=23) rfl ?_);refine gL_ (some 51) Try.func23 #[.agg #[.int .i64 t476,.int .i64 t477,.int .i64 t478,.int .i64 t479,.int .i64 t480,.int .i64 t481,.int .i64 t482,.bool t483,.slice Ao49 t484.length co49,.slice Ao50 t487.length co50,.string t490,.bool t491],.agg #[.int .i64 t435,.int .i64 t436,.int .i64 t437,.int .i64 t438,.int .i64 t439,.int .i64 t440,.int .i64 t441,.bool t442,.slice Ao9 t443.length co9,.slice Ao10 t446.length co10,.string t449,.bool t450]] ?_;(with_reducible refine (laws_eqMessage.calls kj4 t476 t477 t478 t479 t480 t481 t482 t483 _ _ t484 _ _ t487 t490 t491 t435 t436 t437 t438 t439 t440 t441 t442 _ _ t443 _ _ t446 t449 t450 true _ ?side1 ?side2 ?side3 ?side4 ?side5 ?side6 ?side7 ?side8 A51.out).mono ?_);(case side1 => refine (Kd.R_reads' (e:=69) (base:=w.heap.size) (ok:=fun k_ => ((True ∧ some k_ ≠ (.slice Ao9 t443.length co9 : Value).ownBlock) ∧ some k_ ≠ (.slice Ao15 t461.length co15 : Value).ownBlock)) (n:=t484.length) (c:=co49) ?_).2.2;exact (by (with_reducible repeat (first|apply ra_|apply rn_|apply Rd_));exact (rm_ (rf_ (p:=⟨gb493,11,none⟩) (rf_ (p:=⟨gb493,10,none⟩) (rf_ (p:=⟨gb493,9,none⟩) (rf_ (p:=⟨gb493,8,none⟩) (rf_ (p:=⟨gb493,7,none⟩) (rf_ (p:=⟨gb493,6,none⟩) (rf_ (p:=⟨gb493,5,none⟩) (rf_ (p:=⟨gb493,4,none⟩) (rf_ (p:=⟨gb493,3,none⟩) (rf_ (p:=⟨gb493,2,none⟩) (rf_ (p:=⟨gb493,1,none⟩) (rf_ (p:=⟨gb493,0,none⟩) (Kd.R_types HO486.out BK493.out (by decide)) (fun _ hk => hk.2) (.int .i64 t476)) (fun _ hk => hk.2) (.int .i64 t477)) (fun _ hk => hk.2) (.int .i64 t478)) (fun _ hk => hk.2) (.int .i64 t479)) (fun _ hk => hk.2) (.int .i64 t480)) (fun _ hk => hk.2) (.int .i64 t481)) (fun _ hk => hk.2) (.int .i64 t482)) (fun _ hk => hk.2) (.bool t483)) (fun _ hk => hk.2) (.slice Ao49 t484.length co49)) (fun _ hk => hk.2) (.slice Ao50 t487.length co50)) (fun _ hk => hk.2) (.string t490)) (fun _ hk => hk.2) (.bool t491)) (fun _ h_ => h_.1))));(case side2 => exact (Kd.R_reads' HO486.out).2.1);(case side3 => refine (Kd.R_reads' (e:=3) (base:=w.heap.size) (ok:=fun k_ => ((True ∧ some k_ ≠ (.slice Ao10 t446.length co10 : Value).ownBlock) ∧ some k_ ≠ (.slice Ao16 t464.length co16 : Value).ownBlock)) (n:=t487.length) (c:=co50) ?_).2.2;exact (by (with_reducible repeat (first|apply ra_|apply rn_|apply Rd_));exact (rm_ (rf_ (p:=⟨gb493,11,none⟩) (rf_ (p:=⟨gb493,10,none⟩) (rf_ (p:=⟨gb493,9,none⟩) (rf_ (p:=⟨gb493,8,none⟩) (rf_ (p:=⟨gb493,7,none⟩) (rf_ (p:=⟨gb493,6,none⟩) (rf_ (p:=⟨gb493,5,none⟩) (rf_ (p:=⟨gb493,4,none⟩) (rf_ (p:=⟨gb493,3,none⟩) (rf_ (p:=⟨gb493,2,none⟩) (rf_ (p:=⟨gb493,1,none⟩) (rf_ (p:=⟨gb493,0,none⟩) (Kd.R_types HO489.out BK493.out (by decide)) (fun _ hk => hk.2) (.int .i64 t476)) (fun _ hk => hk.2) (.int .i64 t477)) (fun _ hk => hk.2) (.int .i64 t478)) (fun _ hk => hk.2) (.int .i64 t479)) (fun _ hk => hk.2) (.int .i64 t480)) (fun _ hk => hk.2) (.int .i64 t481)) (fun _ hk => hk.2) (.int .i64 t482)) (fun _ hk => hk.2) (.bool t483)) (fun _ hk => hk.2) (.slice Ao49 t484.length co49)) (fun _ hk => hk.2) (.slice Ao50 t487.length co50)) (fun _ hk => hk.2) (.string t490)) (fun _ hk => hk.2) (.bool t491)) (fun _ h_ => h_.1))));(case side4 => exact (Kd.R_reads' HO489.out).2.1);(case side5 => refine (Kd.R_reads' (e:=69) (base:=w.heap.size) (ok:=fun k_ => (some k_ ≠ (.slice Ao15 t461.length co15 : Value).ownBlock ∧ some k_ ≠ (.slice Ao49 t484.length co49 : Value).ownBlock)) (n:=t443.length) (c:=co9) ?_).2.2;exact (by (with_reducible repeat (first|apply ra_|apply rn_|apply Rd_));exact (rm_ (rf_ (p:=⟨gb493,11,none⟩) (rf_ (p:=⟨gb493,10,none⟩) (rf_ (p:=⟨gb493,9,none⟩) (rf_ (p:=⟨gb493,8,none⟩) (rf_ (p:=⟨gb493,7,none⟩) (rf_ (p:=⟨gb493,6,none⟩) (rf_ (p:=⟨gb493,5,none⟩) (rf_ (p:=⟨gb493,4,none⟩) (rf_ (p:=⟨gb493,3,none⟩) (rf_ (p:=⟨gb493,2,none⟩) (rf_ (p:=⟨gb493,1,none⟩) (rf_ (p:=⟨gb493,0,none⟩) (Kd.R_types HO_453008.out BK493.out (by decide)) (fun _ hk => hk.2) (.int .i64 t476)) (fun _ hk => hk.2) (.int .i64 t477)) (fun _ hk => hk.2) (.int .i64 t478)) (fun _ hk => hk.2) (.int .i64 t479)) (fun _ hk => hk.2) (.int .i64 t480)) (fun _ hk => hk.2) (.int .i64 t481)) (fun _ hk => hk.2) (.int .i64 t482)) (fun _ hk => hk.2) (.bool t483)) (fun _ hk => hk.2) (.slice Ao49 t484.length co49)) (fun _ hk => hk.2) (.slice Ao50 t487.length co50)) (fun _ hk => hk.2) (.string t490)) (fun _ hk => hk.2) (.bool t491)) (fun _ h_ => h_.1))));(case side6 => exact (Kd.R_reads' HO_453008.out).2.1);(case side7 => refine (Kd.R_reads' (e:=3) (base:=w.heap.size) (ok:=fun k_ => (some k_ ≠ (.slice Ao16 t464.length co16 : Value).ownBlock ∧ some k_ ≠ (.slice Ao50 t487.length co50 : Value).ownBlock)) (n:=t446.length) (c:=co10) ?_).2.2;exact (by (with_reducible repeat (first|apply ra_|apply rn_|apply Rd_));exact (rm_ (rf_ (p:=⟨gb493,11,none⟩) (rf_ (p:=⟨gb493,10,none⟩) (rf_ (p:=⟨gb493,9,none⟩) (rf_ (p:=⟨gb493,8,none⟩) (rf_ (p:=⟨gb493,7,none⟩) (rf_ (p:=⟨gb493,6,none⟩) (rf_ (p:=⟨gb493,5,none⟩) (rf_ (p:=⟨gb493,4,none⟩) (rf_ (p:=⟨gb493,3,none⟩) (rf_ (p:=⟨gb493,2,none⟩) (rf_ (p:=⟨gb493,1,none⟩) (rf_ (p:=⟨gb493,0,none⟩) (Kd.R_types HO_453009.out BK493.out (by decide)) (fun _ hk => hk.2) (.int .i64 t476)) (fun _ hk => hk.2) (.int .i64 t477)) (fun _ hk => hk.2) (.int .i64 t478)) (fun _ hk => hk.2) (.int .i64 t479)) (fun _ hk => hk.2) (.int .i64 t480)) (fun _ hk => hk.2) (.int .i64 t481)) (fun _ hk => hk.2) (.int .i64 t482)) (fun _ hk => hk.2) (.bool t483)) (fun _ hk => hk.2) (.slice Ao49 t484.length co49)) (fun _ hk => hk.2) (.slice Ao50 t487.length co50)) (fun _ hk => hk.2) (.string t490)) (fun _ hk => hk.2) (.bool t491)) (fun _ h_ => h_.1))));(case side8 => exact (Kd.R_reads' HO_453009.out).2.1);rintro e w58 ⟨rfl,hb⟩;refine ⟨_,rfl,?_⟩;replace HO_453008:=A_ (rb_ (by (with_reducible repeat (first|apply ra_|apply rn_|apply Rd_));exact (rm_ (rf_ (p:=⟨gb493,11,none⟩) (rf_ (p:=⟨gb493,10,none⟩) (rf_ (p:=⟨gb493,9,none⟩) (rf_ (p:=⟨gb493,8,none⟩) (rf_ (p:=⟨gb493,7,none⟩) (rf_ (p:=⟨gb493,6,none⟩) (rf_ (p:=⟨gb493,5,none⟩) (rf_ (p:=⟨gb493,4,none⟩) (rf_ (p:=⟨gb493,3,none⟩) (rf_ (p:=⟨gb493,2,none⟩) (rf_ (p:=⟨gb493,1,none⟩) (rf_ (p:=⟨gb493,0,none⟩) (Kd.R_types HO_453008.out BK493.out (by decide)) (fun _ hk => hk.2) (.int .i64 t476)) (fun _ hk => hk.2) (.int .i64 t477)) (fun _ hk => hk.2) (.int .i64 t478)) (fun _ hk => hk.2) (.int .i64 t479)) (fun _ hk => hk.2) (.int .i64 t480)) (fun _ hk => hk.2) (.int .i64 t481)) (fun _ hk => hk.2) (.int .i64 t482)) (fun _ hk => hk.2) (.bool t483)) (fun _ hk => hk.2) (.slice Ao49 t484.length co49)) (fun _ hk => hk.2) (.slice Ao50 t487.length co50)) (fun _ hk => hk.2) (.string t490)) (fun _ hk => hk.2) (.bool t491)) (fun _ h_ => h_.1))) hb);replace HO_453009:=A_ (rb_ (by (with_reducible repeat (first|apply ra_|apply rn_|apply Rd_));exact (rm_ (rf_ (p:=⟨gb493,11,none⟩) (rf_ (p:=⟨gb493,10,none⟩) (rf_ (p:=⟨gb493,9,none⟩) (rf_ (p:=⟨gb493,8,none⟩) (rf_ (p:=⟨gb493,7,none⟩) (rf_ (p:=⟨gb493,6,none⟩) (rf_ (p:=⟨gb493,5,none⟩) (rf_ (p:=⟨gb493,4,none⟩) (rf_ (p:=⟨gb493,3,none⟩) (rf_ (p:=⟨gb493,2,none⟩) (rf_ (p:=⟨gb493,1,none⟩) (rf_ (p:=⟨gb493,0,none⟩) (Kd.R_types HO_453009.out BK493.out (by decide)) (fun _ hk => hk.2) (.int .i64 t476)) (fun _ hk => hk.2) (.int .i64 t477)) (fun _ hk => hk.2) (.int .i64 t478)) (fun _ hk => hk.2) (.int .i64 t479)) (fun _ hk => hk.2) (.int .i64 t480)) (fun _ hk => hk.2) (.int .i64 t481)) (fun _ hk => hk.2) (.int .i64 t482)) (fun _ hk => hk.2) (.bool t483)) (fun _ hk => hk.2) (.slice Ao49 t484.length co49)) (fun _ hk => hk.2) (.slice Ao50 t487.length co50)) (fun _ hk => hk.2) (.string t490)) (fun _ hk => hk.2) (.bool t491)) (fun _ h_ => h_.1))) hb);replace HO_471008:=A_ (rb_ (by (with_reducible repeat (first|apply ra_|apply rn_|apply Rd_));exact (rm_ (rf_ (p:=⟨gb493,11,none⟩) (rf_ (p:=⟨gb493,10,none⟩) (rf_ (p:=⟨gb493,9,none⟩) (rf_ (p:=⟨gb493,8,none⟩) (rf_ (p:=⟨gb493,7,none⟩) (rf_ (p:=⟨gb493,6,none⟩) (rf_ (p:=⟨gb493,5,none⟩) (rf_ (p:=⟨gb493,4,none⟩) (rf_ (p:=⟨gb493,3,none⟩) (rf_ (p:=⟨gb493,2,none⟩) (rf_ (p:=⟨gb493,1,none⟩) (rf_ (p:=⟨gb493,0,none⟩) (Kd.R_types HO_471008.out BK493.out (by decide)) (fun _ hk => hk.2) (.int .i64 t476)) (fun _ hk => hk.2) (.int .i64 t477)) (fun _ hk => hk.2) (.int .i64 t478)) (fun _ hk => hk.2) (.int .i64 t479)) (fun _ hk => hk.2) (.int .i64 t480)) (fun _ hk => hk.2) (.int .i64 t481)) (fun _ hk => hk.2) (.int .i64 t482)) (fun _ hk => hk.2) (.bool t483)) (fun _ hk => hk.2) (.slice Ao49 t484.length co49)) (fun _ hk => hk.2) (.slice Ao50 t487.length co50)) (fun _ hk => hk.2) (.string t490)) (fun _ hk => hk.2) (.bool t491)) (fun _ h_ => h_.1))) hb);replace HO_471009:=A_ (rb_ (by (with_reducible repeat (first|apply ra_|apply rn_|apply Rd_));exact (rm_ (rf_ (p:=⟨gb493,11,none⟩) (rf_ (p:=⟨gb493,10,none⟩) (rf_ (p:=⟨gb493,9,none⟩) (rf_ (p:=⟨gb493,8,none⟩) (rf_ (p:=⟨gb493,7,none⟩) (rf_ (p:=⟨gb493,6,none⟩) (rf_ (p:=⟨gb493,5,none⟩) (rf_ (p:=⟨gb493,4,none⟩) (rf_ (p:=⟨gb493,3,none⟩) (rf_ (p:=⟨gb493,2,none⟩) (rf_ (p:=⟨gb493,1,none⟩) (rf_ (p:=⟨gb493,0,none⟩) (Kd.R_types HO_471009.out BK493.out (by decide)) (fun _ hk => hk.2) (.int .i64 t476)) (fun _ hk => hk.2) (.int .i64 t477)) (fun _ hk => hk.2) (.int .i64 t478)) (fun _ hk => hk.2) (.int .i64 t479)) (fun _ hk => hk.2) (.int .i64 t480)) (fun _ hk => hk.2) (.int .i64 t481)) (fun _ hk => hk.2) (.int .i64 t482)) (fun _ hk => hk.2) (.bool t483)) (fun _ hk => hk.2) (.slice Ao49 t484.length co49)) (fun _ hk => hk.2) (.slice Ao50 t487.length co50)) (fun _ hk => hk.2) (.string t490)) (fun _ hk => hk.2) (.bool t491)) (fun _ h_ => h_.1))) hb);replace HO486:=A_ (rb_ (by (with_reducible repeat (first|apply ra_|apply rn_|apply Rd_));exact (rm_ (rf_ (p:=⟨gb493,11,none⟩) (rf_ (p:=⟨gb493,10,none⟩) (rf_ (p:=⟨gb493,9,none⟩) (rf_ (p:=⟨gb493,8,none⟩) (rf_ (p:=⟨gb493,7,none⟩) (rf_ (p:=⟨gb493,6,none⟩) (rf_ (p:=⟨gb493,5,none⟩) (rf_ (p:=⟨gb493,4,none⟩) (rf_ (p:=⟨gb493,3,none⟩) (rf_ (p:=⟨gb493,2,none⟩) (rf_ (p:=⟨gb493,1,none⟩) (rf_ (p:=⟨gb493,0,none⟩) (Kd.R_types HO486.out BK493.out (by decide)) (fun _ hk => hk.2) (.int .i64 t476)) (fun _ hk => hk.2) (.int .i64 t477)) (fun _ hk => hk.2) (.int .i64 t478)) (fun _ hk => hk.2) (.int .i64 t479)) (fun _ hk => hk.2) (.int .i64 t480)) (fun _ hk => hk.2) (.int .i64 t481)) (fun _ hk => hk.2) (.int .i64 t482)) (fun _ hk => hk.2) (.bool t483)) (fun _ hk => hk.2) (.slice Ao49 t484.length co49)) (fun _ hk => hk.2) (.slice Ao50 t487.length co50)) (fun _ hk => hk.2) (.string t490)) (fun _ hk => hk.2) (.bool t491)) (fun _ h_ => h_.1))) hb);replace HO489:=A_ (rb_ (by (with_reducible repeat (first|apply ra_|apply rn_|apply Rd_));exact (rm_ (rf_ (p:=⟨gb493,11,none⟩) (rf_ (p:=⟨gb493,10,none⟩) (rf_ (p:=⟨gb493,9,none⟩) (rf_ (p:=⟨gb493,8,none⟩) (rf_ (p:=⟨gb493,7,none⟩) (rf_ (p:=⟨gb493,6,none⟩) (rf_ (p:=⟨gb493,5,none⟩) (rf_ (p:=⟨gb493,4,none⟩) (rf_ (p:=⟨gb493,3,none⟩) (rf_ (p:=⟨gb493,2,none⟩) (rf_ (p:=⟨gb493,1,none⟩) (rf_ (p:=⟨gb493,0,none⟩) (Kd.R_types HO489.out BK493.out (by decide)) (fun _ hk => hk.2) (.int .i64 t476)) (fun _ hk => hk.2) (.int .i64 t477)) (fun _ hk => hk.2) (.int .i64 t478)) (fun _ hk => hk.2) (.int .i64 t479)) (fun _ hk => hk.2) (.int .i64 t480)) (fun _ hk => hk.2) (.int .i64 t481)) (fun _ hk => hk.2) (.int .i64 t482)) (fun _ hk => hk.2) (.bool t483)) (fun _ hk => hk.2) (.slice Ao49 t484.length co49)) (fun _ hk => hk.2) (.slice Ao50 t487.length co50)) (fun _ hk => hk.2) (.string t490)) (fun _ hk => hk.2) (.bool t491)) (fun _ h_ => h_.1))) hb);replace BK452:=A_ (kb_ (g:=gb452) (o:=.cells #[.int .i64 t435,.int .i64 t436,.int .i64 t437,.int .i64 t438,.int .i64 t439,.int .i64 t440,.int .i64 t441,.bool t442,.slice Ao9 t443.length co9,.slice Ao10 t446.length co10,.string t449,.bool t450] 41 (0,0)) (kz_ BK452) hb);replace BK470:=A_ (kb_ (g:=gb470) (o:=.cells #[.int .i64 t453,.int .i64 t454,.int .i64 t455,.int .i64 t456,.int .i64 t457,.int .i64 t458,.int .i64 t459,.bool t460,.slice Ao15 t461.length co15,.slice Ao16 t464.length co16,.string t467,.bool t468] 41 (0,0)) (kz_ BK470) hb);replace BK493:=A_ (kb_ (g:=gb493) (o:=.cells #[.int .i64 t476,.int .i64 t477,.int .i64 t478,.int .i64 t479,.int .i64 t480,.int .i64 t481,.int .i64 t482,.bool t483,.slice Ao49 t484.length co49,.slice Ao50 t487.length co50,.string t490,.bool t491] 41 (0,0)) (kz_ BK493) hb);replace HB:=bS_ HB hb;(try clear hb)))
         go_meet
         case rel => exact ⟨_,((t492 != t451)),(by first|rfl|(simp;done)|(simp [*];done)),H',⟨by have:=HJ4.out;first|omega|exact Nat.le_refl _⟩,⟨by (with_reducible repeat (first|apply ra_|apply rn_|apply Rd_));exact HO_453008.out⟩,⟨by (with_reducible repeat (first|apply ra_|apply rn_|apply Rd_));exact HO_453009.out⟩,⟨by (with_reducible repeat (first|apply ra_|apply rn_|apply Rd_));exact HO_471008.out⟩,⟨by (with_reducible repeat (first|apply ra_|apply rn_|apply Rd_));exact HO_471009.out⟩,⟨by (with_reducible repeat (first|apply ra_|apply rn_|apply Rd_));exact rm_ HO486.out (fun _ hk => ⟨hk.1.2,hk.2⟩)⟩,⟨by (with_reducible repeat (first|apply ra_|apply rn_|apply Rd_));exact rm_ HO489.out (fun _ hk => ⟨hk.1.2,hk.2⟩)⟩,⟨kq_ BK452⟩,⟨kq_ BK470⟩,⟨kq_ BK493⟩,⟨bq_ HB⟩⟩
        ·replace c52:=Bool.eq_false_iff.mpr c52;subst c52
         have H1 : (laws_FnExactDecode.j1 kj4 t472 true t453 t454 t455 t456 t457 t458 t459 t460 t473 t474 t467 t468) = some r:=by rw [if_neg (show ¬ (false = true) by decide)] at H;exact H
         clear H;have H:=H1;clear H1;have H':=A_ H;clear H;have hnb59:=NB493_452.out;have hnc59:=NB452_493.out;have hnb60:=NB493_470.out;have hnc60:=NB470_493.out;obtain ⟨hcz61_0,hcz61_1,hcz61_2,hcz61_3,hcz61_4,hcz61_5,hcz61_6,hcz61_7,hcz61_8,hcz61_9,hcz61_10,hcz61_11,hfz61_0,hfz61_1,hfz61_2,hfz61_3,hfz61_4,hfz61_5,hfz61_6,hfz61_7,hfz61_8,hfz61_9,hfz61_10,hfz61_11⟩:=k12f_ BK493;have hnb62:=NB452_470.out;have hnc62:=NB470_452.out;obtain ⟨hcz63_0,hcz63_1,hcz63_2,hcz63_3,hcz63_4,hcz63_5,hcz63_6,hcz63_7,hcz63_8,hcz63_9,hcz63_10,hcz63_11,hfz63_0,hfz63_1,hfz63_2,hfz63_3,hfz63_4,hfz63_5,hfz63_6,hfz63_7,hfz63_8,hfz63_9,hfz63_10,hfz63_11⟩:=k12f_ BK452
         go_wp2_with (first|((with_reducible refine gate_callee (f:=23) rfl ?_);refine gL_ (some 51) Try.func23 #[.agg #[.int .i64 t476,.int .i64 t477,.int .i64 t478,.int .i64 t479,.int .i64 t480,.int .i64 t481,.int .i64 t482,.bool t483,.slice Ao49 t484.length co49,.slice Ao50 t487.length co50,.string t490,.bool t491],.agg #[.int .i64 t435,.int .i64 t436,.int .i64 t437,.int .i64 t438,.int .i64 t439,.int .i64 t440,.int .i64 t441,.bool t442,.slice Ao9 t443.length co9,.slice Ao10 t446.length co10,.string t449,.bool t450]] ?_;(with_reducible refine (laws_eqMessage.calls kj4 t476 t477 t478 t479 t480 t481 t482 t483 _ _ t484 _ _ t487 t490 t491 t435 t436 t437 t438 t439 t440 t441 t442 _ _ t443 _ _ t446 t449 t450 false _ ?side1 ?side2 ?side3 ?side4 ?side5 ?side6 ?side7 ?side8 A51.out).mono ?_);(case side1 => refine (Kd.R_reads' (e:=69) (base:=w.heap.size) (ok:=fun k_ => ((True ∧ some k_ ≠ (.slice Ao9 t443.length co9 : Value).ownBlock) ∧ some k_ ≠ (.slice Ao15 t461.length co15 : Value).ownBlock)) (n:=t484.length) (c:=co49) ?_).2.2;exact (by (with_reducible repeat (first|apply ra_|apply rn_|apply Rd_));exact (rm_ (rf_ (p:=⟨gb493,11,none⟩) (rf_ (p:=⟨gb493,10,none⟩) (rf_ (p:=⟨gb493,9,none⟩) (rf_ (p:=⟨gb493,8,none⟩) (rf_ (p:=⟨gb493,7,none⟩) (rf_ (p:=⟨gb493,6,none⟩) (rf_ (p:=⟨gb493,5,none⟩) (rf_ (p:=⟨gb493,4,none⟩) (rf_ (p:=⟨gb493,3,none⟩) (rf_ (p:=⟨gb493,2,none⟩) (rf_ (p:=⟨gb493,1,none⟩) (rf_ (p:=⟨gb493,0,none⟩) (Kd.R_types HO486.out BK493.out (by decide)) (fun _ hk => hk.2) (.int .i64 t476)) (fun _ hk => hk.2) (.int .i64 t477)) (fun _ hk => hk.2) (.int .i64 t478)) (fun _ hk => hk.2) (.int .i64 t479)) (fun _ hk => hk.2) (.int .i64 t480)) (fun _ hk => hk.2) (.int .i64 t481)) (fun _ hk => hk.2) (.int .i64 t482)) (fun _ hk => hk.2) (.bool t483)) (fun _ hk => hk.2) (.slice Ao49 t484.length co49)) (fun _ hk => hk.2) (.slice Ao50 t487.length co50)) (fun _ hk => hk.2) (.string t490)) (fun _ hk => hk.2) (.bool t491)) (fun _ h_ => h_.1))));(case side2 => exact (Kd.R_reads' HO486.out).2.1);(case side3 => refine (Kd.R_reads' (e:=3) (base:=w.heap.size) (ok:=fun k_ => ((True ∧ some k_ ≠ (.slice Ao10 t446.length co10 : Value).ownBlock) ∧ some k_ ≠ (.slice Ao16 t464.length co16 : Value).ownBlock)) (n:=t487.length) (c:=co50) ?_).2.2;exact (by (with_reducible repeat (first|apply ra_|apply rn_|apply Rd_));exact (rm_ (rf_ (p:=⟨gb493,11,none⟩) (rf_ (p:=⟨gb493,10,none⟩) (rf_ (p:=⟨gb493,9,none⟩) (rf_ (p:=⟨gb493,8,none⟩) (rf_ (p:=⟨gb493,7,none⟩) (rf_ (p:=⟨gb493,6,none⟩) (rf_ (p:=⟨gb493,5,none⟩) (rf_ (p:=⟨gb493,4,none⟩) (rf_ (p:=⟨gb493,3,none⟩) (rf_ (p:=⟨gb493,2,none⟩) (rf_ (p:=⟨gb493,1,none⟩) (rf_ (p:=⟨gb493,0,none⟩) (Kd.R_types HO489.out BK493.out (by decide)) (fun _ hk => hk.2) (.int .i64 t476)) (fun _ hk => hk.2) (.int .i64 t477)) (fun _ hk => hk.2) (.int .i64 t478)) (fun _ hk => hk.2) (.int .i64 t479)) (fun _ hk => hk.2) (.int .i64 t480)) (fun _ hk => hk.2) (.int .i64 t481)) (fun _ hk => hk.2) (.int .i64 t482)) (fun _ hk => hk.2) (.bool t483)) (fun _ hk => hk.2) (.slice Ao49 t484.length co49)) (fun _ hk => hk.2) (.slice Ao50 t487.length co50)) (fun _ hk => hk.2) (.string t490)) (fun _ hk => hk.2) (.bool t491)) (fun _ h_ => h_.1))));(case side4 => exact (Kd.R_reads' HO489.out).2.1);(case side5 => refine (Kd.R_reads' (e:=69) (base:=w.heap.size) (ok:=fun k_ => (some k_ ≠ (.slice Ao15 t461.length co15 : Value).ownBlock ∧ some k_ ≠ (.slice Ao49 t484.length co49 : Value).ownBlock)) (n:=t443.length) (c:=co9) ?_).2.2;exact (by (with_reducible repeat (first|apply ra_|apply rn_|apply Rd_));exact (rm_ (rf_ (p:=⟨gb493,11,none⟩) (rf_ (p:=⟨gb493,10,none⟩) (rf_ (p:=⟨gb493,9,none⟩) (rf_ (p:=⟨gb493,8,none⟩) (rf_ (p:=⟨gb493,7,none⟩) (rf_ (p:=⟨gb493,6,none⟩) (rf_ (p:=⟨gb493,5,none⟩) (rf_ (p:=⟨gb493,4,none⟩) (rf_ (p:=⟨gb493,3,none⟩) (rf_ (p:=⟨gb493,2,none⟩) (rf_ (p:=⟨gb493,1,none⟩) (rf_ (p:=⟨gb493,0,none⟩) (Kd.R_types HO_453008.out BK493.out (by decide)) (fun _ hk => hk.2) (.int .i64 t476)) (fun _ hk => hk.2) (.int .i64 t477)) (fun _ hk => hk.2) (.int .i64 t478)) (fun _ hk => hk.2) (.int .i64 t479)) (fun _ hk => hk.2) (.int .i64 t480)) (fun _ hk => hk.2) (.int .i64 t481)) (fun _ hk => hk.2) (.int .i64 t482)) (fun _ hk => hk.2) (.bool t483)) (fun _ hk => hk.2) (.slice Ao49 t484.length co49)) (fun _ hk => hk.2) (.slice Ao50 t487.length co50)) (fun _ hk => hk.2) (.string t490)) (fun _ hk => hk.2) (.bool t491)) (fun _ h_ => h_.1))));(case side6 => exact (Kd.R_reads' HO_453008.out).2.1);(case side7 => refine (Kd.R_reads' (e:=3) (base:=w.heap.size) (ok:=fun k_ => (some k_ ≠ (.slice Ao16 t464.length co16 : Value).ownBlock ∧ some k_ ≠ (.slice Ao50 t487.length co50 : Value).ownBlock)) (n:=t446.length) (c:=co10) ?_).2.2;exact (by (with_reducible repeat (first|apply ra_|apply rn_|apply Rd_));exact (rm_ (rf_ (p:=⟨gb493,11,none⟩) (rf_ (p:=⟨gb493,10,none⟩) (rf_ (p:=⟨gb493,9,none⟩) (rf_ (p:=⟨gb493,8,none⟩) (rf_ (p:=⟨gb493,7,none⟩) (rf_ (p:=⟨gb493,6,none⟩) (rf_ (p:=⟨gb493,5,none⟩) (rf_ (p:=⟨gb493,4,none⟩) (rf_ (p:=⟨gb493,3,none⟩) (rf_ (p:=⟨gb493,2,none⟩) (rf_ (p:=⟨gb493,1,none⟩) (rf_ (p:=⟨gb493,0,none⟩) (Kd.R_types HO_453009.out BK493.out (by decide)) (fun _ hk => hk.2) (.int .i64 t476)) (fun _ hk => hk.2) (.int .i64 t477)) (fun _ hk => hk.2) (.int .i64 t478)) (fun _ hk => hk.2) (.int .i64 t479)) (fun _ hk => hk.2) (.int .i64 t480)) (fun _ hk => hk.2) (.int .i64 t481)) (fun _ hk => hk.2) (.int .i64 t482)) (fun _ hk => hk.2) (.bool t483)) (fun _ hk => hk.2) (.slice Ao49 t484.length co49)) (fun _ hk => hk.2) (.slice Ao50 t487.length co50)) (fun _ hk => hk.2) (.string t490)) (fun _ hk => hk.2) (.bool t491)) (fun _ h_ => h_.1))));(case side8 => exact (Kd.R_reads' HO_453009.out).2.1);rintro e w64 ⟨rfl,hb⟩;refine ⟨_,rfl,?_⟩;replace HO_453008:=A_ (rb_ (by (with_reducible repeat (first|apply ra_|apply rn_|apply Rd_));exact (rm_ (rf_ (p:=⟨gb493,11,none⟩) (rf_ (p:=⟨gb493,10,none⟩) (rf_ (p:=⟨gb493,9,none⟩) (rf_ (p:=⟨gb493,8,none⟩) (rf_ (p:=⟨gb493,7,none⟩) (rf_ (p:=⟨gb493,6,none⟩) (rf_ (p:=⟨gb493,5,none⟩) (rf_ (p:=⟨gb493,4,none⟩) (rf_ (p:=⟨gb493,3,none⟩) (rf_ (p:=⟨gb493,2,none⟩) (rf_ (p:=⟨gb493,1,none⟩) (rf_ (p:=⟨gb493,0,none⟩) (Kd.R_types HO_453008.out BK493.out (by decide)) (fun _ hk => hk.2) (.int .i64 t476)) (fun _ hk => hk.2) (.int .i64 t477)) (fun _ hk => hk.2) (.int .i64 t478)) (fun _ hk => hk.2) (.int .i64 t479)) (fun _ hk => hk.2) (.int .i64 t480)) (fun _ hk => hk.2) (.int .i64 t481)) (fun _ hk => hk.2) (.int .i64 t482)) (fun _ hk => hk.2) (.bool t483)) (fun _ hk => hk.2) (.slice Ao49 t484.length co49)) (fun _ hk => hk.2) (.slice Ao50 t487.length co50)) (fun _ hk => hk.2) (.string t490)) (fun _ hk => hk.2) (.bool t491)) (fun _ h_ => h_.1))) hb);replace HO_453009:=A_ (rb_ (by (with_reducible repeat (first|apply ra_|apply rn_|apply Rd_));exact (rm_ (rf_ (p:=⟨gb493,11,none⟩) (rf_ (p:=⟨gb493,10,none⟩) (rf_ (p:=⟨gb493,9,none⟩) (rf_ (p:=⟨gb493,8,none⟩) (rf_ (p:=⟨gb493,7,none⟩) (rf_ (p:=⟨gb493,6,none⟩) (rf_ (p:=⟨gb493,5,none⟩) (rf_ (p:=⟨gb493,4,none⟩) (rf_ (p:=⟨gb493,3,none⟩) (rf_ (p:=⟨gb493,2,none⟩) (rf_ (p:=⟨gb493,1,none⟩) (rf_ (p:=⟨gb493,0,none⟩) (Kd.R_types HO_453009.out BK493.out (by decide)) (fun _ hk => hk.2) (.int .i64 t476)) (fun _ hk => hk.2) (.int .i64 t477)) (fun _ hk => hk.2) (.int .i64 t478)) (fun _ hk => hk.2) (.int .i64 t479)) (fun _ hk => hk.2) (.int .i64 t480)) (fun _ hk => hk.2) (.int .i64 t481)) (fun _ hk => hk.2) (.int .i64 t482)) (fun _ hk => hk.2) (.bool t483)) (fun _ hk => hk.2) (.slice Ao49 t484.length co49)) (fun _ hk => hk.2) (.slice Ao50 t487.length co50)) (fun _ hk => hk.2) (.string t490)) (fun _ hk => hk.2) (.bool t491)) (fun _ h_ => h_.1))) hb);replace HO_471008:=A_ (rb_ (by (with_reducible repeat (first|apply ra_|apply rn_|apply Rd_));exact (rm_ (rf_ (p:=⟨gb493,11,none⟩) (rf_ (p:=⟨gb493,10,none⟩) (rf_ (p:=⟨gb493,9,none⟩) (rf_ (p:=⟨gb493,8,none⟩) (rf_ (p:=⟨gb493,7,none⟩) (rf_ (p:=⟨gb493,6,none⟩) (rf_ (p:=⟨gb493,5,none⟩) (rf_ (p:=⟨gb493,4,none⟩) (rf_ (p:=⟨gb493,3,none⟩) (rf_ (p:=⟨gb493,2,none⟩) (rf_ (p:=⟨gb493,1,none⟩) (rf_ (p:=⟨gb493,0,none⟩) (Kd.R_types HO_471008.out BK493.out (by decide)) (fun _ hk => hk.2) (.int .i64 t476)) (fun _ hk => hk.2) (.int .i64 t477)) (fun _ hk => hk.2) (.int .i64 t478)) (fun _ hk => hk.2) (.int .i64 t479)) (fun _ hk => hk.2) (.int .i64 t480)) (fun _ hk => hk.2) (.int .i64 t481)) (fun _ hk => hk.2) (.int .i64 t482)) (fun _ hk => hk.2) (.bool t483)) (fun _ hk => hk.2) (.slice Ao49 t484.length co49)) (fun _ hk => hk.2) (.slice Ao50 t487.length co50)) (fun _ hk => hk.2) (.string t490)) (fun _ hk => hk.2) (.bool t491)) (fun _ h_ => h_.1))) hb);replace HO_471009:=A_ (rb_ (by (with_reducible repeat (first|apply ra_|apply rn_|apply Rd_));exact (rm_ (rf_ (p:=⟨gb493,11,none⟩) (rf_ (p:=⟨gb493,10,none⟩) (rf_ (p:=⟨gb493,9,none⟩) (rf_ (p:=⟨gb493,8,none⟩) (rf_ (p:=⟨gb493,7,none⟩) (rf_ (p:=⟨gb493,6,none⟩) (rf_ (p:=⟨gb493,5,none⟩) (rf_ (p:=⟨gb493,4,none⟩) (rf_ (p:=⟨gb493,3,none⟩) (rf_ (p:=⟨gb493,2,none⟩) (rf_ (p:=⟨gb493,1,none⟩) (rf_ (p:=⟨gb493,0,none⟩) (Kd.R_types HO_471009.out BK493.out (by decide)) (fun _ hk => hk.2) (.int .i64 t476)) (fun _ hk => hk.2) (.int .i64 t477)) (fun _ hk => hk.2) (.int .i64 t478)) (fun _ hk => hk.2) (.int .i64 t479)) (fun _ hk => hk.2) (.int .i64 t480)) (fun _ hk => hk.2) (.int .i64 t481)) (fun _ hk => hk.2) (.int .i64 t482)) (fun _ hk => hk.2) (.bool t483)) (fun _ hk => hk.2) (.slice Ao49 t484.length co49)) (fun _ hk => hk.2) (.slice Ao50 t487.length co50)) (fun _ hk => hk.2) (.string t490)) (fun _ hk => hk.2) (.bool t491)) (fun _ h_ => h_.1))) hb);replace HO486:=A_ (rb_ (by (with_reducible repeat (first|apply ra_|apply rn_|apply Rd_));exact (rm_ (rf_ (p:=⟨gb493,11,none⟩) (rf_ (p:=⟨gb493,10,none⟩) (rf_ (p:=⟨gb493,9,none⟩) (rf_ (p:=⟨gb493,8,none⟩) (rf_ (p:=⟨gb493,7,none⟩) (rf_ (p:=⟨gb493,6,none⟩) (rf_ (p:=⟨gb493,5,none⟩) (rf_ (p:=⟨gb493,4,none⟩) (rf_ (p:=⟨gb493,3,none⟩) (rf_ (p:=⟨gb493,2,none⟩) (rf_ (p:=⟨gb493,1,none⟩) (rf_ (p:=⟨gb493,0,none⟩) (Kd.R_types HO486.out BK493.out (by decide)) (fun _ hk => hk.2) (.int .i64 t476)) (fun _ hk => hk.2) (.int .i64 t477)) (fun _ hk => hk.2) (.int .i64 t478)) (fun _ hk => hk.2) (.int .i64 t479)) (fun _ hk => hk.2) (.int .i64 t480)) (fun _ hk => hk.2) (.int .i64 t481)) (fun _ hk => hk.2) (.int .i64 t482)) (fun _ hk => hk.2) (.bool t483)) (fun _ hk => hk.2) (.slice Ao49 t484.length co49)) (fun _ hk => hk.2) (.slice Ao50 t487.length co50)) (fun _ hk => hk.2) (.string t490)) (fun _ hk => hk.2) (.bool t491)) (fun _ h_ => h_.1))) hb);replace HO489:=A_ (rb_ (by (with_reducible repeat (first|apply ra_|apply rn_|apply Rd_));exact (rm_ (rf_ (p:=⟨gb493,11,none⟩) (rf_ (p:=⟨gb493,10,none⟩) (rf_ (p:=⟨gb493,9,none⟩) (rf_ (p:=⟨gb493,8,none⟩) (rf_ (p:=⟨gb493,7,none⟩) (rf_ (p:=⟨gb493,6,none⟩) (rf_ (p:=⟨gb493,5,none⟩) (rf_ (p:=⟨gb493,4,none⟩) (rf_ (p:=⟨gb493,3,none⟩) (rf_ (p:=⟨gb493,2,none⟩) (rf_ (p:=⟨gb493,1,none⟩) (rf_ (p:=⟨gb493,0,none⟩) (Kd.R_types HO489.out BK493.out (by decide)) (fun _ hk => hk.2) (.int .i64 t476)) (fun _ hk => hk.2) (.int .i64 t477)) (fun _ hk => hk.2) (.int .i64 t478)) (fun _ hk => hk.2) (.int .i64 t479)) (fun _ hk => hk.2) (.int .i64 t480)) (fun _ hk => hk.2) (.int .i64 t481)) (fun _ hk => hk.2) (.int .i64 t482)) (fun _ hk => hk.2) (.bool t483)) (fun _ hk => hk.2) (.slice Ao49 t484.length co49)) (fun _ hk => hk.2) (.slice Ao50 t487.length co50)) (fun _ hk => hk.2) (.string t490)) (fun _ hk => hk.2) (.bool t491)) (fun _ h_ => h_.1))) hb);replace BK452:=A_ (kb_ (g:=gb452) (o:=.cells #[.int .i64 t435,.int .i64 t436,.int .i64 t437,.int .i64 t438,.int .i64 t439,.int .i64 t440,.int .i64 t441,.bool t442,.slice Ao9 t443.length co9,.slice Ao10 t446.length co10,.string t449,.bool t450] 41 (0,0)) (kz_ BK452) hb);replace BK470:=A_ (kb_ (g:=gb470) (o:=.cells #[.int .i64 t453,.int .i64 t454,.int .i64 t455,.int .i64 t456,.int .i64 t457,.int .i64 t458,.int .i64 t459,.bool t460,.slice Ao15 t461.length co15,.slice Ao16 t464.length co16,.string t467,.bool t468] 41 (0,0)) (kz_ BK470) hb);replace BK493:=A_ (kb_ (g:=gb493) (o:=.cells #[.int .i64 t476,.int .i64 t477,.int .i64 t478,.int .i64 t479,.int .i64 t480,.int .i64 t481,.int .i64 t482,.bool t483,.slice Ao49 t484.length co49,.slice Ao50 t487.length co50,.string t490,.bool t491] 41 (0,0)) (kz_ BK493) hb);replace HB:=bS_ HB hb;(try clear hb)))
         go_meet
         case rel => exact ⟨_,(true),(by first|rfl|(simp;done)|(simp [*];done)),H',⟨by have:=HJ4.out;first|omega|exact Nat.le_refl _⟩,⟨by (with_reducible repeat (first|apply ra_|apply rn_|apply Rd_));exact HO_453008.out⟩,⟨by (with_reducible repeat (first|apply ra_|apply rn_|apply Rd_));exact HO_453009.out⟩,⟨by (with_reducible repeat (first|apply ra_|apply rn_|apply Rd_));exact HO_471008.out⟩,⟨by (with_reducible repeat (first|apply ra_|apply rn_|apply Rd_));exact HO_471009.out⟩,⟨by (with_reducible repeat (first|apply ra_|apply rn_|apply Rd_));exact rm_ HO486.out (fun _ hk => ⟨hk.1.2,hk.2⟩)⟩,⟨by (with_reducible repeat (first|apply ra_|apply rn_|apply Rd_));exact rm_ HO489.out (fun _ hk => ⟨hk.1.2,hk.2⟩)⟩,⟨kq_ BK452⟩,⟨kq_ BK470⟩,⟨kq_ BK493⟩,⟨bq_ HB⟩⟩
       case rest =>
        clear HC38
        try clear c1
        try clear c2
        try clear c2b0
        try clear c2b1
        try clear p2
        try clear c3
        try clear c4
        try clear c5
        try clear c6
        try clear c13
        try clear c18
        try clear c19
        try clear c21
        try clear c22
        try clear c23
        try clear c24
        try clear c25
        try clear c27
        try clear c30
        try clear c30b0
        try clear c31
        try clear c36
        try clear c36b0
        try clear c36b1
        try clear c39
        try clear c46
        try clear c47
        try clear c52
        try clear c53
        try clear c54
        try clear c56
        try clear c59
        try clear c60
        try clear c62
        try clear hcz14_0
        try clear hcz14_1
        try clear hcz14_10
        try clear hcz14_11
        try clear hcz14_2
        try clear hcz14_3
        try clear hcz14_4
        try clear hcz14_5
        try clear hcz14_6
        try clear hcz14_7
        try clear hcz14_8
        try clear hcz14_9
        try clear hcz20_0
        try clear hcz20_1
        try clear hcz20_10
        try clear hcz20_11
        try clear hcz20_2
        try clear hcz20_3
        try clear hcz20_4
        try clear hcz20_5
        try clear hcz20_6
        try clear hcz20_7
        try clear hcz20_8
        try clear hcz20_9
        try clear hcz21_0
        try clear hcz21_1
        try clear hcz21_10
        try clear hcz21_11
        try clear hcz21_2
        try clear hcz21_3
        try clear hcz21_4
        try clear hcz21_5
        try clear hcz21_6
        try clear hcz21_7
        try clear hcz21_8
        try clear hcz21_9
        try clear hcz24_0
        try clear hcz24_1
        try clear hcz24_10
        try clear hcz24_11
        try clear hcz24_2
        try clear hcz24_3
        try clear hcz24_4
        try clear hcz24_5
        try clear hcz24_6
        try clear hcz24_7
        try clear hcz24_8
        try clear hcz24_9
        try clear hcz25_0
        try clear hcz25_1
        try clear hcz25_10
        try clear hcz25_11
        try clear hcz25_2
        try clear hcz25_3
        try clear hcz25_4
        try clear hcz25_5
        try clear hcz25_6
        try clear hcz25_7
        try clear hcz25_8
        try clear hcz25_9
        try clear hcz32_0
        try clear hcz32_1
        try clear hcz32_10
        try clear hcz32_11
        try clear hcz32_2
        try clear hcz32_3
        try clear hcz32_4
        try clear hcz32_5
        try clear hcz32_6
        try clear hcz32_7
        try clear hcz32_8
        try clear hcz32_9
        try clear hcz34_0
        try clear hcz34_1
        try clear hcz34_10
        try clear hcz34_11
        try clear hcz34_2
        try clear hcz34_3
        try clear hcz34_4
        try clear hcz34_5
        try clear hcz34_6
        try clear hcz34_7
        try clear hcz34_8
        try clear hcz34_9
        try clear hcz40_0
        try clear hcz40_1
        try clear hcz40_10
        try clear hcz40_11
        try clear hcz40_2
        try clear hcz40_3
        try clear hcz40_4
        try clear hcz40_5
        try clear hcz40_6
        try clear hcz40_7
        try clear hcz40_8
        try clear hcz40_9
        try clear hcz42_0
        try clear hcz42_1
        try clear hcz42_10
        try clear hcz42_11
        try clear hcz42_2
        try clear hcz42_3
        try clear hcz42_4
        try clear hcz42_5
        try clear hcz42_6
        try clear hcz42_7
        try clear hcz42_8
        try clear hcz42_9
        try clear hcz48_0
        try clear hcz48_1
        try clear hcz48_10
        try clear hcz48_11
        try clear hcz48_2
        try clear hcz48_3
        try clear hcz48_4
        try clear hcz48_5
        try clear hcz48_6
        try clear hcz48_7
        try clear hcz48_8
        try clear hcz48_9
        try clear hcz55_0
        try clear hcz55_1
        try clear hcz55_10
        try clear hcz55_11
        try clear hcz55_2
        try clear hcz55_3
        try clear hcz55_4
        try clear hcz55_5
        try clear hcz55_6
        try clear hcz55_7
        try clear hcz55_8
        try clear hcz55_9
        try clear hcz57_0
        try clear hcz57_1
        try clear hcz57_10
        try clear hcz57_11
        try clear hcz57_2
        try clear hcz57_3
        try clear hcz57_4
        try clear hcz57_5
        try clear hcz57_6
        try clear hcz57_7
        try clear hcz57_8
        try clear hcz57_9
        try clear hcz61_0
        try clear hcz61_1
        try clear hcz61_10
        try clear hcz61_11
        try clear hcz61_2
        try clear hcz61_3
        try clear hcz61_4
        try clear hcz61_5
        try clear hcz61_6
        try clear hcz61_7
        try clear hcz61_8
        try clear hcz61_9
        try clear hcz63_0
        try clear hcz63_1
        try clear hcz63_10
        try clear hcz63_11
        try clear hcz63_2
        try clear hcz63_3
        try clear hcz63_4
        try clear hcz63_5
        try clear hcz63_6
        try clear hcz63_7
        try clear hcz63_8
        try clear hcz63_9
        try clear hcz8_0
        try clear hcz8_1
        try clear hcz8_10
        try clear hcz8_11
        try clear hcz8_2
        try clear hcz8_3
        try clear hcz8_4
        try clear hcz8_5
        try clear hcz8_6
        try clear hcz8_7
        try clear hcz8_8
        try clear hcz8_9
        try clear hfz14_0
        try clear hfz14_1
        try clear hfz14_10
        try clear hfz14_11
        try clear hfz14_2
        try clear hfz14_3
        try clear hfz14_4
        try clear hfz14_5
        try clear hfz14_6
        try clear hfz14_7
        try clear hfz14_8
        try clear hfz14_9
        try clear hfz20_0
        try clear hfz20_1
        try clear hfz20_10
        try clear hfz20_11
        try clear hfz20_2
        try clear hfz20_3
        try clear hfz20_4
        try clear hfz20_5
        try clear hfz20_6
        try clear hfz20_7
        try clear hfz20_8
        try clear hfz20_9
        try clear hfz21_0
        try clear hfz21_1
        try clear hfz21_10
        try clear hfz21_11
        try clear hfz21_2
        try clear hfz21_3
        try clear hfz21_4
        try clear hfz21_5
        try clear hfz21_6
        try clear hfz21_7
        try clear hfz21_8
        try clear hfz21_9
        try clear hfz24_0
        try clear hfz24_1
        try clear hfz24_10
        try clear hfz24_11
        try clear hfz24_2
        try clear hfz24_3
        try clear hfz24_4
        try clear hfz24_5
        try clear hfz24_6
        try clear hfz24_7
        try clear hfz24_8
        try clear hfz24_9
        try clear hfz25_0
        try clear hfz25_1
        try clear hfz25_10
        try clear hfz25_11
        try clear hfz25_2
        try clear hfz25_3
        try clear hfz25_4
        try clear hfz25_5
        try clear hfz25_6
        try clear hfz25_7
        try clear hfz25_8
        try clear hfz25_9
        try clear hfz32_0
        try clear hfz32_1
        try clear hfz32_10
        try clear hfz32_11
        try clear hfz32_2
        try clear hfz32_3
        try clear hfz32_4
        try clear hfz32_5
        try clear hfz32_6
        try clear hfz32_7
        try clear hfz32_8
        try clear hfz32_9
        try clear hfz34_0
        try clear hfz34_1
        try clear hfz34_10
        try clear hfz34_11
        try clear hfz34_2
        try clear hfz34_3
        try clear hfz34_4
        try clear hfz34_5
        try clear hfz34_6
        try clear hfz34_7
        try clear hfz34_8
        try clear hfz34_9
        try clear hfz40_0
        try clear hfz40_1
        try clear hfz40_10
        try clear hfz40_11
        try clear hfz40_2
        try clear hfz40_3
        try clear hfz40_4
        try clear hfz40_5
        try clear hfz40_6
        try clear hfz40_7
        try clear hfz40_8
        try clear hfz40_9
        try clear hfz42_0
        try clear hfz42_1
        try clear hfz42_10
        try clear hfz42_11
        try clear hfz42_2
        try clear hfz42_3
        try clear hfz42_4
        try clear hfz42_5
        try clear hfz42_6
        try clear hfz42_7
        try clear hfz42_8
        try clear hfz42_9
        try clear hfz48_0
        try clear hfz48_1
        try clear hfz48_10
        try clear hfz48_11
        try clear hfz48_2
        try clear hfz48_3
        try clear hfz48_4
        try clear hfz48_5
        try clear hfz48_6
        try clear hfz48_7
        try clear hfz48_8
        try clear hfz48_9
        try clear hfz55_0
        try clear hfz55_1
        try clear hfz55_10
        try clear hfz55_11
        try clear hfz55_2
        try clear hfz55_3
        try clear hfz55_4
        try clear hfz55_5
        try clear hfz55_6
        try clear hfz55_7
        try clear hfz55_8
        try clear hfz55_9
        try clear hfz57_0
        try clear hfz57_1
        try clear hfz57_10
        try clear hfz57_11
        try clear hfz57_2
        try clear hfz57_3
        try clear hfz57_4
        try clear hfz57_5
        try clear hfz57_6
        try clear hfz57_7
        try clear hfz57_8
        try clear hfz57_9
        try clear hfz61_0
        try clear hfz61_1
        try clear hfz61_10
        try clear hfz61_11
        try clear hfz61_2
        try clear hfz61_3
        try clear hfz61_4
        try clear hfz61_5
        try clear hfz61_6
        try clear hfz61_7
        try clear hfz61_8
        try clear hfz61_9
        try clear hfz63_0
        try clear hfz63_1
        try clear hfz63_10
        try clear hfz63_11
        try clear hfz63_2
        try clear hfz63_3
        try clear hfz63_4
        try clear hfz63_5
        try clear hfz63_6
        try clear hfz63_7
        try clear hfz63_8
        try clear hfz63_9
        try clear hfz8_0
        try clear hfz8_1
        try clear hfz8_10
        try clear hfz8_11
        try clear hfz8_2
        try clear hfz8_3
        try clear hfz8_4
        try clear hfz8_5
        try clear hfz8_6
        try clear hfz8_7
        try clear hfz8_8
        try clear hfz8_9
        try clear p2
        obtain ⟨kq,x57_37,rfl,HA,HJ37,HO_453008,HO_453009,HO_471008,HO_471009,HO_494008,HO_494009,BK452,BK470,BK493,HB⟩:=hcut;have hl471008_37:=(Kd.R_reads' HO_471008.out).1;rw [hl471008_37] at HO_471008
        (try simp only [hl471008_37])
        (try simp only [hl471008_37] at BK452)
        (try simp only [hl471008_37] at BK470)
        (try simp only [hl471008_37] at BK493)
        (try simp only [hl471008_37] at HO_453008)
        (try simp only [hl471008_37] at HO_453009)
        (try simp only [hl471008_37] at HO_471009)
        (try simp only [hl471008_37] at HO_494008)
        (try simp only [hl471008_37] at HO_494009)
        have hl471009_37:=(Kd.R_reads' HO_471009.out).1;rw [hl471009_37] at HO_471009
        (try simp only [hl471009_37])
        (try simp only [hl471009_37] at BK452)
        (try simp only [hl471009_37] at BK470)
        (try simp only [hl471009_37] at BK493)
        (try simp only [hl471009_37] at HO_453008)
        (try simp only [hl471009_37] at HO_453009)
        (try simp only [hl471009_37] at HO_471008)
        (try simp only [hl471009_37] at HO_494008)
        (try simp only [hl471009_37] at HO_494009)
        cases kq with
        | zero => exact absurd HA.out (by simp [laws_FnExactDecode.j1])
        | succ kj37 =>
         have H:=HA.out;clear HA;simp only [laws_FnExactDecode.j1] at H
         by_cases c65 : x57_37 = true
         ·subst c65
          rw [if_pos rfl] at H;obtain rfl:=Option.some.inj H
          cases hr1_
         ·replace c65:=Bool.eq_false_iff.mpr c65;subst c65
          have H1 : ((laws_heldMessage.f kj37 t453 t454 t455 t456 t457 t458 t459 t460 t473 t474 t467 t468 1).bind fun t495 => (if t495 < 0 then (some false) else (if t495 = t472 then (some true) else (some false)))) = some r:=by rw [if_neg (show ¬ (false = true) by decide)] at H;exact H
          clear H;have H:=H1;clear H1;replace H:=ob_.mp H;obtain ⟨t495,A660,H⟩:=H;(try dsimp only at H);have A66:=A_ A660;clear A660
          by_cases c67 : t495 < 0
          ·rw [if_pos c67] at H;have c67b0 : decide (t495 < 0) = true:=de_ c67;clear c67;obtain rfl:=Option.some.inj H
           cases hr1_
          ·rw [if_neg c67] at H;have c67b0 : decide (t495 < 0) = false:=decide_eq_false c67;clear c67
           by_cases c72 : t495 = t472
           ·rw [if_pos c72] at H;have c72b0 : (t495 == t472) = true:=beq_iff_eq.mpr c72;have c72b1 : (t495 != t472) = false:=bne_eq_false_iff_eq.mpr c72;clear c72;obtain rfl:=Option.some.inj H;have hnb73:=NB470_452.out;have hnc73:=NB452_470.out;have hnb74:=NB470_493.out;have hnc74:=NB493_470.out;obtain ⟨hcz75_0,hcz75_1,hcz75_2,hcz75_3,hcz75_4,hcz75_5,hcz75_6,hcz75_7,hcz75_8,hcz75_9,hcz75_10,hcz75_11,hfz75_0,hfz75_1,hfz75_2,hfz75_3,hfz75_4,hfz75_5,hfz75_6,hfz75_7,hfz75_8,hfz75_9,hfz75_10,hfz75_11⟩:=k12f_ BK470
            go_wp2_with (first|((with_reducible refine gate_callee (f:=25) rfl ?_);refine gL_ (some 60) Try.func25 #[.agg #[.int .i64 t453,.int .i64 t454,.int .i64 t455,.int .i64 t456,.int .i64 t457,.int .i64 t458,.int .i64 t459,.bool t460,.slice Ao15 t473.length co15,.slice Ao16 t474.length co16,.string t467,.bool t468],.int .i64 1] ?_;(with_reducible refine (laws_heldMessage.calls kj37 t453 t454 t455 t456 t457 t458 t459 t460 _ _ t473 _ _ t474 t467 t468 1 t495 _ ?side1 ?side2 ?side3 ?side4 A66.out).mono ?_);(case side1 => repeat (first|exact (Kd.R_reads' HO_471008.out).2.2|(with_reducible refine Kd.C_alloc ?_ _)|(with_reducible refine Kd.C_drewN ?_ _)|(with_reducible refine Kd.C_drew ?_)));(case side2 => exact (Kd.R_reads' HO_471008.out).2.1);(case side3 => repeat (first|exact (Kd.R_reads' HO_471009.out).2.2|(with_reducible refine Kd.C_alloc ?_ _)|(with_reducible refine Kd.C_drewN ?_ _)|(with_reducible refine Kd.C_drew ?_)));(case side4 => exact (Kd.R_reads' HO_471009.out).2.1);rintro e w76 ⟨rfl,hb⟩;refine ⟨_,rfl,?_⟩;replace HO_453008:=rB_ HO_453008 hb;replace HO_453009:=rB_ HO_453009 hb;replace HO_471008:=rB_ HO_471008 hb;replace HO_471009:=rB_ HO_471009 hb;replace HO_494008:=rB_ HO_494008 hb;replace HO_494009:=rB_ HO_494009 hb;replace BK452:=kB_ BK452 hb;replace BK470:=kB_ BK470 hb;replace BK493:=kB_ BK493 hb;replace HB:=bS_ HB hb;(try clear hb)))
            go_ret;exact ⟨ex_,bq_ HB⟩
           ·rw [if_neg c72] at H;have c72b0 : (t495 == t472) = false:=beq_eq_false_iff_ne.mpr c72;have c72b1 : (t495 != t472) = true:=bne_iff_ne.mpr c72;obtain rfl:=Option.some.inj H
            cases hr1_
      ·rw [if_neg c36] at H;have c36b0 : (t475 == t472) = false:=beq_eq_false_iff_ne.mpr c36;have c36b1 : (t475 != t472) = true:=bne_iff_ne.mpr c36;obtain rfl:=Option.some.inj H
       cases hr1_
def laws_FnExactDecode.Pure : Prop := ∀ (a0 : ByteArray), a0.size ≤ 140737488351232 → ∃ k, laws_FnExactDecode.f k a0 = some true
theorem laws_FnExactDecode.walk (P : laws_FnExactDecode.Pure) (a0 : ByteArray) (w : World) (w0 : a0.size ≤ 140737488351232) :
  Calls Try.prog 5 #[.string a0] w fun e w' => e = .returned (.bool true) ∧ Below w.heap.size w w':=by
 obtain ⟨k,h⟩:=P a0 w0;refine (laws_FnExactDecode.calls k a0 true w h rfl).mono ?_;rintro e w' ⟨rfl,hd⟩;exact ⟨rfl,hd⟩
end Go.Proofs.Ytbcgnncbiblibaa.PFnExactDecode
