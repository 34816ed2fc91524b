/- The contracts of the Go functions that this law reaches: what each call returns, by a plain Lean function of its arguments. No conditions but those each contract names. By the kit's print.py, run by this session's wip/gen/pp.py with facts and hand proofs beside it: not to the letter what print.sh prints. -/
import Derived.Test.YtbcgnncbiblibaaPFnExactReadLogx0
import Derived.Test.YtbcgnncbiblibaaPFnExactReadLogx8
import Derived.Test.YtbcgnncbiblibaaPFnExactReadLogx14
import Derived.Test.YtbcgnncbiblibaaPFnExactReadLogx15
import Derived.Test.YtbcgnncbiblibaaPFnExactReadLogx16
namespace Go.Proofs.Ytbcgnncbiblibaa.PFnExactReadLog
open Go.RowKit Go.Proofs.YtbcgnncbiblibaaW.PrintWords Go.Proofs.YtbcgnncbiblibaaW.PrintLast Go.Proofs.YtbcgnncbiblibaaW.PrintMore
attribute [local go_sem] max2_int min2_int max_two min_two max_three min_three max_four min_four
set_option linter.unusedVariables false
set_option linter.unusedSimpArgs false
mutual
def laws_FnExactReadLog.j0 : Nat → ByteArray → Int → Bool → Bool → Int → Int → List (S69) → Int → Int → List (S69) → Option (Bool)
 | 0,_,_,_,_,_,_,_,_,_,_ => none
 | k + 1,x0,x4,x5,x42,x408000,x408001,x408002,x416000,x416001,x416002 => if x42 = true then (some false) else ((laws_markLog.f k x416000 x416001 x416002 1).bind fun bt417 => ((laws_heldLog.f k x416000 x416001 bt417.2 1).bind fun t419 => (if t419 < 0 then (some false) else (if t419 = bt417.1 then ((impl_ReadLog.f k x0).bind fun bt420 => ((laws_eqLog.f k bt420.1 bt420.2.1 bt420.2.2.1 x408000 x408001 x408002).bind fun t428 => (if t428 = true then (if bt420.2.2.2.1 = x4 then (laws_FnExactReadLog.j1 k bt417.1 (bt420.2.2.2.2 != x5) x416000 x416001 bt417.2) else (laws_FnExactReadLog.j1 k bt417.1 true x416000 x416001 bt417.2)) else (laws_FnExactReadLog.j1 k bt417.1 true x416000 x416001 bt417.2)))) else (some false)))))
def laws_FnExactReadLog.j1 : Nat → Int → Bool → Int → Int → List (S69) → Option (Bool)
 | 0,_,_,_,_,_ => none
 | k + 1,x9,x73,x416000,x416001,x416002 => if x73 = true then (some false) else ((laws_heldLog.f k x416000 x416001 x416002 1).bind fun t429 => (if t429 < 0 then (some false) else (if t429 = x9 then (some true) else (some false))))
end
def laws_FnExactReadLog.f (k : Nat) (a0 : ByteArray) : Option (Bool) := if (a0.size : Int) > 1048576 then (some true) else ((spec_ReadLog.f k a0).bind fun bt400 => ((impl_ReadLog.f k a0).bind fun bt408 => ((laws_eqLog.f k bt408.1 bt408.2.1 bt408.2.2.1 bt400.1 bt400.2.1 bt400.2.2.1).bind fun t416 => (if t416 = true then (if bt408.2.2.2.1 = bt400.2.2.2.1 then (laws_FnExactReadLog.j0 k a0 bt400.2.2.2.1 bt400.2.2.2.2 (bt408.2.2.2.2 != bt400.2.2.2.2) bt400.1 bt400.2.1 bt400.2.2.1 bt408.1 bt408.2.1 bt408.2.2.1) else (laws_FnExactReadLog.j0 k a0 bt400.2.2.2.1 bt400.2.2.2.2 true bt400.1 bt400.2.1 bt400.2.2.1 bt408.1 bt408.2.1 bt408.2.2.1)) else (laws_FnExactReadLog.j0 k a0 bt400.2.2.2.1 bt400.2.2.2.2 true bt400.1 bt400.2.1 bt400.2.2.1 bt408.1 bt408.2.1 bt408.2.2.1)))))
theorem laws_FnExactReadLog.mono_l : ∀ k, (∀ y0 y1 y2 y3 y4 y5 y6 y7 y8 y9, LeO (laws_FnExactReadLog.j0 k y0 y1 y2 y3 y4 y5 y6 y7 y8 y9) (laws_FnExactReadLog.j0 (k + 1) y0 y1 y2 y3 y4 y5 y6 y7 y8 y9)) ∧ (∀ y0 y1 y2 y3 y4, LeO (laws_FnExactReadLog.j1 k y0 y1 y2 y3 y4) (laws_FnExactReadLog.j1 (k + 1) y0 y1 y2 y3 y4))
 | 0 => ⟨fun _ _ _ _ _ _ _ _ _ _ r h => by simp [laws_FnExactReadLog.j0] at h,fun _ _ _ _ _ r h => by simp [laws_FnExactReadLog.j1] at h⟩
 | k + 1 => by
  obtain ⟨ih0,ih1⟩:=laws_FnExactReadLog.mono_l k;refine ⟨?_,?_⟩
  ·intro y0 y1 y2 y3 y4 y5 y6 y7 y8 y9
   unfold laws_FnExactReadLog.j0
   repeat' first
   | (with_reducible exact ih0 _ _ _ _ _ _ _ _ _ _)
   | (with_reducible exact ih1 _ _ _ _ _)
   | (with_reducible exact impl_ReadLog.mono _ _)
   | (with_reducible exact laws_eqLog.mono _ _ _ _ _ _ _)
   | (with_reducible exact laws_heldLog.mono _ _ _ _ _)
   | (with_reducible exact laws_markLog.mono _ _ _ _ _)
   | (with_reducible exact spec_ReadLog.mono _ _)
   | (with_reducible exact LeO.refl _)
   | (with_reducible exact LeO.none _)
   | (with_reducible refine LeO.ite ?_ ?_)
   | (with_reducible refine LeO.bind ?_ (fun _ => ?_))
  ·intro y0 y1 y2 y3 y4
   unfold laws_FnExactReadLog.j1
   repeat' first
   | (with_reducible exact ih0 _ _ _ _ _ _ _ _ _ _)
   | (with_reducible exact ih1 _ _ _ _ _)
   | (with_reducible exact impl_ReadLog.mono _ _)
   | (with_reducible exact laws_eqLog.mono _ _ _ _ _ _ _)
   | (with_reducible exact laws_heldLog.mono _ _ _ _ _)
   | (with_reducible exact laws_markLog.mono _ _ _ _ _)
   | (with_reducible exact spec_ReadLog.mono _ _)
   | (with_reducible exact LeO.refl _)
   | (with_reducible exact LeO.none _)
   | (with_reducible refine LeO.ite ?_ ?_)
   | (with_reducible refine LeO.bind ?_ (fun _ => ?_))
theorem laws_FnExactReadLog.mono : ∀ a0 k, LeO (laws_FnExactReadLog.f k a0) (laws_FnExactReadLog.f (k + 1) a0) := by
 intro a0 k;obtain ⟨ih0,ih1⟩:=laws_FnExactReadLog.mono_l k
 unfold laws_FnExactReadLog.f
 repeat' first
   | (with_reducible exact ih0 _ _ _ _ _ _ _ _ _ _)
   | (with_reducible exact ih1 _ _ _ _ _)
   | (with_reducible exact impl_ReadLog.mono _ _)
   | (with_reducible exact laws_eqLog.mono _ _ _ _ _ _ _)
   | (with_reducible exact laws_heldLog.mono _ _ _ _ _)
   | (with_reducible exact laws_markLog.mono _ _ _ _ _)
   | (with_reducible exact spec_ReadLog.mono _ _)
   | (with_reducible exact LeO.refl _)
   | (with_reducible exact LeO.none _)
   | (with_reducible refine LeO.ite ?_ ?_)
   | (with_reducible refine LeO.bind ?_ (fun _ => ?_))
set_option maxHeartbeats 8000000 in
set_option maxRecDepth 100000 in
theorem laws_FnExactReadLog.calls (k : Nat) (a0 : ByteArray) (r : Bool) (w : World) (h : laws_FnExactReadLog.f k a0 = some r) (hr1_ : r = true) :
  Calls Try.prog 3 #[.string a0] w fun e w' => e = .returned (.bool r) ∧ Below w.heap.size w w':=by
 have hu24:=Try.underlying24;have HB:=A_ (Below.refl w.heap.size w);have H : (if (a0.size : Int) > 1048576 then (some true) else ((spec_ReadLog.f k a0).bind fun bt400 => ((impl_ReadLog.f k a0).bind fun bt408 => ((laws_eqLog.f k bt408.1 bt408.2.1 bt408.2.2.1 bt400.1 bt400.2.1 bt400.2.2.1).bind fun t416 => (if t416 = true then (if bt408.2.2.2.1 = bt400.2.2.2.1 then (laws_FnExactReadLog.j0 k a0 bt400.2.2.2.1 bt400.2.2.2.2 (bt408.2.2.2.2 != bt400.2.2.2.2) bt400.1 bt400.2.1 bt400.2.2.1 bt408.1 bt408.2.1 bt408.2.2.1) else (laws_FnExactReadLog.j0 k a0 bt400.2.2.2.1 bt400.2.2.2.2 true bt400.1 bt400.2.1 bt400.2.2.1 bt408.1 bt408.2.1 bt408.2.2.1)) else (laws_FnExactReadLog.j0 k a0 bt400.2.2.2.1 bt400.2.2.2.2 true bt400.1 bt400.2.1 bt400.2.2.1 bt408.1 bt408.2.1 bt408.2.2.1)))))) = some r:=h;clear h
 by_cases c2 : (a0.size : Int) > 1048576
 ·rw [if_pos c2] at H;have c2b0 : decide (1048576 < (a0.size : Int)) = true:=de_ c2;have c2b1 : decide (1048576 < a0.size) = true:=de_ (by omega);clear c2;obtain rfl:=Option.some.inj H;go_enter Try.func3,Try.ntmps3;go_wp2;go_ret;exact ⟨by first|rfl|(simp [*,errW_none,errW_some] <;> rfl),by repeat (first|(with_reducible first|exact HB.out|apply pa_|apply pn_|apply pd_)|exact HB.out)⟩
 ·rw [if_neg c2] at H;have c2b0 : decide (1048576 < (a0.size : Int)) = false:=decide_eq_false c2;have c2b1 : decide (1048576 < a0.size) = false:=decide_eq_false (by omega);clear c2;replace H:=ob_.mp H;obtain ⟨⟨t400,t401,t402,t405,t406⟩,A30,H⟩:=H;replace H : ((impl_ReadLog.f k a0).bind fun bt408 => ((laws_eqLog.f k bt408.1 bt408.2.1 bt408.2.2.1 t400 t401 t402).bind fun t416 => (if t416 = true then (if bt408.2.2.2.1 = t405 then (laws_FnExactReadLog.j0 k a0 t405 t406 (bt408.2.2.2.2 != t406) t400 t401 t402 bt408.1 bt408.2.1 bt408.2.2.1) else (laws_FnExactReadLog.j0 k a0 t405 t406 true t400 t401 t402 bt408.1 bt408.2.1 bt408.2.2.1)) else (laws_FnExactReadLog.j0 k a0 t405 t406 true t400 t401 t402 bt408.1 bt408.2.1 bt408.2.2.1)))) = some r:=H;have A3:=A_ A30;clear A30;replace H:=ob_.mp H;obtain ⟨⟨t408,t409,t410,t413,t414⟩,A40,H⟩:=H;replace H : ((laws_eqLog.f k t408 t409 t410 t400 t401 t402).bind fun t416 => (if t416 = true then (if t413 = t405 then (laws_FnExactReadLog.j0 k a0 t405 t406 (t414 != t406) t400 t401 t402 t408 t409 t410) else (laws_FnExactReadLog.j0 k a0 t405 t406 true t400 t401 t402 t408 t409 t410)) else (laws_FnExactReadLog.j0 k a0 t405 t406 true t400 t401 t402 t408 t409 t410))) = some r:=H;have A4:=A_ A40;clear A40;have HC5:=A_ H;clear H;go_enter Try.func3,Try.ntmps3
  go_upto_region 5 with (first|((with_reducible refine gate_callee (f:=8) rfl ?_);refine goesL_ (some 19) rfl rfl Try.func8 (by kernel_rfl) rfl #[.string a0] rfl (by (try simp only [s4_,s5_,s6_]);first|done|rfl|(simp only [List.length_drop,List.length_take];rfl)) ?_;(with_reducible refine (spec_ReadLog.calls k a0 t400 t401 t402 t405 t406 _ A3.out).mono ?_);rintro e w6 ⟨v403,rfl,ho0,hb⟩;refine ⟨_,rfl,?_⟩;have HO404:=A_ (rw_ ho0 (bz_ (by repeat (first|(with_reducible first|exact HB.out|apply pa_|apply pn_|apply pd_)|exact HB.out))));replace HB:=A_ (bs_ (by repeat (first|(with_reducible first|exact HB.out|apply pa_|apply pn_|apply pd_)|exact HB.out)) hb);(try clear hb);(try clear hb2);(try clear hk);(try clear hi);(try clear ho0))|((with_reducible refine gate_dst (N:=3) rfl ?_);refine box_event ?hg (N:=3) ?hd (cs:=#[.int .i64 0,.int .i64 0,.slice none 0 0]) (t:=24) ?hr ?_;(case hd => rfl);(case hg => rfl);(case hr => first|(go_simp;done)|(go_simp;rfl));intro gb407 hg w7 hbox hb;replace HO404:=A_ (rb_ (by (with_reducible repeat (first|apply ra_|apply rn_|apply Rd_));exact HO404.out) hb);have BK407:=A_ (hbox);have GW407:=A_ ((by rw [hg];exact (bz_ (by repeat (first|(with_reducible first|exact HB.out|apply pa_|apply pn_|apply pd_)|exact HB.out))) : w.heap.size ≤ gb407));have GE407:=A_ ((by rw [hg];exact (bz_ (by repeat (first|(with_reducible first|exact HB.out|apply pa_|apply pn_|apply pd_)|exact HB.out))) : w.heap.size ≤ gb407));replace HB:=A_ (bs_ (by repeat (first|(with_reducible first|exact HB.out|apply pa_|apply pn_|apply pd_)|exact HB.out)) hb);clear hb hbox hg;have hcz8_0 : w7.cell? ⟨gb407,0,none⟩ = some (.int .i64 0):=(kc_ BK407.out 0).trans rfl;have hcz8_1 : w7.cell? ⟨gb407,1,none⟩ = some (.int .i64 0):=(kc_ BK407.out 1).trans rfl;have hcz8_2 : w7.cell? ⟨gb407,2,none⟩ = some (.slice none 0 0):=(kc_ BK407.out 2).trans rfl;have hfz8_0:=kf_ BK407.out 0;have hfz8_1:=kf_ BK407.out 1;have hfz8_2:=kf_ BK407.out 2;obtain ⟨Ao9,co9,eo9⟩:=Kd.R_slice HO404.out;subst eo9)|((with_reducible refine gate_callee (f:=9) rfl ?_);refine goesL_ (some 25) rfl rfl Try.func9 (by kernel_rfl) rfl #[.string a0] rfl (by (try simp only [s4_,s5_,s6_]);first|done|rfl|(simp only [List.length_drop,List.length_take];rfl)) ?_;(with_reducible refine (impl_ReadLog.calls k a0 t408 t409 t410 t413 t414 _ A4.out).mono ?_);rintro e w10 ⟨v411,rfl,ho0,hb⟩;refine ⟨_,rfl,?_⟩;have HO412:=A_ (rw_ (Kd.R_new' ho0 (Kd.R_lt (by (with_reducible repeat (first|apply ra_|apply rn_|apply Rd_));exact (rm_ (rf_ (p:=⟨gb407,2,none⟩) (rf_ (p:=⟨gb407,1,none⟩) (rf_ (p:=⟨gb407,0,none⟩) (Kd.R_types HO404.out BK407.out (by decide)) (fun _ hk => hk.2) (.int .i64 t400)) (fun _ hk => hk.2) (.int .i64 t401)) (fun _ hk => hk.2) (.slice Ao9 t402.length co9)) (fun _ h_ => h_.1))))) (bz_ (by repeat (first|(with_reducible first|exact HB.out|apply pa_|apply pn_|apply pd_|refine ps_ ?_ GE407.out)|exact HB.out))));replace HO404:=A_ (Kd.R_elder' (by (with_reducible repeat (first|apply ra_|apply rn_|apply Rd_));exact (rm_ (rf_ (p:=⟨gb407,2,none⟩) (rf_ (p:=⟨gb407,1,none⟩) (rf_ (p:=⟨gb407,0,none⟩) (Kd.R_types HO404.out BK407.out (by decide)) (fun _ hk => hk.2) (.int .i64 t400)) (fun _ hk => hk.2) (.int .i64 t401)) (fun _ hk => hk.2) (.slice Ao9 t402.length co9)) (fun _ h_ => h_.1))) (Kd.R_base ho0) hb);replace BK407:=A_ (kb_ (g:=gb407) (o:=.cells #[.int .i64 t400,.int .i64 t401,.slice Ao9 t402.length co9] 24 (0,0)) (by (with_reducible repeat (first|refine kn_ ?_ _|refine kd_ ?_|refine ka_ ?_ _));refine ku_ (cs:=#[.int .i64 t400,.int .i64 t401,.slice none 0 0]) ?_ 2 _ rfl;(with_reducible repeat (first|refine kn_ ?_ _|refine kd_ ?_|refine ka_ ?_ _));refine ku_ (cs:=#[.int .i64 t400,.int .i64 0,.slice none 0 0]) ?_ 1 _ rfl;(with_reducible repeat (first|refine kn_ ?_ _|refine kd_ ?_|refine ka_ ?_ _));refine ku_ (cs:=#[.int .i64 0,.int .i64 0,.slice none 0 0]) ?_ 0 _ rfl;(with_reducible repeat (first|refine kn_ ?_ _|refine kd_ ?_|refine ka_ ?_ _));exact BK407.out) hb);replace HB:=A_ (bs_ (by repeat (first|(with_reducible first|exact HB.out|apply pa_|apply pn_|apply pd_|refine ps_ ?_ GE407.out)|exact HB.out)) hb);(try clear hb);(try clear hb2);(try clear hk);(try clear hi);(try clear ho0))|((with_reducible refine gate_dst (N:=6) rfl ?_);refine box_event ?hg (N:=6) ?hd (cs:=#[.int .i64 0,.int .i64 0,.slice none 0 0]) (t:=24) ?hr ?_;(case hd => rfl);(case hg => rfl);(case hr => first|(go_simp;done)|(go_simp;rfl));intro gb415 hg w11 hbox hb;replace HO404:=A_ (rb_ (by (with_reducible repeat (first|apply ra_|apply rn_|apply Rd_));exact HO404.out) hb);replace HO412:=A_ (rb_ (by (with_reducible repeat (first|apply ra_|apply rn_|apply Rd_));exact HO412.out) hb);have BK415:=A_ (hbox);have GW415:=A_ ((by rw [hg];exact (bz_ (by repeat (first|(with_reducible first|exact HB.out|apply pa_|apply pn_|apply pd_|refine ps_ ?_ GE407.out)|exact HB.out))) : w.heap.size ≤ gb415));have GE415:=A_ ((by rw [hg];exact (bz_ (by repeat (first|(with_reducible first|exact HB.out|apply pa_|apply pn_|apply pd_|refine ps_ ?_ GE407.out)|exact HB.out))) : w.heap.size ≤ gb415));replace HB:=A_ (bs_ (by repeat (first|(with_reducible first|exact HB.out|apply pa_|apply pn_|apply pd_|refine ps_ ?_ GE407.out)|exact HB.out)) hb);have NB407_415:=A_ ((by rw [hg];exact nl_ (kl_ (g:=gb407) (o:=.cells #[.int .i64 t400,.int .i64 t401,.slice Ao9 t402.length co9] 24 (0,0)) (by (with_reducible repeat (first|refine kn_ ?_ _|refine kd_ ?_|refine ka_ ?_ _));exact BK407.out)) : gb407 ≠ gb415));have NB415_407:=A_ ((by rw [hg];exact ng_ (kl_ (g:=gb407) (o:=.cells #[.int .i64 t400,.int .i64 t401,.slice Ao9 t402.length co9] 24 (0,0)) (by (with_reducible repeat (first|refine kn_ ?_ _|refine kd_ ?_|refine ka_ ?_ _));exact BK407.out)) : gb415 ≠ gb407));replace BK407:=A_ (kb_ (by (with_reducible repeat (first|refine kn_ ?_ _|refine kd_ ?_|refine ka_ ?_ _));exact BK407.out) hb);clear hb hbox hg;have hnb12:=NB415_407.out;have hnc12:=NB407_415.out;have hcz13_0 : w11.cell? ⟨gb415,0,none⟩ = some (.int .i64 0):=(kc_ BK415.out 0).trans rfl;have hcz13_1 : w11.cell? ⟨gb415,1,none⟩ = some (.int .i64 0):=(kc_ BK415.out 1).trans rfl;have hcz13_2 : w11.cell? ⟨gb415,2,none⟩ = some (.slice none 0 0):=(kc_ BK415.out 2).trans rfl;have hfz13_0:=kf_ BK415.out 0;have hfz13_1:=kf_ BK415.out 1;have hfz13_2:=kf_ BK415.out 2;obtain ⟨Ao14,co14,eo14⟩:=Kd.R_slice HO412.out;subst eo14))
  (try simp only [Act.put,s1_,s2_,s3_])
  go_cut [42] (fun v42 wc => ∃ (kq : Nat) (x42_4 : Bool),v42 = .bool x42_4 ∧ Aside0 (laws_FnExactReadLog.j0 kq a0 t405 t406 x42_4 t400 t401 t402 t408 t409 t410 = some r) ∧ Aside0 (kq ≤ k) ∧ Aside0 (Kd.R k69 69 wc w.heap.size (fun k_ => some k_ ≠ ((.slice Ao14 t410.length co14) : Value).ownBlock) (.slice Ao9 t402.length co9) t402) ∧ Aside0 (Kd.R k69 69 wc w.heap.size (fun k_ => some k_ ≠ ((.slice Ao9 t402.length co9) : Value).ownBlock) (.slice Ao14 t410.length co14) t410) ∧ Aside0 (wc.heap[gb407]? = some (.cells #[.int .i64 t400,.int .i64 t401,(.slice Ao9 t402.length co9)] 24 (0,0))) ∧ Aside0 (wc.heap[gb415]? = some (.cells #[.int .i64 t408,.int .i64 t409,(.slice Ao14 t410.length co14)] 24 (0,0))) ∧ Aside0 (Below w.heap.size w wc))
  case first =>
   have H:=HC5.out;clear HC5;replace H:=ob_.mp H;obtain ⟨t416,A150,H⟩:=H;replace H : (if t416 = true then (if t413 = t405 then (laws_FnExactReadLog.j0 k a0 t405 t406 (t414 != t406) t400 t401 t402 t408 t409 t410) else (laws_FnExactReadLog.j0 k a0 t405 t406 true t400 t401 t402 t408 t409 t410)) else (laws_FnExactReadLog.j0 k a0 t405 t406 true t400 t401 t402 t408 t409 t410)) = some r:=H;have A15:=A_ A150;clear A150
   by_cases c16 : t416 = true
   ·subst c16
    have H1 : (if t413 = t405 then (laws_FnExactReadLog.j0 k a0 t405 t406 (t414 != t406) t400 t401 t402 t408 t409 t410) else (laws_FnExactReadLog.j0 k a0 t405 t406 true t400 t401 t402 t408 t409 t410)) = some r:=by rw [if_pos rfl] at H;exact H
    clear H;have H:=H1;clear H1
    by_cases c17 : t413 = t405
    ·rw [if_pos c17] at H;have c17b0 : (t413 == t405) = true:=beq_iff_eq.mpr c17;have c17b1 : (t413 != t405) = false:=bne_eq_false_iff_eq.mpr c17;clear c17
     (first|rw [c17b0]|(simp only [i64_w,i32_w];rw [c17b0])|skip)
     have H':=A_ H;clear H;have hnb18:=NB415_407.out;have hnc18:=NB407_415.out;have hcz19_0 : w11.cell? ⟨gb415,0,none⟩ = some (.int .i64 0):=(kc_ BK415.out 0).trans rfl;have hcz19_1 : w11.cell? ⟨gb415,1,none⟩ = some (.int .i64 0):=(kc_ BK415.out 1).trans rfl;have hcz19_2 : w11.cell? ⟨gb415,2,none⟩ = some (.slice none 0 0):=(kc_ BK415.out 2).trans rfl;have hfz19_0:=kf_ BK415.out 0;have hfz19_1:=kf_ BK415.out 1;have hfz19_2:=kf_ BK415.out 2;have hcz20_0 : w11.cell? ⟨gb407,0,none⟩ = some (.int .i64 t400):=(kc_ BK407.out 0).trans rfl;have hcz20_1 : w11.cell? ⟨gb407,1,none⟩ = some (.int .i64 t401):=(kc_ BK407.out 1).trans rfl;have hcz20_2 : w11.cell? ⟨gb407,2,none⟩ = some (.slice Ao9 t402.length co9):=(kc_ BK407.out 2).trans rfl;have hfz20_0:=kf_ BK407.out 0;have hfz20_1:=kf_ BK407.out 1;have hfz20_2:=kf_ BK407.out 2
     go_wp2_with (first|((with_reducible refine gate_callee (f:=10) rfl ?_);refine goesL_ (some 31) rfl rfl Try.func10 (by kernel_rfl) rfl #[.agg #[.int .i64 t408,.int .i64 t409,.slice Ao14 t410.length co14],.agg #[.int .i64 t400,.int .i64 t401,.slice Ao9 t402.length co9]] rfl (by (try simp only [s4_,s5_,s6_]);first|done|rfl|(simp only [List.length_drop,List.length_take];rfl)) ?_;(with_reducible refine (laws_eqLog.calls k t408 t409 _ _ t410 t400 t401 _ _ t402 true _ ?side1 ?side2 ?side3 ?side4 A15.out).mono ?_);(case side1 => refine (Kd.R_reads' (e:=69) (base:=w.heap.size) (ok:=fun k_ => (True ∧ some k_ ≠ (.slice Ao9 t402.length co9 : Value).ownBlock)) (n:=t410.length) (c:=co14) ?_).2.2;exact (by (with_reducible repeat (first|apply ra_|apply rn_|apply Rd_));exact (rm_ (rf_ (p:=⟨gb415,2,none⟩) (rf_ (p:=⟨gb415,1,none⟩) (rf_ (p:=⟨gb415,0,none⟩) (Kd.R_types HO412.out BK415.out (by decide)) (fun _ hk => hk.2) (.int .i64 t408)) (fun _ hk => hk.2) (.int .i64 t409)) (fun _ hk => hk.2) (.slice Ao14 t410.length co14)) (fun _ h_ => h_.1))));(case side2 => exact (Kd.R_reads' HO412.out).2.1);(case side3 => refine (Kd.R_reads' (e:=69) (base:=w.heap.size) (ok:=fun k_ => (True ∧ some k_ ≠ (.slice Ao14 t410.length co14 : Value).ownBlock)) (n:=t402.length) (c:=co9) ?_).2.2;exact (by (with_reducible repeat (first|apply ra_|apply rn_|apply Rd_));exact (rm_ (rf_ (p:=⟨gb415,2,none⟩) (rf_ (p:=⟨gb415,1,none⟩) (rf_ (p:=⟨gb415,0,none⟩) (Kd.R_types HO404.out BK415.out (by decide)) (fun _ hk => hk.2) (.int .i64 t408)) (fun _ hk => hk.2) (.int .i64 t409)) (fun _ hk => hk.2) (.slice Ao14 t410.length co14)) (fun _ h_ => h_.1))));(case side4 => exact (Kd.R_reads' HO404.out).2.1);rintro e w21 ⟨rfl,hb⟩;refine ⟨_,rfl,?_⟩;replace HO404:=A_ (rb_ (by (with_reducible repeat (first|apply ra_|apply rn_|apply Rd_));exact (rm_ (rf_ (p:=⟨gb415,2,none⟩) (rf_ (p:=⟨gb415,1,none⟩) (rf_ (p:=⟨gb415,0,none⟩) (Kd.R_types HO404.out BK415.out (by decide)) (fun _ hk => hk.2) (.int .i64 t408)) (fun _ hk => hk.2) (.int .i64 t409)) (fun _ hk => hk.2) (.slice Ao14 t410.length co14)) (fun _ h_ => h_.1))) hb);replace HO412:=A_ (rb_ (by (with_reducible repeat (first|apply ra_|apply rn_|apply Rd_));exact (rm_ (rf_ (p:=⟨gb415,2,none⟩) (rf_ (p:=⟨gb415,1,none⟩) (rf_ (p:=⟨gb415,0,none⟩) (Kd.R_types HO412.out BK415.out (by decide)) (fun _ hk => hk.2) (.int .i64 t408)) (fun _ hk => hk.2) (.int .i64 t409)) (fun _ hk => hk.2) (.slice Ao14 t410.length co14)) (fun _ h_ => h_.1))) hb);replace BK407:=A_ (kb_ (g:=gb407) (o:=.cells #[.int .i64 t400,.int .i64 t401,.slice Ao9 t402.length co9] 24 (0,0)) (by (with_reducible repeat (first|refine kn_ ?_ _|refine kd_ ?_|refine ka_ ?_ _));refine kr_ ?_ NB407_415.out _;(with_reducible repeat (first|refine kn_ ?_ _|refine kd_ ?_|refine ka_ ?_ _));refine kr_ ?_ NB407_415.out _;(with_reducible repeat (first|refine kn_ ?_ _|refine kd_ ?_|refine ka_ ?_ _));refine kr_ ?_ NB407_415.out _;(with_reducible repeat (first|refine kn_ ?_ _|refine kd_ ?_|refine ka_ ?_ _));exact BK407.out) hb);replace BK415:=A_ (kb_ (g:=gb415) (o:=.cells #[.int .i64 t408,.int .i64 t409,.slice Ao14 t410.length co14] 24 (0,0)) (by (with_reducible repeat (first|refine kn_ ?_ _|refine kd_ ?_|refine ka_ ?_ _));refine ku_ (cs:=#[.int .i64 t408,.int .i64 t409,.slice none 0 0]) ?_ 2 _ rfl;(with_reducible repeat (first|refine kn_ ?_ _|refine kd_ ?_|refine ka_ ?_ _));refine ku_ (cs:=#[.int .i64 t408,.int .i64 0,.slice none 0 0]) ?_ 1 _ rfl;(with_reducible repeat (first|refine kn_ ?_ _|refine kd_ ?_|refine ka_ ?_ _));refine ku_ (cs:=#[.int .i64 0,.int .i64 0,.slice none 0 0]) ?_ 0 _ rfl;(with_reducible repeat (first|refine kn_ ?_ _|refine kd_ ?_|refine ka_ ?_ _));exact BK415.out) hb);replace HB:=A_ (bs_ (by repeat (first|(with_reducible first|exact HB.out|apply pa_|apply pn_|apply pd_|refine ps_ ?_ GE407.out|refine ps_ ?_ GE415.out)|exact HB.out)) hb);(try clear hb);(try clear hb2);(try clear hk);(try clear hi)))
     go_meet
     case rel => exact ⟨_,((t414 != t406)),(by first|rfl|(simp;done)|(simp [*];done)),H',⟨by first|omega|exact Nat.le_refl _⟩,⟨by (with_reducible repeat (first|apply ra_|apply rn_|apply Rd_));exact rm_ HO404.out (fun _ hk => hk.2)⟩,⟨by (with_reducible repeat (first|apply ra_|apply rn_|apply Rd_));exact rm_ HO412.out (fun _ hk => hk.2)⟩,⟨by (with_reducible repeat (first|refine kn_ ?_ _|refine kd_ ?_|refine ka_ ?_ _));exact BK407.out⟩,⟨by (with_reducible repeat (first|refine kn_ ?_ _|refine kd_ ?_|refine ka_ ?_ _));exact BK415.out⟩,⟨by repeat (first|(with_reducible first|exact HB.out|apply pa_|apply pn_|apply pd_|refine ps_ ?_ GE407.out|refine ps_ ?_ GE415.out)|exact HB.out)⟩⟩
    ·rw [if_neg c17] at H;have c17b0 : (t413 == t405) = false:=beq_eq_false_iff_ne.mpr c17;have c17b1 : (t413 != t405) = true:=bne_iff_ne.mpr c17
     (first|rw [c17b0]|(simp only [i64_w,i32_w];rw [c17b0])|skip)
     have H':=A_ H;clear H;have hnb22:=NB415_407.out;have hnc22:=NB407_415.out;have hcz23_0 : w11.cell? ⟨gb415,0,none⟩ = some (.int .i64 0):=(kc_ BK415.out 0).trans rfl;have hcz23_1 : w11.cell? ⟨gb415,1,none⟩ = some (.int .i64 0):=(kc_ BK415.out 1).trans rfl;have hcz23_2 : w11.cell? ⟨gb415,2,none⟩ = some (.slice none 0 0):=(kc_ BK415.out 2).trans rfl;have hfz23_0:=kf_ BK415.out 0;have hfz23_1:=kf_ BK415.out 1;have hfz23_2:=kf_ BK415.out 2;have hcz24_0 : w11.cell? ⟨gb407,0,none⟩ = some (.int .i64 t400):=(kc_ BK407.out 0).trans rfl;have hcz24_1 : w11.cell? ⟨gb407,1,none⟩ = some (.int .i64 t401):=(kc_ BK407.out 1).trans rfl;have hcz24_2 : w11.cell? ⟨gb407,2,none⟩ = some (.slice Ao9 t402.length co9):=(kc_ BK407.out 2).trans rfl;have hfz24_0:=kf_ BK407.out 0;have hfz24_1:=kf_ BK407.out 1;have hfz24_2:=kf_ BK407.out 2
     go_wp2_with (first|((with_reducible refine gate_callee (f:=10) rfl ?_);refine goesL_ (some 31) rfl rfl Try.func10 (by kernel_rfl) rfl #[.agg #[.int .i64 t408,.int .i64 t409,.slice Ao14 t410.length co14],.agg #[.int .i64 t400,.int .i64 t401,.slice Ao9 t402.length co9]] rfl (by (try simp only [s4_,s5_,s6_]);first|done|rfl|(simp only [List.length_drop,List.length_take];rfl)) ?_;(with_reducible refine (laws_eqLog.calls k t408 t409 _ _ t410 t400 t401 _ _ t402 true _ ?side1 ?side2 ?side3 ?side4 A15.out).mono ?_);(case side1 => refine (Kd.R_reads' (e:=69) (base:=w.heap.size) (ok:=fun k_ => (True ∧ some k_ ≠ (.slice Ao9 t402.length co9 : Value).ownBlock)) (n:=t410.length) (c:=co14) ?_).2.2;exact (by (with_reducible repeat (first|apply ra_|apply rn_|apply Rd_));exact (rm_ (rf_ (p:=⟨gb415,2,none⟩) (rf_ (p:=⟨gb415,1,none⟩) (rf_ (p:=⟨gb415,0,none⟩) (Kd.R_types HO412.out BK415.out (by decide)) (fun _ hk => hk.2) (.int .i64 t408)) (fun _ hk => hk.2) (.int .i64 t409)) (fun _ hk => hk.2) (.slice Ao14 t410.length co14)) (fun _ h_ => h_.1))));(case side2 => exact (Kd.R_reads' HO412.out).2.1);(case side3 => refine (Kd.R_reads' (e:=69) (base:=w.heap.size) (ok:=fun k_ => (True ∧ some k_ ≠ (.slice Ao14 t410.length co14 : Value).ownBlock)) (n:=t402.length) (c:=co9) ?_).2.2;exact (by (with_reducible repeat (first|apply ra_|apply rn_|apply Rd_));exact (rm_ (rf_ (p:=⟨gb415,2,none⟩) (rf_ (p:=⟨gb415,1,none⟩) (rf_ (p:=⟨gb415,0,none⟩) (Kd.R_types HO404.out BK415.out (by decide)) (fun _ hk => hk.2) (.int .i64 t408)) (fun _ hk => hk.2) (.int .i64 t409)) (fun _ hk => hk.2) (.slice Ao14 t410.length co14)) (fun _ h_ => h_.1))));(case side4 => exact (Kd.R_reads' HO404.out).2.1);rintro e w25 ⟨rfl,hb⟩;refine ⟨_,rfl,?_⟩;replace HO404:=A_ (rb_ (by (with_reducible repeat (first|apply ra_|apply rn_|apply Rd_));exact (rm_ (rf_ (p:=⟨gb415,2,none⟩) (rf_ (p:=⟨gb415,1,none⟩) (rf_ (p:=⟨gb415,0,none⟩) (Kd.R_types HO404.out BK415.out (by decide)) (fun _ hk => hk.2) (.int .i64 t408)) (fun _ hk => hk.2) (.int .i64 t409)) (fun _ hk => hk.2) (.slice Ao14 t410.length co14)) (fun _ h_ => h_.1))) hb);replace HO412:=A_ (rb_ (by (with_reducible repeat (first|apply ra_|apply rn_|apply Rd_));exact (rm_ (rf_ (p:=⟨gb415,2,none⟩) (rf_ (p:=⟨gb415,1,none⟩) (rf_ (p:=⟨gb415,0,none⟩) (Kd.R_types HO412.out BK415.out (by decide)) (fun _ hk => hk.2) (.int .i64 t408)) (fun _ hk => hk.2) (.int .i64 t409)) (fun _ hk => hk.2) (.slice Ao14 t410.length co14)) (fun _ h_ => h_.1))) hb);replace BK407:=A_ (kb_ (g:=gb407) (o:=.cells #[.int .i64 t400,.int .i64 t401,.slice Ao9 t402.length co9] 24 (0,0)) (by (with_reducible repeat (first|refine kn_ ?_ _|refine kd_ ?_|refine ka_ ?_ _));refine kr_ ?_ NB407_415.out _;(with_reducible repeat (first|refine kn_ ?_ _|refine kd_ ?_|refine ka_ ?_ _));refine kr_ ?_ NB407_415.out _;(with_reducible repeat (first|refine kn_ ?_ _|refine kd_ ?_|refine ka_ ?_ _));refine kr_ ?_ NB407_415.out _;(with_reducible repeat (first|refine kn_ ?_ _|refine kd_ ?_|refine ka_ ?_ _));exact BK407.out) hb);replace BK415:=A_ (kb_ (g:=gb415) (o:=.cells #[.int .i64 t408,.int .i64 t409,.slice Ao14 t410.length co14] 24 (0,0)) (by (with_reducible repeat (first|refine kn_ ?_ _|refine kd_ ?_|refine ka_ ?_ _));refine ku_ (cs:=#[.int .i64 t408,.int .i64 t409,.slice none 0 0]) ?_ 2 _ rfl;(with_reducible repeat (first|refine kn_ ?_ _|refine kd_ ?_|refine ka_ ?_ _));refine ku_ (cs:=#[.int .i64 t408,.int .i64 0,.slice none 0 0]) ?_ 1 _ rfl;(with_reducible repeat (first|refine kn_ ?_ _|refine kd_ ?_|refine ka_ ?_ _));refine ku_ (cs:=#[.int .i64 0,.int .i64 0,.slice none 0 0]) ?_ 0 _ rfl;(with_reducible repeat (first|refine kn_ ?_ _|refine kd_ ?_|refine ka_ ?_ _));exact BK415.out) hb);replace HB:=A_ (bs_ (by repeat (first|(with_reducible first|exact HB.out|apply pa_|apply pn_|apply pd_|refine ps_ ?_ GE407.out|refine ps_ ?_ GE415.out)|exact HB.out)) hb);(try clear hb);(try clear hb2);(try clear hk);(try clear hi)))
     go_meet
     case rel => exact ⟨_,(true),(by first|rfl|(simp;done)|(simp [*];done)),H',⟨by first|omega|exact Nat.le_refl _⟩,⟨by (with_reducible repeat (first|apply ra_|apply rn_|apply Rd_));exact rm_ HO404.out (fun _ hk => hk.2)⟩,⟨by (with_reducible repeat (first|apply ra_|apply rn_|apply Rd_));exact rm_ HO412.out (fun _ hk => hk.2)⟩,⟨by (with_reducible repeat (first|refine kn_ ?_ _|refine kd_ ?_|refine ka_ ?_ _));exact BK407.out⟩,⟨by (with_reducible repeat (first|refine kn_ ?_ _|refine kd_ ?_|refine ka_ ?_ _));exact BK415.out⟩,⟨by repeat (first|(with_reducible first|exact HB.out|apply pa_|apply pn_|apply pd_|refine ps_ ?_ GE407.out|refine ps_ ?_ GE415.out)|exact HB.out)⟩⟩
   ·replace c16:=Bool.eq_false_iff.mpr c16;subst c16
    have H1 : (laws_FnExactReadLog.j0 k a0 t405 t406 true t400 t401 t402 t408 t409 t410) = some r:=by rw [if_neg (show ¬ (false = true) by decide)] at H;exact H
    clear H;have H:=H1;clear H1;have H':=A_ H;clear H;have hnb26:=NB415_407.out;have hnc26:=NB407_415.out;have hcz27_0 : w11.cell? ⟨gb415,0,none⟩ = some (.int .i64 0):=(kc_ BK415.out 0).trans rfl;have hcz27_1 : w11.cell? ⟨gb415,1,none⟩ = some (.int .i64 0):=(kc_ BK415.out 1).trans rfl;have hcz27_2 : w11.cell? ⟨gb415,2,none⟩ = some (.slice none 0 0):=(kc_ BK415.out 2).trans rfl;have hfz27_0:=kf_ BK415.out 0;have hfz27_1:=kf_ BK415.out 1;have hfz27_2:=kf_ BK415.out 2;have hcz28_0 : w11.cell? ⟨gb407,0,none⟩ = some (.int .i64 t400):=(kc_ BK407.out 0).trans rfl;have hcz28_1 : w11.cell? ⟨gb407,1,none⟩ = some (.int .i64 t401):=(kc_ BK407.out 1).trans rfl;have hcz28_2 : w11.cell? ⟨gb407,2,none⟩ = some (.slice Ao9 t402.length co9):=(kc_ BK407.out 2).trans rfl;have hfz28_0:=kf_ BK407.out 0;have hfz28_1:=kf_ BK407.out 1;have hfz28_2:=kf_ BK407.out 2
    go_wp2_with (first|((with_reducible refine gate_callee (f:=10) rfl ?_);refine goesL_ (some 31) rfl rfl Try.func10 (by kernel_rfl) rfl #[.agg #[.int .i64 t408,.int .i64 t409,.slice Ao14 t410.length co14],.agg #[.int .i64 t400,.int .i64 t401,.slice Ao9 t402.length co9]] rfl (by (try simp only [s4_,s5_,s6_]);first|done|rfl|(simp only [List.length_drop,List.length_take];rfl)) ?_;(with_reducible refine (laws_eqLog.calls k t408 t409 _ _ t410 t400 t401 _ _ t402 false _ ?side1 ?side2 ?side3 ?side4 A15.out).mono ?_);(case side1 => refine (Kd.R_reads' (e:=69) (base:=w.heap.size) (ok:=fun k_ => (True ∧ some k_ ≠ (.slice Ao9 t402.length co9 : Value).ownBlock)) (n:=t410.length) (c:=co14) ?_).2.2;exact (by (with_reducible repeat (first|apply ra_|apply rn_|apply Rd_));exact (rm_ (rf_ (p:=⟨gb415,2,none⟩) (rf_ (p:=⟨gb415,1,none⟩) (rf_ (p:=⟨gb415,0,none⟩) (Kd.R_types HO412.out BK415.out (by decide)) (fun _ hk => hk.2) (.int .i64 t408)) (fun _ hk => hk.2) (.int .i64 t409)) (fun _ hk => hk.2) (.slice Ao14 t410.length co14)) (fun _ h_ => h_.1))));(case side2 => exact (Kd.R_reads' HO412.out).2.1);(case side3 => refine (Kd.R_reads' (e:=69) (base:=w.heap.size) (ok:=fun k_ => (True ∧ some k_ ≠ (.slice Ao14 t410.length co14 : Value).ownBlock)) (n:=t402.length) (c:=co9) ?_).2.2;exact (by (with_reducible repeat (first|apply ra_|apply rn_|apply Rd_));exact (rm_ (rf_ (p:=⟨gb415,2,none⟩) (rf_ (p:=⟨gb415,1,none⟩) (rf_ (p:=⟨gb415,0,none⟩) (Kd.R_types HO404.out BK415.out (by decide)) (fun _ hk => hk.2) (.int .i64 t408)) (fun _ hk => hk.2) (.int .i64 t409)) (fun _ hk => hk.2) (.slice Ao14 t410.length co14)) (fun _ h_ => h_.1))));(case side4 => exact (Kd.R_reads' HO404.out).2.1);rintro e w29 ⟨rfl,hb⟩;refine ⟨_,rfl,?_⟩;replace HO404:=A_ (rb_ (by (with_reducible repeat (first|apply ra_|apply rn_|apply Rd_));exact (rm_ (rf_ (p:=⟨gb415,2,none⟩) (rf_ (p:=⟨gb415,1,none⟩) (rf_ (p:=⟨gb415,0,none⟩) (Kd.R_types HO404.out BK415.out (by decide)) (fun _ hk => hk.2) (.int .i64 t408)) (fun _ hk => hk.2) (.int .i64 t409)) (fun _ hk => hk.2) (.slice Ao14 t410.length co14)) (fun _ h_ => h_.1))) hb);replace HO412:=A_ (rb_ (by (with_reducible repeat (first|apply ra_|apply rn_|apply Rd_));exact (rm_ (rf_ (p:=⟨gb415,2,none⟩) (rf_ (p:=⟨gb415,1,none⟩) (rf_ (p:=⟨gb415,0,none⟩) (Kd.R_types HO412.out BK415.out (by decide)) (fun _ hk => hk.2) (.int .i64 t408)) (fun _ hk => hk.2) (.int .i64 t409)) (fun _ hk => hk.2) (.slice Ao14 t410.length co14)) (fun _ h_ => h_.1))) hb);replace BK407:=A_ (kb_ (g:=gb407) (o:=.cells #[.int .i64 t400,.int .i64 t401,.slice Ao9 t402.length co9] 24 (0,0)) (by (with_reducible repeat (first|refine kn_ ?_ _|refine kd_ ?_|refine ka_ ?_ _));refine kr_ ?_ NB407_415.out _;(with_reducible repeat (first|refine kn_ ?_ _|refine kd_ ?_|refine ka_ ?_ _));refine kr_ ?_ NB407_415.out _;(with_reducible repeat (first|refine kn_ ?_ _|refine kd_ ?_|refine ka_ ?_ _));refine kr_ ?_ NB407_415.out _;(with_reducible repeat (first|refine kn_ ?_ _|refine kd_ ?_|refine ka_ ?_ _));exact BK407.out) hb);replace BK415:=A_ (kb_ (g:=gb415) (o:=.cells #[.int .i64 t408,.int .i64 t409,.slice Ao14 t410.length co14] 24 (0,0)) (by (with_reducible repeat (first|refine kn_ ?_ _|refine kd_ ?_|refine ka_ ?_ _));refine ku_ (cs:=#[.int .i64 t408,.int .i64 t409,.slice none 0 0]) ?_ 2 _ rfl;(with_reducible repeat (first|refine kn_ ?_ _|refine kd_ ?_|refine ka_ ?_ _));refine ku_ (cs:=#[.int .i64 t408,.int .i64 0,.slice none 0 0]) ?_ 1 _ rfl;(with_reducible repeat (first|refine kn_ ?_ _|refine kd_ ?_|refine ka_ ?_ _));refine ku_ (cs:=#[.int .i64 0,.int .i64 0,.slice none 0 0]) ?_ 0 _ rfl;(with_reducible repeat (first|refine kn_ ?_ _|refine kd_ ?_|refine ka_ ?_ _));exact BK415.out) hb);replace HB:=A_ (bs_ (by repeat (first|(with_reducible first|exact HB.out|apply pa_|apply pn_|apply pd_|refine ps_ ?_ GE407.out|refine ps_ ?_ GE415.out)|exact HB.out)) hb);(try clear hb);(try clear hb2);(try clear hk);(try clear hi)))
    go_meet
    case rel => exact ⟨_,(true),(by first|rfl|(simp;done)|(simp [*];done)),H',⟨by first|omega|exact Nat.le_refl _⟩,⟨by (with_reducible repeat (first|apply ra_|apply rn_|apply Rd_));exact rm_ HO404.out (fun _ hk => hk.2)⟩,⟨by (with_reducible repeat (first|apply ra_|apply rn_|apply Rd_));exact rm_ HO412.out (fun _ hk => hk.2)⟩,⟨by (with_reducible repeat (first|refine kn_ ?_ _|refine kd_ ?_|refine ka_ ?_ _));exact BK407.out⟩,⟨by (with_reducible repeat (first|refine kn_ ?_ _|refine kd_ ?_|refine ka_ ?_ _));exact BK415.out⟩,⟨by repeat (first|(with_reducible first|exact HB.out|apply pa_|apply pn_|apply pd_|refine ps_ ?_ GE407.out|refine ps_ ?_ GE415.out)|exact HB.out)⟩⟩
  case rest =>
   clear HC5
   try clear c1
   try clear c2
   try clear c2b0
   try clear c2b1
   try clear p2
   try clear c3
   try clear c8
   try clear c9
   try clear c10
   try clear c12
   try clear c16
   try clear c17
   try clear c17b0
   try clear c17b1
   try clear c18
   try clear c22
   try clear c26
   try clear hcz13_0
   try clear hcz13_1
   try clear hcz13_2
   try clear hcz19_0
   try clear hcz19_1
   try clear hcz19_2
   try clear hcz20_0
   try clear hcz20_1
   try clear hcz20_2
   try clear hcz23_0
   try clear hcz23_1
   try clear hcz23_2
   try clear hcz24_0
   try clear hcz24_1
   try clear hcz24_2
   try clear hcz27_0
   try clear hcz27_1
   try clear hcz27_2
   try clear hcz28_0
   try clear hcz28_1
   try clear hcz28_2
   try clear hcz8_0
   try clear hcz8_1
   try clear hcz8_2
   try clear hfz13_0
   try clear hfz13_1
   try clear hfz13_2
   try clear hfz19_0
   try clear hfz19_1
   try clear hfz19_2
   try clear hfz20_0
   try clear hfz20_1
   try clear hfz20_2
   try clear hfz23_0
   try clear hfz23_1
   try clear hfz23_2
   try clear hfz24_0
   try clear hfz24_1
   try clear hfz24_2
   try clear hfz27_0
   try clear hfz27_1
   try clear hfz27_2
   try clear hfz28_0
   try clear hfz28_1
   try clear hfz28_2
   try clear hfz8_0
   try clear hfz8_1
   try clear hfz8_2
   obtain ⟨kq,x42_4,rfl,HA,HJ4,HO_408002,HO_416002,BK407,BK415,HB⟩:=hcut
   cases kq with
   | zero => exact absurd HA.out (by simp [laws_FnExactReadLog.j0])
   | succ kj4 =>
    have H:=HA.out;clear HA;simp only [laws_FnExactReadLog.j0] at H
    by_cases c30 : x42_4 = true
    ·subst c30
     have H1 : (some false) = some r:=by rw [if_pos rfl] at H;exact H
     clear H;have H:=H1;clear H1;obtain rfl:=Option.some.inj H
     cases hr1_
    ·replace c30:=Bool.eq_false_iff.mpr c30;subst c30
     have H1 : ((laws_markLog.f kj4 t408 t409 t410 1).bind fun bt417 => ((laws_heldLog.f kj4 t408 t409 bt417.2 1).bind fun t419 => (if t419 < 0 then (some false) else (if t419 = bt417.1 then ((impl_ReadLog.f kj4 a0).bind fun bt420 => ((laws_eqLog.f kj4 bt420.1 bt420.2.1 bt420.2.2.1 t400 t401 t402).bind fun t428 => (if t428 = true then (if bt420.2.2.2.1 = t405 then (laws_FnExactReadLog.j1 kj4 bt417.1 (bt420.2.2.2.2 != t406) t408 t409 bt417.2) else (laws_FnExactReadLog.j1 kj4 bt417.1 true t408 t409 bt417.2)) else (laws_FnExactReadLog.j1 kj4 bt417.1 true t408 t409 bt417.2)))) else (some false))))) = some r:=by rw [if_neg (show ¬ (false = true) by decide)] at H;exact H
     clear H;have H:=H1;clear H1;replace H:=ob_.mp H;obtain ⟨⟨t417,t418⟩,A310,H⟩:=H;replace H : ((laws_heldLog.f kj4 t408 t409 t418 1).bind fun t419 => (if t419 < 0 then (some false) else (if t419 = t417 then ((impl_ReadLog.f kj4 a0).bind fun bt420 => ((laws_eqLog.f kj4 bt420.1 bt420.2.1 bt420.2.2.1 t400 t401 t402).bind fun t428 => (if t428 = true then (if bt420.2.2.2.1 = t405 then (laws_FnExactReadLog.j1 kj4 t417 (bt420.2.2.2.2 != t406) t408 t409 t418) else (laws_FnExactReadLog.j1 kj4 t417 true t408 t409 t418)) else (laws_FnExactReadLog.j1 kj4 t417 true t408 t409 t418)))) else (some false)))) = some r:=H;have A31:=A_ A310;clear A310;replace H:=ob_.mp H;obtain ⟨t419,A320,H⟩:=H;replace H : (if t419 < 0 then (some false) else (if t419 = t417 then ((impl_ReadLog.f kj4 a0).bind fun bt420 => ((laws_eqLog.f kj4 bt420.1 bt420.2.1 bt420.2.2.1 t400 t401 t402).bind fun t428 => (if t428 = true then (if bt420.2.2.2.1 = t405 then (laws_FnExactReadLog.j1 kj4 t417 (bt420.2.2.2.2 != t406) t408 t409 t418) else (laws_FnExactReadLog.j1 kj4 t417 true t408 t409 t418)) else (laws_FnExactReadLog.j1 kj4 t417 true t408 t409 t418)))) else (some false))) = some r:=H;have A32:=A_ A320;clear A320
     by_cases c33 : t419 < 0
     ·rw [if_pos c33] at H;have c33b0 : decide (t419 < 0) = true:=de_ c33;clear c33;obtain rfl:=Option.some.inj H
      cases hr1_
     ·rw [if_neg c33] at H;have c33b0 : decide (t419 < 0) = false:=decide_eq_false c33;clear c33
      by_cases c39 : t419 = t417
      ·rw [if_pos c39] at H;have c39b0 : (t419 == t417) = true:=beq_iff_eq.mpr c39;have c39b1 : (t419 != t417) = false:=bne_eq_false_iff_eq.mpr c39;clear c39;replace H:=ob_.mp H;obtain ⟨⟨t420,t421,t422,t425,t426⟩,A400,H⟩:=H;replace H : ((laws_eqLog.f kj4 t420 t421 t422 t400 t401 t402).bind fun t428 => (if t428 = true then (if t425 = t405 then (laws_FnExactReadLog.j1 kj4 t417 (t426 != t406) t408 t409 t418) else (laws_FnExactReadLog.j1 kj4 t417 true t408 t409 t418)) else (laws_FnExactReadLog.j1 kj4 t417 true t408 t409 t418))) = some r:=H;have A40:=A_ A400;clear A400;have HC41:=A_ H;clear H;have hnb42:=NB415_407.out;have hnc42:=NB407_415.out;have hcz43_0 : wc.cell? ⟨gb415,0,none⟩ = some (.int .i64 t408):=(kc_ BK415.out 0).trans rfl;have hcz43_1 : wc.cell? ⟨gb415,1,none⟩ = some (.int .i64 t409):=(kc_ BK415.out 1).trans rfl;have hcz43_2 : wc.cell? ⟨gb415,2,none⟩ = some (.slice Ao14 t410.length co14):=(kc_ BK415.out 2).trans rfl;have hfz43_0:=kf_ BK415.out 0;have hfz43_1:=kf_ BK415.out 1;have hfz43_2:=kf_ BK415.out 2
       go_upto_region 16 with (first|((with_reducible refine gate_callee (f:=11) rfl ?_);refine goesL_ (some 45) rfl rfl Try.func11 (by kernel_rfl) rfl #[.agg #[.int .i64 t408,.int .i64 t409,.slice Ao14 t410.length co14],.int .i64 1] rfl (by (try simp only [s4_,s5_,s6_]);first|done|rfl|(simp only [List.length_drop,List.length_take];rfl)) ?_;(with_reducible refine (laws_markLog.calls kj4 t408 t409 (fun k_ => some k_ = (.slice Ao14 t410.length co14 : Value).ownBlock) (.slice Ao14 t410.length co14) t410 1 t417 t418 w _ ?side1 ?side2 A31.out).mono ?_);(case side1 => repeat (first|(with_reducible first|exact HB.out|apply pa_|apply pn_|apply pd_|refine ps_ ?_ GE407.out|refine ps_ ?_ GE415.out)|exact HB.out));(case side2 => exact Kd.R_tight rfl HO_416002.out);rintro e w44 ⟨rfl,hy0,hb,hkp⟩;refine ⟨_,rfl,?_⟩;replace HO_408002:=A_ (rm_ (ok':=fun k_ => some k_ ≠ (.slice Ao14 t410.length co14 : Value).ownBlock) (Kd.R_keptB (HO_408002.out) hkp (fun k_ hk_ hs_ => (hk_) hs_)) (fun k_ hk_ => hk_.1));replace BK407:=A_ (blk_kept (by (with_reducible repeat (first|refine kn_ ?_ _|refine kd_ ?_|refine ka_ ?_ _));exact BK407.out) hkp (fun hs_ => (fun e_ => (re_ HO_416002.out BK407.out (by decide)) e_) hs_));replace BK415:=A_ (blk_kept (by (with_reducible repeat (first|refine kn_ ?_ _|refine kd_ ?_|refine ka_ ?_ _));exact BK415.out) hkp (fun hs_ => (fun e_ => (re_ HO_416002.out BK415.out (by decide)) e_) hs_));replace HO_416002:=A_ (Kd.R_reok rfl hy0 (fun k_ e_ => HO_416002.out.1 k_ e_));replace HB:=A_ (hb);(try clear hb);(try clear hkp);(try clear hy0);have hcz45_0 : w44.cell? ⟨gb415,0,none⟩ = some (.int .i64 t408):=(kc_ BK415.out 0).trans rfl;have hcz45_1 : w44.cell? ⟨gb415,1,none⟩ = some (.int .i64 t409):=(kc_ BK415.out 1).trans rfl;have hcz45_2 : w44.cell? ⟨gb415,2,none⟩ = some (.slice Ao14 t410.length co14):=(kc_ BK415.out 2).trans rfl;have hfz45_0:=kf_ BK415.out 0;have hfz45_1:=kf_ BK415.out 1;have hfz45_2:=kf_ BK415.out 2)|((with_reducible refine gate_callee (f:=12) rfl ?_);refine goesL_ (some 48) rfl rfl Try.func12 (by kernel_rfl) rfl #[.agg #[.int .i64 t408,.int .i64 t409,.slice Ao14 t418.length co14],.int .i64 1] rfl (by (try simp only [s4_,s5_,s6_]);first|done|(rw [show t418.length = t410.length from (Kd.R_reads' HO_416002.out).1.symm] <;> rfl)|rfl|(simp only [List.length_drop,List.length_take];rfl)) ?_;(with_reducible refine (laws_heldLog.calls kj4 t408 t409 _ _ t418 1 t419 _ ?side1 ?side2 A32.out).mono ?_);(case side1 => repeat (first|exact (Kd.R_reads' HO_416002.out).2.2|(with_reducible refine Kd.C_alloc ?_ _)|(with_reducible refine Kd.C_drewN ?_ _)|(with_reducible refine Kd.C_drew ?_)));(case side2 => rw [show t418.length = t410.length from (Kd.R_reads' HO_416002.out).1.symm];exact (Kd.R_reads' HO_416002.out).2.1);rintro e w46 ⟨rfl,hb⟩;refine ⟨_,rfl,?_⟩;replace HO_408002:=A_ (rb_ (by (with_reducible repeat (first|apply ra_|apply rn_|apply Rd_));exact HO_408002.out) hb);replace HO_416002:=A_ (rb_ (by (with_reducible repeat (first|apply ra_|apply rn_|apply Rd_));exact HO_416002.out) hb);replace BK407:=A_ (kb_ (by (with_reducible repeat (first|refine kn_ ?_ _|refine kd_ ?_|refine ka_ ?_ _));exact BK407.out) hb);replace BK415:=A_ (kb_ (by (with_reducible repeat (first|refine kn_ ?_ _|refine kd_ ?_|refine ka_ ?_ _));exact BK415.out) hb);replace HB:=A_ (bs_ (by repeat (first|(with_reducible first|exact HB.out|apply pa_|apply pn_|apply pd_|refine ps_ ?_ GE407.out|refine ps_ ?_ GE415.out)|exact HB.out)) hb);(try clear hb);(try clear hb2);(try clear hk);(try clear hi))|((with_reducible refine gate_callee (f:=9) rfl ?_);refine goesL_ (some 56) rfl rfl Try.func9 (by kernel_rfl) rfl #[.string a0] rfl (by (try simp only [s4_,s5_,s6_]);first|done|rfl|(simp only [List.length_drop,List.length_take];rfl)) ?_;(with_reducible refine (impl_ReadLog.calls kj4 a0 t420 t421 t422 t425 t426 _ A40.out).mono ?_);rintro e w47 ⟨v423,rfl,ho0,hb⟩;refine ⟨_,rfl,?_⟩;have HO424:=A_ (rw_ (Kd.R_new' (Kd.R_new' ho0 (Kd.R_lt (by (with_reducible repeat (first|apply ra_|apply rn_|apply Rd_));exact HO_408002.out))) (Kd.R_lt (by (with_reducible repeat (first|apply ra_|apply rn_|apply Rd_));exact HO_416002.out))) (bz_ (by repeat (first|(with_reducible first|exact HB.out|apply pa_|apply pn_|apply pd_|refine ps_ ?_ GE407.out|refine ps_ ?_ GE415.out)|exact HB.out))));replace HO_408002:=A_ (Kd.R_elder' (by (with_reducible repeat (first|apply ra_|apply rn_|apply Rd_));exact HO_408002.out) (Kd.R_base ho0) hb);replace HO_416002:=A_ (Kd.R_elder' (by (with_reducible repeat (first|apply ra_|apply rn_|apply Rd_));exact HO_416002.out) (Kd.R_base ho0) hb);replace BK407:=A_ (kb_ (by (with_reducible repeat (first|refine kn_ ?_ _|refine kd_ ?_|refine ka_ ?_ _));exact BK407.out) hb);replace BK415:=A_ (kb_ (by (with_reducible repeat (first|refine kn_ ?_ _|refine kd_ ?_|refine ka_ ?_ _));exact BK415.out) hb);replace HB:=A_ (bs_ (by repeat (first|(with_reducible first|exact HB.out|apply pa_|apply pn_|apply pd_|refine ps_ ?_ GE407.out|refine ps_ ?_ GE415.out)|exact HB.out)) hb);(try clear hb);(try clear hb2);(try clear hk);(try clear hi);(try clear ho0))|((with_reducible refine gate_dst (N:=11) rfl ?_);refine box_event ?hg (N:=11) ?hd (cs:=#[.int .i64 0,.int .i64 0,.slice none 0 0]) (t:=24) ?hr ?_;(case hd => rfl);(case hg => rfl);(case hr => first|(go_simp;done)|(go_simp;rfl));intro gb427 hg w48 hbox hb;replace HO_408002:=A_ (rb_ (by (with_reducible repeat (first|apply ra_|apply rn_|apply Rd_));exact HO_408002.out) hb);replace HO_416002:=A_ (rb_ (by (with_reducible repeat (first|apply ra_|apply rn_|apply Rd_));exact HO_416002.out) hb);replace HO424:=A_ (rb_ (by (with_reducible repeat (first|apply ra_|apply rn_|apply Rd_));exact HO424.out) hb);have BK427:=A_ (hbox);have GW427:=A_ ((by rw [hg];exact (bz_ (by repeat (first|(with_reducible first|exact HB.out|apply pa_|apply pn_|apply pd_|refine ps_ ?_ GE407.out|refine ps_ ?_ GE415.out)|exact HB.out))) : w.heap.size ≤ gb427));have GE427:=A_ ((by rw [hg];exact (bz_ (by repeat (first|(with_reducible first|exact HB.out|apply pa_|apply pn_|apply pd_|refine ps_ ?_ GE407.out|refine ps_ ?_ GE415.out)|exact HB.out))) : w.heap.size ≤ gb427));replace HB:=A_ (bs_ (by repeat (first|(with_reducible first|exact HB.out|apply pa_|apply pn_|apply pd_|refine ps_ ?_ GE407.out|refine ps_ ?_ GE415.out)|exact HB.out)) hb);have NB407_427:=A_ ((by rw [hg];exact nl_ (kl_ (g:=gb407) (o:=.cells #[.int .i64 t400,.int .i64 t401,.slice Ao9 t402.length co9] 24 (0,0)) (by (with_reducible repeat (first|refine kn_ ?_ _|refine kd_ ?_|refine ka_ ?_ _));exact BK407.out)) : gb407 ≠ gb427));have NB427_407:=A_ ((by rw [hg];exact ng_ (kl_ (g:=gb407) (o:=.cells #[.int .i64 t400,.int .i64 t401,.slice Ao9 t402.length co9] 24 (0,0)) (by (with_reducible repeat (first|refine kn_ ?_ _|refine kd_ ?_|refine ka_ ?_ _));exact BK407.out)) : gb427 ≠ gb407));replace BK407:=A_ (kb_ (by (with_reducible repeat (first|refine kn_ ?_ _|refine kd_ ?_|refine ka_ ?_ _));exact BK407.out) hb);have NB415_427:=A_ ((by rw [hg];exact nl_ (kl_ (g:=gb415) (o:=.cells #[.int .i64 t408,.int .i64 t409,.slice Ao14 t410.length co14] 24 (0,0)) (by (with_reducible repeat (first|refine kn_ ?_ _|refine kd_ ?_|refine ka_ ?_ _));exact BK415.out)) : gb415 ≠ gb427));have NB427_415:=A_ ((by rw [hg];exact ng_ (kl_ (g:=gb415) (o:=.cells #[.int .i64 t408,.int .i64 t409,.slice Ao14 t410.length co14] 24 (0,0)) (by (with_reducible repeat (first|refine kn_ ?_ _|refine kd_ ?_|refine ka_ ?_ _));exact BK415.out)) : gb427 ≠ gb415));replace BK415:=A_ (kb_ (by (with_reducible repeat (first|refine kn_ ?_ _|refine kd_ ?_|refine ka_ ?_ _));exact BK415.out) hb);clear hb hbox hg;have hnb49:=NB427_407.out;have hnc49:=NB407_427.out;have hnb50:=NB427_415.out;have hnc50:=NB415_427.out;have hcz51_0 : w48.cell? ⟨gb427,0,none⟩ = some (.int .i64 0):=(kc_ BK427.out 0).trans rfl;have hcz51_1 : w48.cell? ⟨gb427,1,none⟩ = some (.int .i64 0):=(kc_ BK427.out 1).trans rfl;have hcz51_2 : w48.cell? ⟨gb427,2,none⟩ = some (.slice none 0 0):=(kc_ BK427.out 2).trans rfl;have hfz51_0:=kf_ BK427.out 0;have hfz51_1:=kf_ BK427.out 1;have hfz51_2:=kf_ BK427.out 2;obtain ⟨Ao52,co52,eo52⟩:=Kd.R_slice HO424.out;subst eo52))
       (try simp only [Act.put,s1_,s2_,s3_])
       go_cut [73] (fun v73 wc => ∃ (kq : Nat) (x73_40 : Bool),v73 = .bool x73_40 ∧ Aside0 (laws_FnExactReadLog.j1 kq t417 x73_40 t408 t409 t418 = some r) ∧ Aside0 (kq ≤ kj4) ∧ Aside0 (Kd.R k69 69 wc w.heap.size (fun k_ => some k_ ≠ ((.slice Ao14 t410.length co14) : Value).ownBlock ∧ some k_ ≠ ((.slice Ao52 t422.length co52) : Value).ownBlock) (.slice Ao9 t402.length co9) t402) ∧ Aside0 (Kd.R k69 69 wc w.heap.size (fun k_ => some k_ ≠ ((.slice Ao9 t402.length co9) : Value).ownBlock ∧ some k_ ≠ ((.slice Ao52 t422.length co52) : Value).ownBlock) (.slice Ao14 t410.length co14) t418) ∧ Aside0 (Kd.R k69 69 wc w.heap.size (fun k_ => some k_ ≠ ((.slice Ao9 t402.length co9) : Value).ownBlock ∧ some k_ ≠ ((.slice Ao14 t410.length co14) : Value).ownBlock) (.slice Ao52 t422.length co52) t422) ∧ Aside0 (wc.heap[gb407]? = some (.cells #[.int .i64 t400,.int .i64 t401,(.slice Ao9 t402.length co9)] 24 (0,0))) ∧ Aside0 (wc.heap[gb415]? = some (.cells #[.int .i64 t408,.int .i64 t409,(.slice Ao14 t410.length co14)] 24 (0,0))) ∧ Aside0 (wc.heap[gb427]? = some (.cells #[.int .i64 t420,.int .i64 t421,(.slice Ao52 t422.length co52)] 24 (0,0))) ∧ Aside0 (Below w.heap.size w wc))
       case first =>
        have H:=HC41.out;clear HC41;replace H:=ob_.mp H;obtain ⟨t428,A530,H⟩:=H;replace H : (if t428 = true then (if t425 = t405 then (laws_FnExactReadLog.j1 kj4 t417 (t426 != t406) t408 t409 t418) else (laws_FnExactReadLog.j1 kj4 t417 true t408 t409 t418)) else (laws_FnExactReadLog.j1 kj4 t417 true t408 t409 t418)) = some r:=H;have A53:=A_ A530;clear A530
        by_cases c54 : t428 = true
        ·subst c54
         have H1 : (if t425 = t405 then (laws_FnExactReadLog.j1 kj4 t417 (t426 != t406) t408 t409 t418) else (laws_FnExactReadLog.j1 kj4 t417 true t408 t409 t418)) = some r:=by rw [if_pos rfl] at H;exact H
         clear H;have H:=H1;clear H1
         by_cases c55 : t425 = t405
         ·rw [if_pos c55] at H;have c55b0 : (t425 == t405) = true:=beq_iff_eq.mpr c55;have c55b1 : (t425 != t405) = false:=bne_eq_false_iff_eq.mpr c55;clear c55
          (first|rw [c55b0]|(simp only [i64_w,i32_w];rw [c55b0])|skip)
          have H':=A_ H;clear H;have hnb56:=NB427_407.out;have hnc56:=NB407_427.out;have hnb57:=NB427_415.out;have hnc57:=NB415_427.out;have hcz58_0 : w48.cell? ⟨gb427,0,none⟩ = some (.int .i64 0):=(kc_ BK427.out 0).trans rfl;have hcz58_1 : w48.cell? ⟨gb427,1,none⟩ = some (.int .i64 0):=(kc_ BK427.out 1).trans rfl;have hcz58_2 : w48.cell? ⟨gb427,2,none⟩ = some (.slice none 0 0):=(kc_ BK427.out 2).trans rfl;have hfz58_0:=kf_ BK427.out 0;have hfz58_1:=kf_ BK427.out 1;have hfz58_2:=kf_ BK427.out 2;have hnb59:=NB407_415.out;have hnc59:=NB415_407.out;have hcz60_0 : w48.cell? ⟨gb407,0,none⟩ = some (.int .i64 t400):=(kc_ BK407.out 0).trans rfl;have hcz60_1 : w48.cell? ⟨gb407,1,none⟩ = some (.int .i64 t401):=(kc_ BK407.out 1).trans rfl;have hcz60_2 : w48.cell? ⟨gb407,2,none⟩ = some (.slice Ao9 t402.length co9):=(kc_ BK407.out 2).trans rfl;have hfz60_0:=kf_ BK407.out 0;have hfz60_1:=kf_ BK407.out 1;have hfz60_2:=kf_ BK407.out 2
          go_wp2_with (first|((with_reducible refine gate_callee (f:=10) rfl ?_);refine goesL_ (some 62) rfl rfl Try.func10 (by kernel_rfl) rfl #[.agg #[.int .i64 t420,.int .i64 t421,.slice Ao52 t422.length co52],.agg #[.int .i64 t400,.int .i64 t401,.slice Ao9 t402.length co9]] rfl (by (try simp only [s4_,s5_,s6_]);first|done|rfl|(simp only [List.length_drop,List.length_take];rfl)) ?_;(with_reducible refine (laws_eqLog.calls kj4 t420 t421 _ _ t422 t400 t401 _ _ t402 true _ ?side1 ?side2 ?side3 ?side4 A53.out).mono ?_);(case side1 => refine (Kd.R_reads' (e:=69) (base:=w.heap.size) (ok:=fun k_ => ((True ∧ some k_ ≠ (.slice Ao9 t402.length co9 : Value).ownBlock) ∧ some k_ ≠ (.slice Ao14 t410.length co14 : Value).ownBlock)) (n:=t422.length) (c:=co52) ?_).2.2;exact (by (with_reducible repeat (first|apply ra_|apply rn_|apply Rd_));exact (rm_ (rf_ (p:=⟨gb427,2,none⟩) (rf_ (p:=⟨gb427,1,none⟩) (rf_ (p:=⟨gb427,0,none⟩) (Kd.R_types HO424.out BK427.out (by decide)) (fun _ hk => hk.2) (.int .i64 t420)) (fun _ hk => hk.2) (.int .i64 t421)) (fun _ hk => hk.2) (.slice Ao52 t422.length co52)) (fun _ h_ => h_.1))));(case side2 => exact (Kd.R_reads' HO424.out).2.1);(case side3 => refine (Kd.R_reads' (e:=69) (base:=w.heap.size) (ok:=fun k_ => (some k_ ≠ (.slice Ao14 t410.length co14 : Value).ownBlock ∧ some k_ ≠ (.slice Ao52 t422.length co52 : Value).ownBlock)) (n:=t402.length) (c:=co9) ?_).2.2;exact (by (with_reducible repeat (first|apply ra_|apply rn_|apply Rd_));exact (rm_ (rf_ (p:=⟨gb427,2,none⟩) (rf_ (p:=⟨gb427,1,none⟩) (rf_ (p:=⟨gb427,0,none⟩) (Kd.R_types HO_408002.out BK427.out (by decide)) (fun _ hk => hk.2) (.int .i64 t420)) (fun _ hk => hk.2) (.int .i64 t421)) (fun _ hk => hk.2) (.slice Ao52 t422.length co52)) (fun _ h_ => h_.1))));(case side4 => exact (Kd.R_reads' HO_408002.out).2.1);rintro e w61 ⟨rfl,hb⟩;refine ⟨_,rfl,?_⟩;replace HO_408002:=A_ (rb_ (by (with_reducible repeat (first|apply ra_|apply rn_|apply Rd_));exact (rm_ (rf_ (p:=⟨gb427,2,none⟩) (rf_ (p:=⟨gb427,1,none⟩) (rf_ (p:=⟨gb427,0,none⟩) (Kd.R_types HO_408002.out BK427.out (by decide)) (fun _ hk => hk.2) (.int .i64 t420)) (fun _ hk => hk.2) (.int .i64 t421)) (fun _ hk => hk.2) (.slice Ao52 t422.length co52)) (fun _ h_ => h_.1))) hb);replace HO_416002:=A_ (rb_ (by (with_reducible repeat (first|apply ra_|apply rn_|apply Rd_));exact (rm_ (rf_ (p:=⟨gb427,2,none⟩) (rf_ (p:=⟨gb427,1,none⟩) (rf_ (p:=⟨gb427,0,none⟩) (Kd.R_types HO_416002.out BK427.out (by decide)) (fun _ hk => hk.2) (.int .i64 t420)) (fun _ hk => hk.2) (.int .i64 t421)) (fun _ hk => hk.2) (.slice Ao52 t422.length co52)) (fun _ h_ => h_.1))) hb);replace HO424:=A_ (rb_ (by (with_reducible repeat (first|apply ra_|apply rn_|apply Rd_));exact (rm_ (rf_ (p:=⟨gb427,2,none⟩) (rf_ (p:=⟨gb427,1,none⟩) (rf_ (p:=⟨gb427,0,none⟩) (Kd.R_types HO424.out BK427.out (by decide)) (fun _ hk => hk.2) (.int .i64 t420)) (fun _ hk => hk.2) (.int .i64 t421)) (fun _ hk => hk.2) (.slice Ao52 t422.length co52)) (fun _ h_ => h_.1))) hb);replace BK407:=A_ (kb_ (g:=gb407) (o:=.cells #[.int .i64 t400,.int .i64 t401,.slice Ao9 t402.length co9] 24 (0,0)) (by (with_reducible repeat (first|refine kn_ ?_ _|refine kd_ ?_|refine ka_ ?_ _));refine kr_ ?_ NB407_427.out _;(with_reducible repeat (first|refine kn_ ?_ _|refine kd_ ?_|refine ka_ ?_ _));refine kr_ ?_ NB407_427.out _;(with_reducible repeat (first|refine kn_ ?_ _|refine kd_ ?_|refine ka_ ?_ _));refine kr_ ?_ NB407_427.out _;(with_reducible repeat (first|refine kn_ ?_ _|refine kd_ ?_|refine ka_ ?_ _));exact BK407.out) hb);replace BK415:=A_ (kb_ (g:=gb415) (o:=.cells #[.int .i64 t408,.int .i64 t409,.slice Ao14 t410.length co14] 24 (0,0)) (by (with_reducible repeat (first|refine kn_ ?_ _|refine kd_ ?_|refine ka_ ?_ _));refine kr_ ?_ NB415_427.out _;(with_reducible repeat (first|refine kn_ ?_ _|refine kd_ ?_|refine ka_ ?_ _));refine kr_ ?_ NB415_427.out _;(with_reducible repeat (first|refine kn_ ?_ _|refine kd_ ?_|refine ka_ ?_ _));refine kr_ ?_ NB415_427.out _;(with_reducible repeat (first|refine kn_ ?_ _|refine kd_ ?_|refine ka_ ?_ _));exact BK415.out) hb);replace BK427:=A_ (kb_ (g:=gb427) (o:=.cells #[.int .i64 t420,.int .i64 t421,.slice Ao52 t422.length co52] 24 (0,0)) (by (with_reducible repeat (first|refine kn_ ?_ _|refine kd_ ?_|refine ka_ ?_ _));refine ku_ (cs:=#[.int .i64 t420,.int .i64 t421,.slice none 0 0]) ?_ 2 _ rfl;(with_reducible repeat (first|refine kn_ ?_ _|refine kd_ ?_|refine ka_ ?_ _));refine ku_ (cs:=#[.int .i64 t420,.int .i64 0,.slice none 0 0]) ?_ 1 _ rfl;(with_reducible repeat (first|refine kn_ ?_ _|refine kd_ ?_|refine ka_ ?_ _));refine ku_ (cs:=#[.int .i64 0,.int .i64 0,.slice none 0 0]) ?_ 0 _ rfl;(with_reducible repeat (first|refine kn_ ?_ _|refine kd_ ?_|refine ka_ ?_ _));exact BK427.out) hb);replace HB:=A_ (bs_ (by repeat (first|(with_reducible first|exact HB.out|apply pa_|apply pn_|apply pd_|refine ps_ ?_ GE407.out|refine ps_ ?_ GE415.out|refine ps_ ?_ GE427.out)|exact HB.out)) hb);(try clear hb);(try clear hb2);(try clear hk);(try clear hi)))
          go_meet
          case rel => exact ⟨_,((t426 != t406)),(by first|rfl|(simp;done)|(simp [*];done)),H',⟨by have:=HJ4.out;first|omega|exact Nat.le_refl _⟩,⟨by (with_reducible repeat (first|apply ra_|apply rn_|apply Rd_));exact HO_408002.out⟩,⟨by (with_reducible repeat (first|apply ra_|apply rn_|apply Rd_));exact HO_416002.out⟩,⟨by (with_reducible repeat (first|apply ra_|apply rn_|apply Rd_));exact rm_ HO424.out (fun _ hk => ⟨hk.1.2,hk.2⟩)⟩,⟨by (with_reducible repeat (first|refine kn_ ?_ _|refine kd_ ?_|refine ka_ ?_ _));exact BK407.out⟩,⟨by (with_reducible repeat (first|refine kn_ ?_ _|refine kd_ ?_|refine ka_ ?_ _));exact BK415.out⟩,⟨by (with_reducible repeat (first|refine kn_ ?_ _|refine kd_ ?_|refine ka_ ?_ _));exact BK427.out⟩,⟨by repeat (first|(with_reducible first|exact HB.out|apply pa_|apply pn_|apply pd_|refine ps_ ?_ GE407.out|refine ps_ ?_ GE415.out|refine ps_ ?_ GE427.out)|exact HB.out)⟩⟩
         ·rw [if_neg c55] at H;have c55b0 : (t425 == t405) = false:=beq_eq_false_iff_ne.mpr c55;have c55b1 : (t425 != t405) = true:=bne_iff_ne.mpr c55
          (first|rw [c55b0]|(simp only [i64_w,i32_w];rw [c55b0])|skip)
          have H':=A_ H;clear H;have hnb62:=NB427_407.out;have hnc62:=NB407_427.out;have hnb63:=NB427_415.out;have hnc63:=NB415_427.out;have hcz64_0 : w48.cell? ⟨gb427,0,none⟩ = some (.int .i64 0):=(kc_ BK427.out 0).trans rfl;have hcz64_1 : w48.cell? ⟨gb427,1,none⟩ = some (.int .i64 0):=(kc_ BK427.out 1).trans rfl;have hcz64_2 : w48.cell? ⟨gb427,2,none⟩ = some (.slice none 0 0):=(kc_ BK427.out 2).trans rfl;have hfz64_0:=kf_ BK427.out 0;have hfz64_1:=kf_ BK427.out 1;have hfz64_2:=kf_ BK427.out 2;have hnb65:=NB407_415.out;have hnc65:=NB415_407.out;have hcz66_0 : w48.cell? ⟨gb407,0,none⟩ = some (.int .i64 t400):=(kc_ BK407.out 0).trans rfl;have hcz66_1 : w48.cell? ⟨gb407,1,none⟩ = some (.int .i64 t401):=(kc_ BK407.out 1).trans rfl;have hcz66_2 : w48.cell? ⟨gb407,2,none⟩ = some (.slice Ao9 t402.length co9):=(kc_ BK407.out 2).trans rfl;have hfz66_0:=kf_ BK407.out 0;have hfz66_1:=kf_ BK407.out 1;have hfz66_2:=kf_ BK407.out 2
          go_wp2_with (first|((with_reducible refine gate_callee (f:=10) rfl ?_);refine goesL_ (some 62) rfl rfl Try.func10 (by kernel_rfl) rfl #[.agg #[.int .i64 t420,.int .i64 t421,.slice Ao52 t422.length co52],.agg #[.int .i64 t400,.int .i64 t401,.slice Ao9 t402.length co9]] rfl (by (try simp only [s4_,s5_,s6_]);first|done|rfl|(simp only [List.length_drop,List.length_take];rfl)) ?_;(with_reducible refine (laws_eqLog.calls kj4 t420 t421 _ _ t422 t400 t401 _ _ t402 true _ ?side1 ?side2 ?side3 ?side4 A53.out).mono ?_);(case side1 => refine (Kd.R_reads' (e:=69) (base:=w.heap.size) (ok:=fun k_ => ((True ∧ some k_ ≠ (.slice Ao9 t402.length co9 : Value).ownBlock) ∧ some k_ ≠ (.slice Ao14 t410.length co14 : Value).ownBlock)) (n:=t422.length) (c:=co52) ?_).2.2;exact (by (with_reducible repeat (first|apply ra_|apply rn_|apply Rd_));exact (rm_ (rf_ (p:=⟨gb427,2,none⟩) (rf_ (p:=⟨gb427,1,none⟩) (rf_ (p:=⟨gb427,0,none⟩) (Kd.R_types HO424.out BK427.out (by decide)) (fun _ hk => hk.2) (.int .i64 t420)) (fun _ hk => hk.2) (.int .i64 t421)) (fun _ hk => hk.2) (.slice Ao52 t422.length co52)) (fun _ h_ => h_.1))));(case side2 => exact (Kd.R_reads' HO424.out).2.1);(case side3 => refine (Kd.R_reads' (e:=69) (base:=w.heap.size) (ok:=fun k_ => (some k_ ≠ (.slice Ao14 t410.length co14 : Value).ownBlock ∧ some k_ ≠ (.slice Ao52 t422.length co52 : Value).ownBlock)) (n:=t402.length) (c:=co9) ?_).2.2;exact (by (with_reducible repeat (first|apply ra_|apply rn_|apply Rd_));exact (rm_ (rf_ (p:=⟨gb427,2,none⟩) (rf_ (p:=⟨gb427,1,none⟩) (rf_ (p:=⟨gb427,0,none⟩) (Kd.R_types HO_408002.out BK427.out (by decide)) (fun _ hk => hk.2) (.int .i64 t420)) (fun _ hk => hk.2) (.int .i64 t421)) (fun _ hk => hk.2) (.slice Ao52 t422.length co52)) (fun _ h_ => h_.1))));(case side4 => exact (Kd.R_reads' HO_408002.out).2.1);rintro e w67 ⟨rfl,hb⟩;refine ⟨_,rfl,?_⟩;replace HO_408002:=A_ (rb_ (by (with_reducible repeat (first|apply ra_|apply rn_|apply Rd_));exact (rm_ (rf_ (p:=⟨gb427,2,none⟩) (rf_ (p:=⟨gb427,1,none⟩) (rf_ (p:=⟨gb427,0,none⟩) (Kd.R_types HO_408002.out BK427.out (by decide)) (fun _ hk => hk.2) (.int .i64 t420)) (fun _ hk => hk.2) (.int .i64 t421)) (fun _ hk => hk.2) (.slice Ao52 t422.length co52)) (fun _ h_ => h_.1))) hb);replace HO_416002:=A_ (rb_ (by (with_reducible repeat (first|apply ra_|apply rn_|apply Rd_));exact (rm_ (rf_ (p:=⟨gb427,2,none⟩) (rf_ (p:=⟨gb427,1,none⟩) (rf_ (p:=⟨gb427,0,none⟩) (Kd.R_types HO_416002.out BK427.out (by decide)) (fun _ hk => hk.2) (.int .i64 t420)) (fun _ hk => hk.2) (.int .i64 t421)) (fun _ hk => hk.2) (.slice Ao52 t422.length co52)) (fun _ h_ => h_.1))) hb);replace HO424:=A_ (rb_ (by (with_reducible repeat (first|apply ra_|apply rn_|apply Rd_));exact (rm_ (rf_ (p:=⟨gb427,2,none⟩) (rf_ (p:=⟨gb427,1,none⟩) (rf_ (p:=⟨gb427,0,none⟩) (Kd.R_types HO424.out BK427.out (by decide)) (fun _ hk => hk.2) (.int .i64 t420)) (fun _ hk => hk.2) (.int .i64 t421)) (fun _ hk => hk.2) (.slice Ao52 t422.length co52)) (fun _ h_ => h_.1))) hb);replace BK407:=A_ (kb_ (g:=gb407) (o:=.cells #[.int .i64 t400,.int .i64 t401,.slice Ao9 t402.length co9] 24 (0,0)) (by (with_reducible repeat (first|refine kn_ ?_ _|refine kd_ ?_|refine ka_ ?_ _));refine kr_ ?_ NB407_427.out _;(with_reducible repeat (first|refine kn_ ?_ _|refine kd_ ?_|refine ka_ ?_ _));refine kr_ ?_ NB407_427.out _;(with_reducible repeat (first|refine kn_ ?_ _|refine kd_ ?_|refine ka_ ?_ _));refine kr_ ?_ NB407_427.out _;(with_reducible repeat (first|refine kn_ ?_ _|refine kd_ ?_|refine ka_ ?_ _));exact BK407.out) hb);replace BK415:=A_ (kb_ (g:=gb415) (o:=.cells #[.int .i64 t408,.int .i64 t409,.slice Ao14 t410.length co14] 24 (0,0)) (by (with_reducible repeat (first|refine kn_ ?_ _|refine kd_ ?_|refine ka_ ?_ _));refine kr_ ?_ NB415_427.out _;(with_reducible repeat (first|refine kn_ ?_ _|refine kd_ ?_|refine ka_ ?_ _));refine kr_ ?_ NB415_427.out _;(with_reducible repeat (first|refine kn_ ?_ _|refine kd_ ?_|refine ka_ ?_ _));refine kr_ ?_ NB415_427.out _;(with_reducible repeat (first|refine kn_ ?_ _|refine kd_ ?_|refine ka_ ?_ _));exact BK415.out) hb);replace BK427:=A_ (kb_ (g:=gb427) (o:=.cells #[.int .i64 t420,.int .i64 t421,.slice Ao52 t422.length co52] 24 (0,0)) (by (with_reducible repeat (first|refine kn_ ?_ _|refine kd_ ?_|refine ka_ ?_ _));refine ku_ (cs:=#[.int .i64 t420,.int .i64 t421,.slice none 0 0]) ?_ 2 _ rfl;(with_reducible repeat (first|refine kn_ ?_ _|refine kd_ ?_|refine ka_ ?_ _));refine ku_ (cs:=#[.int .i64 t420,.int .i64 0,.slice none 0 0]) ?_ 1 _ rfl;(with_reducible repeat (first|refine kn_ ?_ _|refine kd_ ?_|refine ka_ ?_ _));refine ku_ (cs:=#[.int .i64 0,.int .i64 0,.slice none 0 0]) ?_ 0 _ rfl;(with_reducible repeat (first|refine kn_ ?_ _|refine kd_ ?_|refine ka_ ?_ _));exact BK427.out) hb);replace HB:=A_ (bs_ (by repeat (first|(with_reducible first|exact HB.out|apply pa_|apply pn_|apply pd_|refine ps_ ?_ GE407.out|refine ps_ ?_ GE415.out|refine ps_ ?_ GE427.out)|exact HB.out)) hb);(try clear hb);(try clear hb2);(try clear hk);(try clear hi)))
          go_meet
          case rel => exact ⟨_,(true),(by first|rfl|(simp;done)|(simp [*];done)),H',⟨by have:=HJ4.out;first|omega|exact Nat.le_refl _⟩,⟨by (with_reducible repeat (first|apply ra_|apply rn_|apply Rd_));exact HO_408002.out⟩,⟨by (with_reducible repeat (first|apply ra_|apply rn_|apply Rd_));exact HO_416002.out⟩,⟨by (with_reducible repeat (first|apply ra_|apply rn_|apply Rd_));exact rm_ HO424.out (fun _ hk => ⟨hk.1.2,hk.2⟩)⟩,⟨by (with_reducible repeat (first|refine kn_ ?_ _|refine kd_ ?_|refine ka_ ?_ _));exact BK407.out⟩,⟨by (with_reducible repeat (first|refine kn_ ?_ _|refine kd_ ?_|refine ka_ ?_ _));exact BK415.out⟩,⟨by (with_reducible repeat (first|refine kn_ ?_ _|refine kd_ ?_|refine ka_ ?_ _));exact BK427.out⟩,⟨by repeat (first|(with_reducible first|exact HB.out|apply pa_|apply pn_|apply pd_|refine ps_ ?_ GE407.out|refine ps_ ?_ GE415.out|refine ps_ ?_ GE427.out)|exact HB.out)⟩⟩
        ·replace c54:=Bool.eq_false_iff.mpr c54;subst c54
         have H1 : (laws_FnExactReadLog.j1 kj4 t417 true t408 t409 t418) = some r:=by rw [if_neg (show ¬ (false = true) by decide)] at H;exact H
         clear H;have H:=H1;clear H1;have H':=A_ H;clear H;have hnb68:=NB427_407.out;have hnc68:=NB407_427.out;have hnb69:=NB427_415.out;have hnc69:=NB415_427.out;have hcz70_0 : w48.cell? ⟨gb427,0,none⟩ = some (.int .i64 0):=(kc_ BK427.out 0).trans rfl;have hcz70_1 : w48.cell? ⟨gb427,1,none⟩ = some (.int .i64 0):=(kc_ BK427.out 1).trans rfl;have hcz70_2 : w48.cell? ⟨gb427,2,none⟩ = some (.slice none 0 0):=(kc_ BK427.out 2).trans rfl;have hfz70_0:=kf_ BK427.out 0;have hfz70_1:=kf_ BK427.out 1;have hfz70_2:=kf_ BK427.out 2;have hnb71:=NB407_415.out;have hnc71:=NB415_407.out;have hcz72_0 : w48.cell? ⟨gb407,0,none⟩ = some (.int .i64 t400):=(kc_ BK407.out 0).trans rfl;have hcz72_1 : w48.cell? ⟨gb407,1,none⟩ = some (.int .i64 t401):=(kc_ BK407.out 1).trans rfl;have hcz72_2 : w48.cell? ⟨gb407,2,none⟩ = some (.slice Ao9 t402.length co9):=(kc_ BK407.out 2).trans rfl;have hfz72_0:=kf_ BK407.out 0;have hfz72_1:=kf_ BK407.out 1;have hfz72_2:=kf_ BK407.out 2
         go_wp2_with (first|((with_reducible refine gate_callee (f:=10) rfl ?_);refine goesL_ (some 62) rfl rfl Try.func10 (by kernel_rfl) rfl #[.agg #[.int .i64 t420,.int .i64 t421,.slice Ao52 t422.length co52],.agg #[.int .i64 t400,.int .i64 t401,.slice Ao9 t402.length co9]] rfl (by (try simp only [s4_,s5_,s6_]);first|done|rfl|(simp only [List.length_drop,List.length_take];rfl)) ?_;(with_reducible refine (laws_eqLog.calls kj4 t420 t421 _ _ t422 t400 t401 _ _ t402 false _ ?side1 ?side2 ?side3 ?side4 A53.out).mono ?_);(case side1 => refine (Kd.R_reads' (e:=69) (base:=w.heap.size) (ok:=fun k_ => ((True ∧ some k_ ≠ (.slice Ao9 t402.length co9 : Value).ownBlock) ∧ some k_ ≠ (.slice Ao14 t410.length co14 : Value).ownBlock)) (n:=t422.length) (c:=co52) ?_).2.2;exact (by (with_reducible repeat (first|apply ra_|apply rn_|apply Rd_));exact (rm_ (rf_ (p:=⟨gb427,2,none⟩) (rf_ (p:=⟨gb427,1,none⟩) (rf_ (p:=⟨gb427,0,none⟩) (Kd.R_types HO424.out BK427.out (by decide)) (fun _ hk => hk.2) (.int .i64 t420)) (fun _ hk => hk.2) (.int .i64 t421)) (fun _ hk => hk.2) (.slice Ao52 t422.length co52)) (fun _ h_ => h_.1))));(case side2 => exact (Kd.R_reads' HO424.out).2.1);(case side3 => refine (Kd.R_reads' (e:=69) (base:=w.heap.size) (ok:=fun k_ => (some k_ ≠ (.slice Ao14 t410.length co14 : Value).ownBlock ∧ some k_ ≠ (.slice Ao52 t422.length co52 : Value).ownBlock)) (n:=t402.length) (c:=co9) ?_).2.2;exact (by (with_reducible repeat (first|apply ra_|apply rn_|apply Rd_));exact (rm_ (rf_ (p:=⟨gb427,2,none⟩) (rf_ (p:=⟨gb427,1,none⟩) (rf_ (p:=⟨gb427,0,none⟩) (Kd.R_types HO_408002.out BK427.out (by decide)) (fun _ hk => hk.2) (.int .i64 t420)) (fun _ hk => hk.2) (.int .i64 t421)) (fun _ hk => hk.2) (.slice Ao52 t422.length co52)) (fun _ h_ => h_.1))));(case side4 => exact (Kd.R_reads' HO_408002.out).2.1);rintro e w73 ⟨rfl,hb⟩;refine ⟨_,rfl,?_⟩;replace HO_408002:=A_ (rb_ (by (with_reducible repeat (first|apply ra_|apply rn_|apply Rd_));exact (rm_ (rf_ (p:=⟨gb427,2,none⟩) (rf_ (p:=⟨gb427,1,none⟩) (rf_ (p:=⟨gb427,0,none⟩) (Kd.R_types HO_408002.out BK427.out (by decide)) (fun _ hk => hk.2) (.int .i64 t420)) (fun _ hk => hk.2) (.int .i64 t421)) (fun _ hk => hk.2) (.slice Ao52 t422.length co52)) (fun _ h_ => h_.1))) hb);replace HO_416002:=A_ (rb_ (by (with_reducible repeat (first|apply ra_|apply rn_|apply Rd_));exact (rm_ (rf_ (p:=⟨gb427,2,none⟩) (rf_ (p:=⟨gb427,1,none⟩) (rf_ (p:=⟨gb427,0,none⟩) (Kd.R_types HO_416002.out BK427.out (by decide)) (fun _ hk => hk.2) (.int .i64 t420)) (fun _ hk => hk.2) (.int .i64 t421)) (fun _ hk => hk.2) (.slice Ao52 t422.length co52)) (fun _ h_ => h_.1))) hb);replace HO424:=A_ (rb_ (by (with_reducible repeat (first|apply ra_|apply rn_|apply Rd_));exact (rm_ (rf_ (p:=⟨gb427,2,none⟩) (rf_ (p:=⟨gb427,1,none⟩) (rf_ (p:=⟨gb427,0,none⟩) (Kd.R_types HO424.out BK427.out (by decide)) (fun _ hk => hk.2) (.int .i64 t420)) (fun _ hk => hk.2) (.int .i64 t421)) (fun _ hk => hk.2) (.slice Ao52 t422.length co52)) (fun _ h_ => h_.1))) hb);replace BK407:=A_ (kb_ (g:=gb407) (o:=.cells #[.int .i64 t400,.int .i64 t401,.slice Ao9 t402.length co9] 24 (0,0)) (by (with_reducible repeat (first|refine kn_ ?_ _|refine kd_ ?_|refine ka_ ?_ _));refine kr_ ?_ NB407_427.out _;(with_reducible repeat (first|refine kn_ ?_ _|refine kd_ ?_|refine ka_ ?_ _));refine kr_ ?_ NB407_427.out _;(with_reducible repeat (first|refine kn_ ?_ _|refine kd_ ?_|refine ka_ ?_ _));refine kr_ ?_ NB407_427.out _;(with_reducible repeat (first|refine kn_ ?_ _|refine kd_ ?_|refine ka_ ?_ _));exact BK407.out) hb);replace BK415:=A_ (kb_ (g:=gb415) (o:=.cells #[.int .i64 t408,.int .i64 t409,.slice Ao14 t410.length co14] 24 (0,0)) (by (with_reducible repeat (first|refine kn_ ?_ _|refine kd_ ?_|refine ka_ ?_ _));refine kr_ ?_ NB415_427.out _;(with_reducible repeat (first|refine kn_ ?_ _|refine kd_ ?_|refine ka_ ?_ _));refine kr_ ?_ NB415_427.out _;(with_reducible repeat (first|refine kn_ ?_ _|refine kd_ ?_|refine ka_ ?_ _));refine kr_ ?_ NB415_427.out _;(with_reducible repeat (first|refine kn_ ?_ _|refine kd_ ?_|refine ka_ ?_ _));exact BK415.out) hb);replace BK427:=A_ (kb_ (g:=gb427) (o:=.cells #[.int .i64 t420,.int .i64 t421,.slice Ao52 t422.length co52] 24 (0,0)) (by (with_reducible repeat (first|refine kn_ ?_ _|refine kd_ ?_|refine ka_ ?_ _));refine ku_ (cs:=#[.int .i64 t420,.int .i64 t421,.slice none 0 0]) ?_ 2 _ rfl;(with_reducible repeat (first|refine kn_ ?_ _|refine kd_ ?_|refine ka_ ?_ _));refine ku_ (cs:=#[.int .i64 t420,.int .i64 0,.slice none 0 0]) ?_ 1 _ rfl;(with_reducible repeat (first|refine kn_ ?_ _|refine kd_ ?_|refine ka_ ?_ _));refine ku_ (cs:=#[.int .i64 0,.int .i64 0,.slice none 0 0]) ?_ 0 _ rfl;(with_reducible repeat (first|refine kn_ ?_ _|refine kd_ ?_|refine ka_ ?_ _));exact BK427.out) hb);replace HB:=A_ (bs_ (by repeat (first|(with_reducible first|exact HB.out|apply pa_|apply pn_|apply pd_|refine ps_ ?_ GE407.out|refine ps_ ?_ GE415.out|refine ps_ ?_ GE427.out)|exact HB.out)) hb);(try clear hb);(try clear hb2);(try clear hk);(try clear hi)))
         go_meet
         case rel => exact ⟨_,(true),(by first|rfl|(simp;done)|(simp [*];done)),H',⟨by have:=HJ4.out;first|omega|exact Nat.le_refl _⟩,⟨by (with_reducible repeat (first|apply ra_|apply rn_|apply Rd_));exact HO_408002.out⟩,⟨by (with_reducible repeat (first|apply ra_|apply rn_|apply Rd_));exact HO_416002.out⟩,⟨by (with_reducible repeat (first|apply ra_|apply rn_|apply Rd_));exact rm_ HO424.out (fun _ hk => ⟨hk.1.2,hk.2⟩)⟩,⟨by (with_reducible repeat (first|refine kn_ ?_ _|refine kd_ ?_|refine ka_ ?_ _));exact BK407.out⟩,⟨by (with_reducible repeat (first|refine kn_ ?_ _|refine kd_ ?_|refine ka_ ?_ _));exact BK415.out⟩,⟨by (with_reducible repeat (first|refine kn_ ?_ _|refine kd_ ?_|refine ka_ ?_ _));exact BK427.out⟩,⟨by repeat (first|(with_reducible first|exact HB.out|apply pa_|apply pn_|apply pd_|refine ps_ ?_ GE407.out|refine ps_ ?_ GE415.out|refine ps_ ?_ GE427.out)|exact HB.out)⟩⟩
       case rest =>
        clear HC41
        try clear c1
        try clear c2
        try clear c2b0
        try clear c2b1
        try clear p2
        try clear c3
        try clear c4
        try clear c5
        try clear c6
        try clear c7
        try clear c8
        try clear c9
        try clear c10
        try clear c11
        try clear c12
        try clear c16
        try clear c17
        try clear c17b0
        try clear c17b1
        try clear c18
        try clear c22
        try clear c26
        try clear c30
        try clear c33
        try clear c33b0
        try clear c34
        try clear c39
        try clear c39b0
        try clear c39b1
        try clear c42
        try clear c49
        try clear c50
        try clear c54
        try clear c55
        try clear c55b0
        try clear c55b1
        try clear c56
        try clear c57
        try clear c59
        try clear c62
        try clear c63
        try clear c65
        try clear c68
        try clear c69
        try clear c71
        try clear hcz13_0
        try clear hcz13_1
        try clear hcz13_2
        try clear hcz19_0
        try clear hcz19_1
        try clear hcz19_2
        try clear hcz20_0
        try clear hcz20_1
        try clear hcz20_2
        try clear hcz23_0
        try clear hcz23_1
        try clear hcz23_2
        try clear hcz24_0
        try clear hcz24_1
        try clear hcz24_2
        try clear hcz27_0
        try clear hcz27_1
        try clear hcz27_2
        try clear hcz28_0
        try clear hcz28_1
        try clear hcz28_2
        try clear hcz35_0
        try clear hcz35_1
        try clear hcz35_2
        try clear hcz37_0
        try clear hcz37_1
        try clear hcz37_2
        try clear hcz43_0
        try clear hcz43_1
        try clear hcz43_2
        try clear hcz45_0
        try clear hcz45_1
        try clear hcz45_2
        try clear hcz51_0
        try clear hcz51_1
        try clear hcz51_2
        try clear hcz58_0
        try clear hcz58_1
        try clear hcz58_2
        try clear hcz60_0
        try clear hcz60_1
        try clear hcz60_2
        try clear hcz64_0
        try clear hcz64_1
        try clear hcz64_2
        try clear hcz66_0
        try clear hcz66_1
        try clear hcz66_2
        try clear hcz70_0
        try clear hcz70_1
        try clear hcz70_2
        try clear hcz72_0
        try clear hcz72_1
        try clear hcz72_2
        try clear hcz8_0
        try clear hcz8_1
        try clear hcz8_2
        try clear hfz13_0
        try clear hfz13_1
        try clear hfz13_2
        try clear hfz19_0
        try clear hfz19_1
        try clear hfz19_2
        try clear hfz20_0
        try clear hfz20_1
        try clear hfz20_2
        try clear hfz23_0
        try clear hfz23_1
        try clear hfz23_2
        try clear hfz24_0
        try clear hfz24_1
        try clear hfz24_2
        try clear hfz27_0
        try clear hfz27_1
        try clear hfz27_2
        try clear hfz28_0
        try clear hfz28_1
        try clear hfz28_2
        try clear hfz35_0
        try clear hfz35_1
        try clear hfz35_2
        try clear hfz37_0
        try clear hfz37_1
        try clear hfz37_2
        try clear hfz43_0
        try clear hfz43_1
        try clear hfz43_2
        try clear hfz45_0
        try clear hfz45_1
        try clear hfz45_2
        try clear hfz51_0
        try clear hfz51_1
        try clear hfz51_2
        try clear hfz58_0
        try clear hfz58_1
        try clear hfz58_2
        try clear hfz60_0
        try clear hfz60_1
        try clear hfz60_2
        try clear hfz64_0
        try clear hfz64_1
        try clear hfz64_2
        try clear hfz66_0
        try clear hfz66_1
        try clear hfz66_2
        try clear hfz70_0
        try clear hfz70_1
        try clear hfz70_2
        try clear hfz72_0
        try clear hfz72_1
        try clear hfz72_2
        try clear hfz8_0
        try clear hfz8_1
        try clear hfz8_2
        try clear p2
        obtain ⟨kq,x73_40,rfl,HA,HJ40,HO_408002,HO_416002,HO_428002,BK407,BK415,BK427,HB⟩:=hcut;have hl416002_40:=(Kd.R_reads' HO_416002.out).1;rw [hl416002_40] at HO_416002
        (try simp only [hl416002_40])
        (try simp only [hl416002_40] at BK407)
        (try simp only [hl416002_40] at BK415)
        (try simp only [hl416002_40] at BK427)
        (try simp only [hl416002_40] at HO_408002)
        (try simp only [hl416002_40] at HO_428002)
        cases kq with
        | zero => exact absurd HA.out (by simp [laws_FnExactReadLog.j1])
        | succ kj40 =>
         have H:=HA.out;clear HA;simp only [laws_FnExactReadLog.j1] at H
         by_cases c74 : x73_40 = true
         ·subst c74
          have H1 : (some false) = some r:=by rw [if_pos rfl] at H;exact H
          clear H;have H:=H1;clear H1;obtain rfl:=Option.some.inj H
          cases hr1_
         ·replace c74:=Bool.eq_false_iff.mpr c74;subst c74
          have H1 : ((laws_heldLog.f kj40 t408 t409 t418 1).bind fun t429 => (if t429 < 0 then (some false) else (if t429 = t417 then (some true) else (some false)))) = some r:=by rw [if_neg (show ¬ (false = true) by decide)] at H;exact H
          clear H;have H:=H1;clear H1;replace H:=ob_.mp H;obtain ⟨t429,A750,H⟩:=H;replace H : (if t429 < 0 then (some false) else (if t429 = t417 then (some true) else (some false))) = some r:=H;have A75:=A_ A750;clear A750
          by_cases c76 : t429 < 0
          ·rw [if_pos c76] at H;have c76b0 : decide (t429 < 0) = true:=de_ c76;clear c76;obtain rfl:=Option.some.inj H
           cases hr1_
          ·rw [if_neg c76] at H;have c76b0 : decide (t429 < 0) = false:=decide_eq_false c76;clear c76
           by_cases c81 : t429 = t417
           ·rw [if_pos c81] at H;have c81b0 : (t429 == t417) = true:=beq_iff_eq.mpr c81;have c81b1 : (t429 != t417) = false:=bne_eq_false_iff_eq.mpr c81;clear c81;obtain rfl:=Option.some.inj H;have hnb82:=NB415_407.out;have hnc82:=NB407_415.out;have hnb83:=NB415_427.out;have hnc83:=NB427_415.out;have hcz84_0 : wc.cell? ⟨gb415,0,none⟩ = some (.int .i64 t408):=(kc_ BK415.out 0).trans rfl;have hcz84_1 : wc.cell? ⟨gb415,1,none⟩ = some (.int .i64 t409):=(kc_ BK415.out 1).trans rfl;have hcz84_2 : wc.cell? ⟨gb415,2,none⟩ = some (.slice Ao14 t418.length co14):=(kc_ BK415.out 2).trans rfl;have hfz84_0:=kf_ BK415.out 0;have hfz84_1:=kf_ BK415.out 1;have hfz84_2:=kf_ BK415.out 2
            go_wp2_with (first|((with_reducible refine gate_callee (f:=12) rfl ?_);refine goesL_ (some 76) rfl rfl Try.func12 (by kernel_rfl) rfl #[.agg #[.int .i64 t408,.int .i64 t409,.slice Ao14 t418.length co14],.int .i64 1] rfl (by (try simp only [s4_,s5_,s6_]);first|done|rfl|(simp only [List.length_drop,List.length_take];rfl)) ?_;(with_reducible refine (laws_heldLog.calls kj40 t408 t409 _ _ t418 1 t429 _ ?side1 ?side2 A75.out).mono ?_);(case side1 => repeat (first|exact (Kd.R_reads' HO_416002.out).2.2|(with_reducible refine Kd.C_alloc ?_ _)|(with_reducible refine Kd.C_drewN ?_ _)|(with_reducible refine Kd.C_drew ?_)));(case side2 => exact (Kd.R_reads' HO_416002.out).2.1);rintro e w85 ⟨rfl,hb⟩;refine ⟨_,rfl,?_⟩;replace HO_408002:=A_ (rb_ (by (with_reducible repeat (first|apply ra_|apply rn_|apply Rd_));exact HO_408002.out) hb);replace HO_416002:=A_ (rb_ (by (with_reducible repeat (first|apply ra_|apply rn_|apply Rd_));exact HO_416002.out) hb);replace HO_428002:=A_ (rb_ (by (with_reducible repeat (first|apply ra_|apply rn_|apply Rd_));exact HO_428002.out) hb);replace BK407:=A_ (kb_ (by (with_reducible repeat (first|refine kn_ ?_ _|refine kd_ ?_|refine ka_ ?_ _));exact BK407.out) hb);replace BK415:=A_ (kb_ (by (with_reducible repeat (first|refine kn_ ?_ _|refine kd_ ?_|refine ka_ ?_ _));exact BK415.out) hb);replace BK427:=A_ (kb_ (by (with_reducible repeat (first|refine kn_ ?_ _|refine kd_ ?_|refine ka_ ?_ _));exact BK427.out) hb);replace HB:=A_ (bs_ (by repeat (first|(with_reducible first|exact HB.out|apply pa_|apply pn_|apply pd_|refine ps_ ?_ GE407.out|refine ps_ ?_ GE415.out|refine ps_ ?_ GE427.out)|exact HB.out)) hb);(try clear hb);(try clear hb2);(try clear hk);(try clear hi)))
            go_ret;exact ⟨by first|rfl|(simp [*,errW_none,errW_some] <;> rfl),by repeat (first|(with_reducible first|exact HB.out|apply pa_|apply pn_|apply pd_|refine ps_ ?_ GE407.out|refine ps_ ?_ GE415.out|refine ps_ ?_ GE427.out)|exact HB.out)⟩
           ·rw [if_neg c81] at H;have c81b0 : (t429 == t417) = false:=beq_eq_false_iff_ne.mpr c81;have c81b1 : (t429 != t417) = true:=bne_iff_ne.mpr c81;obtain rfl:=Option.some.inj H
            cases hr1_
      ·rw [if_neg c39] at H;have c39b0 : (t419 == t417) = false:=beq_eq_false_iff_ne.mpr c39;have c39b1 : (t419 != t417) = true:=bne_iff_ne.mpr c39;obtain rfl:=Option.some.inj H
       cases hr1_
def laws_FnExactReadLog.Pure : Prop := ∀ (a0 : ByteArray), a0.size ≤ 140737488351232 → ∃ k, laws_FnExactReadLog.f k a0 = some true
theorem laws_FnExactReadLog.walk (P : laws_FnExactReadLog.Pure) (a0 : ByteArray) (w : World) (w0 : a0.size ≤ 140737488351232) :
  Calls Try.prog 3 #[.string a0] w fun e w' => e = .returned (.bool true) ∧ Below w.heap.size w w':=by
 obtain ⟨k,h⟩:=P a0 w0;refine (laws_FnExactReadLog.calls k a0 true w h rfl).mono ?_;rintro e w' ⟨rfl,hd⟩;exact ⟨rfl,hd⟩
end Go.Proofs.Ytbcgnncbiblibaa.PFnExactReadLog
