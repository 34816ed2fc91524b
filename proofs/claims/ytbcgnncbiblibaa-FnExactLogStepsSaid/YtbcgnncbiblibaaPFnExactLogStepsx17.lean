/- The contracts of the Go functions that this law reaches: what each call returns, by a plain Lean function of its arguments. No conditions but those each contract names. By the kit's print.py, run by this session's wip/gen/pp.py with facts and hand proofs beside it: not to the letter what print.sh prints. -/
import Derived.Test.YtbcgnncbiblibaaPFnExactLogStepsx0
import Derived.Test.YtbcgnncbiblibaaPFnExactLogStepsx14
import Derived.Test.YtbcgnncbiblibaaPFnExactLogStepsx15
import Derived.Test.YtbcgnncbiblibaaPFnExactLogStepsx16
namespace Go.Proofs.Ytbcgnncbiblibaa.PFnExactLogSteps
open Go.RowKit Go.Proofs.YtbcgnncbiblibaaW.PrintWords Go.Proofs.YtbcgnncbiblibaaW.PrintLast Go.Proofs.YtbcgnncbiblibaaW.PrintMore
attribute [local go_sem] max2_int min2_int max_two min_two max_three min_three max_four min_four
set_option linter.unusedVariables false
set_option linter.unusedSimpArgs false
def impl_readStart.f (k : Nat) (a0 : ByteArray) : Option (Int × Int × (List (S69)) × Bool) := (impl_reader_byte.f a0 0 false).bind fun bt414 => ((impl_reader_num.f k bt414.2.1 bt414.2.2.1 bt414.2.2.2).bind fun bt418 => ((impl_reader_num.f k bt418.2.1 bt418.2.2.1 bt418.2.2.2).bind fun bt422 => (if bt414.1 = 83 then ((impl_reader_done.f bt422.2.1 bt422.2.2.1 bt422.2.2.2).bind fun bt427 => (some (bt418.1, bt422.1, ([] : List (S69)), bt427.1))) else (some (bt418.1, bt422.1, ([] : List (S69)), false)))))
theorem impl_readStart.mono : ∀ a0 k, LeO (impl_readStart.f k a0) (impl_readStart.f (k + 1) a0) := by
 intro a0 k
 unfold impl_readStart.f
 repeat' first
   | (with_reducible exact impl_reader_num.mono _ _ _ _)
   | (with_reducible exact LeO.refl _)
   | (with_reducible refine LeO.bind ?_ (fun _ => ?_))
def impl_readStart.T4 : Bool × List (List Nat × List Nat) := (true, [([], []), ([], []), ([1], [1]), ([2], [2]), ([3], [3]), ([4, 3, 3], [3, 4]), ([3, 5], [3, 5]), ([0, 5, 0], [0]), ([6, 7, 0, 1, 2, 3, 4, 5, 6, 7], [6])])
def impl_readStart.B4 : List Nat := [0, 0, 2, 6, 14, 30, 62, 63, 255]
theorem impl_readStart.tab4 : rtab .any (opsOf Try.f45 4) = impl_readStart.T4 := by kernel_rfl
theorem impl_readStart.bits4 : waitsOk impl_readStart.T4.2 impl_readStart.B4 = true := by kernel_rfl
set_option maxHeartbeats 8000000 in
set_option maxRecDepth 100000 in
theorem impl_readStart.calls (k : Nat) (a0 : ByteArray) (r1 : Int) (r2 : Int) (r3 : List (S69)) (r4 : Bool) (w : World) (h : impl_readStart.f k a0 = some (r1, r2, r3, r4)) :
  Calls Try.prog 45 #[.string a0] w fun e w' => ∃ v2_ : Value,e = .returned (.tuple #[.agg #[.int .i64 r1,.int .i64 r2,v2_],.bool r4]) ∧ Kd.R k69 69 w' w.heap.size (fun _ => True) v2_ r3 ∧ Below w.heap.size w w':=by
 have hu24:=Try.underlying24;have hu106:=Try.underlying106;have HB:=A_ (Below.refl w.heap.size w);unfold impl_readStart.f at h;have H:=h;clear h;replace H:=ob_.mp H;obtain ⟨⟨t414,t415,t416,t417⟩,A20,H⟩:=H;(try dsimp only at H);have A2:=A_ A20;clear A20;replace H:=ob_.mp H;obtain ⟨⟨t418,t419,t420,t421⟩,A30,H⟩:=H;(try dsimp only at H);have A3:=A_ A30;clear A30;replace H:=ob_.mp H;obtain ⟨⟨t422,t423,t424,t425⟩,A40,H⟩:=H;(try dsimp only at H);have A4:=A_ A40;clear A40
 by_cases c5 : t414 = 83
 ·rw [if_pos c5] at H;have c5b0 : (t414 == 83) = true:=beq_iff_eq.mpr c5;have c5b1 : (t414 != 83) = false:=bne_eq_false_iff_eq.mpr c5;clear c5;replace H:=ob_.mp H;obtain ⟨⟨t427,t428,t429,t430⟩,A60,H⟩:=H;(try dsimp only at H);have A6:=A_ A60;clear A60;simp only [Option.some.injEq,Prod.mk.injEq] at H;obtain ⟨rfl,rfl,rfl,rfl⟩:=H;go_enter Try.func45,Try.ntmps45
  try go_wp2_with (first|((with_reducible refine gate_dst (N:=2) rfl ?_);refine bE_ 2 #[.int .i64 0,.int .i64 0,.slice none 0 0] 24 ?_;intro gb412 hg w7 hbox hb;have BK412:=A_ (hbox);have GW412:=gE_ hg HB;have GE412:=gE_ hg HB;replace HB:=bS_ HB hb;clear hb hbox hg)|((with_reducible refine gate_dst (N:=9) rfl ?_);refine bE_ 9 #[.string a0,.int .i64 0,.bool false] 106 ?_;intro gb413 hg w8 hbox hb;have HI413:=A_ ((show IsS106 w w8 gb413 a0 0 false from ⟨hbox,(by rw [hg];exact (bz_ (bq_ HB)) : w.heap.size ≤ gb413)⟩));replace HB:=bS_ HB hb;have NB412_413:=nB_ hg BK412;have NB413_412:=nC_ hg BK412;replace BK412:=kB_ BK412 hb;clear hb hbox hg)|((with_reducible refine gate_callee (f:=65) rfl ?_);refine gL_ (some 11) Try.func65 #[.pointer (some ⟨gb413,0,none⟩)] ?_;(with_reducible refine (impl_reader_byte.calls gb413 a0 0 false t414 t415 t416 t417 w _ ?side1 ?side2 A2.out).mono ?_);(case side1 => exact iq106_ HI413);(case side2 => exact bi_ HB (IsS106.ge HI413.out));rintro e w9 ⟨rfl,hi,hb,hk⟩;refine ⟨_,rfl,?_⟩;replace BK412:=A_ (KeepBut.blk hk (g':=gb412) (o:=.cells #[.int .i64 0,.int .i64 0,.slice none 0 0] 24 (0,0)) (kq_ BK412) NB412_413.out (by simp));replace HB:=A_ (hb);replace HI413:=A_ (hi);(try clear hb);(try clear hk);(try clear hi))|((with_reducible refine gate_callee (f:=66) rfl ?_);refine gL_ (some 13) Try.func66 #[.pointer (some ⟨gb413,0,none⟩)] ?_;(with_reducible refine (impl_reader_num.calls k gb413 t415 t416 t417 t418 t419 t420 t421 w _ ?side1 ?side2 A3.out).mono ?_);(case side1 => exact iq106_ HI413);(case side2 => exact bi_ HB (IsS106.ge HI413.out));rintro e w10 ⟨rfl,hi,hb,hk⟩;refine ⟨_,rfl,?_⟩;replace BK412:=A_ (KeepBut.blk hk (g':=gb412) (o:=.cells #[.int .i64 0,.int .i64 0,.slice none 0 0] 24 (0,0)) (kq_ BK412) NB412_413.out (by simp));replace HB:=A_ (hb);replace HI413:=A_ (hi);(try clear hb);(try clear hk);(try clear hi))|((with_reducible refine gate_callee (f:=66) rfl ?_);refine gL_ (some 15) Try.func66 #[.pointer (some ⟨gb413,0,none⟩)] ?_;(with_reducible refine (impl_reader_num.calls k gb413 t419 t420 t421 t422 t423 t424 t425 w _ ?side1 ?side2 A4.out).mono ?_);(case side1 => exact iq106_ HI413);(case side2 => exact bi_ HB (IsS106.ge HI413.out));rintro e w11 ⟨rfl,hi,hb,hk⟩;refine ⟨_,rfl,?_⟩;replace BK412:=A_ (KeepBut.blk hk (g':=gb412) (o:=.cells #[.int .i64 0,.int .i64 0,.slice none 0 0] 24 (0,0)) (kq_ BK412) NB412_413.out (by simp));replace HB:=A_ (hb);replace HI413:=A_ (hi);(try clear hb);(try clear hk);(try clear hi))|((with_reducible refine gate_dst (N:=6) rfl ?_);refine bE_ 6 #[.int .i64 0,.int .i64 0,.slice none 0 0] 24 ?_;intro gb426 hg w12 hbox hb;have BK426:=A_ (hbox);have GW426:=A_ ((by rw [hg];exact (bz_ (bi_ HB (IsS106.ge HI413.out))) : w.heap.size ≤ gb426));have GE426:=A_ ((by rw [hg];exact (bz_ (bi_ HB (IsS106.ge HI413.out))) : w.heap.size ≤ gb426));replace HB:=A_ (bs_ (bi_ HB (IsS106.ge HI413.out)) hb);have NB412_426:=nB_ hg BK412;have NB426_412:=nC_ hg BK412;replace BK412:=kB_ BK412 hb;have NB413_426:=A_ ((by rw [hg];exact nl_ (IsS106.lt (show IsS106 w _ gb413 t423 t424 t425 from iq106_ HI413)) : gb413 ≠ gb426));have NB426_413:=A_ ((by rw [hg];exact ng_ (IsS106.lt (show IsS106 w _ gb413 t423 t424 t425 from iq106_ HI413)) : gb426 ≠ gb413));replace HI413:=A_ (IsS106.below (iq106_ HI413) hb);clear hb hbox hg;have hnb13:=NB426_412.out;have hnc13:=NB412_426.out;have hnb14:=NB426_413.out;have hnc14:=NB413_426.out;obtain ⟨hcz15_0,hcz15_1,hcz15_2,hfz15_0,hfz15_1,hfz15_2⟩:=k3f_ BK426))
  have n0_ : Aside0 ((((w12.setCell ⟨gb426,0,none⟩ (.int .i64 t418)).setCell ⟨gb426,1,none⟩ (.int .i64 t422)).setCell ⟨gb426,2,none⟩ (.slice none 0 0)).heap[gb412]? = some (.cells #[.int .i64 0,.int .i64 0,.slice none 0 0] 24 (0,0))):=⟨kz_ BK412⟩;have n1_ : Aside0 ((((w12.setCell ⟨gb426,0,none⟩ (.int .i64 t418)).setCell ⟨gb426,1,none⟩ (.int .i64 t422)).setCell ⟨gb426,2,none⟩ (.slice none 0 0)).heap[gb426]? = some (.cells #[.int .i64 t418,.int .i64 t422,.slice none 0 0] 24 (0,0))):=⟨kz_ BK426⟩;have n2_ : Aside0 (IsS106 w (((w12.setCell ⟨gb426,0,none⟩ (.int .i64 t418)).setCell ⟨gb426,1,none⟩ (.int .i64 t422)).setCell ⟨gb426,2,none⟩ (.slice none 0 0)) gb413 t423 t424 t425):=⟨iq106_ HI413⟩;have n3_ : Aside0 (Below w.heap.size w (((w12.setCell ⟨gb426,0,none⟩ (.int .i64 t418)).setCell ⟨gb426,1,none⟩ (.int .i64 t422)).setCell ⟨gb426,2,none⟩ (.slice none 0 0))):=⟨bi_ HB (IsS106.ge HI413.out)⟩
  (try clear BK412)
  (try clear BK426)
  (try clear HI413)
  (try clear HB)
  generalize (((w12.setCell ⟨gb426,0,none⟩ (.int .i64 t418)).setCell ⟨gb426,1,none⟩ (.int .i64 t422)).setCell ⟨gb426,2,none⟩ (.slice none 0 0)) = w16 at n0_ n1_ n2_ n3_ ⊢;have BK412:=n0_;have BK426:=n1_;have HI413:=n2_;have HB:=n3_;clear n0_ n1_ n2_ n3_;replace BK412:=A_ (kd_ BK412.out);replace BK426:=A_ (kd_ BK426.out);replace HI413:=A_ (IsS106.drew HI413.out);replace HB:=A_ (pd_ HB.out);refine start_ (n:=9) (S:=fun w' => w'.cell? ⟨gb426,0,none⟩ = some (.int .i64 t418) ∧ w'.cell? ⟨gb426,1,none⟩ = some (.int .i64 t422) ∧ w'.cell? ⟨gb426,2,none⟩ = some (.slice none 0 0)) (ds:=[]) #[false,false,false,false,false,false,false,false,false] (by kernel_rfl) rfl rfl ⟨kC_ BK426 0,kC_ BK426 1,kC_ BK426 2⟩ (fun hHeld => ?_);refine with_tabW impl_readStart.tab4 impl_readStart.bits4 (fun HT_ HW_ => ?_);generalize w16.drew = w17 at BK412 BK426 HI413 HB hHeld ⊢;refine pU_ 1 (some 18) ?_
  refine pU_ 2 (some 19) ?_
  refine pU_ 3 (some 20) ?_
  refine pU_ 4 (some 21) ?_
  refine tK_ 0 (some 17) hHeld ?_
  refine oN_ 5 (some 22) (fun K hK => ?_);refine gs_ Try.func99 #[.pointer (some ⟨gb413,0,none⟩)] ?_;with_reducible refine (impl_reader_done.calls gb413 t423 t424 t425 t427 t428 t429 t430 w _ ?side1 ?side2 A6.out).mono ?_
  (case side1 => exact iq106_ HI413)
  (case side2 => exact bi_ HB (IsS106.ge HI413.out))
  rintro e w18 ⟨rfl,hi,hb,hk⟩;refine ⟨_,rfl,?_⟩;replace BK412:=A_ (KeepBut.blk hk (g':=gb412) (o:=.cells #[.int .i64 0,.int .i64 0,.slice none 0 0] 24 (0,0)) (kq_ BK412) NB412_413.out (by simp));replace BK426:=A_ (KeepBut.blk hk (g':=gb426) (o:=.cells #[.int .i64 t418,.int .i64 t422,.slice none 0 0] 24 (0,0)) (kq_ BK426) NB426_413.out (by simp));replace HB:=A_ (hb);replace HI413:=A_ (hi)
  (try clear hb)
  (try clear hk)
  (try clear hi)
  refine hK.out _ _ ⟨kC_ BK426 0,kC_ BK426 1,kC_ BK426 2⟩ (fun hHeld => ?_);clear hK K;refine nX_ (some 22) ?_
  refine pU_ 6 (some 23) ?_
  refine oN_ 7 none (fun K hK => ?_);have hs19 : w18.cell? ⟨gb412,0,none⟩ = some (.int .i64 0):=(kc_ BK412.out 0).trans rfl;have hfs19:=kf_ BK412.out 0;have hns19_1:=NB426_412.out;have hms19_1:=NB412_426.out;have hs20 : w18.cell? ⟨gb412,1,none⟩ = some (.int .i64 0):=(kc_ BK412.out 1).trans rfl;have hfs20:=kf_ BK412.out 1;have hns20_1:=NB426_412.out;have hms20_1:=NB412_426.out;have hs21 : w18.cell? ⟨gb412,2,none⟩ = some (.slice none 0 0):=(kc_ BK412.out 2).trans rfl;have hfs21:=kf_ BK412.out 2;have hns21_1:=NB426_412.out;have hms21_1:=NB412_426.out;refine skip_ (w1:=?_) (by rfl) rfl ?_ ?_;rotate_left
  ·go_simp;rfl
  refine hK.out _ _ ⟨((cell_far (p:=⟨gb412,_,none⟩) NB426_412.out _).trans (((cell_far (p:=⟨gb412,_,none⟩) NB426_412.out _).trans (((cell_far (p:=⟨gb412,_,none⟩) NB426_412.out _).trans (hHeld.1)))))),((cell_far (p:=⟨gb412,_,none⟩) NB426_412.out _).trans (((cell_far (p:=⟨gb412,_,none⟩) NB426_412.out _).trans (((cell_far (p:=⟨gb412,_,none⟩) NB426_412.out _).trans (hHeld.2.1)))))),((cell_far (p:=⟨gb412,_,none⟩) NB426_412.out _).trans (((cell_far (p:=⟨gb412,_,none⟩) NB426_412.out _).trans (((cell_far (p:=⟨gb412,_,none⟩) NB426_412.out _).trans (hHeld.2.2))))))⟩ (fun hHeld => ?_);clear hK K;refine pU_ 8 (some 3) ?_
  refine done_ (done_of HT_.out (by kernel_rfl)) ?_
  try go_wp2
  refine bodyPost_ret (results_ct rfl _ _ gb412 24 #[.int .i64 t418,.int .i64 t422,.slice none 0 0] (0,0) _ rfl (kz_ BK412) Try.underlying24 rfl (by kernel_rfl)) rfl ?_;exact ⟨_,by rfl,by exact Kd.R_nil _ _ _ _ _,bi_ HB (IsS106.ge HI413.out)⟩
 ·rw [if_neg c5] at H;have c5b0 : (t414 == 83) = false:=beq_eq_false_iff_ne.mpr c5;have c5b1 : (t414 != 83) = true:=bne_iff_ne.mpr c5;simp only [Option.some.injEq,Prod.mk.injEq] at H;obtain ⟨rfl,rfl,rfl,rfl⟩:=H;go_enter Try.func45,Try.ntmps45
  try go_wp2_with (first|((with_reducible refine gate_dst (N:=2) rfl ?_);refine bE_ 2 #[.int .i64 0,.int .i64 0,.slice none 0 0] 24 ?_;intro gb412 hg w22 hbox hb;have BK412:=A_ (hbox);have GW412:=gE_ hg HB;have GE412:=gE_ hg HB;replace HB:=bS_ HB hb;clear hb hbox hg)|((with_reducible refine gate_dst (N:=9) rfl ?_);refine bE_ 9 #[.string a0,.int .i64 0,.bool false] 106 ?_;intro gb413 hg w23 hbox hb;have HI413:=A_ ((show IsS106 w w23 gb413 a0 0 false from ⟨hbox,(by rw [hg];exact (bz_ (bq_ HB)) : w.heap.size ≤ gb413)⟩));replace HB:=bS_ HB hb;have NB412_413:=nB_ hg BK412;have NB413_412:=nC_ hg BK412;replace BK412:=kB_ BK412 hb;clear hb hbox hg)|((with_reducible refine gate_callee (f:=65) rfl ?_);refine gL_ (some 11) Try.func65 #[.pointer (some ⟨gb413,0,none⟩)] ?_;(with_reducible refine (impl_reader_byte.calls gb413 a0 0 false t414 t415 t416 t417 w _ ?side1 ?side2 A2.out).mono ?_);(case side1 => exact iq106_ HI413);(case side2 => exact bi_ HB (IsS106.ge HI413.out));rintro e w24 ⟨rfl,hi,hb,hk⟩;refine ⟨_,rfl,?_⟩;replace BK412:=A_ (KeepBut.blk hk (g':=gb412) (o:=.cells #[.int .i64 0,.int .i64 0,.slice none 0 0] 24 (0,0)) (kq_ BK412) NB412_413.out (by simp));replace HB:=A_ (hb);replace HI413:=A_ (hi);(try clear hb);(try clear hk);(try clear hi))|((with_reducible refine gate_callee (f:=66) rfl ?_);refine gL_ (some 13) Try.func66 #[.pointer (some ⟨gb413,0,none⟩)] ?_;(with_reducible refine (impl_reader_num.calls k gb413 t415 t416 t417 t418 t419 t420 t421 w _ ?side1 ?side2 A3.out).mono ?_);(case side1 => exact iq106_ HI413);(case side2 => exact bi_ HB (IsS106.ge HI413.out));rintro e w25 ⟨rfl,hi,hb,hk⟩;refine ⟨_,rfl,?_⟩;replace BK412:=A_ (KeepBut.blk hk (g':=gb412) (o:=.cells #[.int .i64 0,.int .i64 0,.slice none 0 0] 24 (0,0)) (kq_ BK412) NB412_413.out (by simp));replace HB:=A_ (hb);replace HI413:=A_ (hi);(try clear hb);(try clear hk);(try clear hi))|((with_reducible refine gate_callee (f:=66) rfl ?_);refine gL_ (some 15) Try.func66 #[.pointer (some ⟨gb413,0,none⟩)] ?_;(with_reducible refine (impl_reader_num.calls k gb413 t419 t420 t421 t422 t423 t424 t425 w _ ?side1 ?side2 A4.out).mono ?_);(case side1 => exact iq106_ HI413);(case side2 => exact bi_ HB (IsS106.ge HI413.out));rintro e w26 ⟨rfl,hi,hb,hk⟩;refine ⟨_,rfl,?_⟩;replace BK412:=A_ (KeepBut.blk hk (g':=gb412) (o:=.cells #[.int .i64 0,.int .i64 0,.slice none 0 0] 24 (0,0)) (kq_ BK412) NB412_413.out (by simp));replace HB:=A_ (hb);replace HI413:=A_ (hi);(try clear hb);(try clear hk);(try clear hi))|((with_reducible refine gate_dst (N:=6) rfl ?_);refine bE_ 6 #[.int .i64 0,.int .i64 0,.slice none 0 0] 24 ?_;intro gb426 hg w27 hbox hb;have BK426:=A_ (hbox);have GW426:=A_ ((by rw [hg];exact (bz_ (bi_ HB (IsS106.ge HI413.out))) : w.heap.size ≤ gb426));have GE426:=A_ ((by rw [hg];exact (bz_ (bi_ HB (IsS106.ge HI413.out))) : w.heap.size ≤ gb426));replace HB:=A_ (bs_ (bi_ HB (IsS106.ge HI413.out)) hb);have NB412_426:=nB_ hg BK412;have NB426_412:=nC_ hg BK412;replace BK412:=kB_ BK412 hb;have NB413_426:=A_ ((by rw [hg];exact nl_ (IsS106.lt (show IsS106 w _ gb413 t423 t424 t425 from iq106_ HI413)) : gb413 ≠ gb426));have NB426_413:=A_ ((by rw [hg];exact ng_ (IsS106.lt (show IsS106 w _ gb413 t423 t424 t425 from iq106_ HI413)) : gb426 ≠ gb413));replace HI413:=A_ (IsS106.below (iq106_ HI413) hb);clear hb hbox hg;have hnb28:=NB426_412.out;have hnc28:=NB412_426.out;have hnb29:=NB426_413.out;have hnc29:=NB413_426.out;obtain ⟨hcz30_0,hcz30_1,hcz30_2,hfz30_0,hfz30_1,hfz30_2⟩:=k3f_ BK426))
  have n0_ : Aside0 ((((w27.setCell ⟨gb426,0,none⟩ (.int .i64 t418)).setCell ⟨gb426,1,none⟩ (.int .i64 t422)).setCell ⟨gb426,2,none⟩ (.slice none 0 0)).heap[gb412]? = some (.cells #[.int .i64 0,.int .i64 0,.slice none 0 0] 24 (0,0))):=⟨kz_ BK412⟩;have n1_ : Aside0 ((((w27.setCell ⟨gb426,0,none⟩ (.int .i64 t418)).setCell ⟨gb426,1,none⟩ (.int .i64 t422)).setCell ⟨gb426,2,none⟩ (.slice none 0 0)).heap[gb426]? = some (.cells #[.int .i64 t418,.int .i64 t422,.slice none 0 0] 24 (0,0))):=⟨kz_ BK426⟩;have n2_ : Aside0 (IsS106 w (((w27.setCell ⟨gb426,0,none⟩ (.int .i64 t418)).setCell ⟨gb426,1,none⟩ (.int .i64 t422)).setCell ⟨gb426,2,none⟩ (.slice none 0 0)) gb413 t423 t424 t425):=⟨iq106_ HI413⟩;have n3_ : Aside0 (Below w.heap.size w (((w27.setCell ⟨gb426,0,none⟩ (.int .i64 t418)).setCell ⟨gb426,1,none⟩ (.int .i64 t422)).setCell ⟨gb426,2,none⟩ (.slice none 0 0))):=⟨bi_ HB (IsS106.ge HI413.out)⟩
  (try clear BK412)
  (try clear BK426)
  (try clear HI413)
  (try clear HB)
  generalize (((w27.setCell ⟨gb426,0,none⟩ (.int .i64 t418)).setCell ⟨gb426,1,none⟩ (.int .i64 t422)).setCell ⟨gb426,2,none⟩ (.slice none 0 0)) = w31 at n0_ n1_ n2_ n3_ ⊢;have BK412:=n0_;have BK426:=n1_;have HI413:=n2_;have HB:=n3_;clear n0_ n1_ n2_ n3_;replace BK412:=A_ (kd_ BK412.out);replace BK426:=A_ (kd_ BK426.out);replace HI413:=A_ (IsS106.drew HI413.out);replace HB:=A_ (pd_ HB.out);refine start_ (n:=9) (S:=fun w' => w'.cell? ⟨gb426,0,none⟩ = some (.int .i64 t418) ∧ w'.cell? ⟨gb426,1,none⟩ = some (.int .i64 t422) ∧ w'.cell? ⟨gb426,2,none⟩ = some (.slice none 0 0)) (ds:=[]) #[false,false,false,false,false,false,false,false,false] (by kernel_rfl) rfl rfl ⟨kC_ BK426 0,kC_ BK426 1,kC_ BK426 2⟩ (fun hHeld => ?_);refine with_tabW impl_readStart.tab4 impl_readStart.bits4 (fun HT_ HW_ => ?_);generalize w31.drew = w32 at BK412 BK426 HI413 HB hHeld ⊢;refine pU_ 1 (some 18) ?_
  refine pU_ 2 (some 19) ?_
  refine pU_ 3 (some 20) ?_
  refine pure_ (i:=4) (N:=some 21) (v:=undef) (a':=?_) #[false,true,true,true,true,false,false,false,false] rfl rfl (any_of HT_.out (by kernel_rfl)) (fun _ _ _ h => h) (Or.inr ⟨by rfl,rfl⟩) ?_ ?_;rotate_left
  ·exact ux_
  refine pure_ (i:=5) (N:=some 22) (v:=undef) (a':=?_) #[false,true,true,true,true,true,false,false,false] rfl rfl (any_of HT_.out (by kernel_rfl)) (fun _ _ _ h => h) (Or.inr ⟨by rfl,rfl⟩) ?_ ?_;rotate_left
  ·exact ux_
  refine pU_ 6 (some 23) ?_
  refine tK_ 0 (some 17) hHeld ?_
  refine oN_ 7 none (fun K hK => ?_);have hs33 : w32.cell? ⟨gb412,0,none⟩ = some (.int .i64 0):=(kc_ BK412.out 0).trans rfl;have hfs33:=kf_ BK412.out 0;have hns33_1:=NB426_412.out;have hms33_1:=NB412_426.out;have hs34 : w32.cell? ⟨gb412,1,none⟩ = some (.int .i64 0):=(kc_ BK412.out 1).trans rfl;have hfs34:=kf_ BK412.out 1;have hns34_1:=NB426_412.out;have hms34_1:=NB412_426.out;have hs35 : w32.cell? ⟨gb412,2,none⟩ = some (.slice none 0 0):=(kc_ BK412.out 2).trans rfl;have hfs35:=kf_ BK412.out 2;have hns35_1:=NB426_412.out;have hms35_1:=NB412_426.out;refine skip_ (w1:=?_) (by rfl) rfl ?_ ?_;rotate_left
  ·go_simp;rfl
  refine hK.out _ _ ⟨((cell_far (p:=⟨gb412,_,none⟩) NB426_412.out _).trans (((cell_far (p:=⟨gb412,_,none⟩) NB426_412.out _).trans (((cell_far (p:=⟨gb412,_,none⟩) NB426_412.out _).trans (hHeld.1)))))),((cell_far (p:=⟨gb412,_,none⟩) NB426_412.out _).trans (((cell_far (p:=⟨gb412,_,none⟩) NB426_412.out _).trans (((cell_far (p:=⟨gb412,_,none⟩) NB426_412.out _).trans (hHeld.2.1)))))),((cell_far (p:=⟨gb412,_,none⟩) NB426_412.out _).trans (((cell_far (p:=⟨gb412,_,none⟩) NB426_412.out _).trans (((cell_far (p:=⟨gb412,_,none⟩) NB426_412.out _).trans (hHeld.2.2))))))⟩ (fun hHeld => ?_);clear hK K;refine pU_ 8 (some 3) ?_
  refine done_ (done_of HT_.out (by kernel_rfl)) ?_
  try go_wp2
  refine bodyPost_ret (results_ct rfl _ _ gb412 24 #[.int .i64 t418,.int .i64 t422,.slice none 0 0] (0,0) _ rfl (kz_ BK412) Try.underlying24 rfl (by kernel_rfl)) rfl ?_;exact ⟨_,by rfl,by exact Kd.R_nil _ _ _ _ _,bi_ HB (IsS106.ge HI413.out)⟩
def impl_ConfOk.l0 : Nat → List Int → List Int → Int → Int → Option (Bool)
 | 0,_,_,_,_ => none
 | k + 1,x0,x5,x6,x7 => if x7 < x6 then (if 0 ≤ x7 then (if x7 < (x5.length : Int) then ((impl_within.f (rd x5 x7) 1 4).bind fun t432 => (if t432 = true then (if x7 > 0 then (if 0 ≤ (wrap64 (x7 - 1)) then (if (wrap64 (x7 - 1)) < (x0.length : Int) then (if (rd x0 (wrap64 (x7 - 1))) ≥ (rd x5 x7) then (some false) else (impl_ConfOk.l0 k x0 x5 x6 (wrap64 (x7 + 1)))) else (none)) else (none)) else (impl_ConfOk.l0 k x0 x5 x6 (wrap64 (x7 + 1)))) else (some false))) else (none)) else (none)) else ((impl_within.f (x0.length : Int) 1 4).bind fun t434 => (some t434))
def impl_ConfOk.f (k : Nat) (l0 : List Int) : Option (Bool) := impl_ConfOk.l0 k l0 l0 (l0.length : Int) 0
theorem impl_ConfOk.mono_l : ∀ k, (∀ y0 y1 y2 y3, LeO (impl_ConfOk.l0 k y0 y1 y2 y3) (impl_ConfOk.l0 (k + 1) y0 y1 y2 y3))
 | 0 => fun _ _ _ _ r h => by simp [impl_ConfOk.l0] at h
 | k + 1 => by
  have ih0:=impl_ConfOk.mono_l k
  ·intro y0 y1 y2 y3
   unfold impl_ConfOk.l0
   repeat' first
   | (with_reducible exact ih0 _ _ _ _)
   | (with_reducible exact LeO.refl _)
   | (with_reducible refine LeO.ite ?_ ?_)
   | (with_reducible refine LeO.bind ?_ (fun _ => ?_))
theorem impl_ConfOk.mono : ∀ a0 k, LeO (impl_ConfOk.f k a0) (impl_ConfOk.f (k + 1) a0) := by
 intro a0 k;have ih0:=impl_ConfOk.mono_l k
 unfold impl_ConfOk.f
 repeat' first
   | (with_reducible exact ih0 _ _ _ _)
set_option maxHeartbeats 8000000 in
set_option maxRecDepth 100000 in
theorem impl_ConfOk.calls (k : Nat) (A0 : Option Addr) (c0 : Nat) (l0 : List Int) (r : Bool) (w : World) (hr0 : Kd.C (Kd.int .i64) w A0 l0.length l0) (hc0 : l0.length ≤ c0) (h : impl_ConfOk.f k l0 = some r) :
  Calls Try.prog 116 #[.slice A0 l0.length c0] w fun e w' => e = .returned (.bool r) ∧ Drawn0 w w':=by
 have HR0:=A_ hr0;have HC0:=A_ hc0;clear hr0 hc0;unfold impl_ConfOk.f at h;have H:=h;clear h;have H':=A_ H;clear H;go_enter Try.func116,Try.ntmps116;go_wp2
 go_loopg [7] k (fun kq v7 w' => ∃ (x7_1 : Int),v7 = .int .i64 x7_1 ∧ Aside0 (impl_ConfOk.l0 kq l0 l0 (l0.length : Int) x7_1 = some r) ∧ Aside0 (kq ≤ k) ∧ Drawn0 w w')
 case atStart => exact ⟨(0),(by rfl),H',⟨Nat.le_refl _⟩,by repeat (exact Drawn0.refl _)⟩
 case round =>
  clear H'
  try clear c1
  obtain ⟨x7_1,rfl,HA,HK1,⟨m1,rfl⟩⟩:=hrel
  cases gk with
  | zero => exact absurd HA.out (by simp [impl_ConfOk.l0])
  | succ k1 =>
   have H:=HA.out;clear HA;simp only [impl_ConfOk.l0] at H
   by_cases c2 : x7_1 < (l0.length : Int)
   ·rw [if_pos c2] at H;have c2b0 : decide (x7_1 < (l0.length : Int)) = true:=de_ c2;clear c2
    by_cases c3 : 0 ≤ x7_1
    ·rw [if_pos c3] at H;have c3b0 : decide (0 ≤ x7_1) = true:=de_ c3;clear c3
     by_cases c4 : x7_1 < (l0.length : Int)
     ·rw [if_pos c4] at H;have c4b0 : decide (x7_1 < (l0.length : Int)) = true:=de_ c4;clear c4;replace H:=ob_.mp H;obtain ⟨t432,A50,H⟩:=H;have A5:=A_ A50;clear A50
      by_cases c6 : t432 = true
      ·subst c6
       rw [if_pos rfl] at H
       by_cases c7 : x7_1 > 0
       ·rw [if_pos c7] at H;have c7b0 : decide (0 < x7_1) = true:=de_ c7;clear c7;obtain ⟨ji8,hji8⟩ : ∃ j_ : Int,(wrap64 (x7_1 - 1)) = j_:=⟨_,rfl⟩
        replace H : (if 0 ≤ (ji8) then (if (ji8) < (l0.length : Int) then (if (rd l0 (ji8)) ≥ (rd l0 x7_1) then (some false) else (impl_ConfOk.l0 k1 l0 l0 (l0.length : Int) (wrap64 (x7_1 + 1)))) else (none)) else (none)) = some r:=by (rw [hji8] at H;exact H)
        have hji8w : (IntKind.i64.wrap (x7_1 - 1)) = ji8:=(i64_w _).trans hji8
        by_cases c9 : 0 ≤ (ji8)
        ·rw [if_pos c9] at H;have c9b0 : decide (0 ≤ (ji8)) = true:=de_ c9;clear c9
         by_cases c10 : (ji8) < (l0.length : Int)
         ·rw [if_pos c10] at H;have c10b0 : decide ((ji8) < (l0.length : Int)) = true:=de_ c10;clear c10
          by_cases c11 : (rd l0 (ji8)) ≥ (rd l0 x7_1)
          ·rw [if_pos c11] at H;have c11b0 : decide ((rd l0 x7_1) ≤ (rd l0 (ji8))) = true:=de_ c11;clear c11;obtain rfl:=Option.some.inj H;have p431 : 0 ≤ (x7_1 : Int):=oda_;have q431 : x7_1 < (l0.length : Int):=oda_;obtain ⟨ad431,e431,hx431_0⟩:=Kd.at_int HR0.out x7_1 p431 q431
           cases e431
           replace p431:=eq_true p431;replace q431:=eq_true q431
           go_wp2_with (((with_reducible refine gate_callee (f:=47) rfl ?_);refine gL_ (some 13) Try.func47 #[.int .i64 (rd l0 x7_1),.int .i64 1,.int .i64 4] ?_;(with_reducible refine (impl_within.calls (rd l0 x7_1) 1 4 true _ A5.out).mono ?_);rintro e w' ⟨rfl,⟨nd,rfl⟩⟩;refine ⟨_,rfl,?_⟩;have p433 : 0 ≤ ((ji8) : Int):=oda_;have q433 : (ji8) < (l0.length : Int):=oda_;obtain ⟨ad433,e433,hx433_0⟩:=Kd.at_int HR0.out (ji8) p433 q433;obtain rfl : ad431 = ad433:=(by injection e433);replace p433:=eq_true p433;replace q433:=eq_true q433))
           go_ret;exact ⟨by rfl,by repeat (first|exact Drawn0.refl _|apply Drawn0.step)⟩
          ·rw [if_neg c11] at H;have c11b0 : decide ((rd l0 x7_1) ≤ (rd l0 (ji8))) = false:=decide_eq_false c11;clear c11;have H':=A_ H;clear H;have p431 : 0 ≤ (x7_1 : Int):=oda_;have q431 : x7_1 < (l0.length : Int):=oda_;obtain ⟨ad431,e431,hx431_0⟩:=Kd.at_int HR0.out x7_1 p431 q431
           cases e431
           replace p431:=eq_true p431;replace q431:=eq_true q431
           go_wp2_with (((with_reducible refine gate_callee (f:=47) rfl ?_);refine gL_ (some 13) Try.func47 #[.int .i64 (rd l0 x7_1),.int .i64 1,.int .i64 4] ?_;(with_reducible refine (impl_within.calls (rd l0 x7_1) 1 4 true _ A5.out).mono ?_);rintro e w' ⟨rfl,⟨nd,rfl⟩⟩;refine ⟨_,rfl,?_⟩;have p433 : 0 ≤ ((ji8) : Int):=oda_;have q433 : (ji8) < (l0.length : Int):=oda_;obtain ⟨ad433,e433,hx433_0⟩:=Kd.at_int HR0.out (ji8) p433 q433;obtain rfl : ad431 = ad433:=(by injection e433);replace p433:=eq_true p433;replace q433:=eq_true q433))
           go_roundg k1
           case measure => have:=HK1.out;omega
           case rel => exact ⟨(wrap64 (x7_1 + 1)),(by rfl),H',⟨by have:=HK1.out;omega⟩,by repeat (first|exact Drawn0.refl _|apply Drawn0.step)⟩
         ·rw [if_neg c10] at H;exact absurd H (by simp)
        ·rw [if_neg c9] at H;exact absurd H (by simp)
       ·rw [if_neg c7] at H;have c7b0 : decide (0 < x7_1) = false:=decide_eq_false c7;clear c7;have H':=A_ H;clear H;have p431 : 0 ≤ (x7_1 : Int):=oda_;have q431 : x7_1 < (l0.length : Int):=oda_;obtain ⟨ad431,e431,hx431_0⟩:=Kd.at_int HR0.out x7_1 p431 q431
        cases e431
        replace p431:=eq_true p431;replace q431:=eq_true q431
        go_wp2_with (((with_reducible refine gate_callee (f:=47) rfl ?_);refine gL_ (some 13) Try.func47 #[.int .i64 (rd l0 x7_1),.int .i64 1,.int .i64 4] ?_;(with_reducible refine (impl_within.calls (rd l0 x7_1) 1 4 true _ A5.out).mono ?_);rintro e w' ⟨rfl,⟨nd,rfl⟩⟩;refine ⟨_,rfl,?_⟩))
        go_roundg k1
        case measure => have:=HK1.out;omega
        case rel => exact ⟨(wrap64 (x7_1 + 1)),(by rfl),H',⟨by have:=HK1.out;omega⟩,by repeat (first|exact Drawn0.refl _|apply Drawn0.step)⟩
      ·replace c6:=Bool.eq_false_iff.mpr c6;subst c6
       have H1 : (some false) = some r:=by rw [if_neg (show ¬ (false = true) by decide)] at H;exact H
       clear H;have H:=H1;clear H1;obtain rfl:=Option.some.inj H;have p431 : 0 ≤ (x7_1 : Int):=oda_;have q431 : x7_1 < (l0.length : Int):=oda_;obtain ⟨ad431,e431,hx431_0⟩:=Kd.at_int HR0.out x7_1 p431 q431
       cases e431
       replace p431:=eq_true p431;replace q431:=eq_true q431
       go_wp2_with (((with_reducible refine gate_callee (f:=47) rfl ?_);refine gL_ (some 13) Try.func47 #[.int .i64 (rd l0 x7_1),.int .i64 1,.int .i64 4] ?_;(with_reducible refine (impl_within.calls (rd l0 x7_1) 1 4 false _ A5.out).mono ?_);rintro e w' ⟨rfl,⟨nd,rfl⟩⟩;refine ⟨_,rfl,?_⟩))
       go_ret;exact ⟨by rfl,by repeat (first|exact Drawn0.refl _|apply Drawn0.step)⟩
     ·rw [if_neg c4] at H;exact absurd H (by simp)
    ·rw [if_neg c3] at H;exact absurd H (by simp)
   ·rw [if_neg c2] at H;have c2b0 : decide (x7_1 < (l0.length : Int)) = false:=decide_eq_false c2;clear c2;replace H:=ob_.mp H;obtain ⟨t434,A120,H⟩:=H;have A12:=A_ A120;clear A120;obtain rfl:=Option.some.inj H
    go_wp2_with (((with_reducible refine gate_callee (f:=47) rfl ?_);refine gL_ (some 31) Try.func47 #[.int .i64 (l0.length : Int),.int .i64 1,.int .i64 4] ?_;(with_reducible refine (impl_within.calls (l0.length : Int) 1 4 t434 _ A12.out).mono ?_);rintro e w' ⟨rfl,⟨nd,rfl⟩⟩;refine ⟨_,rfl,?_⟩))
    go_ret;exact ⟨by rfl,by repeat (first|exact Drawn0.refl _|apply Drawn0.step)⟩
def impl_ReadConf.l0 : Nat → ByteArray → List Int → Int → Option (List Int × Bool)
 | 0,_,_,_ => none
 | k + 1,x0,x4,x5 => if x5 < (x0.size : Int) then (if 0 ≤ x5 then (if x4.length < 17592186044416 then (impl_ReadConf.l0 k x0 (x4 ++ [wrap64 (bt x0 x5)]) (wrap64 (x5 + 1))) else (none)) else (none)) else ((impl_ConfOk.f k x4).bind fun t438 => (if t438 = true then (some (x4,true)) else (some (([] : List Int),false))))
def impl_ReadConf.f (k : Nat) (a0 : ByteArray) : Option (List Int × Bool) := impl_ReadConf.l0 k a0 ([] : List Int) 0
theorem impl_ReadConf.mono_l : ∀ k, (∀ y0 y1 y2, LeO (impl_ReadConf.l0 k y0 y1 y2) (impl_ReadConf.l0 (k + 1) y0 y1 y2))
 | 0 => fun _ _ _ r h => by simp [impl_ReadConf.l0] at h
 | k + 1 => by
  have ih0:=impl_ReadConf.mono_l k
  ·intro y0 y1 y2
   unfold impl_ReadConf.l0
   repeat' first
   | (with_reducible exact ih0 _ _ _)
   | (with_reducible exact impl_ConfOk.mono _ _)
   | (with_reducible exact LeO.refl _)
   | (with_reducible refine LeO.ite ?_ ?_)
   | (with_reducible refine LeO.bind ?_ (fun _ => ?_))
theorem impl_ReadConf.mono : ∀ a0 k, LeO (impl_ReadConf.f k a0) (impl_ReadConf.f (k + 1) a0) := by
 intro a0 k;have ih0:=impl_ReadConf.mono_l k
 unfold impl_ReadConf.f
 repeat' first
   | (with_reducible exact ih0 _ _ _)
set_option maxHeartbeats 8000000 in
set_option maxRecDepth 100000 in
theorem impl_ReadConf.calls (k : Nat) (a0 : ByteArray) (r1 : List Int) (r2 : Bool) (w : World) (h : impl_ReadConf.f k a0 = some (r1, r2)) :
  Calls Try.prog 125 #[.string a0] w fun e w' => ∃ v0_ : Value,e = .returned (.tuple #[v0_,.bool r2]) ∧ Kd.R (Kd.int .i64) 3 w' w.heap.size (fun _ => True) v0_ r1 ∧ Below w.heap.size w w':=by
 have HB:=A_ (Below.refl w.heap.size w);unfold impl_ReadConf.f at h;have H:=h;clear h;have H':=A_ H;clear H;go_enter Try.func125,Try.ntmps125;go_wp2
 go_loopg [4,5] k (fun kq v4 v5 w' => ∃ (x4_1 : List Int) (x5_1 : Int),v5 = .int .i64 x5_1 ∧ Aside0 (impl_ReadConf.l0 kq a0 x4_1 x5_1 = some (r1,r2)) ∧ Aside0 (kq ≤ k) ∧ Aside0 (Kd.R (Kd.int .i64) 3 w' w.heap.size (fun _ => True) v4 x4_1) ∧ Aside0 (Below w.heap.size w w'))
 case atStart => exact ⟨(([] : List Int)),(0),(by rfl),H',⟨Nat.le_refl _⟩,⟨by exact Kd.R_nil _ _ _ _ _⟩,⟨bq_ HB⟩⟩
 case round =>
  clear H'
  try clear c1
  obtain ⟨x4_1,x5_1,rfl,HA,HK1,HO_4,HB⟩:=hrel
  cases gk with
  | zero => exact absurd HA.out (by simp [impl_ReadConf.l0])
  | succ k1 =>
   have H:=HA.out;clear HA;simp only [impl_ReadConf.l0] at H
   by_cases c2 : x5_1 < (a0.size : Int)
   ·rw [if_pos c2] at H;have c2b0 : decide (x5_1 < (a0.size : Int)) = true:=de_ c2;clear c2
    by_cases c3 : 0 ≤ x5_1
    ·rw [if_pos c3] at H;have c3b0 : decide (0 ≤ x5_1) = true:=de_ c3;clear c3
     by_cases c5 : x4_1.length < 17592186044416
     ·rw [if_pos c5] at H;have LMc5:=A_ c5;clear c5;obtain ⟨y435,hy435⟩ : ∃ y_ : List Int,y_ = (x4_1 ++ [wrap64 (bt a0 x5_1)]):=⟨_,rfl⟩
      replace H : (impl_ReadConf.l0 k1 a0 y435 (wrap64 (x5_1 + 1))) = some (r1,r2):=by (rw [hy435];with_reducible exact H)
      have Ny435:=A_ hy435;clear hy435;have H':=A_ H;clear H;have p4 : 0 ≤ (x5_1 : Int):=oda_;have q4 : x5_1 < (a0.size : Int):=oda_;have hx4:=bt_at a0 x5_1;replace p4:=eq_true p4;replace q4:=eq_true q4
      go_wp2_with (((with_reducible refine gate_builtin (b:=.append) (xs:=#[.tmp 12,.tmp 17]) rfl ?_);at_builtin;refine Kd.R_append (Kd.int .i64) (w0:=w) w.heap.size rfl (.tmp 12) (.tmp 17) 39 3 (.int .i64 0) 8 rfl Try.underlying39 info3 rfl (by decide) (by omega) u4 x4_1 (wrap64 (bt a0 x5_1)) [.int .i64 (wrap64 (bt a0 x5_1))] (fun _ => True) (fun _ => False) rfl rfl ?aP (fun _ hk => hk.elim) ?aF ?aO ?aB ?aS ?aL ?_;(case aP => exact rfl);(case aB => exact (bq_ HB));(case aF => exact (fun _ _ => trivial));(case aO => exact (rq_ HO_4));(case aS => exact (bz_ (bq_ HB)));(case aL => have:=LMc5.out;omega);intro v436 w6 ho hb hg hat;rw [← Ny435.out] at ho;replace HB:=A_ (hb);have HO437:=A_ (ho);clear HO_4;clear ho hb hg hat))
      go_roundg k1
      case measure => have:=HK1.out;omega
      case rel => exact ⟨(y435),(wrap64 (x5_1 + 1)),(by rfl),H',⟨by have:=HK1.out;omega⟩,⟨HO437.out⟩,⟨bq_ HB⟩⟩
     ·rw [if_neg c5] at H;exact absurd H (by simp)
    ·rw [if_neg c3] at H;exact absurd H (by simp)
   ·rw [if_neg c2] at H;have c2b0 : decide (x5_1 < (a0.size : Int)) = false:=decide_eq_false c2;clear c2;replace H:=ob_.mp H;obtain ⟨t438,A70,H⟩:=H;have A7:=A_ A70;clear A70
    by_cases c8 : t438 = true
    ·subst c8
     rw [if_pos rfl] at H;simp only [Option.some.injEq,Prod.mk.injEq] at H;obtain ⟨rfl,rfl⟩:=H;obtain ⟨Ao9,co9,eo9⟩:=Kd.R_slice HO_4.out;subst eo9
     go_wp2_with (((with_reducible refine gate_callee (f:=116) rfl ?_);refine gL_ (some 20) Try.func116 #[.slice Ao9 x4_1.length co9] ?_;(with_reducible refine (impl_ConfOk.calls k1 _ _ x4_1 true _ ?side1 ?side2 A7.out).mono ?_);(case side1 => repeat (exact (Kd.R_reads' HO_4.out).2.2));(case side2 => exact (Kd.R_reads' HO_4.out).2.1);rintro e w' ⟨rfl,⟨nd,rfl⟩⟩;refine ⟨_,rfl,?_⟩))
     go_ret2;exact ⟨_,by rfl,by (with_reducible repeat (apply rn_));exact HO_4.out,bq_ HB⟩
    ·replace c8:=Bool.eq_false_iff.mpr c8;subst c8
     have H1 : (some (([] : List Int),false)) = some (r1,r2):=by rw [if_neg (show ¬ (false = true) by decide)] at H;exact H
     clear H;have H:=H1;clear H1;simp only [Option.some.injEq,Prod.mk.injEq] at H;obtain ⟨rfl,rfl⟩:=H;obtain ⟨Ao10,co10,eo10⟩:=Kd.R_slice HO_4.out;subst eo10
     go_wp2_with (((with_reducible refine gate_callee (f:=116) rfl ?_);refine gL_ (some 20) Try.func116 #[.slice Ao10 x4_1.length co10] ?_;(with_reducible refine (impl_ConfOk.calls k1 _ _ x4_1 false _ ?side1 ?side2 A7.out).mono ?_);(case side1 => repeat (exact (Kd.R_reads' HO_4.out).2.2));(case side2 => exact (Kd.R_reads' HO_4.out).2.1);rintro e w' ⟨rfl,⟨nd,rfl⟩⟩;refine ⟨_,rfl,?_⟩))
     go_ret2;exact ⟨_,by rfl,by exact Kd.R_nil _ _ _ _ _,bq_ HB⟩
def impl_EntryOk.f (k : Nat) (a0_0 : Int) (a0_1 : Int) (a0_2 : ByteArray) : Option (Bool) := (impl_within.f a0_0 0 100000).bind fun t440 => (if t440 = true then (if a0_1 = 1 then (some (a0_2.toList == ([] : List UInt8))) else (if a0_1 = 2 then ((impl_ReadConf.f k a0_2).bind fun bt441 => (some bt441.2)) else (if a0_1 = 3 then (some (decide ((a0_2.size : Int) ≤ 120))) else (some false)))) else (some false))
theorem impl_EntryOk.mono : ∀ a0 a1 a2 k, LeO (impl_EntryOk.f k a0 a1 a2) (impl_EntryOk.f (k + 1) a0 a1 a2) := by
 intro a0 a1 a2 k
 unfold impl_EntryOk.f
 repeat' first
   | (with_reducible exact impl_ReadConf.mono _ _)
   | (with_reducible exact LeO.refl _)
   | (with_reducible refine LeO.ite ?_ ?_)
   | (with_reducible refine LeO.bind ?_ (fun _ => ?_))
set_option maxHeartbeats 8000000 in
set_option maxRecDepth 100000 in
theorem impl_EntryOk.calls (k : Nat) (a0_0 : Int) (a0_1 : Int) (a0_2 : ByteArray) (r : Bool) (w : World) (h : impl_EntryOk.f k a0_0 a0_1 a0_2 = some r) :
  Calls Try.prog 100 #[.agg #[.int .i64 a0_0,.int .i64 a0_1,.string a0_2]] w fun e w' => e = .returned (.bool r) ∧ Below w.heap.size w w':=by
 have hu69:=Try.underlying69;have HB:=A_ (Below.refl w.heap.size w);unfold impl_EntryOk.f at h;have H:=h;clear h;replace H:=ob_.mp H;obtain ⟨t440,A20,H⟩:=H;have A2:=A_ A20;clear A20
 by_cases c3 : t440 = true
 ·subst c3
  rw [if_pos rfl] at H
  by_cases c4 : a0_1 = 1
  ·rw [if_pos c4] at H;have c4b0 : (a0_1 == 1) = true:=beq_iff_eq.mpr c4;have c4b1 : (a0_1 != 1) = false:=bne_eq_false_iff_eq.mpr c4;clear c4;obtain rfl:=Option.some.inj H;go_enter Try.func100,Try.ntmps100
   go_wp2_with (first|((with_reducible refine gate_dst (N:=1) rfl ?_);refine bE_ 1 #[.int .i64 a0_0,.int .i64 a0_1,.string a0_2] 69 ?_;intro gb439 hg w5 hbox hb;have BK439:=A_ (hbox);have GW439:=gE_ hg HB;have GE439:=gE_ hg HB;replace HB:=bS_ HB hb;clear hb hbox hg;obtain ⟨hcz6_0,hcz6_1,hcz6_2,hfz6_0,hfz6_1,hfz6_2⟩:=k3f_ BK439)|((with_reducible refine gate_callee (f:=47) rfl ?_);refine gL_ (some 7) Try.func47 #[.int .i64 a0_0,.int .i64 0,.int .i64 100000] ?_;(with_reducible refine (impl_within.calls a0_0 0 100000 true _ A2.out).mono ?_);rintro e w' ⟨rfl,⟨nd,rfl⟩⟩;refine ⟨_,rfl,?_⟩))
   go_ret;exact ⟨ex_,bq_ HB⟩
  ·rw [if_neg c4] at H;have c4b0 : (a0_1 == 1) = false:=beq_eq_false_iff_ne.mpr c4;have c4b1 : (a0_1 != 1) = true:=bne_iff_ne.mpr c4
   by_cases c7 : a0_1 = 2
   ·rw [if_pos c7] at H;have c7b0 : (a0_1 == 2) = true:=beq_iff_eq.mpr c7;have c7b1 : (a0_1 != 2) = false:=bne_eq_false_iff_eq.mpr c7;clear c7;replace H:=ob_.mp H;obtain ⟨⟨t441,t442⟩,A80,H⟩:=H;(try dsimp only at H);have A8:=A_ A80;clear A80;obtain rfl:=Option.some.inj H;go_enter Try.func100,Try.ntmps100
    go_wp2_with (first|((with_reducible refine gate_dst (N:=1) rfl ?_);refine bE_ 1 #[.int .i64 a0_0,.int .i64 a0_1,.string a0_2] 69 ?_;intro gb439 hg w9 hbox hb;have BK439:=A_ (hbox);have GW439:=gE_ hg HB;have GE439:=gE_ hg HB;replace HB:=bS_ HB hb;clear hb hbox hg;obtain ⟨hcz10_0,hcz10_1,hcz10_2,hfz10_0,hfz10_1,hfz10_2⟩:=k3f_ BK439)|((with_reducible refine gate_callee (f:=47) rfl ?_);refine gL_ (some 7) Try.func47 #[.int .i64 a0_0,.int .i64 0,.int .i64 100000] ?_;(with_reducible refine (impl_within.calls a0_0 0 100000 true _ A2.out).mono ?_);rintro e w' ⟨rfl,⟨nd,rfl⟩⟩;refine ⟨_,rfl,?_⟩)|((with_reducible refine gate_callee (f:=125) rfl ?_);refine gL_ (some 21) Try.func125 #[.string a0_2] ?_;(with_reducible refine (impl_ReadConf.calls k a0_2 t441 t442 _ A8.out).mono ?_);rintro e w11 ⟨v443,rfl,ho0,hb⟩;refine ⟨_,rfl,?_⟩;have HO444:=A_ (rw_ ho0 (bz_ (bq_ HB)));replace BK439:=kB_ BK439 hb;replace HB:=bS_ HB hb;(try clear hb);(try clear ho0)))
    go_ret;exact ⟨ex_,bq_ HB⟩
   ·rw [if_neg c7] at H;have c7b0 : (a0_1 == 2) = false:=beq_eq_false_iff_ne.mpr c7;have c7b1 : (a0_1 != 2) = true:=bne_iff_ne.mpr c7
    by_cases c12 : a0_1 = 3
    ·rw [if_pos c12] at H;have c12b0 : (a0_1 == 3) = true:=beq_iff_eq.mpr c12;have c12b1 : (a0_1 != 3) = false:=bne_eq_false_iff_eq.mpr c12;clear c12;obtain rfl:=Option.some.inj H;go_enter Try.func100,Try.ntmps100
     go_wp2_with (first|((with_reducible refine gate_dst (N:=1) rfl ?_);refine bE_ 1 #[.int .i64 a0_0,.int .i64 a0_1,.string a0_2] 69 ?_;intro gb439 hg w13 hbox hb;have BK439:=A_ (hbox);have GW439:=gE_ hg HB;have GE439:=gE_ hg HB;replace HB:=bS_ HB hb;clear hb hbox hg;obtain ⟨hcz14_0,hcz14_1,hcz14_2,hfz14_0,hfz14_1,hfz14_2⟩:=k3f_ BK439)|((with_reducible refine gate_callee (f:=47) rfl ?_);refine gL_ (some 7) Try.func47 #[.int .i64 a0_0,.int .i64 0,.int .i64 100000] ?_;(with_reducible refine (impl_within.calls a0_0 0 100000 true _ A2.out).mono ?_);rintro e w' ⟨rfl,⟨nd,rfl⟩⟩;refine ⟨_,rfl,?_⟩))
     go_ret;exact ⟨ex_,bq_ HB⟩
    ·rw [if_neg c12] at H;have c12b0 : (a0_1 == 3) = false:=beq_eq_false_iff_ne.mpr c12;have c12b1 : (a0_1 != 3) = true:=bne_iff_ne.mpr c12;obtain rfl:=Option.some.inj H;go_enter Try.func100,Try.ntmps100
     go_wp2_with (first|((with_reducible refine gate_dst (N:=1) rfl ?_);refine bE_ 1 #[.int .i64 a0_0,.int .i64 a0_1,.string a0_2] 69 ?_;intro gb439 hg w15 hbox hb;have BK439:=A_ (hbox);have GW439:=gE_ hg HB;have GE439:=gE_ hg HB;replace HB:=bS_ HB hb;clear hb hbox hg;obtain ⟨hcz16_0,hcz16_1,hcz16_2,hfz16_0,hfz16_1,hfz16_2⟩:=k3f_ BK439)|((with_reducible refine gate_callee (f:=47) rfl ?_);refine gL_ (some 7) Try.func47 #[.int .i64 a0_0,.int .i64 0,.int .i64 100000] ?_;(with_reducible refine (impl_within.calls a0_0 0 100000 true _ A2.out).mono ?_);rintro e w' ⟨rfl,⟨nd,rfl⟩⟩;refine ⟨_,rfl,?_⟩))
     go_ret;exact ⟨ex_,bq_ HB⟩
 ·replace c3:=Bool.eq_false_iff.mpr c3;subst c3
  have H1 : (some false) = some r:=by rw [if_neg (show ¬ (false = true) by decide)] at H;exact H
  clear H;have H:=H1;clear H1;obtain rfl:=Option.some.inj H;go_enter Try.func100,Try.ntmps100
  go_wp2_with (first|((with_reducible refine gate_dst (N:=1) rfl ?_);refine bE_ 1 #[.int .i64 a0_0,.int .i64 a0_1,.string a0_2] 69 ?_;intro gb439 hg w17 hbox hb;have BK439:=A_ (hbox);have GW439:=gE_ hg HB;have GE439:=gE_ hg HB;replace HB:=bS_ HB hb;clear hb hbox hg;obtain ⟨hcz18_0,hcz18_1,hcz18_2,hfz18_0,hfz18_1,hfz18_2⟩:=k3f_ BK439)|((with_reducible refine gate_callee (f:=47) rfl ?_);refine gL_ (some 7) Try.func47 #[.int .i64 a0_0,.int .i64 0,.int .i64 100000] ?_;(with_reducible refine (impl_within.calls a0_0 0 100000 false _ A2.out).mono ?_);rintro e w' ⟨rfl,⟨nd,rfl⟩⟩;refine ⟨_,rfl,?_⟩))
  go_ret;exact ⟨ex_,bq_ HB⟩
end Go.Proofs.Ytbcgnncbiblibaa.PFnExactLogSteps
