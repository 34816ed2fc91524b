/- The contracts of Go functions that this law reaches: what each call returns, by a plain Lean function of its arguments, under the conditions that each names. By the kit's print.py, run by this repo's wip/gen/pp.py: not to the letter what print.sh prints. -/
import Derived.Test.YtbcgnncbiblibaaPFnMessagesx0
import Derived.Test.YtbcgnncbiblibaaPFnMessagesx12
import Derived.Test.YtbcgnncbiblibaaPFnMessagesx16
namespace Go.Proofs.Ytbcgnncbiblibaa.PFnMessages
open Go.RowKit Go.Proofs.YtbcgnncbiblibaaW.PrintWords Go.Proofs.YtbcgnncbiblibaaW.PrintLast Go.Proofs.YtbcgnncbiblibaaW.PrintMore
attribute [local go_sem] max2_int min2_int max_two min_two max_three min_three max_four min_four
set_option linter.unusedVariables false
set_option linter.unusedSimpArgs false
def impl_ReadEntry.j0 : Nat → ByteArray → Int → Bool → ByteArray → Int → Bool → Int → Int → ByteArray → Option (Int × Int × Int × ByteArray × Bool)
 | 0,_,_,_,_,_,_,_,_,_ => none
 | k + 1,x0,x7,x28,x378000,x378001,x378002,x395000,x395001,x395002 => if x28 = true then (some (0,0,0,(⟨#[]⟩ : ByteArray),false)) else (if 0 ≤ x378001 then (if x378001 ≤ (x0.size : Int) then ((impl_EntryOk.f k x395000 x395001 (x0.extract (x378001 : Int).toNat x0.size)).bind fun t395 => (if t395 = true then ((impl_within.f x7 1 100000).bind fun t396 => (if t396 = true then (some (x7,x395000,x395001,x0.extract (x378001 : Int).toNat x0.size,true)) else (some (0,0,0,(⟨#[]⟩ : ByteArray),false)))) else (some (0,0,0,(⟨#[]⟩ : ByteArray),false)))) else (none)) else (none))
def impl_ReadEntry.f (k : Nat) (a0 : ByteArray) : Option (Int × Int × Int × ByteArray × Bool) := (impl_reader_byte.f a0 0 false).bind fun bt378 => ((impl_reader_num.f k bt378.2.1 bt378.2.2.1 bt378.2.2.2).bind fun bt382 => ((impl_reader_num.f k bt382.2.1 bt382.2.2.1 bt382.2.2.2).bind fun bt386 => ((impl_reader_byte.f bt386.2.1 bt386.2.2.1 bt386.2.2.2).bind fun bt390 => (if bt390.2.2.2 = true then (impl_ReadEntry.j0 k a0 bt382.1 true bt390.2.1 bt390.2.2.1 bt390.2.2.2 bt386.1 bt390.1 (⟨#[]⟩ : ByteArray)) else (impl_ReadEntry.j0 k a0 bt382.1 (bt378.1 != 69) bt390.2.1 bt390.2.2.1 bt390.2.2.2 bt386.1 bt390.1 (⟨#[]⟩ : ByteArray))))))
theorem impl_ReadEntry.mono_l : ∀ k, (∀ y0 y1 y2 y3 y4 y5 y6 y7 y8, LeO (impl_ReadEntry.j0 k y0 y1 y2 y3 y4 y5 y6 y7 y8) (impl_ReadEntry.j0 (k + 1) y0 y1 y2 y3 y4 y5 y6 y7 y8))
 | 0 => fun _ _ _ _ _ _ _ _ _ r h => by simp [impl_ReadEntry.j0] at h
 | k + 1 => by
  have ih0:=impl_ReadEntry.mono_l k
  ·intro y0 y1 y2 y3 y4 y5 y6 y7 y8
   unfold impl_ReadEntry.j0
   repeat' first
   | (with_reducible exact impl_EntryOk.mono _ _ _ _)
   | (with_reducible exact LeO.refl _)
   | (with_reducible refine LeO.ite ?_ ?_)
   | (with_reducible refine LeO.bind ?_ (fun _ => ?_))
theorem impl_ReadEntry.mono : ∀ a0 k, LeO (impl_ReadEntry.f k a0) (impl_ReadEntry.f (k + 1) a0) := by
 intro a0 k;have ih0:=impl_ReadEntry.mono_l k
 unfold impl_ReadEntry.f
 repeat' first
   | (with_reducible exact ih0 _ _ _ _ _ _ _ _ _)
   | (with_reducible exact impl_reader_num.mono _ _ _ _)
   | (with_reducible exact LeO.refl _)
   | (with_reducible refine LeO.ite ?_ ?_)
   | (with_reducible refine LeO.bind ?_ (fun _ => ?_))
set_option maxHeartbeats 8000000 in
set_option maxRecDepth 100000 in
theorem impl_ReadEntry.calls (k : Nat) (a0 : ByteArray) (r1 r2 r3 : Int) (r4 : ByteArray) (r5 : Bool) (w : World) (h : impl_ReadEntry.f k a0 = some (r1, r2, r3, r4, r5)) :
  Calls Try.prog 46 #[.string a0] w fun e w' => e = .returned (.tuple #[.int .i64 r1,.agg #[.int .i64 r2,.int .i64 r3,.string r4],.bool r5]) ∧ Below w.heap.size w w':=by
 have hu69:=Try.underlying69;have hu106:=Try.underlying106;have HB:=A_ (Below.refl w.heap.size w);unfold impl_ReadEntry.f at h;have H:=h;clear h;obtain ⟨⟨t378,t379,t380,t381⟩,A2,H⟩:=oB_ H;(try dsimp only at H);obtain ⟨⟨t382,t383,t384,t385⟩,A3,H⟩:=oB_ H;(try dsimp only at H);obtain ⟨⟨t386,t387,t388,t389⟩,A4,H⟩:=oB_ H;(try dsimp only at H);obtain ⟨⟨t390,t391,t392,t393⟩,A5,H⟩:=oB_ H;(try dsimp only at H);have HC6:=A_ H;clear H;go_enter Try.func46,Try.ntmps46
 go_upto_region 5 with (first|((with_reducible refine gate_dst (N:=3) rfl ?_);refine bE_ 3 #[.int .i64 0,.int .i64 0,.string (⟨#[]⟩ : ByteArray)] 69 ?_;intro gb376 hg w7 hbox hb;have n0_:=bS_ HB hb;have n1_:=A_ hbox;have n3_:=gE_ hg HB;clear HB;have HB:=n0_;have BK376:=n1_;have GE376:=n3_;clear n0_ n1_ n3_;clear hb hbox hg)|((with_reducible refine gate_dst (N:=11) rfl ?_);refine bE_ 11 #[.string a0,.int .i64 0,.bool false] 106 ?_;intro gb377 hg w8 hbox hb;have HI377:=A_ ((show IsS106 w w8 gb377 a0 0 false from ⟨hbox,(by rw [hg];exact (bz_ (bq_ HB)) : w.heap.size ≤ gb377)⟩));replace HB:=bS_ HB hb;have NB376_377:=nB_ hg BK376;have NB377_376:=nC_ hg BK376;replace BK376:=kB_ BK376 hb;clear hb hbox hg)|((with_reducible refine gate_callee (f:=65) rfl ?_);refine gL_ (some 13) Try.func65 #[.pointer (some ⟨gb377,0,none⟩)] ?_;(with_reducible refine (impl_reader_byte.calls gb377 a0 0 false t378 t379 t380 t381 w _ ?side1 ?side2 A2.out).mono ?_);(case side1 => exact iq106_ HI377);(case side2 => exact bi_ HB (IsS106.ge HI377.out));rintro e w9 ⟨rfl,hi,hb,hk⟩;refine ⟨_,rfl,?_⟩;replace BK376:=kK_ BK376 hk NB376_377;replace HB:=A_ hb;replace HI377:=A_ hi;(try clear hb);(try clear hk);(try clear hi))|((with_reducible refine gate_callee (f:=66) rfl ?_);refine gL_ (some 15) Try.func66 #[.pointer (some ⟨gb377,0,none⟩)] ?_;(with_reducible refine (impl_reader_num.calls k gb377 t379 t380 t381 t382 t383 t384 t385 w _ ?side1 ?side2 A3.out).mono ?_);(case side1 => exact iq106_ HI377);(case side2 => exact bi_ HB (IsS106.ge HI377.out));rintro e w10 ⟨rfl,hi,hb,hk⟩;refine ⟨_,rfl,?_⟩;replace BK376:=kK_ BK376 hk NB376_377;replace HB:=A_ hb;replace HI377:=A_ hi;(try clear hb);(try clear hk);(try clear hi))|((with_reducible refine gate_callee (f:=66) rfl ?_);refine gL_ (some 17) Try.func66 #[.pointer (some ⟨gb377,0,none⟩)] ?_;(with_reducible refine (impl_reader_num.calls k gb377 t383 t384 t385 t386 t387 t388 t389 w _ ?side1 ?side2 A4.out).mono ?_);(case side1 => exact iq106_ HI377);(case side2 => exact bi_ HB (IsS106.ge HI377.out));rintro e w11 ⟨rfl,hi,hb,hk⟩;refine ⟨_,rfl,?_⟩;replace BK376:=kK_ BK376 hk NB376_377;replace HB:=A_ hb;replace HI377:=A_ hi;(try clear hb);(try clear hk);(try clear hi))|((with_reducible refine gate_callee (f:=65) rfl ?_);refine gL_ (some 19) Try.func65 #[.pointer (some ⟨gb377,0,none⟩)] ?_;(with_reducible refine (impl_reader_byte.calls gb377 t387 t388 t389 t390 t391 t392 t393 w _ ?side1 ?side2 A5.out).mono ?_);(case side1 => exact iq106_ HI377);(case side2 => exact bi_ HB (IsS106.ge HI377.out));rintro e w12 ⟨rfl,hi,hb,hk⟩;refine ⟨_,rfl,?_⟩;replace BK376:=kK_ BK376 hk NB376_377;replace HB:=A_ hb;replace HI377:=A_ hi;(try clear hb);(try clear hk);(try clear hi))|((with_reducible refine gate_dst (N:=8) rfl ?_);refine bE_ 8 #[.int .i64 0,.int .i64 0,.string (⟨#[]⟩ : ByteArray)] 69 ?_;intro gb394 hg w13 hbox hb;have n0_:=kB_ BK376 hb;have n1_:=A_ (IsS106.below (iq106_ HI377) hb);have n2_:=A_ (bs_ (bi_ HB (IsS106.ge HI377.out)) hb);have n3_:=A_ hbox;have n5_:=A_ ((by rw [hg];exact (bz_ (bi_ HB (IsS106.ge HI377.out))) : w.heap.size ≤ gb394));have n6_:=nB_ hg BK376;have n7_:=nC_ hg BK376;have n8_:=A_ ((by rw [hg];exact nl_ (IsS106.lt (show IsS106 w _ gb377 t391 t392 t393 from iq106_ HI377)) : gb377 ≠ gb394));have n9_:=A_ ((by rw [hg];exact ng_ (IsS106.lt (show IsS106 w _ gb377 t391 t392 t393 from iq106_ HI377)) : gb394 ≠ gb377));clear BK376;clear HI377;clear HB;have BK376:=n0_;have HI377:=n1_;have HB:=n2_;have BK394:=n3_;have GE394:=n5_;have NB376_394:=n6_;have NB394_376:=n7_;have NB377_394:=n8_;have NB394_377:=n9_;clear n0_ n1_ n2_ n3_ n5_ n6_ n7_ n8_ n9_;clear hb hbox hg;have hnb14:=NB394_376.out;have hnc14:=NB376_394.out;have hnb15:=NB394_377.out;have hnc15:=NB377_394.out;obtain ⟨hcz16_0,hcz16_1,hcz16_2,hfz16_0,hfz16_1,hfz16_2⟩:=k3f_ BK394))
 go_cut [28] (fun v28 wc => ∃ (kq : Nat) (x28_5 : Bool),v28 = .bool x28_5 ∧ Aside0 (impl_ReadEntry.j0 kq a0 t382 x28_5 t391 t392 t393 t386 t390 (⟨#[]⟩ : ByteArray) = some (r1,r2,r3,r4,r5)) ∧ Aside0 (kq ≤ k) ∧ Aside0 (wc.heap[gb376]? = some (.cells #[.int .i64 0,.int .i64 0,.string (⟨#[]⟩ : ByteArray)] 69 (0,0))) ∧ Aside0 (wc.heap[gb394]? = some (.cells #[.int .i64 t386,.int .i64 t390,.string (⟨#[]⟩ : ByteArray)] 69 (0,0))) ∧ Aside0 (IsS106 w wc gb377 t391 t392 t393) ∧ Aside0 (Below w.heap.size w wc))
 case first =>
  have H:=HC6.out;clear HC6
  by_cases c17 : t393 = true
  ·subst c17
   rw [if_pos rfl] at H;have H':=A_ H;clear H;obtain ⟨HGz18,hgz18⟩:=HI377.out;have hcz18_0:=cellS106_0 HGz18;have hcz18_1:=cellS106_1 HGz18;have hcz18_2:=cellS106_2 HGz18;have hfz18_0:=kf_ HGz18 0;have hfz18_1:=kf_ HGz18 1;have hfz18_2:=kf_ HGz18 2;clear HGz18 hgz18;go_wp2
   go_meet
   case rel => exact ⟨_,(true),(by rfl),H',⟨by omega⟩,⟨kz_ BK376⟩,⟨kz_ BK394⟩,⟨iq106_ HI377⟩,⟨bi_ HB (IsS106.ge HI377.out)⟩⟩
  replace c17:=Bool.eq_false_iff.mpr c17;subst c17
  have H1 : (impl_ReadEntry.j0 k a0 t382 (t378 != 69) t391 t392 false t386 t390 (⟨#[]⟩ : ByteArray)) = some (r1,r2,r3,r4,r5):=by rw [if_neg (show ¬ (false = true) by decide)] at H;exact H
  clear H;have H:=H1;clear H1;have H':=A_ H;clear H;obtain ⟨HGz19,hgz19⟩:=HI377.out;have hcz19_0:=cellS106_0 HGz19;have hcz19_1:=cellS106_1 HGz19;have hcz19_2:=cellS106_2 HGz19;have hfz19_0:=kf_ HGz19 0;have hfz19_1:=kf_ HGz19 1;have hfz19_2:=kf_ HGz19 2;clear HGz19 hgz19;go_wp2
  go_meet
  case rel => exact ⟨_,((t378 != 69)),(by rfl),H',⟨by omega⟩,⟨kz_ BK376⟩,⟨kz_ BK394⟩,⟨iq106_ HI377⟩,⟨bi_ HB (IsS106.ge HI377.out)⟩⟩
 case rest =>
  clear HC6
  (try clear c1);(try clear p2);(try clear c4);(try clear c6);(try clear c14);(try clear c15);(try clear c17);(try clear hcz16_0);(try clear hcz16_1);(try clear hcz16_2);(try clear hcz18_0);(try clear hcz18_1);(try clear hcz18_2);(try clear hcz19_0);(try clear hcz19_1);(try clear hcz19_2);(try clear hfz16_0);(try clear hfz16_1);(try clear hfz16_2);(try clear hfz18_0);(try clear hfz18_1);(try clear hfz18_2);(try clear hfz19_0);(try clear hfz19_1);(try clear hfz19_2)
  obtain ⟨kq,x28_5,rfl,HA,HJ5,BK376,BK394,HI377,HB⟩:=hcut
  cases kq with
  | zero => exact absurd HA.out (by simp [impl_ReadEntry.j0])
  | succ kj5 =>
   have H:=HA.out;clear HA;simp only [impl_ReadEntry.j0] at H
   by_cases c20 : x28_5 = true
   ·subst c20
    rw [if_pos rfl] at H;simp only [Option.some.injEq,Prod.mk.injEq] at H;obtain ⟨rfl,rfl,rfl,rfl,rfl⟩:=H;have hnb21:=NB376_394.out;have hnc21:=NB394_376.out;have hnb22:=NB376_377.out;have hnc22:=NB377_376.out;obtain ⟨hcz23_0,hcz23_1,hcz23_2,hfz23_0,hfz23_1,hfz23_2⟩:=k3f_ BK376;go_wp2;refine bodyPost_ret (results_list (rs:=[.tmp 2,.cell 3 69,.tmp 4]) rfl (by simp) (.tmp (.cell gb376 69 #[.int .i64 0,.int .i64 0,.string (⟨#[]⟩ : ByteArray)] (0,0) _ rfl (kz_ BK376) Try.underlying69 rfl (by kernel_rfl) (.tmp .nil)))) rfl ?_;exact ⟨ex_,bi_ HB (IsS106.ge HI377.out)⟩
   replace c20:=Bool.eq_false_iff.mpr c20;subst c20
   have H1 : (if 0 ≤ t392 then (if t392 ≤ (a0.size : Int) then ((impl_EntryOk.f kj5 t386 t390 (a0.extract (t392 : Int).toNat a0.size)).bind fun t395 => (if t395 = true then ((impl_within.f t382 1 100000).bind fun t396 => (if t396 = true then (some (t382,t386,t390,a0.extract (t392 : Int).toNat a0.size,true)) else (some (0,0,0,(⟨#[]⟩ : ByteArray),false)))) else (some (0,0,0,(⟨#[]⟩ : ByteArray),false)))) else (none)) else (none)) = some (r1,r2,r3,r4,r5):=by rw [if_neg (show ¬ (false = true) by decide)] at H;exact H
   clear H;have H:=H1;clear H1
   by_cases c24 : 0 ≤ t392;rotate_left
   ·rw [if_neg c24] at H;exact absurd H (by simp)
   rw [if_pos c24] at H;have c24b0:=eq_true c24;have c24b1:=de_ c24;clear c24
   by_cases c25 : t392 ≤ (a0.size : Int);rotate_left
   ·rw [if_neg c25] at H;exact absurd H (by simp)
   rw [if_pos c25] at H;have c25b0:=eq_true c25;have c25b1:=de_ c25;clear c25;replace H:=ob_.mp H;obtain ⟨t395,A260,H⟩:=H;have A26:=A_ A260;clear A260
   by_cases c27 : t395 = true;rotate_left
   ·replace c27:=Bool.eq_false_iff.mpr c27;subst c27
    have H1 : (some (0,0,0,(⟨#[]⟩ : ByteArray),false)) = some (r1,r2,r3,r4,r5):=by rw [if_neg (show ¬ (false = true) by decide)] at H;exact H
    clear H;have H:=H1;clear H1;simp only [Option.some.injEq,Prod.mk.injEq] at H;obtain ⟨rfl,rfl,rfl,rfl,rfl⟩:=H;obtain ⟨HGz46,hgz46⟩:=HI377.out;have hcz46_0:=cellS106_0 HGz46;have hcz46_1:=cellS106_1 HGz46;have hcz46_2:=cellS106_2 HGz46;have hfz46_0:=kf_ HGz46 0;have hfz46_1:=kf_ HGz46 1;have hfz46_2:=kf_ HGz46 2;clear HGz46 hgz46;have hnb47:=NB394_376.out;have hnc47:=NB376_394.out;have hnb48:=NB394_377.out;have hnc48:=NB377_394.out;obtain ⟨hcz49_0,hcz49_1,hcz49_2,hfz49_0,hfz49_1,hfz49_2⟩:=k3f_ BK394
    go_wp2_with (((with_reducible refine gate_callee (f:=100) rfl ?_);refine gL_ (some 38) Try.func100 #[.agg #[.int .i64 t386,.int .i64 t390,.string (a0.extract (t392 : Int).toNat a0.size)]] ?_;(with_reducible refine (impl_EntryOk.calls kj5 t386 t390 (a0.extract (t392 : Int).toNat a0.size) false _ A26.out).mono ?_);rintro e w50 ⟨rfl,hb⟩;refine ⟨_,rfl,?_⟩;have n0_:=A_ (kb_ (g:=gb376) (o:=.cells #[.int .i64 0,.int .i64 0,.string (⟨#[]⟩ : ByteArray)] 69 (0,0)) (kz_ BK376) hb);have n2_:=A_ (IsS106.below (show IsS106 w (wc.setCell ⟨gb394,2,none⟩ (.string (a0.extract (t392 : Int).toNat a0.size))) gb377 t391 t392 t393 from iq106_ HI377) hb);have n3_:=A_ (bs_ (bi_ HB (IsS106.ge HI377.out)) hb);clear BK376;clear BK394;clear HI377;clear HB;have BK376:=n0_;have HI377:=n2_;have HB:=n3_;clear n0_ n2_ n3_;(try clear hb);have hnb51:=NB376_377.out;have hnc51:=NB377_376.out;obtain ⟨hcz52_0,hcz52_1,hcz52_2,hfz52_0,hfz52_1,hfz52_2⟩:=k3f_ BK376))
    refine bodyPost_ret (results_list (rs:=[.tmp 2,.cell 3 69,.tmp 4]) rfl (by simp) (.tmp (.cell gb376 69 #[.int .i64 0,.int .i64 0,.string (⟨#[]⟩ : ByteArray)] (0,0) _ rfl (kz_ BK376) Try.underlying69 rfl (by kernel_rfl) (.tmp .nil)))) rfl ?_;exact ⟨ex_,bi_ HB (IsS106.ge HI377.out)⟩
   subst c27
   rw [if_pos rfl] at H;replace H:=ob_.mp H;obtain ⟨t396,A280,H⟩:=H;have A28:=A_ A280;clear A280
   by_cases c29 : t396 = true;rotate_left
   ·replace c29:=Bool.eq_false_iff.mpr c29;subst c29
    have H1 : (some (0,0,0,(⟨#[]⟩ : ByteArray),false)) = some (r1,r2,r3,r4,r5):=by rw [if_neg (show ¬ (false = true) by decide)] at H;exact H
    clear H;have H:=H1;clear H1;simp only [Option.some.injEq,Prod.mk.injEq] at H;obtain ⟨rfl,rfl,rfl,rfl,rfl⟩:=H;obtain ⟨HGz39,hgz39⟩:=HI377.out;have hcz39_0:=cellS106_0 HGz39;have hcz39_1:=cellS106_1 HGz39;have hcz39_2:=cellS106_2 HGz39;have hfz39_0:=kf_ HGz39 0;have hfz39_1:=kf_ HGz39 1;have hfz39_2:=kf_ HGz39 2;clear HGz39 hgz39;have hnb40:=NB394_376.out;have hnc40:=NB376_394.out;have hnb41:=NB394_377.out;have hnc41:=NB377_394.out;obtain ⟨hcz42_0,hcz42_1,hcz42_2,hfz42_0,hfz42_1,hfz42_2⟩:=k3f_ BK394
    go_wp2_with (first|((with_reducible refine gate_callee (f:=100) rfl ?_);refine gL_ (some 38) Try.func100 #[.agg #[.int .i64 t386,.int .i64 t390,.string (a0.extract (t392 : Int).toNat a0.size)]] ?_;(with_reducible refine (impl_EntryOk.calls kj5 t386 t390 (a0.extract (t392 : Int).toNat a0.size) true _ A26.out).mono ?_);rintro e w43 ⟨rfl,hb⟩;refine ⟨_,rfl,?_⟩;replace BK376:=A_ (kb_ (g:=gb376) (o:=.cells #[.int .i64 0,.int .i64 0,.string (⟨#[]⟩ : ByteArray)] 69 (0,0)) (kz_ BK376) hb);replace BK394:=A_ (kb_ (g:=gb394) (o:=.cells #[.int .i64 t386,.int .i64 t390,.string (a0.extract (t392 : Int).toNat a0.size)] 69 (0,0)) (kz_ BK394) hb);replace HB:=A_ (bs_ (bi_ HB (IsS106.ge HI377.out)) hb);replace HI377:=A_ (IsS106.below (show IsS106 w (wc.setCell ⟨gb394,2,none⟩ (.string (a0.extract (t392 : Int).toNat a0.size))) gb377 t391 t392 t393 from iq106_ HI377) hb);(try clear hb))|(go_at_call 47;(with_reducible refine (impl_within.calls t382 1 100000 false _ A28.out).mono ?_);rintro e w' ⟨rfl,⟨nd,rfl⟩⟩;(try (rw [drewN_self w43];generalize hq_ : World.drewN w43 _ = w43;have n0_ : Aside0 (w43.heap[gb376]? = some (.cells #[.int .i64 0,.int .i64 0,.string (⟨#[]⟩ : ByteArray)] 69 (0,0))):=⟨by rw [← hq_];exact (kq_ BK376)⟩;have n1_ : Aside0 (w43.heap[gb394]? = some (.cells #[.int .i64 t386,.int .i64 t390,.string (a0.extract (t392 : Int).toNat a0.size)] 69 (0,0))):=⟨by rw [← hq_];exact (kq_ BK394)⟩;have n2_ : Aside0 (IsS106 w w43 gb377 t391 t392 t393):=⟨by rw [← hq_];exact (iq106_ HI377)⟩;have n3_ : Aside0 (Below w.heap.size w w43):=⟨by rw [← hq_];exact (bi_ HB (IsS106.ge HI377.out))⟩;clear BK376 BK394 HI377 HB hq_;have BK376:=n0_;have BK394:=n1_;have HI377:=n2_;have HB:=n3_;clear n0_ n1_ n2_ n3_));have hnb44:=NB376_377.out;have hnc44:=NB377_376.out;obtain ⟨hcz45_0,hcz45_1,hcz45_2,hfz45_0,hfz45_1,hfz45_2⟩:=k3f_ BK376))
    refine bodyPost_ret (results_list (rs:=[.tmp 2,.cell 3 69,.tmp 4]) rfl (by simp) (.tmp (.cell gb376 69 #[.int .i64 0,.int .i64 0,.string (⟨#[]⟩ : ByteArray)] (0,0) _ rfl (kz_ BK376) Try.underlying69 rfl (by kernel_rfl) (.tmp .nil)))) rfl ?_;exact ⟨ex_,bi_ HB (IsS106.ge HI377.out)⟩
   subst c29
   rw [if_pos rfl] at H;simp only [Option.some.injEq,Prod.mk.injEq] at H;obtain ⟨rfl,rfl,rfl,rfl,rfl⟩:=H;obtain ⟨HGz30,hgz30⟩:=HI377.out;have hcz30_0:=cellS106_0 HGz30;have hcz30_1:=cellS106_1 HGz30;have hcz30_2:=cellS106_2 HGz30;have hfz30_0:=kf_ HGz30 0;have hfz30_1:=kf_ HGz30 1;have hfz30_2:=kf_ HGz30 2;clear HGz30 hgz30;have hnb31:=NB394_376.out;have hnc31:=NB376_394.out;have hnb32:=NB394_377.out;have hnc32:=NB377_394.out;obtain ⟨hcz33_0,hcz33_1,hcz33_2,hfz33_0,hfz33_1,hfz33_2⟩:=k3f_ BK394
   try go_wp2_with (first|((with_reducible refine gate_callee (f:=100) rfl ?_);refine gL_ (some 38) Try.func100 #[.agg #[.int .i64 t386,.int .i64 t390,.string (a0.extract (t392 : Int).toNat a0.size)]] ?_;(with_reducible refine (impl_EntryOk.calls kj5 t386 t390 (a0.extract (t392 : Int).toNat a0.size) true _ A26.out).mono ?_);rintro e w34 ⟨rfl,hb⟩;refine ⟨_,rfl,?_⟩;replace BK376:=A_ (kb_ (g:=gb376) (o:=.cells #[.int .i64 0,.int .i64 0,.string (⟨#[]⟩ : ByteArray)] 69 (0,0)) (kz_ BK376) hb);replace BK394:=A_ (kb_ (g:=gb394) (o:=.cells #[.int .i64 t386,.int .i64 t390,.string (a0.extract (t392 : Int).toNat a0.size)] 69 (0,0)) (kz_ BK394) hb);replace HB:=A_ (bs_ (bi_ HB (IsS106.ge HI377.out)) hb);replace HI377:=A_ (IsS106.below (show IsS106 w (wc.setCell ⟨gb394,2,none⟩ (.string (a0.extract (t392 : Int).toNat a0.size))) gb377 t391 t392 t393 from iq106_ HI377) hb);(try clear hb))|(go_at_call 47;(with_reducible refine (impl_within.calls t382 1 100000 true _ A28.out).mono ?_);rintro e w' ⟨rfl,⟨nd,rfl⟩⟩;(try (rw [drewN_self w34];generalize hq_ : World.drewN w34 _ = w34;have n0_ : Aside0 (w34.heap[gb376]? = some (.cells #[.int .i64 0,.int .i64 0,.string (⟨#[]⟩ : ByteArray)] 69 (0,0))):=⟨by rw [← hq_];exact (kq_ BK376)⟩;have n1_ : Aside0 (w34.heap[gb394]? = some (.cells #[.int .i64 t386,.int .i64 t390,.string (a0.extract (t392 : Int).toNat a0.size)] 69 (0,0))):=⟨by rw [← hq_];exact (kq_ BK394)⟩;have n2_ : Aside0 (IsS106 w w34 gb377 t391 t392 t393):=⟨by rw [← hq_];exact (iq106_ HI377)⟩;have n3_ : Aside0 (Below w.heap.size w w34):=⟨by rw [← hq_];exact (bi_ HB (IsS106.ge HI377.out))⟩;clear BK376 BK394 HI377 HB hq_;have BK376:=n0_;have BK394:=n1_;have HI377:=n2_;have HB:=n3_;clear n0_ n1_ n2_ n3_))))
   replace BK376:=A_ (kd_ BK376.out);replace BK394:=A_ (kd_ BK394.out);replace HI377:=A_ (IsS106.drew HI377.out);replace HB:=A_ (pd_ HB.out);refine start_ (n:=5) (S:=fun w' => w'.cell? ⟨gb394,0,none⟩ = some (.int .i64 t386) ∧ w'.cell? ⟨gb394,1,none⟩ = some (.int .i64 t390) ∧ w'.cell? ⟨gb394,2,none⟩ = some (.string (a0.extract (t392 : Int).toNat a0.size))) (ds:=[]) #[false,false,false,false,false] (by kernel_rfl) rfl rfl (kJ3_ BK394) (fun hHeld => ?_);generalize w34.drew = w35 at BK376 BK394 HI377 HB hHeld ⊢;refine pure_ (i:=0) (N:=some 46) (v:=?_) (a':=?_) #[true,false,false,false,false] rfl rfl (by kernel_rfl) (fun _ _ _ h => h) (Or.inl ⟨by rfl,?_⟩) ?_ ?_;rotate_left
   ·intro w';go_simp;with_reducible rfl
   rotate_left
   ·exact ux_
   refine pure_ (i:=2) (N:=some 2) (v:=?_) (a':=?_) #[true,false,true,false,false] rfl rfl (by kernel_rfl) (fun _ _ _ h => h) (Or.inl ⟨by rfl,?_⟩) ?_ ?_;rotate_left
   ·intro w';go_simp;with_reducible rfl
   rotate_left
   ·exact ux_
   refine take_ (i:=1) (N:=some 47) (v:=?_) (a':=?_) #[true,true,true,false,false] rfl rfl (by kernel_rfl) (fun _ _ _ h => h) (Or.inl ⟨by rfl,?_⟩) hHeld ?_ ?_;rotate_left
   ·rintro w' ⟨s0,s1,s2⟩;go_simp;with_reducible rfl
   rotate_left
   ·exact ux_
   refine one_ (i:=3) (N:=none) #[true,true,true,true,false] rfl rfl (by kernel_rfl) (by decide) (fun K hK => ?_);have hs36 : w35.cell? ⟨gb376,0,none⟩ = some (.int .i64 0):=(kc_ BK376.out 0).trans rfl;have hfs36:=kf_ BK376.out 0;have hns36_1:=NB394_376.out;have hms36_1:=NB376_394.out;have hs37 : w35.cell? ⟨gb376,1,none⟩ = some (.int .i64 0):=(kc_ BK376.out 1).trans rfl;have hfs37:=kf_ BK376.out 1;have hns37_1:=NB394_376.out;have hms37_1:=NB376_394.out;have hs38 : w35.cell? ⟨gb376,2,none⟩ = some (.string (⟨#[]⟩ : ByteArray)):=(kc_ BK376.out 2).trans rfl;have hfs38:=kf_ BK376.out 2;have hns38_1:=NB394_376.out;have hms38_1:=NB376_394.out;refine skip_ (w1:=?_) (by rfl) rfl ?_ ?_;rotate_left
   ·go_simp;rfl
   refine hK.out _ _ ⟨((cell_far (p:=⟨gb376,_,none⟩) NB394_376.out _).trans (((cell_far (p:=⟨gb376,_,none⟩) NB394_376.out _).trans (((cell_far (p:=⟨gb376,_,none⟩) NB394_376.out _).trans (hHeld.1)))))),((cell_far (p:=⟨gb376,_,none⟩) NB394_376.out _).trans (((cell_far (p:=⟨gb376,_,none⟩) NB394_376.out _).trans (((cell_far (p:=⟨gb376,_,none⟩) NB394_376.out _).trans (hHeld.2.1)))))),((cell_far (p:=⟨gb376,_,none⟩) NB394_376.out _).trans (((cell_far (p:=⟨gb376,_,none⟩) NB394_376.out _).trans (((cell_far (p:=⟨gb376,_,none⟩) NB394_376.out _).trans (hHeld.2.2))))))⟩ (fun hHeld => ?_);clear hK K;refine pure_ (i:=4) (N:=some 4) (v:=?_) (a':=?_) #[true,true,true,true,true] rfl rfl (by kernel_rfl) (fun _ _ _ h => h) (Or.inl ⟨by rfl,?_⟩) ?_ ?_;rotate_left
   ·intro w';go_simp;with_reducible rfl
   rotate_left
   ·exact ux_
   refine done_ (by kernel_rfl) ?_
   try go_wp2
   refine bodyPost_ret (results_list (rs:=[.tmp 2,.cell 3 69,.tmp 4]) rfl (by simp) (.tmp (.cell gb376 69 #[.int .i64 t386,.int .i64 t390,.string (a0.extract (t392 : Int).toNat a0.size)] (0,0) _ rfl (kz_ BK376) Try.underlying69 rfl (by kernel_rfl) (.tmp .nil)))) rfl ?_;exact ⟨ex_,bi_ HB (IsS106.ge HI377.out)⟩
def impl_ReadShort.f (k : Nat) (a0 : ByteArray) (a1 : Int) : Option (ByteArray × Int × Bool) := (impl_ReadVar.f k a0 a1).bind fun bt397 => (if bt397.2.2 = true then (if bt397.1 > 20000 then (some ((⟨#[]⟩ : ByteArray), 0, false)) else (if bt397.1 > (wrap64 ((a0.size : Int) - bt397.2.1)) then (some ((⟨#[]⟩ : ByteArray), 0, false)) else (if 0 ≤ bt397.2.1 then (if bt397.2.1 ≤ (wrap64 (bt397.2.1 + bt397.1)) then (if (wrap64 (bt397.2.1 + bt397.1)) ≤ (a0.size : Int) then (some (a0.extract (bt397.2.1 : Int).toNat ((wrap64 (bt397.2.1 + bt397.1)) : Int).toNat, wrap64 (bt397.2.1 + bt397.1), true)) else (none)) else (none)) else (none)))) else (some ((⟨#[]⟩ : ByteArray), 0, false)))
theorem impl_ReadShort.mono : ∀ a0 a1 k, LeO (impl_ReadShort.f k a0 a1) (impl_ReadShort.f (k + 1) a0 a1) := by
 intro a0 a1 k
 unfold impl_ReadShort.f
 repeat' first
   | (with_reducible exact impl_ReadVar.mono _ _ _)
   | (with_reducible exact LeO.refl _)
   | (with_reducible refine LeO.bind ?_ (fun _ => ?_))
set_option maxHeartbeats 8000000 in
set_option maxRecDepth 100000 in
theorem impl_ReadShort.calls (k : Nat) (a0 : ByteArray) (a1 : Int) (r1 : ByteArray) (r2 : Int) (r3 : Bool) (w : World) (h : impl_ReadShort.f k a0 a1 = some (r1, r2, r3)) :
  Calls Try.prog 109 #[.string a0,.int .i64 a1] w fun e w' => e = .returned (.tuple #[.string r1,.int .i64 r2,.bool r3]) ∧ Below w.heap.size w w':=by
 have HB:=A_ (Below.refl w.heap.size w);unfold impl_ReadShort.f at h;have H:=h;clear h;obtain ⟨⟨t397,t398,t399⟩,A3,H⟩:=oB_ H;(try dsimp only at H)
 by_cases c4 : t399 = true;rotate_left
 ·replace c4:=Bool.eq_false_iff.mpr c4;subst c4
  have H1 : (some ((⟨#[]⟩ : ByteArray),0,false)) = some (r1,r2,r3):=by rw [if_neg (show ¬ (false = true) by decide)] at H;exact H
  clear H;have H:=H1;clear H1;simp only [Option.some.injEq,Prod.mk.injEq] at H;obtain ⟨rfl,rfl,rfl⟩:=H;go_enter Try.func109,Try.ntmps109
  go_wp2_with (((with_reducible refine gate_callee (f:=97) rfl ?_);refine gL_ (some 13) Try.func97 #[.string a0,.int .i64 a1] ?_;(with_reducible refine (impl_ReadVar.calls k a0 a1 t397 t398 false _ A3.out).mono ?_);rintro e w13 ⟨rfl,hb⟩;refine ⟨_,rfl,?_⟩;replace HB:=bS_ HB hb;(try clear hb)))
  go_ret3;exact ⟨ex_,bq_ HB⟩
 subst c4
 rw [if_pos rfl] at H
 by_cases c5 : t397 > 20000
 ·rw [if_pos c5] at H;have c5b0:=de_ c5;clear c5;simp only [Option.some.injEq,Prod.mk.injEq] at H;obtain ⟨rfl,rfl,rfl⟩:=H;go_enter Try.func109,Try.ntmps109
  go_wp2_with (((with_reducible refine gate_callee (f:=97) rfl ?_);refine gL_ (some 13) Try.func97 #[.string a0,.int .i64 a1] ?_;(with_reducible refine (impl_ReadVar.calls k a0 a1 t397 t398 true _ A3.out).mono ?_);rintro e w6 ⟨rfl,hb⟩;refine ⟨_,rfl,?_⟩;replace HB:=bS_ HB hb;(try clear hb)))
  go_ret3;exact ⟨ex_,bq_ HB⟩
 rw [if_neg c5] at H;have c5b0:=decide_eq_false c5;clear c5;have HC7:=A_ H;clear H;go_enter Try.func109,Try.ntmps109
 go_upto_if 30 with (((with_reducible refine gate_callee (f:=97) rfl ?_);refine gL_ (some 13) Try.func97 #[.string a0,.int .i64 a1] ?_;(with_reducible refine (impl_ReadVar.calls k a0 a1 t397 t398 true _ A3.out).mono ?_);rintro e w8 ⟨rfl,hb⟩;refine ⟨_,rfl,?_⟩;replace HB:=bS_ HB hb;(try clear hb)))
 have H:=HC7.out;clear HC7
 by_cases c9 : t397 > (wrap64 ((a0.size : Int) - t398))
 ·rw [if_pos c9] at H;have c9b0:=de_ c9;clear c9
  (rw [c9b0])
  simp only [Option.some.injEq,Prod.mk.injEq] at H;obtain ⟨rfl,rfl,rfl⟩:=H;go_wp2;go_ret3;exact ⟨ex_,bq_ HB⟩
 rw [if_neg c9] at H;have c9b0:=decide_eq_false c9;clear c9
 (rw [c9b0])
 by_cases c10 : 0 ≤ t398
 ·rw [if_pos c10] at H;have c10b0:=eq_true c10;have c10b1:=de_ c10;clear c10
  by_cases c11 : t398 ≤ (wrap64 (t398 + t397))
  ·rw [if_pos c11] at H;have c11b0:=eq_true c11;have c11b1:=de_ c11
   by_cases c12 : (wrap64 (t398 + t397)) ≤ (a0.size : Int)
   ·rw [if_pos c12] at H;have c12b0:=eq_true c12;have c12b1:=de_ c12;simp only [Option.some.injEq,Prod.mk.injEq] at H;obtain ⟨rfl,rfl,rfl⟩:=H;go_wp2;go_ret3;exact ⟨ex_,bq_ HB⟩
   rw [if_neg c12] at H;exact absurd H (by simp)
  rw [if_neg c11] at H;exact absurd H (by simp)
 rw [if_neg c10] at H;exact absurd H (by simp)
end Go.Proofs.Ytbcgnncbiblibaa.PFnMessages
