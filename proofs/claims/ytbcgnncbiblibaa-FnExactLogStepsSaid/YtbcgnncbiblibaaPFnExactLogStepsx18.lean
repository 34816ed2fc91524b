/- The contracts of the Go functions that this law reaches: what each call returns, by a plain Lean function of its arguments. No conditions but those each contract names. By the kit's print.py, run by this session's wip/gen/pp.py with facts and hand proofs beside it: not to the letter what print.sh prints. -/
import Derived.Test.YtbcgnncbiblibaaPFnExactLogStepsx0
import Derived.Test.YtbcgnncbiblibaaPFnExactLogStepsx14
import Derived.Test.YtbcgnncbiblibaaPFnExactLogStepsx15
import Derived.Test.YtbcgnncbiblibaaPFnExactLogStepsx16
import Derived.Test.YtbcgnncbiblibaaPFnExactLogStepsx17
namespace Go.Proofs.Ytbcgnncbiblibaa.PFnExactLogSteps
open Go.RowKit Go.Proofs.YtbcgnncbiblibaaW.PrintWords Go.Proofs.YtbcgnncbiblibaaW.PrintLast Go.Proofs.YtbcgnncbiblibaaW.PrintMore
attribute [local go_sem] max2_int min2_int max_two min_two max_three min_three max_four min_four
set_option linter.unusedVariables false
set_option linter.unusedSimpArgs false
def impl_ReadEntry.j0 : Nat → ByteArray → Int → Bool → ByteArray → Int → Bool → Int → Int → ByteArray → Option (Int × Int × Int × ByteArray × Bool)
 | 0,_,_,_,_,_,_,_,_,_ => none
 | k + 1,x0,x7,x28,x447000,x447001,x447002,x464000,x464001,x464002 => if x28 = true then (some (0,0,0,(⟨#[]⟩ : ByteArray),false)) else (if 0 ≤ x447001 then (if x447001 ≤ (x0.size : Int) then ((impl_EntryOk.f k x464000 x464001 (x0.extract (x447001 : Int).toNat x0.size)).bind fun t464 => (if t464 = true then ((impl_within.f x7 1 100000).bind fun t465 => (if t465 = true then (some (x7,x464000,x464001,x0.extract (x447001 : Int).toNat x0.size,true)) else (some (0,0,0,(⟨#[]⟩ : ByteArray),false)))) else (some (0,0,0,(⟨#[]⟩ : ByteArray),false)))) else (none)) else (none))
def impl_ReadEntry.f (k : Nat) (a0 : ByteArray) : Option (Int × Int × Int × ByteArray × Bool) := (impl_reader_byte.f a0 0 false).bind fun bt447 => ((impl_reader_num.f k bt447.2.1 bt447.2.2.1 bt447.2.2.2).bind fun bt451 => ((impl_reader_num.f k bt451.2.1 bt451.2.2.1 bt451.2.2.2).bind fun bt455 => ((impl_reader_byte.f bt455.2.1 bt455.2.2.1 bt455.2.2.2).bind fun bt459 => (if bt459.2.2.2 = true then (impl_ReadEntry.j0 k a0 bt451.1 true bt459.2.1 bt459.2.2.1 bt459.2.2.2 bt455.1 bt459.1 (⟨#[]⟩ : ByteArray)) else (impl_ReadEntry.j0 k a0 bt451.1 (bt447.1 != 69) bt459.2.1 bt459.2.2.1 bt459.2.2.2 bt455.1 bt459.1 (⟨#[]⟩ : ByteArray))))))
theorem impl_ReadEntry.mono_l : ∀ k, (∀ y0 y1 y2 y3 y4 y5 y6 y7 y8, LeO (impl_ReadEntry.j0 k y0 y1 y2 y3 y4 y5 y6 y7 y8) (impl_ReadEntry.j0 (k + 1) y0 y1 y2 y3 y4 y5 y6 y7 y8))
 | 0 => fun _ _ _ _ _ _ _ _ _ r h => by simp [impl_ReadEntry.j0] at h
 | k + 1 => by
  have ih0:=impl_ReadEntry.mono_l k
  ·intro y0 y1 y2 y3 y4 y5 y6 y7 y8
   unfold impl_ReadEntry.j0
   repeat' first
   | (with_reducible exact impl_EntryOk.mono _ _ _ _)
   | (with_reducible exact LeO.refl _)
   | (with_reducible refine LeO.ite ?_ ?_)
   | (with_reducible refine LeO.bind ?_ (fun _ => ?_))
theorem impl_ReadEntry.mono : ∀ a0 k, LeO (impl_ReadEntry.f k a0) (impl_ReadEntry.f (k + 1) a0) := by
 intro a0 k;have ih0:=impl_ReadEntry.mono_l k
 unfold impl_ReadEntry.f
 repeat' first
   | (with_reducible exact ih0 _ _ _ _ _ _ _ _ _)
   | (with_reducible exact impl_reader_num.mono _ _ _ _)
   | (with_reducible exact LeO.refl _)
   | (with_reducible refine LeO.ite ?_ ?_)
   | (with_reducible refine LeO.bind ?_ (fun _ => ?_))
set_option maxHeartbeats 8000000 in
set_option maxRecDepth 100000 in
theorem impl_ReadEntry.calls (k : Nat) (a0 : ByteArray) (r1 : Int) (r2 : Int) (r3 : Int) (r4 : ByteArray) (r5 : Bool) (w : World) (h : impl_ReadEntry.f k a0 = some (r1, r2, r3, r4, r5)) :
  Calls Try.prog 46 #[.string a0] w fun e w' => e = .returned (.tuple #[.int .i64 r1,.agg #[.int .i64 r2,.int .i64 r3,.string r4],.bool r5]) ∧ Below w.heap.size w w':=by
 have hu69:=Try.underlying69;have hu106:=Try.underlying106;have HB:=A_ (Below.refl w.heap.size w);unfold impl_ReadEntry.f at h;have H:=h;clear h;replace H:=ob_.mp H;obtain ⟨⟨t447,t448,t449,t450⟩,A20,H⟩:=H;(try dsimp only at H);have A2:=A_ A20;clear A20;replace H:=ob_.mp H;obtain ⟨⟨t451,t452,t453,t454⟩,A30,H⟩:=H;(try dsimp only at H);have A3:=A_ A30;clear A30;replace H:=ob_.mp H;obtain ⟨⟨t455,t456,t457,t458⟩,A40,H⟩:=H;(try dsimp only at H);have A4:=A_ A40;clear A40;replace H:=ob_.mp H;obtain ⟨⟨t459,t460,t461,t462⟩,A50,H⟩:=H;(try dsimp only at H);have A5:=A_ A50;clear A50;have HC6:=A_ H;clear H;go_enter Try.func46,Try.ntmps46
 go_upto_region 5 with (first|((with_reducible refine gate_dst (N:=3) rfl ?_);refine bE_ 3 #[.int .i64 0,.int .i64 0,.string (⟨#[]⟩ : ByteArray)] 69 ?_;intro gb445 hg w7 hbox hb;have BK445:=A_ (hbox);have GW445:=gE_ hg HB;have GE445:=gE_ hg HB;replace HB:=bS_ HB hb;clear hb hbox hg)|((with_reducible refine gate_dst (N:=11) rfl ?_);refine bE_ 11 #[.string a0,.int .i64 0,.bool false] 106 ?_;intro gb446 hg w8 hbox hb;have HI446:=A_ ((show IsS106 w w8 gb446 a0 0 false from ⟨hbox,(by rw [hg];exact (bz_ (bq_ HB)) : w.heap.size ≤ gb446)⟩));replace HB:=bS_ HB hb;have NB445_446:=nB_ hg BK445;have NB446_445:=nC_ hg BK445;replace BK445:=kB_ BK445 hb;clear hb hbox hg)|((with_reducible refine gate_callee (f:=65) rfl ?_);refine gL_ (some 13) Try.func65 #[.pointer (some ⟨gb446,0,none⟩)] ?_;(with_reducible refine (impl_reader_byte.calls gb446 a0 0 false t447 t448 t449 t450 w _ ?side1 ?side2 A2.out).mono ?_);(case side1 => exact iq106_ HI446);(case side2 => exact bi_ HB (IsS106.ge HI446.out));rintro e w9 ⟨rfl,hi,hb,hk⟩;refine ⟨_,rfl,?_⟩;replace BK445:=A_ (KeepBut.blk hk (g':=gb445) (o:=.cells #[.int .i64 0,.int .i64 0,.string (⟨#[]⟩ : ByteArray)] 69 (0,0)) (kq_ BK445) NB445_446.out (by simp));replace HB:=A_ (hb);replace HI446:=A_ (hi);(try clear hb);(try clear hk);(try clear hi))|((with_reducible refine gate_callee (f:=66) rfl ?_);refine gL_ (some 15) Try.func66 #[.pointer (some ⟨gb446,0,none⟩)] ?_;(with_reducible refine (impl_reader_num.calls k gb446 t448 t449 t450 t451 t452 t453 t454 w _ ?side1 ?side2 A3.out).mono ?_);(case side1 => exact iq106_ HI446);(case side2 => exact bi_ HB (IsS106.ge HI446.out));rintro e w10 ⟨rfl,hi,hb,hk⟩;refine ⟨_,rfl,?_⟩;replace BK445:=A_ (KeepBut.blk hk (g':=gb445) (o:=.cells #[.int .i64 0,.int .i64 0,.string (⟨#[]⟩ : ByteArray)] 69 (0,0)) (kq_ BK445) NB445_446.out (by simp));replace HB:=A_ (hb);replace HI446:=A_ (hi);(try clear hb);(try clear hk);(try clear hi))|((with_reducible refine gate_callee (f:=66) rfl ?_);refine gL_ (some 17) Try.func66 #[.pointer (some ⟨gb446,0,none⟩)] ?_;(with_reducible refine (impl_reader_num.calls k gb446 t452 t453 t454 t455 t456 t457 t458 w _ ?side1 ?side2 A4.out).mono ?_);(case side1 => exact iq106_ HI446);(case side2 => exact bi_ HB (IsS106.ge HI446.out));rintro e w11 ⟨rfl,hi,hb,hk⟩;refine ⟨_,rfl,?_⟩;replace BK445:=A_ (KeepBut.blk hk (g':=gb445) (o:=.cells #[.int .i64 0,.int .i64 0,.string (⟨#[]⟩ : ByteArray)] 69 (0,0)) (kq_ BK445) NB445_446.out (by simp));replace HB:=A_ (hb);replace HI446:=A_ (hi);(try clear hb);(try clear hk);(try clear hi))|((with_reducible refine gate_callee (f:=65) rfl ?_);refine gL_ (some 19) Try.func65 #[.pointer (some ⟨gb446,0,none⟩)] ?_;(with_reducible refine (impl_reader_byte.calls gb446 t456 t457 t458 t459 t460 t461 t462 w _ ?side1 ?side2 A5.out).mono ?_);(case side1 => exact iq106_ HI446);(case side2 => exact bi_ HB (IsS106.ge HI446.out));rintro e w12 ⟨rfl,hi,hb,hk⟩;refine ⟨_,rfl,?_⟩;replace BK445:=A_ (KeepBut.blk hk (g':=gb445) (o:=.cells #[.int .i64 0,.int .i64 0,.string (⟨#[]⟩ : ByteArray)] 69 (0,0)) (kq_ BK445) NB445_446.out (by simp));replace HB:=A_ (hb);replace HI446:=A_ (hi);(try clear hb);(try clear hk);(try clear hi))|((with_reducible refine gate_dst (N:=8) rfl ?_);refine bE_ 8 #[.int .i64 0,.int .i64 0,.string (⟨#[]⟩ : ByteArray)] 69 ?_;intro gb463 hg w13 hbox hb;have BK463:=A_ (hbox);have GW463:=A_ ((by rw [hg];exact (bz_ (bi_ HB (IsS106.ge HI446.out))) : w.heap.size ≤ gb463));have GE463:=A_ ((by rw [hg];exact (bz_ (bi_ HB (IsS106.ge HI446.out))) : w.heap.size ≤ gb463));replace HB:=A_ (bs_ (bi_ HB (IsS106.ge HI446.out)) hb);have NB445_463:=nB_ hg BK445;have NB463_445:=nC_ hg BK445;replace BK445:=kB_ BK445 hb;have NB446_463:=A_ ((by rw [hg];exact nl_ (IsS106.lt (show IsS106 w _ gb446 t460 t461 t462 from iq106_ HI446)) : gb446 ≠ gb463));have NB463_446:=A_ ((by rw [hg];exact ng_ (IsS106.lt (show IsS106 w _ gb446 t460 t461 t462 from iq106_ HI446)) : gb463 ≠ gb446));replace HI446:=A_ (IsS106.below (iq106_ HI446) hb);clear hb hbox hg;have hnb14:=NB463_445.out;have hnc14:=NB445_463.out;have hnb15:=NB463_446.out;have hnc15:=NB446_463.out;obtain ⟨hcz16_0,hcz16_1,hcz16_2,hfz16_0,hfz16_1,hfz16_2⟩:=k3f_ BK463))
 go_cut [28] (fun v28 wc => ∃ (kq : Nat) (x28_5 : Bool),v28 = .bool x28_5 ∧ Aside0 (impl_ReadEntry.j0 kq a0 t451 x28_5 t460 t461 t462 t455 t459 (⟨#[]⟩ : ByteArray) = some (r1,r2,r3,r4,r5)) ∧ Aside0 (kq ≤ k) ∧ Aside0 (wc.heap[gb445]? = some (.cells #[.int .i64 0,.int .i64 0,.string (⟨#[]⟩ : ByteArray)] 69 (0,0))) ∧ Aside0 (wc.heap[gb463]? = some (.cells #[.int .i64 t455,.int .i64 t459,.string (⟨#[]⟩ : ByteArray)] 69 (0,0))) ∧ Aside0 (IsS106 w wc gb446 t460 t461 t462) ∧ Aside0 (Below w.heap.size w wc))
 case first =>
  have H:=HC6.out;clear HC6
  by_cases c17 : t462 = true
  ·subst c17
   rw [if_pos rfl] at H;have H':=A_ H;clear H;obtain ⟨HGz18,hgz18⟩:=HI446.out;have hcz18_0:=cellS106_0 HGz18;have hcz18_1:=cellS106_1 HGz18;have hcz18_2:=cellS106_2 HGz18;have hfz18_0:=kf_ HGz18 0;have hfz18_1:=kf_ HGz18 1;have hfz18_2:=kf_ HGz18 2;clear HGz18 hgz18;go_wp2
   go_meet
   case rel => exact ⟨_,(true),(by rfl),H',⟨by omega⟩,⟨kz_ BK445⟩,⟨kz_ BK463⟩,⟨iq106_ HI446⟩,⟨bi_ HB (IsS106.ge HI446.out)⟩⟩
  ·replace c17:=Bool.eq_false_iff.mpr c17;subst c17
   have H1 : (impl_ReadEntry.j0 k a0 t451 (t447 != 69) t460 t461 false t455 t459 (⟨#[]⟩ : ByteArray)) = some (r1,r2,r3,r4,r5):=by rw [if_neg (show ¬ (false = true) by decide)] at H;exact H
   clear H;have H:=H1;clear H1;have H':=A_ H;clear H;obtain ⟨HGz19,hgz19⟩:=HI446.out;have hcz19_0:=cellS106_0 HGz19;have hcz19_1:=cellS106_1 HGz19;have hcz19_2:=cellS106_2 HGz19;have hfz19_0:=kf_ HGz19 0;have hfz19_1:=kf_ HGz19 1;have hfz19_2:=kf_ HGz19 2;clear HGz19 hgz19;go_wp2
   go_meet
   case rel => exact ⟨_,((t447 != 69)),(by rfl),H',⟨by omega⟩,⟨kz_ BK445⟩,⟨kz_ BK463⟩,⟨iq106_ HI446⟩,⟨bi_ HB (IsS106.ge HI446.out)⟩⟩
 case rest =>
  clear HC6
  try clear c1
  try clear p2
  try clear c4
  try clear c6
  try clear c14
  try clear c15
  try clear c17
  try clear hcz16_0
  try clear hcz16_1
  try clear hcz16_2
  try clear hcz18_0
  try clear hcz18_1
  try clear hcz18_2
  try clear hcz19_0
  try clear hcz19_1
  try clear hcz19_2
  try clear hfz16_0
  try clear hfz16_1
  try clear hfz16_2
  try clear hfz18_0
  try clear hfz18_1
  try clear hfz18_2
  try clear hfz19_0
  try clear hfz19_1
  try clear hfz19_2
  obtain ⟨kq,x28_5,rfl,HA,HJ5,BK445,BK463,HI446,HB⟩:=hcut
  cases kq with
  | zero => exact absurd HA.out (by simp [impl_ReadEntry.j0])
  | succ kj5 =>
   have H:=HA.out;clear HA;simp only [impl_ReadEntry.j0] at H
   by_cases c20 : x28_5 = true
   ·subst c20
    rw [if_pos rfl] at H;simp only [Option.some.injEq,Prod.mk.injEq] at H;obtain ⟨rfl,rfl,rfl,rfl,rfl⟩:=H;have hnb21:=NB445_463.out;have hnc21:=NB463_445.out;have hnb22:=NB445_446.out;have hnc22:=NB446_445.out;obtain ⟨hcz23_0,hcz23_1,hcz23_2,hfz23_0,hfz23_1,hfz23_2⟩:=k3f_ BK445;go_wp2;refine bodyPost_ret (results_list (rs:=[.tmp 2,.cell 3 69,.tmp 4]) rfl (by simp) (.tmp (.cell gb445 69 #[.int .i64 0,.int .i64 0,.string (⟨#[]⟩ : ByteArray)] (0,0) _ rfl (kz_ BK445) Try.underlying69 rfl (by kernel_rfl) (.tmp .nil)))) rfl ?_;exact ⟨ex_,bi_ HB (IsS106.ge HI446.out)⟩
   ·replace c20:=Bool.eq_false_iff.mpr c20;subst c20
    have H1 : (if 0 ≤ t461 then (if t461 ≤ (a0.size : Int) then ((impl_EntryOk.f kj5 t455 t459 (a0.extract (t461 : Int).toNat a0.size)).bind fun t464 => (if t464 = true then ((impl_within.f t451 1 100000).bind fun t465 => (if t465 = true then (some (t451,t455,t459,a0.extract (t461 : Int).toNat a0.size,true)) else (some (0,0,0,(⟨#[]⟩ : ByteArray),false)))) else (some (0,0,0,(⟨#[]⟩ : ByteArray),false)))) else (none)) else (none)) = some (r1,r2,r3,r4,r5):=by rw [if_neg (show ¬ (false = true) by decide)] at H;exact H
    clear H;have H:=H1;clear H1
    by_cases c24 : 0 ≤ t461
    ·rw [if_pos c24] at H;have c24b0:=eq_true c24;have c24b1 : decide (0 ≤ t461) = true:=de_ c24;clear c24
     by_cases c25 : t461 ≤ (a0.size : Int)
     ·rw [if_pos c25] at H;have c25b0:=eq_true c25;have c25b1 : decide (t461 ≤ (a0.size : Int)) = true:=de_ c25;clear c25;replace H:=ob_.mp H;obtain ⟨t464,A260,H⟩:=H;have A26:=A_ A260;clear A260
      by_cases c27 : t464 = true
      ·subst c27
       rw [if_pos rfl] at H;replace H:=ob_.mp H;obtain ⟨t465,A280,H⟩:=H;have A28:=A_ A280;clear A280
       by_cases c29 : t465 = true
       ·subst c29
        rw [if_pos rfl] at H;simp only [Option.some.injEq,Prod.mk.injEq] at H;obtain ⟨rfl,rfl,rfl,rfl,rfl⟩:=H;obtain ⟨HGz30,hgz30⟩:=HI446.out;have hcz30_0:=cellS106_0 HGz30;have hcz30_1:=cellS106_1 HGz30;have hcz30_2:=cellS106_2 HGz30;have hfz30_0:=kf_ HGz30 0;have hfz30_1:=kf_ HGz30 1;have hfz30_2:=kf_ HGz30 2;clear HGz30 hgz30;have hnb31:=NB463_445.out;have hnc31:=NB445_463.out;have hnb32:=NB463_446.out;have hnc32:=NB446_463.out;obtain ⟨hcz33_0,hcz33_1,hcz33_2,hfz33_0,hfz33_1,hfz33_2⟩:=k3f_ BK463
        try go_wp2_with (first|((with_reducible refine gate_callee (f:=100) rfl ?_);refine gL_ (some 38) Try.func100 #[.agg #[.int .i64 t455,.int .i64 t459,.string (a0.extract (t461 : Int).toNat a0.size)]] ?_;(with_reducible refine (impl_EntryOk.calls kj5 t455 t459 (a0.extract (t461 : Int).toNat a0.size) true _ A26.out).mono ?_);rintro e w34 ⟨rfl,hb⟩;refine ⟨_,rfl,?_⟩;replace BK445:=A_ (kb_ (g:=gb445) (o:=.cells #[.int .i64 0,.int .i64 0,.string (⟨#[]⟩ : ByteArray)] 69 (0,0)) (kz_ BK445) hb);replace BK463:=A_ (kb_ (g:=gb463) (o:=.cells #[.int .i64 t455,.int .i64 t459,.string (a0.extract (t461 : Int).toNat a0.size)] 69 (0,0)) (kz_ BK463) hb);replace HB:=A_ (bs_ (bi_ HB (IsS106.ge HI446.out)) hb);replace HI446:=A_ (IsS106.below (show IsS106 w (wc.setCell ⟨gb463,2,none⟩ (.string (a0.extract (t461 : Int).toNat a0.size))) gb446 t460 t461 t462 from iq106_ HI446) hb);(try clear hb))|(go_at_call 47;(with_reducible refine (impl_within.calls t451 1 100000 true _ A28.out).mono ?_);rintro e w' ⟨rfl,⟨nd,rfl⟩⟩;(try (rw [drewN_self w34];generalize hq_ : World.drewN w34 _ = w34;have n0_ : Aside0 (w34.heap[gb445]? = some (.cells #[.int .i64 0,.int .i64 0,.string (⟨#[]⟩ : ByteArray)] 69 (0,0))):=⟨by rw [← hq_];exact (kq_ BK445)⟩;have n1_ : Aside0 (w34.heap[gb463]? = some (.cells #[.int .i64 t455,.int .i64 t459,.string (a0.extract (t461 : Int).toNat a0.size)] 69 (0,0))):=⟨by rw [← hq_];exact (kq_ BK463)⟩;have n2_ : Aside0 (IsS106 w w34 gb446 t460 t461 t462):=⟨by rw [← hq_];exact (iq106_ HI446)⟩;have n3_ : Aside0 (Below w.heap.size w w34):=⟨by rw [← hq_];exact (bi_ HB (IsS106.ge HI446.out))⟩;clear BK445 BK463 HI446 HB hq_;have BK445:=n0_;have BK463:=n1_;have HI446:=n2_;have HB:=n3_;clear n0_ n1_ n2_ n3_))))
        replace BK445:=A_ (kd_ BK445.out);replace BK463:=A_ (kd_ BK463.out);replace HI446:=A_ (IsS106.drew HI446.out);replace HB:=A_ (pd_ HB.out);refine start_ (n:=5) (S:=fun w' => w'.cell? ⟨gb463,0,none⟩ = some (.int .i64 t455) ∧ w'.cell? ⟨gb463,1,none⟩ = some (.int .i64 t459) ∧ w'.cell? ⟨gb463,2,none⟩ = some (.string (a0.extract (t461 : Int).toNat a0.size))) (ds:=[]) #[false,false,false,false,false] (by kernel_rfl) rfl rfl ⟨kC_ BK463 0,kC_ BK463 1,kC_ BK463 2⟩ (fun hHeld => ?_);generalize w34.drew = w35 at BK445 BK463 HI446 HB hHeld ⊢;refine pure_ (i:=0) (N:=some 46) (v:=?_) (a':=?_) #[true,false,false,false,false] rfl rfl (by kernel_rfl) (fun _ _ _ h => h) (Or.inl ⟨by rfl,?_⟩) ?_ ?_;rotate_left
        ·intro w';go_simp;with_reducible rfl
        rotate_left
        ·exact ux_
        refine pure_ (i:=2) (N:=some 2) (v:=?_) (a':=?_) #[true,false,true,false,false] rfl rfl (by kernel_rfl) (fun _ _ _ h => h) (Or.inl ⟨by rfl,?_⟩) ?_ ?_;rotate_left
        ·intro w';go_simp;with_reducible rfl
        rotate_left
        ·exact ux_
        refine take_ (i:=1) (N:=some 47) (v:=?_) (a':=?_) #[true,true,true,false,false] rfl rfl (by kernel_rfl) (fun _ _ _ h => h) (Or.inl ⟨by rfl,?_⟩) hHeld ?_ ?_;rotate_left
        ·rintro w' ⟨s0,s1,s2⟩;go_simp;with_reducible rfl
        rotate_left
        ·exact ux_
        refine one_ (i:=3) (N:=none) #[true,true,true,true,false] rfl rfl (by kernel_rfl) (by decide) (fun K hK => ?_);have hs36 : w35.cell? ⟨gb445,0,none⟩ = some (.int .i64 0):=(kc_ BK445.out 0).trans rfl;have hfs36:=kf_ BK445.out 0;have hns36_1:=NB463_445.out;have hms36_1:=NB445_463.out;have hs37 : w35.cell? ⟨gb445,1,none⟩ = some (.int .i64 0):=(kc_ BK445.out 1).trans rfl;have hfs37:=kf_ BK445.out 1;have hns37_1:=NB463_445.out;have hms37_1:=NB445_463.out;have hs38 : w35.cell? ⟨gb445,2,none⟩ = some (.string (⟨#[]⟩ : ByteArray)):=(kc_ BK445.out 2).trans rfl;have hfs38:=kf_ BK445.out 2;have hns38_1:=NB463_445.out;have hms38_1:=NB445_463.out;refine skip_ (w1:=?_) (by rfl) rfl ?_ ?_;rotate_left
        ·go_simp;rfl
        refine hK.out _ _ ⟨((cell_far (p:=⟨gb445,_,none⟩) NB463_445.out _).trans (((cell_far (p:=⟨gb445,_,none⟩) NB463_445.out _).trans (((cell_far (p:=⟨gb445,_,none⟩) NB463_445.out _).trans (hHeld.1)))))),((cell_far (p:=⟨gb445,_,none⟩) NB463_445.out _).trans (((cell_far (p:=⟨gb445,_,none⟩) NB463_445.out _).trans (((cell_far (p:=⟨gb445,_,none⟩) NB463_445.out _).trans (hHeld.2.1)))))),((cell_far (p:=⟨gb445,_,none⟩) NB463_445.out _).trans (((cell_far (p:=⟨gb445,_,none⟩) NB463_445.out _).trans (((cell_far (p:=⟨gb445,_,none⟩) NB463_445.out _).trans (hHeld.2.2))))))⟩ (fun hHeld => ?_);clear hK K;refine pure_ (i:=4) (N:=some 4) (v:=?_) (a':=?_) #[true,true,true,true,true] rfl rfl (by kernel_rfl) (fun _ _ _ h => h) (Or.inl ⟨by rfl,?_⟩) ?_ ?_;rotate_left
        ·intro w';go_simp;with_reducible rfl
        rotate_left
        ·exact ux_
        refine done_ (by kernel_rfl) ?_
        try go_wp2
        refine bodyPost_ret (results_list (rs:=[.tmp 2,.cell 3 69,.tmp 4]) rfl (by simp) (.tmp (.cell gb445 69 #[.int .i64 t455,.int .i64 t459,.string (a0.extract (t461 : Int).toNat a0.size)] (0,0) _ rfl (kz_ BK445) Try.underlying69 rfl (by kernel_rfl) (.tmp .nil)))) rfl ?_;exact ⟨ex_,bi_ HB (IsS106.ge HI446.out)⟩
       ·replace c29:=Bool.eq_false_iff.mpr c29;subst c29
        have H1 : (some (0,0,0,(⟨#[]⟩ : ByteArray),false)) = some (r1,r2,r3,r4,r5):=by rw [if_neg (show ¬ (false = true) by decide)] at H;exact H
        clear H;have H:=H1;clear H1;simp only [Option.some.injEq,Prod.mk.injEq] at H;obtain ⟨rfl,rfl,rfl,rfl,rfl⟩:=H;obtain ⟨HGz39,hgz39⟩:=HI446.out;have hcz39_0:=cellS106_0 HGz39;have hcz39_1:=cellS106_1 HGz39;have hcz39_2:=cellS106_2 HGz39;have hfz39_0:=kf_ HGz39 0;have hfz39_1:=kf_ HGz39 1;have hfz39_2:=kf_ HGz39 2;clear HGz39 hgz39;have hnb40:=NB463_445.out;have hnc40:=NB445_463.out;have hnb41:=NB463_446.out;have hnc41:=NB446_463.out;obtain ⟨hcz42_0,hcz42_1,hcz42_2,hfz42_0,hfz42_1,hfz42_2⟩:=k3f_ BK463
        go_wp2_with (first|((with_reducible refine gate_callee (f:=100) rfl ?_);refine gL_ (some 38) Try.func100 #[.agg #[.int .i64 t455,.int .i64 t459,.string (a0.extract (t461 : Int).toNat a0.size)]] ?_;(with_reducible refine (impl_EntryOk.calls kj5 t455 t459 (a0.extract (t461 : Int).toNat a0.size) true _ A26.out).mono ?_);rintro e w43 ⟨rfl,hb⟩;refine ⟨_,rfl,?_⟩;replace BK445:=A_ (kb_ (g:=gb445) (o:=.cells #[.int .i64 0,.int .i64 0,.string (⟨#[]⟩ : ByteArray)] 69 (0,0)) (kz_ BK445) hb);replace BK463:=A_ (kb_ (g:=gb463) (o:=.cells #[.int .i64 t455,.int .i64 t459,.string (a0.extract (t461 : Int).toNat a0.size)] 69 (0,0)) (kz_ BK463) hb);replace HB:=A_ (bs_ (bi_ HB (IsS106.ge HI446.out)) hb);replace HI446:=A_ (IsS106.below (show IsS106 w (wc.setCell ⟨gb463,2,none⟩ (.string (a0.extract (t461 : Int).toNat a0.size))) gb446 t460 t461 t462 from iq106_ HI446) hb);(try clear hb))|(go_at_call 47;(with_reducible refine (impl_within.calls t451 1 100000 false _ A28.out).mono ?_);rintro e w' ⟨rfl,⟨nd,rfl⟩⟩;(try (rw [drewN_self w43];generalize hq_ : World.drewN w43 _ = w43;have n0_ : Aside0 (w43.heap[gb445]? = some (.cells #[.int .i64 0,.int .i64 0,.string (⟨#[]⟩ : ByteArray)] 69 (0,0))):=⟨by rw [← hq_];exact (kq_ BK445)⟩;have n1_ : Aside0 (w43.heap[gb463]? = some (.cells #[.int .i64 t455,.int .i64 t459,.string (a0.extract (t461 : Int).toNat a0.size)] 69 (0,0))):=⟨by rw [← hq_];exact (kq_ BK463)⟩;have n2_ : Aside0 (IsS106 w w43 gb446 t460 t461 t462):=⟨by rw [← hq_];exact (iq106_ HI446)⟩;have n3_ : Aside0 (Below w.heap.size w w43):=⟨by rw [← hq_];exact (bi_ HB (IsS106.ge HI446.out))⟩;clear BK445 BK463 HI446 HB hq_;have BK445:=n0_;have BK463:=n1_;have HI446:=n2_;have HB:=n3_;clear n0_ n1_ n2_ n3_));have hnb44:=NB445_446.out;have hnc44:=NB446_445.out;obtain ⟨hcz45_0,hcz45_1,hcz45_2,hfz45_0,hfz45_1,hfz45_2⟩:=k3f_ BK445))
        refine bodyPost_ret (results_list (rs:=[.tmp 2,.cell 3 69,.tmp 4]) rfl (by simp) (.tmp (.cell gb445 69 #[.int .i64 0,.int .i64 0,.string (⟨#[]⟩ : ByteArray)] (0,0) _ rfl (kz_ BK445) Try.underlying69 rfl (by kernel_rfl) (.tmp .nil)))) rfl ?_;exact ⟨ex_,bi_ HB (IsS106.ge HI446.out)⟩
      ·replace c27:=Bool.eq_false_iff.mpr c27;subst c27
       have H1 : (some (0,0,0,(⟨#[]⟩ : ByteArray),false)) = some (r1,r2,r3,r4,r5):=by rw [if_neg (show ¬ (false = true) by decide)] at H;exact H
       clear H;have H:=H1;clear H1;simp only [Option.some.injEq,Prod.mk.injEq] at H;obtain ⟨rfl,rfl,rfl,rfl,rfl⟩:=H;obtain ⟨HGz46,hgz46⟩:=HI446.out;have hcz46_0:=cellS106_0 HGz46;have hcz46_1:=cellS106_1 HGz46;have hcz46_2:=cellS106_2 HGz46;have hfz46_0:=kf_ HGz46 0;have hfz46_1:=kf_ HGz46 1;have hfz46_2:=kf_ HGz46 2;clear HGz46 hgz46;have hnb47:=NB463_445.out;have hnc47:=NB445_463.out;have hnb48:=NB463_446.out;have hnc48:=NB446_463.out;obtain ⟨hcz49_0,hcz49_1,hcz49_2,hfz49_0,hfz49_1,hfz49_2⟩:=k3f_ BK463
       go_wp2_with (((with_reducible refine gate_callee (f:=100) rfl ?_);refine gL_ (some 38) Try.func100 #[.agg #[.int .i64 t455,.int .i64 t459,.string (a0.extract (t461 : Int).toNat a0.size)]] ?_;(with_reducible refine (impl_EntryOk.calls kj5 t455 t459 (a0.extract (t461 : Int).toNat a0.size) false _ A26.out).mono ?_);rintro e w50 ⟨rfl,hb⟩;refine ⟨_,rfl,?_⟩;replace BK445:=A_ (kb_ (g:=gb445) (o:=.cells #[.int .i64 0,.int .i64 0,.string (⟨#[]⟩ : ByteArray)] 69 (0,0)) (kz_ BK445) hb);replace BK463:=A_ (kb_ (g:=gb463) (o:=.cells #[.int .i64 t455,.int .i64 t459,.string (a0.extract (t461 : Int).toNat a0.size)] 69 (0,0)) (kz_ BK463) hb);replace HB:=A_ (bs_ (bi_ HB (IsS106.ge HI446.out)) hb);replace HI446:=A_ (IsS106.below (show IsS106 w (wc.setCell ⟨gb463,2,none⟩ (.string (a0.extract (t461 : Int).toNat a0.size))) gb446 t460 t461 t462 from iq106_ HI446) hb);(try clear hb);have hnb51:=NB445_446.out;have hnc51:=NB446_445.out;obtain ⟨hcz52_0,hcz52_1,hcz52_2,hfz52_0,hfz52_1,hfz52_2⟩:=k3f_ BK445))
       refine bodyPost_ret (results_list (rs:=[.tmp 2,.cell 3 69,.tmp 4]) rfl (by simp) (.tmp (.cell gb445 69 #[.int .i64 0,.int .i64 0,.string (⟨#[]⟩ : ByteArray)] (0,0) _ rfl (kz_ BK445) Try.underlying69 rfl (by kernel_rfl) (.tmp .nil)))) rfl ?_;exact ⟨ex_,bi_ HB (IsS106.ge HI446.out)⟩
     ·rw [if_neg c25] at H;exact absurd H (by simp)
    ·rw [if_neg c24] at H;exact absurd H (by simp)
mutual
def impl_LogOk.j0 : Nat → Bool → Int → Int → List (S69) → Option (Bool)
 | 0,_,_,_,_ => none
 | k + 1,x30,x467000,x467001,x467002 => if x30 = true then (some false) else (impl_LogOk.l0 k x467001 x467002 (x467002.length : Int) 0)
def impl_LogOk.l0 : Nat → Int → List (S69) → Int → Int → Option (Bool)
 | 0,_,_,_,_ => none
 | k + 1,x3,x34,x35,x36 => if x36 < x35 then (if 0 ≤ x36 then (if x36 < (x34.length : Int) then ((impl_EntryOk.f k ((rd_T69 x34 x36).f0) ((rd_T69 x34 x36).f1) ((rd_T69 x34 x36).f2)).bind fun t471 => (if t471 = true then (if ((rd_T69 x34 x36).f0) < x3 then (some false) else (impl_LogOk.l0 k ((rd_T69 x34 x36).f0) x34 x35 (wrap64 (x36 + 1)))) else (some false))) else (none)) else (none)) else (some true)
end
def impl_LogOk.f (k : Nat) (a0_0 : Int) (a0_1 : Int) (l0_2 : List (S69)) : Option (Bool) := (impl_within.f a0_0 0 100000).bind fun t467 => (if t467 = true then ((impl_within.f a0_1 0 100000).bind fun t468 => (if t468 = true then (if (l0_2.length : Int) > 120 then (impl_LogOk.j0 k true a0_0 a0_1 l0_2) else (impl_LogOk.j0 k (decide ((wrap64 (a0_0 + (l0_2.length : Int))) > 100000)) a0_0 a0_1 l0_2)) else (impl_LogOk.j0 k true a0_0 a0_1 l0_2))) else (impl_LogOk.j0 k true a0_0 a0_1 l0_2))
theorem impl_LogOk.mono_l : ∀ k, (∀ y0 y1 y2 y3, LeO (impl_LogOk.j0 k y0 y1 y2 y3) (impl_LogOk.j0 (k + 1) y0 y1 y2 y3)) ∧ (∀ y0 y1 y2 y3, LeO (impl_LogOk.l0 k y0 y1 y2 y3) (impl_LogOk.l0 (k + 1) y0 y1 y2 y3))
 | 0 => ⟨fun _ _ _ _ r h => by simp [impl_LogOk.j0] at h,fun _ _ _ _ r h => by simp [impl_LogOk.l0] at h⟩
 | k + 1 => by
  obtain ⟨ih0,ih1⟩:=impl_LogOk.mono_l k;refine ⟨?_,?_⟩
  ·intro y0 y1 y2 y3
   unfold impl_LogOk.j0
   repeat' first
   | (with_reducible exact ih1 _ _ _ _)
   | (with_reducible exact LeO.refl _)
   | (with_reducible refine LeO.ite ?_ ?_)
  ·intro y0 y1 y2 y3
   unfold impl_LogOk.l0
   repeat' first
   | (with_reducible exact ih1 _ _ _ _)
   | (with_reducible exact impl_EntryOk.mono _ _ _ _)
   | (with_reducible exact LeO.refl _)
   | (with_reducible refine LeO.ite ?_ ?_)
   | (with_reducible refine LeO.bind ?_ (fun _ => ?_))
theorem impl_LogOk.mono : ∀ a0 a1 a2 k, LeO (impl_LogOk.f k a0 a1 a2) (impl_LogOk.f (k + 1) a0 a1 a2) := by
 intro a0 a1 a2 k;obtain ⟨ih0,ih1⟩:=impl_LogOk.mono_l k
 unfold impl_LogOk.f
 repeat' first
   | (with_reducible exact ih0 _ _ _ _)
   | (with_reducible exact LeO.refl _)
   | (with_reducible refine LeO.ite ?_ ?_)
   | (with_reducible refine LeO.bind ?_ (fun _ => ?_))
set_option maxHeartbeats 8000000 in
set_option maxRecDepth 100000 in
theorem impl_LogOk.calls (k : Nat) (a0_0 : Int) (a0_1 : Int) (A0_2 : Option Addr) (c0_2 : Nat) (l0_2 : List (S69)) (r : Bool) (w : World) (hr0_2 : Kd.C k69 w A0_2 l0_2.length l0_2) (hc0_2 : l0_2.length ≤ c0_2) (h : impl_LogOk.f k a0_0 a0_1 l0_2 = some r) :
  Calls Try.prog 48 #[.agg #[.int .i64 a0_0,.int .i64 a0_1,.slice A0_2 l0_2.length c0_2]] w fun e w' => e = .returned (.bool r) ∧ Below w.heap.size w w':=by
 have hu24:=Try.underlying24;have hu69:=Try.underlying69;have HR0_2:=A_ hr0_2;have HC0_2:=A_ hc0_2;clear hr0_2 hc0_2;have HB:=A_ (Below.refl w.heap.size w);unfold impl_LogOk.f at h;have H:=h;clear h;have HC2:=A_ H;clear H;go_enter Try.func48,Try.ntmps48
 go_upto_region 1 with (((with_reducible refine gate_dst (N:=1) rfl ?_);(try (refine gate_guard (by rfl) ?_;dsimp only));refine bE_ 1 #[.int .i64 a0_0,.int .i64 a0_1,.slice A0_2 l0_2.length c0_2] 24 ?_;intro gb466 hg w3 hbox hb;have BK466:=A_ (hbox);have GW466:=gE_ hg HB;have GE466:=gE_ hg HB;replace HB:=bS_ HB hb;clear hb hbox hg))
 go_cut [30] (fun v30 wc => ∃ (kq : Nat) (x30_1 : Bool),v30 = .bool x30_1 ∧ Aside0 (impl_LogOk.j0 kq x30_1 a0_0 a0_1 l0_2 = some r) ∧ Aside0 (kq ≤ k) ∧ Aside0 (wc.heap[gb466]? = some (.cells #[.int .i64 a0_0,.int .i64 a0_1,(.slice A0_2 l0_2.length c0_2)] 24 (0,0))) ∧ Aside0 (Below w.heap.size w wc))
 case first =>
  have H:=HC2.out;clear HC2;replace H:=ob_.mp H;obtain ⟨t467,A40,H⟩:=H;have A4:=A_ A40;clear A40
  by_cases c5 : t467 = true
  ·subst c5
   rw [if_pos rfl] at H;replace H:=ob_.mp H;obtain ⟨t468,A60,H⟩:=H;have A6:=A_ A60;clear A60
   by_cases c7 : t468 = true
   ·subst c7
    rw [if_pos rfl] at H
    by_cases c8 : (l0_2.length : Int) > 120
    ·rw [if_pos c8] at H;have c8b0 : decide (120 < (l0_2.length : Int)) = true:=de_ c8;have c8b1 : decide (120 < l0_2.length) = true:=de_ (by omega);clear c8
     (skip)
     have H':=A_ H;clear H;obtain ⟨hcz9_0,hcz9_1,hcz9_2,hfz9_0,hfz9_1,hfz9_2⟩:=k3f_ BK466
     go_wp2_with (first|((with_reducible refine gate_callee (f:=47) rfl ?_);refine gL_ (some 8) Try.func47 #[.int .i64 a0_0,.int .i64 0,.int .i64 100000] ?_;(with_reducible refine (impl_within.calls a0_0 0 100000 true _ A4.out).mono ?_);rintro e w' ⟨rfl,⟨nd,rfl⟩⟩;refine ⟨_,rfl,?_⟩)|(go_at_call 47;(with_reducible refine (impl_within.calls a0_1 0 100000 true _ A6.out).mono ?_);rintro e w' ⟨rfl,⟨nd,rfl⟩⟩))
     go_meet
     case rel => exact ⟨_,(true),(by rfl),H',⟨by omega⟩,⟨kq_ BK466⟩,⟨bq_ HB⟩⟩
    ·rw [if_neg c8] at H;have c8b0 : decide (120 < (l0_2.length : Int)) = false:=decide_eq_false c8;have c8b1 : decide (120 < l0_2.length) = false:=decide_eq_false (by omega);clear c8
     (skip)
     have H':=A_ H;clear H;obtain ⟨hcz10_0,hcz10_1,hcz10_2,hfz10_0,hfz10_1,hfz10_2⟩:=k3f_ BK466
     go_wp2_with (first|((with_reducible refine gate_callee (f:=47) rfl ?_);refine gL_ (some 8) Try.func47 #[.int .i64 a0_0,.int .i64 0,.int .i64 100000] ?_;(with_reducible refine (impl_within.calls a0_0 0 100000 true _ A4.out).mono ?_);rintro e w' ⟨rfl,⟨nd,rfl⟩⟩;refine ⟨_,rfl,?_⟩)|(go_at_call 47;(with_reducible refine (impl_within.calls a0_1 0 100000 true _ A6.out).mono ?_);rintro e w' ⟨rfl,⟨nd,rfl⟩⟩))
     go_meet
     case rel => exact ⟨_,(decide ((wrap64 (a0_0 + (l0_2.length : Int))) > 100000)),(by rfl),H',⟨by omega⟩,⟨kq_ BK466⟩,⟨bq_ HB⟩⟩
   ·replace c7:=Bool.eq_false_iff.mpr c7;subst c7
    have H1 : (impl_LogOk.j0 k true a0_0 a0_1 l0_2) = some r:=by rw [if_neg (show ¬ (false = true) by decide)] at H;exact H
    clear H;have H:=H1;clear H1;have H':=A_ H;clear H;obtain ⟨hcz11_0,hcz11_1,hcz11_2,hfz11_0,hfz11_1,hfz11_2⟩:=k3f_ BK466
    go_wp2_with (first|((with_reducible refine gate_callee (f:=47) rfl ?_);refine gL_ (some 8) Try.func47 #[.int .i64 a0_0,.int .i64 0,.int .i64 100000] ?_;(with_reducible refine (impl_within.calls a0_0 0 100000 true _ A4.out).mono ?_);rintro e w' ⟨rfl,⟨nd,rfl⟩⟩;refine ⟨_,rfl,?_⟩)|(go_at_call 47;(with_reducible refine (impl_within.calls a0_1 0 100000 false _ A6.out).mono ?_);rintro e w' ⟨rfl,⟨nd,rfl⟩⟩))
    go_meet
    case rel => exact ⟨_,(true),(by rfl),H',⟨by omega⟩,⟨kq_ BK466⟩,⟨bq_ HB⟩⟩
  ·replace c5:=Bool.eq_false_iff.mpr c5;subst c5
   have H1 : (impl_LogOk.j0 k true a0_0 a0_1 l0_2) = some r:=by rw [if_neg (show ¬ (false = true) by decide)] at H;exact H
   clear H;have H:=H1;clear H1;have H':=A_ H;clear H;obtain ⟨hcz12_0,hcz12_1,hcz12_2,hfz12_0,hfz12_1,hfz12_2⟩:=k3f_ BK466
   go_wp2_with (((with_reducible refine gate_callee (f:=47) rfl ?_);refine gL_ (some 8) Try.func47 #[.int .i64 a0_0,.int .i64 0,.int .i64 100000] ?_;(with_reducible refine (impl_within.calls a0_0 0 100000 false _ A4.out).mono ?_);rintro e w' ⟨rfl,⟨nd,rfl⟩⟩;refine ⟨_,rfl,?_⟩))
   go_meet
   case rel => exact ⟨_,(true),(by rfl),H',⟨by omega⟩,⟨kq_ BK466⟩,⟨bq_ HB⟩⟩
 case rest =>
  clear HC2
  try clear p2
  try clear c4
  try clear c5
  try clear p6
  try clear c7
  try clear c8
  try clear c8b0
  try clear c8b1
  try clear hcz10_0
  try clear hcz10_1
  try clear hcz10_2
  try clear hcz11_0
  try clear hcz11_1
  try clear hcz11_2
  try clear hcz12_0
  try clear hcz12_1
  try clear hcz12_2
  try clear hcz9_0
  try clear hcz9_1
  try clear hcz9_2
  try clear hfz10_0
  try clear hfz10_1
  try clear hfz10_2
  try clear hfz11_0
  try clear hfz11_1
  try clear hfz11_2
  try clear hfz12_0
  try clear hfz12_1
  try clear hfz12_2
  try clear hfz9_0
  try clear hfz9_1
  try clear hfz9_2
  obtain ⟨kq,x30_1,rfl,HA,HJ1,BK466,HB⟩:=hcut
  cases kq with
  | zero => exact absurd HA.out (by simp [impl_LogOk.j0])
  | succ kj1 =>
   have H:=HA.out;clear HA;simp only [impl_LogOk.j0] at H
   by_cases c13 : x30_1 = true
   ·subst c13
    rw [if_pos rfl] at H;obtain rfl:=Option.some.inj H;go_wp2;go_ret;exact ⟨ex_,bq_ HB⟩
   ·replace c13:=Bool.eq_false_iff.mpr c13;subst c13
    have H1 : (impl_LogOk.l0 kj1 a0_1 l0_2 (l0_2.length : Int) 0) = some r:=by rw [if_neg (show ¬ (false = true) by decide)] at H;exact H
    clear H;have H:=H1;clear H1;have H':=A_ H;clear H;obtain ⟨hcz14_0,hcz14_1,hcz14_2,hfz14_0,hfz14_1,hfz14_2⟩:=k3f_ BK466;go_wp2
    go_loopg [3,36] kj1 (fun kq v3 v36 w' => ∃ (x3_2 : Int) (x36_2 : Int),v3 = .int .i64 x3_2 ∧ v36 = .int .i64 x36_2 ∧ Aside0 (impl_LogOk.l0 kq x3_2 l0_2 (l0_2.length : Int) x36_2 = some r) ∧ Aside0 (kq ≤ kj1) ∧ Aside0 (w'.heap[gb466]? = some (.cells #[.int .i64 a0_0,.int .i64 a0_1,(.slice A0_2 l0_2.length c0_2)] 24 (0,0))) ∧ Aside0 (Below w.heap.size w w'))
    case atStart => exact ⟨(a0_1),(0),(by rfl),(by rfl),H',⟨Nat.le_refl _⟩,⟨kq_ BK466⟩,⟨bq_ HB⟩⟩
    case round =>
     clear H'
     try clear c1
     try clear p2
     try clear c4
     try clear c5
     try clear p6
     try clear c7
     try clear c8
     try clear c8b0
     try clear c8b1
     try clear c13
     try clear hcz10_0
     try clear hcz10_1
     try clear hcz10_2
     try clear hcz11_0
     try clear hcz11_1
     try clear hcz11_2
     try clear hcz12_0
     try clear hcz12_1
     try clear hcz12_2
     try clear hcz14_0
     try clear hcz14_1
     try clear hcz14_2
     try clear hcz9_0
     try clear hcz9_1
     try clear hcz9_2
     try clear hfz10_0
     try clear hfz10_1
     try clear hfz10_2
     try clear hfz11_0
     try clear hfz11_1
     try clear hfz11_2
     try clear hfz12_0
     try clear hfz12_1
     try clear hfz12_2
     try clear hfz14_0
     try clear hfz14_1
     try clear hfz14_2
     try clear hfz9_0
     try clear hfz9_1
     try clear hfz9_2
     try clear p2
     try clear p6
     obtain ⟨x3_2,x36_2,rfl,rfl,HA,HK2,BK466,HB⟩:=hrel
     cases gk with
     | zero => exact absurd HA.out (by simp [impl_LogOk.l0])
     | succ k2 =>
      have H:=HA.out;clear HA;simp only [impl_LogOk.l0] at H
      by_cases c15 : x36_2 < (l0_2.length : Int)
      ·rw [if_pos c15] at H;have c15b0 : decide (x36_2 < (l0_2.length : Int)) = true:=de_ c15;clear c15
       by_cases c16 : 0 ≤ x36_2
       ·rw [if_pos c16] at H;have c16b0 : decide (0 ≤ x36_2) = true:=de_ c16;clear c16
        by_cases c17 : x36_2 < (l0_2.length : Int)
        ·rw [if_pos c17] at H;have c17b0 : decide (x36_2 < (l0_2.length : Int)) = true:=de_ c17;clear c17;replace H:=ob_.mp H;obtain ⟨t471,A180,H⟩:=H;have A18:=A_ A180;clear A180
         by_cases c19 : t471 = true
         ·subst c19
          rw [if_pos rfl] at H
          by_cases c20 : ((rd_T69 l0_2 x36_2).f0) < x3_2
          ·rw [if_pos c20] at H;have c20b0 : decide (((rd_T69 l0_2 x36_2).f0) < x3_2) = true:=de_ c20;clear c20;obtain rfl:=Option.some.inj H;have p469 : 0 ≤ (x36_2 : Int):=oda_;have q469 : x36_2 < (l0_2.length : Int):=oda_;obtain ⟨ad469,e469,hx469_0,hx469_1,hx469_2⟩:=at_T69 HR0_2.out x36_2 p469 q469
           cases e469
           replace hx469_0:=(HB.out.cell (wb_ w _ hx469_0)).trans hx469_0;replace hx469_1:=(HB.out.cell (wb_ w _ hx469_1)).trans hx469_1;replace hx469_2:=(HB.out.cell (wb_ w _ hx469_2)).trans hx469_2;replace p469:=eq_true p469;replace q469:=eq_true q469
           go_wp2_with (first|((with_reducible refine gate_dst (N:=5) rfl ?_);(try (refine gate_guard (by rfl) ?_;dsimp only));refine bE_ 5 #[.int .i64 0,.int .i64 0,.string (⟨#[]⟩ : ByteArray)] 69 ?_;intro gb470 hg w21 hbox hb;have BK470:=A_ (hbox);have GW470:=gE_ hg HB;have GE470:=gE_ hg HB;replace HB:=bS_ HB hb;have NB466_470:=nB_ hg BK466;have NB470_466:=nC_ hg BK466;replace BK466:=kB_ BK466 hb;clear hb hbox hg;have hnb22:=NB470_466.out;have hnc22:=NB466_470.out;obtain ⟨hcz23_0,hcz23_1,hcz23_2,hfz23_0,hfz23_1,hfz23_2⟩:=k3f_ BK470)|((with_reducible refine gate_callee (f:=100) rfl ?_);refine gL_ (some 41) Try.func100 #[.agg #[.int .i64 ((rd_T69 l0_2 x36_2).f0),.int .i64 ((rd_T69 l0_2 x36_2).f1),.string ((rd_T69 l0_2 x36_2).f2)]] ?_;(with_reducible refine (impl_EntryOk.calls k2 ((rd_T69 l0_2 x36_2).f0) ((rd_T69 l0_2 x36_2).f1) ((rd_T69 l0_2 x36_2).f2) true _ A18.out).mono ?_);rintro e w24 ⟨rfl,hb⟩;refine ⟨_,rfl,?_⟩;replace BK466:=A_ (kb_ (g:=gb466) (o:=.cells #[.int .i64 a0_0,.int .i64 a0_1,.slice (some ad469) l0_2.length c0_2] 24 (0,0)) (kz_ BK466) hb);replace BK470:=A_ (kb_ (g:=gb470) (o:=.cells #[.int .i64 ((rd_T69 l0_2 x36_2).f0),.int .i64 ((rd_T69 l0_2 x36_2).f1),.string ((rd_T69 l0_2 x36_2).f2)] 69 (0,0)) (kz_ BK470) hb);replace HB:=bS_ HB hb;(try clear hb);obtain ⟨hcz25_0,hcz25_1,hcz25_2,hfz25_0,hfz25_1,hfz25_2⟩:=k3f_ BK470))
           go_ret;exact ⟨ex_,bq_ HB⟩
          ·rw [if_neg c20] at H;have c20b0 : decide (((rd_T69 l0_2 x36_2).f0) < x3_2) = false:=decide_eq_false c20;clear c20;have H':=A_ H;clear H;have p469 : 0 ≤ (x36_2 : Int):=oda_;have q469 : x36_2 < (l0_2.length : Int):=oda_;obtain ⟨ad469,e469,hx469_0,hx469_1,hx469_2⟩:=at_T69 HR0_2.out x36_2 p469 q469
           cases e469
           replace hx469_0:=(HB.out.cell (wb_ w _ hx469_0)).trans hx469_0;replace hx469_1:=(HB.out.cell (wb_ w _ hx469_1)).trans hx469_1;replace hx469_2:=(HB.out.cell (wb_ w _ hx469_2)).trans hx469_2;replace p469:=eq_true p469;replace q469:=eq_true q469
           go_wp2_with (first|((with_reducible refine gate_dst (N:=5) rfl ?_);(try (refine gate_guard (by rfl) ?_;dsimp only));refine bE_ 5 #[.int .i64 0,.int .i64 0,.string (⟨#[]⟩ : ByteArray)] 69 ?_;intro gb470 hg w26 hbox hb;have BK470:=A_ (hbox);have GW470:=gE_ hg HB;have GE470:=gE_ hg HB;replace HB:=bS_ HB hb;have NB466_470:=nB_ hg BK466;have NB470_466:=nC_ hg BK466;replace BK466:=kB_ BK466 hb;clear hb hbox hg;have hnb27:=NB470_466.out;have hnc27:=NB466_470.out;obtain ⟨hcz28_0,hcz28_1,hcz28_2,hfz28_0,hfz28_1,hfz28_2⟩:=k3f_ BK470)|((with_reducible refine gate_callee (f:=100) rfl ?_);refine gL_ (some 41) Try.func100 #[.agg #[.int .i64 ((rd_T69 l0_2 x36_2).f0),.int .i64 ((rd_T69 l0_2 x36_2).f1),.string ((rd_T69 l0_2 x36_2).f2)]] ?_;(with_reducible refine (impl_EntryOk.calls k2 ((rd_T69 l0_2 x36_2).f0) ((rd_T69 l0_2 x36_2).f1) ((rd_T69 l0_2 x36_2).f2) true _ A18.out).mono ?_);rintro e w29 ⟨rfl,hb⟩;refine ⟨_,rfl,?_⟩;replace BK466:=A_ (kb_ (g:=gb466) (o:=.cells #[.int .i64 a0_0,.int .i64 a0_1,.slice (some ad469) l0_2.length c0_2] 24 (0,0)) (kz_ BK466) hb);replace BK470:=A_ (kb_ (g:=gb470) (o:=.cells #[.int .i64 ((rd_T69 l0_2 x36_2).f0),.int .i64 ((rd_T69 l0_2 x36_2).f1),.string ((rd_T69 l0_2 x36_2).f2)] 69 (0,0)) (kz_ BK470) hb);replace HB:=bS_ HB hb;(try clear hb);obtain ⟨hcz30_0,hcz30_1,hcz30_2,hfz30_0,hfz30_1,hfz30_2⟩:=k3f_ BK470))
           go_roundg k2
           case measure => have:=HJ1.out;have:=HK2.out;omega
           case rel => exact ⟨((rd_T69 l0_2 x36_2).f0),(wrap64 (x36_2 + 1)),(by rfl),(by rfl),H',⟨by have:=HJ1.out;have:=HK2.out;omega⟩,⟨kq_ BK466⟩,⟨bq_ HB⟩⟩
         ·replace c19:=Bool.eq_false_iff.mpr c19;subst c19
          have H1 : (some false) = some r:=by rw [if_neg (show ¬ (false = true) by decide)] at H;exact H
          clear H;have H:=H1;clear H1;obtain rfl:=Option.some.inj H;have p469 : 0 ≤ (x36_2 : Int):=oda_;have q469 : x36_2 < (l0_2.length : Int):=oda_;obtain ⟨ad469,e469,hx469_0,hx469_1,hx469_2⟩:=at_T69 HR0_2.out x36_2 p469 q469
          cases e469
          replace hx469_0:=(HB.out.cell (wb_ w _ hx469_0)).trans hx469_0;replace hx469_1:=(HB.out.cell (wb_ w _ hx469_1)).trans hx469_1;replace hx469_2:=(HB.out.cell (wb_ w _ hx469_2)).trans hx469_2;replace p469:=eq_true p469;replace q469:=eq_true q469
          go_wp2_with (first|((with_reducible refine gate_dst (N:=5) rfl ?_);(try (refine gate_guard (by rfl) ?_;dsimp only));refine bE_ 5 #[.int .i64 0,.int .i64 0,.string (⟨#[]⟩ : ByteArray)] 69 ?_;intro gb470 hg w31 hbox hb;have BK470:=A_ (hbox);have GW470:=gE_ hg HB;have GE470:=gE_ hg HB;replace HB:=bS_ HB hb;have NB466_470:=nB_ hg BK466;have NB470_466:=nC_ hg BK466;replace BK466:=kB_ BK466 hb;clear hb hbox hg;have hnb32:=NB470_466.out;have hnc32:=NB466_470.out;obtain ⟨hcz33_0,hcz33_1,hcz33_2,hfz33_0,hfz33_1,hfz33_2⟩:=k3f_ BK470)|((with_reducible refine gate_callee (f:=100) rfl ?_);refine gL_ (some 41) Try.func100 #[.agg #[.int .i64 ((rd_T69 l0_2 x36_2).f0),.int .i64 ((rd_T69 l0_2 x36_2).f1),.string ((rd_T69 l0_2 x36_2).f2)]] ?_;(with_reducible refine (impl_EntryOk.calls k2 ((rd_T69 l0_2 x36_2).f0) ((rd_T69 l0_2 x36_2).f1) ((rd_T69 l0_2 x36_2).f2) false _ A18.out).mono ?_);rintro e w34 ⟨rfl,hb⟩;refine ⟨_,rfl,?_⟩;replace BK466:=A_ (kb_ (g:=gb466) (o:=.cells #[.int .i64 a0_0,.int .i64 a0_1,.slice (some ad469) l0_2.length c0_2] 24 (0,0)) (kz_ BK466) hb);replace BK470:=A_ (kb_ (g:=gb470) (o:=.cells #[.int .i64 ((rd_T69 l0_2 x36_2).f0),.int .i64 ((rd_T69 l0_2 x36_2).f1),.string ((rd_T69 l0_2 x36_2).f2)] 69 (0,0)) (kz_ BK470) hb);replace HB:=bS_ HB hb;(try clear hb)))
          go_ret;exact ⟨ex_,bq_ HB⟩
        ·rw [if_neg c17] at H;exact absurd H (by simp)
       ·rw [if_neg c16] at H;exact absurd H (by simp)
      ·rw [if_neg c15] at H;have c15b0 : decide (x36_2 < (l0_2.length : Int)) = false:=decide_eq_false c15;clear c15;obtain rfl:=Option.some.inj H;go_wp2;go_ret;exact ⟨ex_,bq_ HB⟩
end Go.Proofs.Ytbcgnncbiblibaa.PFnExactLogSteps
