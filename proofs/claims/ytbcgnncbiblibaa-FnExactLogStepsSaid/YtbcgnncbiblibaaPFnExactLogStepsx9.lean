/- The contracts of the Go functions that this law reaches: what each call returns, by a plain Lean function of its arguments. No conditions but those each contract names. By the kit's print.py, run by this session's wip/gen/pp.py with facts and hand proofs beside it: not to the letter what print.sh prints. -/
import Derived.Test.YtbcgnncbiblibaaPFnExactLogStepsx0
import Derived.Test.YtbcgnncbiblibaaPFnExactLogStepsx3
import Derived.Test.YtbcgnncbiblibaaPFnExactLogStepsx5
import Derived.Test.YtbcgnncbiblibaaPFnExactLogStepsx7
import Derived.Test.YtbcgnncbiblibaaPFnExactLogStepsx8
namespace Go.Proofs.Ytbcgnncbiblibaa.PFnExactLogSteps
open Go.RowKit Go.Proofs.YtbcgnncbiblibaaW.PrintWords Go.Proofs.YtbcgnncbiblibaaW.PrintLast Go.Proofs.YtbcgnncbiblibaaW.PrintMore
attribute [local go_sem] max2_int min2_int max_two min_two max_three min_three max_four min_four
set_option linter.unusedVariables false
set_option linter.unusedSimpArgs false
def spec_ReadEntry.f (k : Nat) (a0 : ByteArray) : Option (Int × Int × Int × ByteArray × Bool) := (spec_l05Take.f a0 0 false 1).bind fun bt216 => ((spec_l05Var.f k bt216.2.1 bt216.2.2.1 bt216.2.2.2).bind fun bt220 => ((spec_l05Var.f k bt220.2.1 bt220.2.2.1 bt220.2.2.2).bind fun bt225 => ((spec_l05Take.f bt225.2.1 bt225.2.2.1 bt225.2.2.2 1).bind fun bt229 => (if bt229.2.2.2 = true then (some (0, 0, 0, (⟨#[]⟩ : ByteArray), false)) else (if 0 < (bt229.1.size : Int) then (if 0 ≤ bt229.2.2.1 then (if bt229.2.2.1 ≤ (a0.size : Int) then ((spec_EntryText.f k bt220.1 bt225.1 (wrap64 (bt bt229.1 0)) (a0.extract (bt229.2.2.1 : Int).toNat a0.size)).bind fun bt233 => (if bt233.2 = true then (if bt233.1.toList = a0.toList then (some (bt220.1, bt225.1, wrap64 (bt bt229.1 0), a0.extract (bt229.2.2.1 : Int).toNat a0.size, true)) else (some (0, 0, 0, (⟨#[]⟩ : ByteArray), false))) else (some (0, 0, 0, (⟨#[]⟩ : ByteArray), false)))) else (none)) else (none)) else (none))))))
theorem spec_ReadEntry.mono : ∀ a0 k, LeO (spec_ReadEntry.f k a0) (spec_ReadEntry.f (k + 1) a0) := by
 intro a0 k
 unfold spec_ReadEntry.f
 repeat' first
   | (with_reducible exact spec_EntryText.mono _ _ _ _ _)
   | (with_reducible exact spec_l05Var.mono _ _ _ _)
   | (with_reducible exact LeO.refl _)
   | (with_reducible refine LeO.ite ?_ ?_)
   | (with_reducible refine LeO.bind ?_ (fun _ => ?_))
set_option maxHeartbeats 8000000 in
set_option maxRecDepth 100000 in
theorem spec_ReadEntry.calls (k : Nat) (a0 : ByteArray) (r1 : Int) (r2 : Int) (r3 : Int) (r4 : ByteArray) (r5 : Bool) (w : World) (h : spec_ReadEntry.f k a0 = some (r1, r2, r3, r4, r5)) :
  Calls Try.prog 41 #[.string a0] w fun e w' => e = .returned (.tuple #[.int .i64 r1,.agg #[.int .i64 r2,.int .i64 r3,.string r4],.bool r5]) ∧ Below w.heap.size w w':=by
 have hu69:=Try.underlying69;have hu98:=Try.underlying98;have HB:=A_ (Below.refl w.heap.size w);unfold spec_ReadEntry.f at h;have H:=h;clear h;replace H:=ob_.mp H;obtain ⟨⟨t216,t217,t218,t219⟩,A20,H⟩:=H;(try dsimp only at H);have A2:=A_ A20;clear A20;replace H:=ob_.mp H;obtain ⟨⟨t220,t221,t222,t223⟩,A30,H⟩:=H;(try dsimp only at H);have A3:=A_ A30;clear A30;replace H:=ob_.mp H;obtain ⟨⟨t225,t226,t227,t228⟩,A40,H⟩:=H;(try dsimp only at H);have A4:=A_ A40;clear A40;replace H:=ob_.mp H;obtain ⟨⟨t229,t230,t231,t232⟩,A50,H⟩:=H;(try dsimp only at H);have A5:=A_ A50;clear A50
 by_cases c6 : t232 = true
 ·subst c6
  rw [if_pos rfl] at H;simp only [Option.some.injEq,Prod.mk.injEq] at H;obtain ⟨rfl,rfl,rfl,rfl,rfl⟩:=H;go_enter Try.func41,Try.ntmps41
  go_wp2_with (first|((with_reducible refine gate_dst (N:=3) rfl ?_);refine bE_ 3 #[.int .i64 0,.int .i64 0,.string (⟨#[]⟩ : ByteArray)] 69 ?_;intro gb214 hg w7 hbox hb;have BK214:=A_ (hbox);have GW214:=gE_ hg HB;have GE214:=gE_ hg HB;replace HB:=bS_ HB hb;clear hb hbox hg)|((with_reducible refine gate_dst (N:=13) rfl ?_);refine bE_ 13 #[.string a0,.int .i64 0,.bool false] 98 ?_;intro gb215 hg w8 hbox hb;have HI215:=A_ ((show IsS98 w w8 gb215 a0 0 false from ⟨hbox,(by rw [hg];exact (bz_ (bq_ HB)) : w.heap.size ≤ gb215)⟩));replace HB:=bS_ HB hb;have NB214_215:=nB_ hg BK214;have NB215_214:=nC_ hg BK214;replace BK214:=kB_ BK214 hb;clear hb hbox hg)|((with_reducible refine gate_callee (f:=60) rfl ?_);refine gL_ (some 15) Try.func60 #[.pointer (some ⟨gb215,0,none⟩),.int .i64 1] ?_;(with_reducible refine (spec_l05Take.calls gb215 a0 0 false 1 t216 t217 t218 t219 w _ ?side1 ?side2 A2.out).mono ?_);(case side1 => exact iq98_ HI215);(case side2 => exact bi_ HB (IsS98.ge HI215.out));rintro e w9 ⟨rfl,hi,hb,hk⟩;refine ⟨_,rfl,?_⟩;replace BK214:=A_ (KeepBut.blk hk (g':=gb214) (o:=.cells #[.int .i64 0,.int .i64 0,.string (⟨#[]⟩ : ByteArray)] 69 (0,0)) (kq_ BK214) NB214_215.out (by simp));replace HB:=A_ (hb);replace HI215:=A_ (hi);(try clear hb);(try clear hk);(try clear hi))|((with_reducible refine gate_callee (f:=61) rfl ?_);refine gL_ (some 17) Try.func61 #[.pointer (some ⟨gb215,0,none⟩)] ?_;(with_reducible refine (spec_l05Var.calls k gb215 t217 t218 t219 t220 t221 t222 t223 w _ ?side1 ?side2 A3.out).mono ?_);(case side1 => exact iq98_ HI215);(case side2 => exact bi_ HB (IsS98.ge HI215.out));rintro e w10 ⟨rfl,hi,hb,hk⟩;refine ⟨_,rfl,?_⟩;replace BK214:=A_ (KeepBut.blk hk (g':=gb214) (o:=.cells #[.int .i64 0,.int .i64 0,.string (⟨#[]⟩ : ByteArray)] 69 (0,0)) (kq_ BK214) NB214_215.out (by simp));replace HB:=A_ (hb);replace HI215:=A_ (hi);(try clear hb);(try clear hk);(try clear hi))|((with_reducible refine gate_dst (N:=7) rfl ?_);refine bE_ 7 #[.int .i64 0,.int .i64 0,.string (⟨#[]⟩ : ByteArray)] 69 ?_;intro gb224 hg w11 hbox hb;have BK224:=A_ (hbox);have GW224:=A_ ((by rw [hg];exact (bz_ (bi_ HB (IsS98.ge HI215.out))) : w.heap.size ≤ gb224));have GE224:=A_ ((by rw [hg];exact (bz_ (bi_ HB (IsS98.ge HI215.out))) : w.heap.size ≤ gb224));replace HB:=A_ (bs_ (bi_ HB (IsS98.ge HI215.out)) hb);have NB214_224:=nB_ hg BK214;have NB224_214:=nC_ hg BK214;replace BK214:=kB_ BK214 hb;have NB215_224:=A_ ((by rw [hg];exact nl_ (IsS98.lt (show IsS98 w _ gb215 t221 t222 t223 from iq98_ HI215)) : gb215 ≠ gb224));have NB224_215:=A_ ((by rw [hg];exact ng_ (IsS98.lt (show IsS98 w _ gb215 t221 t222 t223 from iq98_ HI215)) : gb224 ≠ gb215));replace HI215:=A_ (IsS98.below (iq98_ HI215) hb);clear hb hbox hg;have hnb12:=NB224_214.out;have hnc12:=NB214_224.out;have hnb13:=NB224_215.out;have hnc13:=NB215_224.out;obtain ⟨hcz14_0,hcz14_1,hcz14_2,hfz14_0,hfz14_1,hfz14_2⟩:=k3f_ BK224)|((with_reducible refine gate_callee (f:=61) rfl ?_);refine gL_ (some 20) Try.func61 #[.pointer (some ⟨gb215,0,none⟩)] ?_;(with_reducible refine (spec_l05Var.calls k gb215 t221 t222 t223 t225 t226 t227 t228 w _ ?side1 ?side2 A4.out).mono ?_);(case side1 => exact iq98_ HI215);(case side2 => exact bi_ HB (IsS98.ge HI215.out));rintro e w15 ⟨rfl,hi,hb,hk⟩;refine ⟨_,rfl,?_⟩;replace BK214:=A_ (KeepBut.blk hk (g':=gb214) (o:=.cells #[.int .i64 0,.int .i64 0,.string (⟨#[]⟩ : ByteArray)] 69 (0,0)) (kz_ BK214) NB214_215.out (by simp));replace BK224:=A_ (KeepBut.blk hk (g':=gb224) (o:=.cells #[.int .i64 0,.int .i64 0,.string (⟨#[]⟩ : ByteArray)] 69 (0,0)) (kz_ BK224) NB224_215.out (by simp));replace HB:=A_ (hb);replace HI215:=A_ (hi);(try clear hb);(try clear hk);(try clear hi);obtain ⟨hcz16_0,hcz16_1,hcz16_2,hfz16_0,hfz16_1,hfz16_2⟩:=k3f_ BK224)|((with_reducible refine gate_callee (f:=60) rfl ?_);refine gL_ (some 23) Try.func60 #[.pointer (some ⟨gb215,0,none⟩),.int .i64 1] ?_;(with_reducible refine (spec_l05Take.calls gb215 t226 t227 t228 1 t229 t230 t231 true w _ ?side1 ?side2 A5.out).mono ?_);(case side1 => exact iq98_ HI215);(case side2 => exact bi_ HB (IsS98.ge HI215.out));rintro e w17 ⟨rfl,hi,hb,hk⟩;refine ⟨_,rfl,?_⟩;replace BK214:=A_ (KeepBut.blk hk (g':=gb214) (o:=.cells #[.int .i64 0,.int .i64 0,.string (⟨#[]⟩ : ByteArray)] 69 (0,0)) (kz_ BK214) NB214_215.out (by simp));replace BK224:=A_ (KeepBut.blk hk (g':=gb224) (o:=.cells #[.int .i64 t225,.int .i64 0,.string (⟨#[]⟩ : ByteArray)] 69 (0,0)) (kz_ BK224) NB224_215.out (by simp));replace HB:=A_ (hb);replace HI215:=A_ (hi);(try clear hb);(try clear hk);(try clear hi);obtain ⟨HGz18,hgz18⟩:=HI215.out;have hcz18_0:=cellS98_0 HGz18;have hcz18_1:=cellS98_1 HGz18;have hcz18_2:=cellS98_2 HGz18;have hfz18_0:=kf_ HGz18 0;have hfz18_1:=kf_ HGz18 1;have hfz18_2:=kf_ HGz18 2;clear HGz18 hgz18;have hnb19:=NB214_215.out;have hnc19:=NB215_214.out;obtain ⟨hcz20_0,hcz20_1,hcz20_2,hfz20_0,hfz20_1,hfz20_2⟩:=k3f_ BK214))
  refine bodyPost_ret (results_list (rs:=[.tmp 2,.cell 3 69,.tmp 4]) rfl (by simp) (.tmp (.cell gb214 69 #[.int .i64 0,.int .i64 0,.string (⟨#[]⟩ : ByteArray)] (0,0) _ rfl (kz_ BK214) Try.underlying69 rfl (by kernel_rfl) (.tmp .nil)))) rfl ?_;exact ⟨ex_,bi_ HB (IsS98.ge HI215.out)⟩
 ·replace c6:=Bool.eq_false_iff.mpr c6;subst c6
  have H1 : (if 0 < (t229.size : Int) then (if 0 ≤ t231 then (if t231 ≤ (a0.size : Int) then ((spec_EntryText.f k t220 t225 (wrap64 (bt t229 0)) (a0.extract (t231 : Int).toNat a0.size)).bind fun bt233 => (if bt233.2 = true then (if bt233.1.toList = a0.toList then (some (t220,t225,wrap64 (bt t229 0),a0.extract (t231 : Int).toNat a0.size,true)) else (some (0,0,0,(⟨#[]⟩ : ByteArray),false))) else (some (0,0,0,(⟨#[]⟩ : ByteArray),false)))) else (none)) else (none)) else (none)) = some (r1,r2,r3,r4,r5):=by rw [if_neg (show ¬ (false = true) by decide)] at H;exact H
  clear H;have H:=H1;clear H1
  by_cases c21 : 0 < (t229.size : Int)
  ·rw [if_pos c21] at H;have c21b0 : decide (0 < (t229.size : Int)) = true:=de_ c21;have c21b1 : decide (0 < t229.size) = true:=de_ (by omega);clear c21
   by_cases c23 : 0 ≤ t231
   ·rw [if_pos c23] at H;have c23b0:=eq_true c23;have c23b1 : decide (0 ≤ t231) = true:=de_ c23;clear c23
    by_cases c24 : t231 ≤ (a0.size : Int)
    ·rw [if_pos c24] at H;have c24b0:=eq_true c24;have c24b1 : decide (t231 ≤ (a0.size : Int)) = true:=de_ c24;clear c24;replace H:=ob_.mp H;obtain ⟨⟨t233,t234⟩,A250,H⟩:=H;(try dsimp only at H);have A25:=A_ A250;clear A250
     by_cases c26 : t234 = true
     ·subst c26
      rw [if_pos rfl] at H
      by_cases c27 : t233.toList = a0.toList
      ·rw [if_pos c27] at H;have c27b0 : (t233.toList == a0.toList) = true:=beq_iff_eq.mpr c27;have c27b1 : (t233.toList != a0.toList) = false:=bne_eq_false_iff_eq.mpr c27;clear c27;simp only [Option.some.injEq,Prod.mk.injEq] at H;obtain ⟨rfl,rfl,rfl,rfl,rfl⟩:=H;go_enter Try.func41,Try.ntmps41
       try go_wp2_with (first|((with_reducible refine gate_dst (N:=3) rfl ?_);refine bE_ 3 #[.int .i64 0,.int .i64 0,.string (⟨#[]⟩ : ByteArray)] 69 ?_;intro gb214 hg w28 hbox hb;have BK214:=A_ (hbox);have GW214:=gE_ hg HB;have GE214:=gE_ hg HB;replace HB:=bS_ HB hb;clear hb hbox hg)|((with_reducible refine gate_dst (N:=13) rfl ?_);refine bE_ 13 #[.string a0,.int .i64 0,.bool false] 98 ?_;intro gb215 hg w29 hbox hb;have HI215:=A_ ((show IsS98 w w29 gb215 a0 0 false from ⟨hbox,(by rw [hg];exact (bz_ (bq_ HB)) : w.heap.size ≤ gb215)⟩));replace HB:=bS_ HB hb;have NB214_215:=nB_ hg BK214;have NB215_214:=nC_ hg BK214;replace BK214:=kB_ BK214 hb;clear hb hbox hg)|((with_reducible refine gate_callee (f:=60) rfl ?_);refine gL_ (some 15) Try.func60 #[.pointer (some ⟨gb215,0,none⟩),.int .i64 1] ?_;(with_reducible refine (spec_l05Take.calls gb215 a0 0 false 1 t216 t217 t218 t219 w _ ?side1 ?side2 A2.out).mono ?_);(case side1 => exact iq98_ HI215);(case side2 => exact bi_ HB (IsS98.ge HI215.out));rintro e w30 ⟨rfl,hi,hb,hk⟩;refine ⟨_,rfl,?_⟩;replace BK214:=A_ (KeepBut.blk hk (g':=gb214) (o:=.cells #[.int .i64 0,.int .i64 0,.string (⟨#[]⟩ : ByteArray)] 69 (0,0)) (kq_ BK214) NB214_215.out (by simp));replace HB:=A_ (hb);replace HI215:=A_ (hi);(try clear hb);(try clear hk);(try clear hi))|((with_reducible refine gate_callee (f:=61) rfl ?_);refine gL_ (some 17) Try.func61 #[.pointer (some ⟨gb215,0,none⟩)] ?_;(with_reducible refine (spec_l05Var.calls k gb215 t217 t218 t219 t220 t221 t222 t223 w _ ?side1 ?side2 A3.out).mono ?_);(case side1 => exact iq98_ HI215);(case side2 => exact bi_ HB (IsS98.ge HI215.out));rintro e w31 ⟨rfl,hi,hb,hk⟩;refine ⟨_,rfl,?_⟩;replace BK214:=A_ (KeepBut.blk hk (g':=gb214) (o:=.cells #[.int .i64 0,.int .i64 0,.string (⟨#[]⟩ : ByteArray)] 69 (0,0)) (kq_ BK214) NB214_215.out (by simp));replace HB:=A_ (hb);replace HI215:=A_ (hi);(try clear hb);(try clear hk);(try clear hi))|((with_reducible refine gate_dst (N:=7) rfl ?_);refine bE_ 7 #[.int .i64 0,.int .i64 0,.string (⟨#[]⟩ : ByteArray)] 69 ?_;intro gb224 hg w32 hbox hb;have BK224:=A_ (hbox);have GW224:=A_ ((by rw [hg];exact (bz_ (bi_ HB (IsS98.ge HI215.out))) : w.heap.size ≤ gb224));have GE224:=A_ ((by rw [hg];exact (bz_ (bi_ HB (IsS98.ge HI215.out))) : w.heap.size ≤ gb224));replace HB:=A_ (bs_ (bi_ HB (IsS98.ge HI215.out)) hb);have NB214_224:=nB_ hg BK214;have NB224_214:=nC_ hg BK214;replace BK214:=kB_ BK214 hb;have NB215_224:=A_ ((by rw [hg];exact nl_ (IsS98.lt (show IsS98 w _ gb215 t221 t222 t223 from iq98_ HI215)) : gb215 ≠ gb224));have NB224_215:=A_ ((by rw [hg];exact ng_ (IsS98.lt (show IsS98 w _ gb215 t221 t222 t223 from iq98_ HI215)) : gb224 ≠ gb215));replace HI215:=A_ (IsS98.below (iq98_ HI215) hb);clear hb hbox hg;have hnb33:=NB224_214.out;have hnc33:=NB214_224.out;have hnb34:=NB224_215.out;have hnc34:=NB215_224.out;obtain ⟨hcz35_0,hcz35_1,hcz35_2,hfz35_0,hfz35_1,hfz35_2⟩:=k3f_ BK224)|((with_reducible refine gate_callee (f:=61) rfl ?_);refine gL_ (some 20) Try.func61 #[.pointer (some ⟨gb215,0,none⟩)] ?_;(with_reducible refine (spec_l05Var.calls k gb215 t221 t222 t223 t225 t226 t227 t228 w _ ?side1 ?side2 A4.out).mono ?_);(case side1 => exact iq98_ HI215);(case side2 => exact bi_ HB (IsS98.ge HI215.out));rintro e w36 ⟨rfl,hi,hb,hk⟩;refine ⟨_,rfl,?_⟩;replace BK214:=A_ (KeepBut.blk hk (g':=gb214) (o:=.cells #[.int .i64 0,.int .i64 0,.string (⟨#[]⟩ : ByteArray)] 69 (0,0)) (kz_ BK214) NB214_215.out (by simp));replace BK224:=A_ (KeepBut.blk hk (g':=gb224) (o:=.cells #[.int .i64 0,.int .i64 0,.string (⟨#[]⟩ : ByteArray)] 69 (0,0)) (kz_ BK224) NB224_215.out (by simp));replace HB:=A_ (hb);replace HI215:=A_ (hi);(try clear hb);(try clear hk);(try clear hi);obtain ⟨hcz37_0,hcz37_1,hcz37_2,hfz37_0,hfz37_1,hfz37_2⟩:=k3f_ BK224)|((with_reducible refine gate_callee (f:=60) rfl ?_);refine gL_ (some 23) Try.func60 #[.pointer (some ⟨gb215,0,none⟩),.int .i64 1] ?_;(with_reducible refine (spec_l05Take.calls gb215 t226 t227 t228 1 t229 t230 t231 false w _ ?side1 ?side2 A5.out).mono ?_);(case side1 => exact iq98_ HI215);(case side2 => exact bi_ HB (IsS98.ge HI215.out));rintro e w38 ⟨rfl,hi,hb,hk⟩;refine ⟨_,rfl,?_⟩;replace BK214:=A_ (KeepBut.blk hk (g':=gb214) (o:=.cells #[.int .i64 0,.int .i64 0,.string (⟨#[]⟩ : ByteArray)] 69 (0,0)) (kz_ BK214) NB214_215.out (by simp));replace BK224:=A_ (KeepBut.blk hk (g':=gb224) (o:=.cells #[.int .i64 t225,.int .i64 0,.string (⟨#[]⟩ : ByteArray)] 69 (0,0)) (kz_ BK224) NB224_215.out (by simp));replace HB:=A_ (hb);replace HI215:=A_ (hi);(try clear hb);(try clear hk);(try clear hi);obtain ⟨HGz39,hgz39⟩:=HI215.out;have hcz39_0:=cellS98_0 HGz39;have hcz39_1:=cellS98_1 HGz39;have hcz39_2:=cellS98_2 HGz39;have hfz39_0:=kf_ HGz39 0;have hfz39_1:=kf_ HGz39 1;have hfz39_2:=kf_ HGz39 2;clear HGz39 hgz39;have p22 : 0 ≤ (0 : Int):=(by omega);have q22 : 0 < t229.size:=(by have : (0 : Int) < (t229.size : Int):=oda_;omega);have hx22 : ∀ h : 0 < t229.size,((t229[0]'h).toNat : Int) = bt t229 0:=bt_at t229 0;clear p22;have qi22 : (0 < (t229.size : Int)) = True:=eq_true (oda_);replace q22:=eq_true q22;obtain ⟨hcz40_0,hcz40_1,hcz40_2,hfz40_0,hfz40_1,hfz40_2⟩:=k3f_ BK224)|((with_reducible refine gate_callee (f:=96) rfl ?_);refine gL_ (some 43) Try.func96 #[.int .i64 t220,.agg #[.int .i64 t225,.int .i64 (wrap64 (bt t229 0)),.string (a0.extract (t231 : Int).toNat a0.size)]] ?_;(with_reducible refine (spec_EntryText.calls k t220 t225 (wrap64 (bt t229 0)) (a0.extract (t231 : Int).toNat a0.size) t233 true _ A25.out).mono ?_);rintro e w41 ⟨rfl,hb⟩;refine ⟨_,rfl,?_⟩;replace BK214:=A_ (kb_ (g:=gb214) (o:=.cells #[.int .i64 0,.int .i64 0,.string (⟨#[]⟩ : ByteArray)] 69 (0,0)) (kz_ BK214) hb);replace BK224:=A_ (kb_ (g:=gb224) (o:=.cells #[.int .i64 t225,.int .i64 (wrap64 (bt t229 0)),.string (a0.extract (t231 : Int).toNat a0.size)] 69 (0,0)) (kz_ BK224) hb);replace HB:=A_ (bs_ (bi_ HB (IsS98.ge HI215.out)) hb);replace HI215:=A_ (IsS98.below (show IsS98 w ((w38.setCell ⟨gb224,1,none⟩ (.int .i64 (wrap64 (bt t229 0)))).setCell ⟨gb224,2,none⟩ (.string (a0.extract (t231 : Int).toNat a0.size))) gb215 t230 t231 false from iq98_ HI215) hb);(try clear hb)))
       replace BK214:=A_ (kd_ BK214.out);replace BK224:=A_ (kd_ BK224.out);replace HI215:=A_ (IsS98.drew HI215.out);replace HB:=A_ (pd_ HB.out);refine start_ (n:=5) (S:=fun w' => w'.cell? ⟨gb224,0,none⟩ = some (.int .i64 t225) ∧ w'.cell? ⟨gb224,1,none⟩ = some (.int .i64 (wrap64 (bt t229 0))) ∧ w'.cell? ⟨gb224,2,none⟩ = some (.string (a0.extract (t231 : Int).toNat a0.size))) (ds:=[]) #[false,false,false,false,false] (by kernel_rfl) rfl rfl ⟨kC_ BK224 0,kC_ BK224 1,kC_ BK224 2⟩ (fun hHeld => ?_);generalize w41.drew = w42 at BK214 BK224 HI215 HB hHeld ⊢;refine pure_ (i:=0) (N:=some 54) (v:=?_) (a':=?_) #[true,false,false,false,false] rfl rfl (by kernel_rfl) (fun _ _ _ h => h) (Or.inl ⟨by rfl,?_⟩) ?_ ?_;rotate_left
       ·intro w';go_simp;with_reducible rfl
       rotate_left
       ·exact ux_
       refine pure_ (i:=2) (N:=some 2) (v:=?_) (a':=?_) #[true,false,true,false,false] rfl rfl (by kernel_rfl) (fun _ _ _ h => h) (Or.inl ⟨by rfl,?_⟩) ?_ ?_;rotate_left
       ·intro w';go_simp;with_reducible rfl
       rotate_left
       ·exact ux_
       refine take_ (i:=1) (N:=some 55) (v:=?_) (a':=?_) #[true,true,true,false,false] rfl rfl (by kernel_rfl) (fun _ _ _ h => h) (Or.inl ⟨by rfl,?_⟩) hHeld ?_ ?_;rotate_left
       ·rintro w' ⟨s0,s1,s2⟩;go_simp;with_reducible rfl
       rotate_left
       ·exact ux_
       refine one_ (i:=3) (N:=none) #[true,true,true,true,false] rfl rfl (by kernel_rfl) (by decide) (fun K hK => ?_);have hs43 : w42.cell? ⟨gb214,0,none⟩ = some (.int .i64 0):=(kc_ BK214.out 0).trans rfl;have hfs43:=kf_ BK214.out 0;have hns43_1:=NB224_214.out;have hms43_1:=NB214_224.out;have hs44 : w42.cell? ⟨gb214,1,none⟩ = some (.int .i64 0):=(kc_ BK214.out 1).trans rfl;have hfs44:=kf_ BK214.out 1;have hns44_1:=NB224_214.out;have hms44_1:=NB214_224.out;have hs45 : w42.cell? ⟨gb214,2,none⟩ = some (.string (⟨#[]⟩ : ByteArray)):=(kc_ BK214.out 2).trans rfl;have hfs45:=kf_ BK214.out 2;have hns45_1:=NB224_214.out;have hms45_1:=NB214_224.out;refine skip_ (w1:=?_) (by rfl) rfl ?_ ?_;rotate_left
       ·go_simp;rfl
       refine hK.out _ _ ⟨((cell_far (p:=⟨gb214,_,none⟩) NB224_214.out _).trans (((cell_far (p:=⟨gb214,_,none⟩) NB224_214.out _).trans (((cell_far (p:=⟨gb214,_,none⟩) NB224_214.out _).trans (hHeld.1)))))),((cell_far (p:=⟨gb214,_,none⟩) NB224_214.out _).trans (((cell_far (p:=⟨gb214,_,none⟩) NB224_214.out _).trans (((cell_far (p:=⟨gb214,_,none⟩) NB224_214.out _).trans (hHeld.2.1)))))),((cell_far (p:=⟨gb214,_,none⟩) NB224_214.out _).trans (((cell_far (p:=⟨gb214,_,none⟩) NB224_214.out _).trans (((cell_far (p:=⟨gb214,_,none⟩) NB224_214.out _).trans (hHeld.2.2))))))⟩ (fun hHeld => ?_);clear hK K;refine pure_ (i:=4) (N:=some 4) (v:=?_) (a':=?_) #[true,true,true,true,true] rfl rfl (by kernel_rfl) (fun _ _ _ h => h) (Or.inl ⟨by rfl,?_⟩) ?_ ?_;rotate_left
       ·intro w';go_simp;with_reducible rfl
       rotate_left
       ·exact ux_
       refine done_ (by kernel_rfl) ?_
       try go_wp2
       refine bodyPost_ret (results_list (rs:=[.tmp 2,.cell 3 69,.tmp 4]) rfl (by simp) (.tmp (.cell gb214 69 #[.int .i64 t225,.int .i64 (wrap64 (bt t229 0)),.string (a0.extract (t231 : Int).toNat a0.size)] (0,0) _ rfl (kz_ BK214) Try.underlying69 rfl (by kernel_rfl) (.tmp .nil)))) rfl ?_;exact ⟨ex_,bi_ HB (IsS98.ge HI215.out)⟩
      ·rw [if_neg c27] at H;have c27b0 : (t233.toList == a0.toList) = false:=beq_eq_false_iff_ne.mpr c27;have c27b1 : (t233.toList != a0.toList) = true:=bne_iff_ne.mpr c27;simp only [Option.some.injEq,Prod.mk.injEq] at H;obtain ⟨rfl,rfl,rfl,rfl,rfl⟩:=H;go_enter Try.func41,Try.ntmps41
       go_wp2_with (first|((with_reducible refine gate_dst (N:=3) rfl ?_);refine bE_ 3 #[.int .i64 0,.int .i64 0,.string (⟨#[]⟩ : ByteArray)] 69 ?_;intro gb214 hg w46 hbox hb;have BK214:=A_ (hbox);have GW214:=gE_ hg HB;have GE214:=gE_ hg HB;replace HB:=bS_ HB hb;clear hb hbox hg)|((with_reducible refine gate_dst (N:=13) rfl ?_);refine bE_ 13 #[.string a0,.int .i64 0,.bool false] 98 ?_;intro gb215 hg w47 hbox hb;have HI215:=A_ ((show IsS98 w w47 gb215 a0 0 false from ⟨hbox,(by rw [hg];exact (bz_ (bq_ HB)) : w.heap.size ≤ gb215)⟩));replace HB:=bS_ HB hb;have NB214_215:=nB_ hg BK214;have NB215_214:=nC_ hg BK214;replace BK214:=kB_ BK214 hb;clear hb hbox hg)|((with_reducible refine gate_callee (f:=60) rfl ?_);refine gL_ (some 15) Try.func60 #[.pointer (some ⟨gb215,0,none⟩),.int .i64 1] ?_;(with_reducible refine (spec_l05Take.calls gb215 a0 0 false 1 t216 t217 t218 t219 w _ ?side1 ?side2 A2.out).mono ?_);(case side1 => exact iq98_ HI215);(case side2 => exact bi_ HB (IsS98.ge HI215.out));rintro e w48 ⟨rfl,hi,hb,hk⟩;refine ⟨_,rfl,?_⟩;replace BK214:=A_ (KeepBut.blk hk (g':=gb214) (o:=.cells #[.int .i64 0,.int .i64 0,.string (⟨#[]⟩ : ByteArray)] 69 (0,0)) (kq_ BK214) NB214_215.out (by simp));replace HB:=A_ (hb);replace HI215:=A_ (hi);(try clear hb);(try clear hk);(try clear hi))|((with_reducible refine gate_callee (f:=61) rfl ?_);refine gL_ (some 17) Try.func61 #[.pointer (some ⟨gb215,0,none⟩)] ?_;(with_reducible refine (spec_l05Var.calls k gb215 t217 t218 t219 t220 t221 t222 t223 w _ ?side1 ?side2 A3.out).mono ?_);(case side1 => exact iq98_ HI215);(case side2 => exact bi_ HB (IsS98.ge HI215.out));rintro e w49 ⟨rfl,hi,hb,hk⟩;refine ⟨_,rfl,?_⟩;replace BK214:=A_ (KeepBut.blk hk (g':=gb214) (o:=.cells #[.int .i64 0,.int .i64 0,.string (⟨#[]⟩ : ByteArray)] 69 (0,0)) (kq_ BK214) NB214_215.out (by simp));replace HB:=A_ (hb);replace HI215:=A_ (hi);(try clear hb);(try clear hk);(try clear hi))|((with_reducible refine gate_dst (N:=7) rfl ?_);refine bE_ 7 #[.int .i64 0,.int .i64 0,.string (⟨#[]⟩ : ByteArray)] 69 ?_;intro gb224 hg w50 hbox hb;have BK224:=A_ (hbox);have GW224:=A_ ((by rw [hg];exact (bz_ (bi_ HB (IsS98.ge HI215.out))) : w.heap.size ≤ gb224));have GE224:=A_ ((by rw [hg];exact (bz_ (bi_ HB (IsS98.ge HI215.out))) : w.heap.size ≤ gb224));replace HB:=A_ (bs_ (bi_ HB (IsS98.ge HI215.out)) hb);have NB214_224:=nB_ hg BK214;have NB224_214:=nC_ hg BK214;replace BK214:=kB_ BK214 hb;have NB215_224:=A_ ((by rw [hg];exact nl_ (IsS98.lt (show IsS98 w _ gb215 t221 t222 t223 from iq98_ HI215)) : gb215 ≠ gb224));have NB224_215:=A_ ((by rw [hg];exact ng_ (IsS98.lt (show IsS98 w _ gb215 t221 t222 t223 from iq98_ HI215)) : gb224 ≠ gb215));replace HI215:=A_ (IsS98.below (iq98_ HI215) hb);clear hb hbox hg;have hnb51:=NB224_214.out;have hnc51:=NB214_224.out;have hnb52:=NB224_215.out;have hnc52:=NB215_224.out;obtain ⟨hcz53_0,hcz53_1,hcz53_2,hfz53_0,hfz53_1,hfz53_2⟩:=k3f_ BK224)|((with_reducible refine gate_callee (f:=61) rfl ?_);refine gL_ (some 20) Try.func61 #[.pointer (some ⟨gb215,0,none⟩)] ?_;(with_reducible refine (spec_l05Var.calls k gb215 t221 t222 t223 t225 t226 t227 t228 w _ ?side1 ?side2 A4.out).mono ?_);(case side1 => exact iq98_ HI215);(case side2 => exact bi_ HB (IsS98.ge HI215.out));rintro e w54 ⟨rfl,hi,hb,hk⟩;refine ⟨_,rfl,?_⟩;replace BK214:=A_ (KeepBut.blk hk (g':=gb214) (o:=.cells #[.int .i64 0,.int .i64 0,.string (⟨#[]⟩ : ByteArray)] 69 (0,0)) (kz_ BK214) NB214_215.out (by simp));replace BK224:=A_ (KeepBut.blk hk (g':=gb224) (o:=.cells #[.int .i64 0,.int .i64 0,.string (⟨#[]⟩ : ByteArray)] 69 (0,0)) (kz_ BK224) NB224_215.out (by simp));replace HB:=A_ (hb);replace HI215:=A_ (hi);(try clear hb);(try clear hk);(try clear hi);obtain ⟨hcz55_0,hcz55_1,hcz55_2,hfz55_0,hfz55_1,hfz55_2⟩:=k3f_ BK224)|((with_reducible refine gate_callee (f:=60) rfl ?_);refine gL_ (some 23) Try.func60 #[.pointer (some ⟨gb215,0,none⟩),.int .i64 1] ?_;(with_reducible refine (spec_l05Take.calls gb215 t226 t227 t228 1 t229 t230 t231 false w _ ?side1 ?side2 A5.out).mono ?_);(case side1 => exact iq98_ HI215);(case side2 => exact bi_ HB (IsS98.ge HI215.out));rintro e w56 ⟨rfl,hi,hb,hk⟩;refine ⟨_,rfl,?_⟩;replace BK214:=A_ (KeepBut.blk hk (g':=gb214) (o:=.cells #[.int .i64 0,.int .i64 0,.string (⟨#[]⟩ : ByteArray)] 69 (0,0)) (kz_ BK214) NB214_215.out (by simp));replace BK224:=A_ (KeepBut.blk hk (g':=gb224) (o:=.cells #[.int .i64 t225,.int .i64 0,.string (⟨#[]⟩ : ByteArray)] 69 (0,0)) (kz_ BK224) NB224_215.out (by simp));replace HB:=A_ (hb);replace HI215:=A_ (hi);(try clear hb);(try clear hk);(try clear hi);obtain ⟨HGz57,hgz57⟩:=HI215.out;have hcz57_0:=cellS98_0 HGz57;have hcz57_1:=cellS98_1 HGz57;have hcz57_2:=cellS98_2 HGz57;have hfz57_0:=kf_ HGz57 0;have hfz57_1:=kf_ HGz57 1;have hfz57_2:=kf_ HGz57 2;clear HGz57 hgz57;have p22 : 0 ≤ (0 : Int):=(by omega);have q22 : 0 < t229.size:=(by have : (0 : Int) < (t229.size : Int):=oda_;omega);have hx22 : ∀ h : 0 < t229.size,((t229[0]'h).toNat : Int) = bt t229 0:=bt_at t229 0;clear p22;have qi22 : (0 < (t229.size : Int)) = True:=eq_true (oda_);replace q22:=eq_true q22;obtain ⟨hcz58_0,hcz58_1,hcz58_2,hfz58_0,hfz58_1,hfz58_2⟩:=k3f_ BK224)|((with_reducible refine gate_callee (f:=96) rfl ?_);refine gL_ (some 43) Try.func96 #[.int .i64 t220,.agg #[.int .i64 t225,.int .i64 (wrap64 (bt t229 0)),.string (a0.extract (t231 : Int).toNat a0.size)]] ?_;(with_reducible refine (spec_EntryText.calls k t220 t225 (wrap64 (bt t229 0)) (a0.extract (t231 : Int).toNat a0.size) t233 true _ A25.out).mono ?_);rintro e w59 ⟨rfl,hb⟩;refine ⟨_,rfl,?_⟩;replace BK214:=A_ (kb_ (g:=gb214) (o:=.cells #[.int .i64 0,.int .i64 0,.string (⟨#[]⟩ : ByteArray)] 69 (0,0)) (kz_ BK214) hb);replace BK224:=A_ (kb_ (g:=gb224) (o:=.cells #[.int .i64 t225,.int .i64 (wrap64 (bt t229 0)),.string (a0.extract (t231 : Int).toNat a0.size)] 69 (0,0)) (kz_ BK224) hb);replace HB:=A_ (bs_ (bi_ HB (IsS98.ge HI215.out)) hb);replace HI215:=A_ (IsS98.below (show IsS98 w ((w56.setCell ⟨gb224,1,none⟩ (.int .i64 (wrap64 (bt t229 0)))).setCell ⟨gb224,2,none⟩ (.string (a0.extract (t231 : Int).toNat a0.size))) gb215 t230 t231 false from iq98_ HI215) hb);(try clear hb);have hnb60:=NB214_215.out;have hnc60:=NB215_214.out;obtain ⟨hcz61_0,hcz61_1,hcz61_2,hfz61_0,hfz61_1,hfz61_2⟩:=k3f_ BK214))
       refine bodyPost_ret (results_list (rs:=[.tmp 2,.cell 3 69,.tmp 4]) rfl (by simp) (.tmp (.cell gb214 69 #[.int .i64 0,.int .i64 0,.string (⟨#[]⟩ : ByteArray)] (0,0) _ rfl (kz_ BK214) Try.underlying69 rfl (by kernel_rfl) (.tmp .nil)))) rfl ?_;exact ⟨ex_,bi_ HB (IsS98.ge HI215.out)⟩
     ·replace c26:=Bool.eq_false_iff.mpr c26;subst c26
      have H1 : (some (0,0,0,(⟨#[]⟩ : ByteArray),false)) = some (r1,r2,r3,r4,r5):=by rw [if_neg (show ¬ (false = true) by decide)] at H;exact H
      clear H;have H:=H1;clear H1;simp only [Option.some.injEq,Prod.mk.injEq] at H;obtain ⟨rfl,rfl,rfl,rfl,rfl⟩:=H;go_enter Try.func41,Try.ntmps41
      go_wp2_with (first|((with_reducible refine gate_dst (N:=3) rfl ?_);refine bE_ 3 #[.int .i64 0,.int .i64 0,.string (⟨#[]⟩ : ByteArray)] 69 ?_;intro gb214 hg w62 hbox hb;have BK214:=A_ (hbox);have GW214:=gE_ hg HB;have GE214:=gE_ hg HB;replace HB:=bS_ HB hb;clear hb hbox hg)|((with_reducible refine gate_dst (N:=13) rfl ?_);refine bE_ 13 #[.string a0,.int .i64 0,.bool false] 98 ?_;intro gb215 hg w63 hbox hb;have HI215:=A_ ((show IsS98 w w63 gb215 a0 0 false from ⟨hbox,(by rw [hg];exact (bz_ (bq_ HB)) : w.heap.size ≤ gb215)⟩));replace HB:=bS_ HB hb;have NB214_215:=nB_ hg BK214;have NB215_214:=nC_ hg BK214;replace BK214:=kB_ BK214 hb;clear hb hbox hg)|((with_reducible refine gate_callee (f:=60) rfl ?_);refine gL_ (some 15) Try.func60 #[.pointer (some ⟨gb215,0,none⟩),.int .i64 1] ?_;(with_reducible refine (spec_l05Take.calls gb215 a0 0 false 1 t216 t217 t218 t219 w _ ?side1 ?side2 A2.out).mono ?_);(case side1 => exact iq98_ HI215);(case side2 => exact bi_ HB (IsS98.ge HI215.out));rintro e w64 ⟨rfl,hi,hb,hk⟩;refine ⟨_,rfl,?_⟩;replace BK214:=A_ (KeepBut.blk hk (g':=gb214) (o:=.cells #[.int .i64 0,.int .i64 0,.string (⟨#[]⟩ : ByteArray)] 69 (0,0)) (kq_ BK214) NB214_215.out (by simp));replace HB:=A_ (hb);replace HI215:=A_ (hi);(try clear hb);(try clear hk);(try clear hi))|((with_reducible refine gate_callee (f:=61) rfl ?_);refine gL_ (some 17) Try.func61 #[.pointer (some ⟨gb215,0,none⟩)] ?_;(with_reducible refine (spec_l05Var.calls k gb215 t217 t218 t219 t220 t221 t222 t223 w _ ?side1 ?side2 A3.out).mono ?_);(case side1 => exact iq98_ HI215);(case side2 => exact bi_ HB (IsS98.ge HI215.out));rintro e w65 ⟨rfl,hi,hb,hk⟩;refine ⟨_,rfl,?_⟩;replace BK214:=A_ (KeepBut.blk hk (g':=gb214) (o:=.cells #[.int .i64 0,.int .i64 0,.string (⟨#[]⟩ : ByteArray)] 69 (0,0)) (kq_ BK214) NB214_215.out (by simp));replace HB:=A_ (hb);replace HI215:=A_ (hi);(try clear hb);(try clear hk);(try clear hi))|((with_reducible refine gate_dst (N:=7) rfl ?_);refine bE_ 7 #[.int .i64 0,.int .i64 0,.string (⟨#[]⟩ : ByteArray)] 69 ?_;intro gb224 hg w66 hbox hb;have BK224:=A_ (hbox);have GW224:=A_ ((by rw [hg];exact (bz_ (bi_ HB (IsS98.ge HI215.out))) : w.heap.size ≤ gb224));have GE224:=A_ ((by rw [hg];exact (bz_ (bi_ HB (IsS98.ge HI215.out))) : w.heap.size ≤ gb224));replace HB:=A_ (bs_ (bi_ HB (IsS98.ge HI215.out)) hb);have NB214_224:=nB_ hg BK214;have NB224_214:=nC_ hg BK214;replace BK214:=kB_ BK214 hb;have NB215_224:=A_ ((by rw [hg];exact nl_ (IsS98.lt (show IsS98 w _ gb215 t221 t222 t223 from iq98_ HI215)) : gb215 ≠ gb224));have NB224_215:=A_ ((by rw [hg];exact ng_ (IsS98.lt (show IsS98 w _ gb215 t221 t222 t223 from iq98_ HI215)) : gb224 ≠ gb215));replace HI215:=A_ (IsS98.below (iq98_ HI215) hb);clear hb hbox hg;have hnb67:=NB224_214.out;have hnc67:=NB214_224.out;have hnb68:=NB224_215.out;have hnc68:=NB215_224.out;obtain ⟨hcz69_0,hcz69_1,hcz69_2,hfz69_0,hfz69_1,hfz69_2⟩:=k3f_ BK224)|((with_reducible refine gate_callee (f:=61) rfl ?_);refine gL_ (some 20) Try.func61 #[.pointer (some ⟨gb215,0,none⟩)] ?_;(with_reducible refine (spec_l05Var.calls k gb215 t221 t222 t223 t225 t226 t227 t228 w _ ?side1 ?side2 A4.out).mono ?_);(case side1 => exact iq98_ HI215);(case side2 => exact bi_ HB (IsS98.ge HI215.out));rintro e w70 ⟨rfl,hi,hb,hk⟩;refine ⟨_,rfl,?_⟩;replace BK214:=A_ (KeepBut.blk hk (g':=gb214) (o:=.cells #[.int .i64 0,.int .i64 0,.string (⟨#[]⟩ : ByteArray)] 69 (0,0)) (kz_ BK214) NB214_215.out (by simp));replace BK224:=A_ (KeepBut.blk hk (g':=gb224) (o:=.cells #[.int .i64 0,.int .i64 0,.string (⟨#[]⟩ : ByteArray)] 69 (0,0)) (kz_ BK224) NB224_215.out (by simp));replace HB:=A_ (hb);replace HI215:=A_ (hi);(try clear hb);(try clear hk);(try clear hi);obtain ⟨hcz71_0,hcz71_1,hcz71_2,hfz71_0,hfz71_1,hfz71_2⟩:=k3f_ BK224)|((with_reducible refine gate_callee (f:=60) rfl ?_);refine gL_ (some 23) Try.func60 #[.pointer (some ⟨gb215,0,none⟩),.int .i64 1] ?_;(with_reducible refine (spec_l05Take.calls gb215 t226 t227 t228 1 t229 t230 t231 false w _ ?side1 ?side2 A5.out).mono ?_);(case side1 => exact iq98_ HI215);(case side2 => exact bi_ HB (IsS98.ge HI215.out));rintro e w72 ⟨rfl,hi,hb,hk⟩;refine ⟨_,rfl,?_⟩;replace BK214:=A_ (KeepBut.blk hk (g':=gb214) (o:=.cells #[.int .i64 0,.int .i64 0,.string (⟨#[]⟩ : ByteArray)] 69 (0,0)) (kz_ BK214) NB214_215.out (by simp));replace BK224:=A_ (KeepBut.blk hk (g':=gb224) (o:=.cells #[.int .i64 t225,.int .i64 0,.string (⟨#[]⟩ : ByteArray)] 69 (0,0)) (kz_ BK224) NB224_215.out (by simp));replace HB:=A_ (hb);replace HI215:=A_ (hi);(try clear hb);(try clear hk);(try clear hi);obtain ⟨HGz73,hgz73⟩:=HI215.out;have hcz73_0:=cellS98_0 HGz73;have hcz73_1:=cellS98_1 HGz73;have hcz73_2:=cellS98_2 HGz73;have hfz73_0:=kf_ HGz73 0;have hfz73_1:=kf_ HGz73 1;have hfz73_2:=kf_ HGz73 2;clear HGz73 hgz73;have p22 : 0 ≤ (0 : Int):=(by omega);have q22 : 0 < t229.size:=(by have : (0 : Int) < (t229.size : Int):=oda_;omega);have hx22 : ∀ h : 0 < t229.size,((t229[0]'h).toNat : Int) = bt t229 0:=bt_at t229 0;clear p22;have qi22 : (0 < (t229.size : Int)) = True:=eq_true (oda_);replace q22:=eq_true q22;obtain ⟨hcz74_0,hcz74_1,hcz74_2,hfz74_0,hfz74_1,hfz74_2⟩:=k3f_ BK224)|((with_reducible refine gate_callee (f:=96) rfl ?_);refine gL_ (some 43) Try.func96 #[.int .i64 t220,.agg #[.int .i64 t225,.int .i64 (wrap64 (bt t229 0)),.string (a0.extract (t231 : Int).toNat a0.size)]] ?_;(with_reducible refine (spec_EntryText.calls k t220 t225 (wrap64 (bt t229 0)) (a0.extract (t231 : Int).toNat a0.size) t233 false _ A25.out).mono ?_);rintro e w75 ⟨rfl,hb⟩;refine ⟨_,rfl,?_⟩;replace BK214:=A_ (kb_ (g:=gb214) (o:=.cells #[.int .i64 0,.int .i64 0,.string (⟨#[]⟩ : ByteArray)] 69 (0,0)) (kz_ BK214) hb);replace BK224:=A_ (kb_ (g:=gb224) (o:=.cells #[.int .i64 t225,.int .i64 (wrap64 (bt t229 0)),.string (a0.extract (t231 : Int).toNat a0.size)] 69 (0,0)) (kz_ BK224) hb);replace HB:=A_ (bs_ (bi_ HB (IsS98.ge HI215.out)) hb);replace HI215:=A_ (IsS98.below (show IsS98 w ((w72.setCell ⟨gb224,1,none⟩ (.int .i64 (wrap64 (bt t229 0)))).setCell ⟨gb224,2,none⟩ (.string (a0.extract (t231 : Int).toNat a0.size))) gb215 t230 t231 false from iq98_ HI215) hb);(try clear hb);have hnb76:=NB214_215.out;have hnc76:=NB215_214.out;obtain ⟨hcz77_0,hcz77_1,hcz77_2,hfz77_0,hfz77_1,hfz77_2⟩:=k3f_ BK214))
      refine bodyPost_ret (results_list (rs:=[.tmp 2,.cell 3 69,.tmp 4]) rfl (by simp) (.tmp (.cell gb214 69 #[.int .i64 0,.int .i64 0,.string (⟨#[]⟩ : ByteArray)] (0,0) _ rfl (kz_ BK214) Try.underlying69 rfl (by kernel_rfl) (.tmp .nil)))) rfl ?_;exact ⟨ex_,bi_ HB (IsS98.ge HI215.out)⟩
    ·rw [if_neg c24] at H;exact absurd H (by simp)
   ·rw [if_neg c23] at H;exact absurd H (by simp)
  ·rw [if_neg c21] at H;exact absurd H (by simp)
def spec_l12Last.f (a0_0 : Int) (a0_1 : Int) (l0_2 : List (S69)) : Option (Int) := some (wrap64 (a0_0 + (l0_2.length : Int)))
set_option maxHeartbeats 8000000 in
set_option maxRecDepth 100000 in
theorem spec_l12Last.calls (a0_0 : Int) (a0_1 : Int) (A0_2 : Option Addr) (c0_2 : Nat) (l0_2 : List (S69)) (r : Int) (w : World) (hr0_2 : Kd.C k69 w A0_2 l0_2.length l0_2) (hc0_2 : l0_2.length ≤ c0_2) (h : spec_l12Last.f a0_0 a0_1 l0_2 = some r) :
  Calls Try.prog 42 #[.agg #[.int .i64 a0_0,.int .i64 a0_1,.slice A0_2 l0_2.length c0_2]] w fun e w' => e = .returned (.int .i64 r) ∧ Below w.heap.size w w':=by
 have hu24:=Try.underlying24;have HR0_2:=A_ hr0_2;have HC0_2:=A_ hc0_2;clear hr0_2 hc0_2;have HB:=A_ (Below.refl w.heap.size w);unfold spec_l12Last.f at h;have H:=h;clear h;obtain rfl:=Option.some.inj H;go_enter Try.func42,Try.ntmps42
 go_wp2_with (((with_reducible refine gate_dst (N:=1) rfl ?_);refine bE_ 1 #[.int .i64 a0_0,.int .i64 a0_1,.slice A0_2 l0_2.length c0_2] 24 ?_;intro gb235 hg w2 hbox hb;have BK235:=A_ (hbox);have GW235:=gE_ hg HB;have GE235:=gE_ hg HB;replace HB:=bS_ HB hb;clear hb hbox hg;obtain ⟨hcz3_0,hcz3_1,hcz3_2,hfz3_0,hfz3_1,hfz3_2⟩:=k3f_ BK235))
 go_ret;exact ⟨ex_,bq_ HB⟩
mutual
def spec_LogOk.j0 : Nat → Bool → Int → Int → List (S69) → Option (Bool)
 | 0,_,_,_,_ => none
 | k + 1,x29,x237000,x237001,x237002 => if x29 = true then (some false) else (spec_LogOk.l0 k x237001 0 x237000 x237001 x237002)
def spec_LogOk.l0 : Nat → Int → Int → Int → Int → List (S69) → Option (Bool)
 | 0,_,_,_,_,_ => none
 | k + 1,x3,x4,x237000,x237001,x237002 => if x4 < (x237002.length : Int) then (if 0 ≤ x4 then ((spec_EntryOk.f k ((rd_T69 x237002 x4).f0) ((rd_T69 x237002 x4).f1) ((rd_T69 x237002 x4).f2)).bind fun t240 => (if t240 = true then (if ((rd_T69 x237002 x4).f0) < x3 then (some false) else (spec_LogOk.l0 k ((rd_T69 x237002 x4).f0) (wrap64 (x4 + 1)) x237000 x237001 x237002)) else (some false))) else (none)) else (some true)
end
def spec_LogOk.f (k : Nat) (a0_0 : Int) (a0_1 : Int) (l0_2 : List (S69)) : Option (Bool) := (spec_l01In.f a0_0 0 100000).bind fun t237 => (if t237 = true then ((spec_l01In.f a0_1 0 100000).bind fun t238 => (if t238 = true then (if (l0_2.length : Int) > 120 then (spec_LogOk.j0 k true a0_0 a0_1 l0_2) else (spec_LogOk.j0 k (decide ((wrap64 (a0_0 + (l0_2.length : Int))) > 100000)) a0_0 a0_1 l0_2)) else (spec_LogOk.j0 k true a0_0 a0_1 l0_2))) else (spec_LogOk.j0 k true a0_0 a0_1 l0_2))
theorem spec_LogOk.mono_l : ∀ k, (∀ y0 y1 y2 y3, LeO (spec_LogOk.j0 k y0 y1 y2 y3) (spec_LogOk.j0 (k + 1) y0 y1 y2 y3)) ∧ (∀ y0 y1 y2 y3 y4, LeO (spec_LogOk.l0 k y0 y1 y2 y3 y4) (spec_LogOk.l0 (k + 1) y0 y1 y2 y3 y4))
 | 0 => ⟨fun _ _ _ _ r h => by simp [spec_LogOk.j0] at h,fun _ _ _ _ _ r h => by simp [spec_LogOk.l0] at h⟩
 | k + 1 => by
  obtain ⟨ih0,ih1⟩:=spec_LogOk.mono_l k;refine ⟨?_,?_⟩
  ·intro y0 y1 y2 y3
   unfold spec_LogOk.j0
   repeat' first
   | (with_reducible exact ih1 _ _ _ _ _)
   | (with_reducible exact LeO.refl _)
   | (with_reducible refine LeO.ite ?_ ?_)
  ·intro y0 y1 y2 y3 y4
   unfold spec_LogOk.l0
   repeat' first
   | (with_reducible exact ih1 _ _ _ _ _)
   | (with_reducible exact spec_EntryOk.mono _ _ _ _)
   | (with_reducible exact LeO.refl _)
   | (with_reducible refine LeO.ite ?_ ?_)
   | (with_reducible refine LeO.bind ?_ (fun _ => ?_))
theorem spec_LogOk.mono : ∀ a0 a1 a2 k, LeO (spec_LogOk.f k a0 a1 a2) (spec_LogOk.f (k + 1) a0 a1 a2) := by
 intro a0 a1 a2 k;obtain ⟨ih0,ih1⟩:=spec_LogOk.mono_l k
 unfold spec_LogOk.f
 repeat' first
   | (with_reducible exact ih0 _ _ _ _)
   | (with_reducible exact LeO.refl _)
   | (with_reducible refine LeO.ite ?_ ?_)
   | (with_reducible refine LeO.bind ?_ (fun _ => ?_))
set_option maxHeartbeats 8000000 in
set_option maxRecDepth 100000 in
theorem spec_LogOk.calls (k : Nat) (a0_0 : Int) (a0_1 : Int) (A0_2 : Option Addr) (c0_2 : Nat) (l0_2 : List (S69)) (r : Bool) (w : World) (hr0_2 : Kd.C k69 w A0_2 l0_2.length l0_2) (hc0_2 : l0_2.length ≤ c0_2) (h : spec_LogOk.f k a0_0 a0_1 l0_2 = some r) :
  Calls Try.prog 43 #[.agg #[.int .i64 a0_0,.int .i64 a0_1,.slice A0_2 l0_2.length c0_2]] w fun e w' => e = .returned (.bool r) ∧ Below w.heap.size w w':=by
 have hu24:=Try.underlying24;have hu69:=Try.underlying69;have HR0_2:=A_ hr0_2;have HC0_2:=A_ hc0_2;clear hr0_2 hc0_2;have HB:=A_ (Below.refl w.heap.size w);unfold spec_LogOk.f at h;have H:=h;clear h;have HC2:=A_ H;clear H;go_enter Try.func43,Try.ntmps43
 go_upto_region 1 with (((with_reducible refine gate_dst (N:=1) rfl ?_);(try (refine gate_guard (by rfl) ?_;dsimp only));refine bE_ 1 #[.int .i64 a0_0,.int .i64 a0_1,.slice A0_2 l0_2.length c0_2] 24 ?_;intro gb236 hg w3 hbox hb;have BK236:=A_ (hbox);have GW236:=gE_ hg HB;have GE236:=gE_ hg HB;replace HB:=bS_ HB hb;clear hb hbox hg))
 go_cut [29] (fun v29 wc => ∃ (kq : Nat) (x29_1 : Bool),v29 = .bool x29_1 ∧ Aside0 (spec_LogOk.j0 kq x29_1 a0_0 a0_1 l0_2 = some r) ∧ Aside0 (kq ≤ k) ∧ Aside0 (wc.heap[gb236]? = some (.cells #[.int .i64 a0_0,.int .i64 a0_1,(.slice A0_2 l0_2.length c0_2)] 24 (0,0))) ∧ Aside0 (Below w.heap.size w wc))
 case first =>
  have H:=HC2.out;clear HC2;replace H:=ob_.mp H;obtain ⟨t237,A40,H⟩:=H;have A4:=A_ A40;clear A40
  by_cases c5 : t237 = true
  ·subst c5
   rw [if_pos rfl] at H;replace H:=ob_.mp H;obtain ⟨t238,A60,H⟩:=H;have A6:=A_ A60;clear A60
   by_cases c7 : t238 = true
   ·subst c7
    rw [if_pos rfl] at H
    by_cases c8 : (l0_2.length : Int) > 120
    ·rw [if_pos c8] at H;have c8b0 : decide (120 < (l0_2.length : Int)) = true:=de_ c8;have c8b1 : decide (120 < l0_2.length) = true:=de_ (by omega);clear c8
     (skip)
     have H':=A_ H;clear H;obtain ⟨hcz9_0,hcz9_1,hcz9_2,hfz9_0,hfz9_1,hfz9_2⟩:=k3f_ BK236
     go_wp2_with (first|((with_reducible refine gate_callee (f:=81) rfl ?_);refine gL_ (some 7) Try.func81 #[.int .i64 a0_0,.int .i64 0,.int .i64 100000] ?_;(with_reducible refine (spec_l01In.calls a0_0 0 100000 true _ A4.out).mono ?_);rintro e w' ⟨rfl,⟨nd,rfl⟩⟩;refine ⟨_,rfl,?_⟩)|(go_at_call 81;(with_reducible refine (spec_l01In.calls a0_1 0 100000 true _ A6.out).mono ?_);rintro e w' ⟨rfl,⟨nd,rfl⟩⟩))
     go_meet
     case rel => exact ⟨_,(true),(by rfl),H',⟨by omega⟩,⟨kq_ BK236⟩,⟨bq_ HB⟩⟩
    ·rw [if_neg c8] at H;have c8b0 : decide (120 < (l0_2.length : Int)) = false:=decide_eq_false c8;have c8b1 : decide (120 < l0_2.length) = false:=decide_eq_false (by omega);clear c8
     (skip)
     have H':=A_ H;clear H;obtain ⟨hcz10_0,hcz10_1,hcz10_2,hfz10_0,hfz10_1,hfz10_2⟩:=k3f_ BK236
     go_wp2_with (first|((with_reducible refine gate_callee (f:=81) rfl ?_);refine gL_ (some 7) Try.func81 #[.int .i64 a0_0,.int .i64 0,.int .i64 100000] ?_;(with_reducible refine (spec_l01In.calls a0_0 0 100000 true _ A4.out).mono ?_);rintro e w' ⟨rfl,⟨nd,rfl⟩⟩;refine ⟨_,rfl,?_⟩)|(go_at_call 81;(with_reducible refine (spec_l01In.calls a0_1 0 100000 true _ A6.out).mono ?_);rintro e w' ⟨rfl,⟨nd,rfl⟩⟩))
     go_meet
     case rel => exact ⟨_,(decide ((wrap64 (a0_0 + (l0_2.length : Int))) > 100000)),(by rfl),H',⟨by omega⟩,⟨kq_ BK236⟩,⟨bq_ HB⟩⟩
   ·replace c7:=Bool.eq_false_iff.mpr c7;subst c7
    have H1 : (spec_LogOk.j0 k true a0_0 a0_1 l0_2) = some r:=by rw [if_neg (show ¬ (false = true) by decide)] at H;exact H
    clear H;have H:=H1;clear H1;have H':=A_ H;clear H;obtain ⟨hcz11_0,hcz11_1,hcz11_2,hfz11_0,hfz11_1,hfz11_2⟩:=k3f_ BK236
    go_wp2_with (first|((with_reducible refine gate_callee (f:=81) rfl ?_);refine gL_ (some 7) Try.func81 #[.int .i64 a0_0,.int .i64 0,.int .i64 100000] ?_;(with_reducible refine (spec_l01In.calls a0_0 0 100000 true _ A4.out).mono ?_);rintro e w' ⟨rfl,⟨nd,rfl⟩⟩;refine ⟨_,rfl,?_⟩)|(go_at_call 81;(with_reducible refine (spec_l01In.calls a0_1 0 100000 false _ A6.out).mono ?_);rintro e w' ⟨rfl,⟨nd,rfl⟩⟩))
    go_meet
    case rel => exact ⟨_,(true),(by rfl),H',⟨by omega⟩,⟨kq_ BK236⟩,⟨bq_ HB⟩⟩
  ·replace c5:=Bool.eq_false_iff.mpr c5;subst c5
   have H1 : (spec_LogOk.j0 k true a0_0 a0_1 l0_2) = some r:=by rw [if_neg (show ¬ (false = true) by decide)] at H;exact H
   clear H;have H:=H1;clear H1;have H':=A_ H;clear H;obtain ⟨hcz12_0,hcz12_1,hcz12_2,hfz12_0,hfz12_1,hfz12_2⟩:=k3f_ BK236
   go_wp2_with (((with_reducible refine gate_callee (f:=81) rfl ?_);refine gL_ (some 7) Try.func81 #[.int .i64 a0_0,.int .i64 0,.int .i64 100000] ?_;(with_reducible refine (spec_l01In.calls a0_0 0 100000 false _ A4.out).mono ?_);rintro e w' ⟨rfl,⟨nd,rfl⟩⟩;refine ⟨_,rfl,?_⟩))
   go_meet
   case rel => exact ⟨_,(true),(by rfl),H',⟨by omega⟩,⟨kq_ BK236⟩,⟨bq_ HB⟩⟩
 case rest =>
  clear HC2
  try clear p2
  try clear c4
  try clear c5
  try clear p6
  try clear c7
  try clear c8
  try clear c8b0
  try clear c8b1
  try clear hcz10_0
  try clear hcz10_1
  try clear hcz10_2
  try clear hcz11_0
  try clear hcz11_1
  try clear hcz11_2
  try clear hcz12_0
  try clear hcz12_1
  try clear hcz12_2
  try clear hcz9_0
  try clear hcz9_1
  try clear hcz9_2
  try clear hfz10_0
  try clear hfz10_1
  try clear hfz10_2
  try clear hfz11_0
  try clear hfz11_1
  try clear hfz11_2
  try clear hfz12_0
  try clear hfz12_1
  try clear hfz12_2
  try clear hfz9_0
  try clear hfz9_1
  try clear hfz9_2
  obtain ⟨kq,x29_1,rfl,HA,HJ1,BK236,HB⟩:=hcut
  cases kq with
  | zero => exact absurd HA.out (by simp [spec_LogOk.j0])
  | succ kj1 =>
   have H:=HA.out;clear HA;simp only [spec_LogOk.j0] at H
   by_cases c13 : x29_1 = true
   ·subst c13
    rw [if_pos rfl] at H;obtain rfl:=Option.some.inj H;go_wp2;go_ret;exact ⟨ex_,bq_ HB⟩
   ·replace c13:=Bool.eq_false_iff.mpr c13;subst c13
    have H1 : (spec_LogOk.l0 kj1 a0_1 0 a0_0 a0_1 l0_2) = some r:=by rw [if_neg (show ¬ (false = true) by decide)] at H;exact H
    clear H;have H:=H1;clear H1;have H':=A_ H;clear H;obtain ⟨hcz14_0,hcz14_1,hcz14_2,hfz14_0,hfz14_1,hfz14_2⟩:=k3f_ BK236;go_wp2
    go_loopg [3,4] kj1 (fun kq v3 v4 w' => ∃ (x3_2 : Int) (x4_2 : Int),v3 = .int .i64 x3_2 ∧ v4 = .int .i64 x4_2 ∧ Aside0 (spec_LogOk.l0 kq x3_2 x4_2 a0_0 a0_1 l0_2 = some r) ∧ Aside0 (kq ≤ kj1) ∧ Aside0 (w'.heap[gb236]? = some (.cells #[.int .i64 a0_0,.int .i64 a0_1,(.slice A0_2 l0_2.length c0_2)] 24 (0,0))) ∧ Aside0 (Below w.heap.size w w'))
    case atStart => exact ⟨(a0_1),(0),(by rfl),(by rfl),H',⟨Nat.le_refl _⟩,⟨kq_ BK236⟩,⟨bq_ HB⟩⟩
    case round =>
     clear H'
     try clear c1
     try clear p2
     try clear c4
     try clear c5
     try clear p6
     try clear c7
     try clear c8
     try clear c8b0
     try clear c8b1
     try clear c13
     try clear hcz10_0
     try clear hcz10_1
     try clear hcz10_2
     try clear hcz11_0
     try clear hcz11_1
     try clear hcz11_2
     try clear hcz12_0
     try clear hcz12_1
     try clear hcz12_2
     try clear hcz14_0
     try clear hcz14_1
     try clear hcz14_2
     try clear hcz9_0
     try clear hcz9_1
     try clear hcz9_2
     try clear hfz10_0
     try clear hfz10_1
     try clear hfz10_2
     try clear hfz11_0
     try clear hfz11_1
     try clear hfz11_2
     try clear hfz12_0
     try clear hfz12_1
     try clear hfz12_2
     try clear hfz14_0
     try clear hfz14_1
     try clear hfz14_2
     try clear hfz9_0
     try clear hfz9_1
     try clear hfz9_2
     try clear p2
     try clear p6
     obtain ⟨x3_2,x4_2,rfl,rfl,HA,HK2,BK236,HB⟩:=hrel
     cases gk with
     | zero => exact absurd HA.out (by simp [spec_LogOk.l0])
     | succ k2 =>
      have H:=HA.out;clear HA;simp only [spec_LogOk.l0] at H
      by_cases c15 : x4_2 < (l0_2.length : Int)
      ·rw [if_pos c15] at H;have c15b0 : decide (x4_2 < (l0_2.length : Int)) = true:=de_ c15;clear c15
       by_cases c16 : 0 ≤ x4_2
       ·rw [if_pos c16] at H;have c16b0 : decide (0 ≤ x4_2) = true:=de_ c16;clear c16;replace H:=ob_.mp H;obtain ⟨t240,A170,H⟩:=H;have A17:=A_ A170;clear A170
        by_cases c18 : t240 = true
        ·subst c18
         rw [if_pos rfl] at H
         by_cases c19 : ((rd_T69 l0_2 x4_2).f0) < x3_2
         ·rw [if_pos c19] at H;have c19b0 : decide (((rd_T69 l0_2 x4_2).f0) < x3_2) = true:=de_ c19;clear c19;obtain rfl:=Option.some.inj H;obtain ⟨hcz20_0,hcz20_1,hcz20_2,hfz20_0,hfz20_1,hfz20_2⟩:=k3f_ BK236;have p239 : 0 ≤ (x4_2 : Int):=oda_;have q239 : x4_2 < (l0_2.length : Int):=oda_;obtain ⟨ad239,e239,hx239_0,hx239_1,hx239_2⟩:=at_T69 HR0_2.out x4_2 p239 q239
          cases e239
          replace hx239_0:=(HB.out.cell (wb_ w _ hx239_0)).trans hx239_0;replace hx239_1:=(HB.out.cell (wb_ w _ hx239_1)).trans hx239_1;replace hx239_2:=(HB.out.cell (wb_ w _ hx239_2)).trans hx239_2;replace p239:=eq_true p239;replace q239:=eq_true q239
          go_wp2_with (((with_reducible refine gate_callee (f:=82) rfl ?_);refine gL_ (some 44) Try.func82 #[.agg #[.int .i64 ((rd_T69 l0_2 x4_2).f0),.int .i64 ((rd_T69 l0_2 x4_2).f1),.string ((rd_T69 l0_2 x4_2).f2)]] ?_;(with_reducible refine (spec_EntryOk.calls k2 ((rd_T69 l0_2 x4_2).f0) ((rd_T69 l0_2 x4_2).f1) ((rd_T69 l0_2 x4_2).f2) true _ A17.out).mono ?_);rintro e w21 ⟨rfl,hb⟩;refine ⟨_,rfl,?_⟩;replace BK236:=kB_ BK236 hb;replace HB:=bS_ HB hb;(try clear hb);obtain ⟨hcz22_0,hcz22_1,hcz22_2,hfz22_0,hfz22_1,hfz22_2⟩:=k3f_ BK236;have p241 : 0 ≤ (x4_2 : Int):=oda_;have q241 : x4_2 < (l0_2.length : Int):=oda_;obtain ⟨ad241,e241,hx241_0,hx241_1,hx241_2⟩:=at_T69 HR0_2.out x4_2 p241 q241;obtain rfl : ad239 = ad241:=(by injection e241);replace hx241_0:=(HB.out.cell (wb_ w _ hx241_0)).trans hx241_0;replace hx241_1:=(HB.out.cell (wb_ w _ hx241_1)).trans hx241_1;replace hx241_2:=(HB.out.cell (wb_ w _ hx241_2)).trans hx241_2;replace p241:=eq_true p241;replace q241:=eq_true q241))
          go_ret;exact ⟨ex_,bq_ HB⟩
         ·rw [if_neg c19] at H;have c19b0 : decide (((rd_T69 l0_2 x4_2).f0) < x3_2) = false:=decide_eq_false c19;clear c19;have H':=A_ H;clear H;obtain ⟨hcz23_0,hcz23_1,hcz23_2,hfz23_0,hfz23_1,hfz23_2⟩:=k3f_ BK236;have p239 : 0 ≤ (x4_2 : Int):=oda_;have q239 : x4_2 < (l0_2.length : Int):=oda_;obtain ⟨ad239,e239,hx239_0,hx239_1,hx239_2⟩:=at_T69 HR0_2.out x4_2 p239 q239
          cases e239
          replace hx239_0:=(HB.out.cell (wb_ w _ hx239_0)).trans hx239_0;replace hx239_1:=(HB.out.cell (wb_ w _ hx239_1)).trans hx239_1;replace hx239_2:=(HB.out.cell (wb_ w _ hx239_2)).trans hx239_2;replace p239:=eq_true p239;replace q239:=eq_true q239
          go_wp2_with (((with_reducible refine gate_callee (f:=82) rfl ?_);refine gL_ (some 44) Try.func82 #[.agg #[.int .i64 ((rd_T69 l0_2 x4_2).f0),.int .i64 ((rd_T69 l0_2 x4_2).f1),.string ((rd_T69 l0_2 x4_2).f2)]] ?_;(with_reducible refine (spec_EntryOk.calls k2 ((rd_T69 l0_2 x4_2).f0) ((rd_T69 l0_2 x4_2).f1) ((rd_T69 l0_2 x4_2).f2) true _ A17.out).mono ?_);rintro e w24 ⟨rfl,hb⟩;refine ⟨_,rfl,?_⟩;replace BK236:=kB_ BK236 hb;replace HB:=bS_ HB hb;(try clear hb);obtain ⟨hcz25_0,hcz25_1,hcz25_2,hfz25_0,hfz25_1,hfz25_2⟩:=k3f_ BK236;have p241 : 0 ≤ (x4_2 : Int):=oda_;have q241 : x4_2 < (l0_2.length : Int):=oda_;obtain ⟨ad241,e241,hx241_0,hx241_1,hx241_2⟩:=at_T69 HR0_2.out x4_2 p241 q241;obtain rfl : ad239 = ad241:=(by injection e241);replace hx241_0:=(HB.out.cell (wb_ w _ hx241_0)).trans hx241_0;replace hx241_1:=(HB.out.cell (wb_ w _ hx241_1)).trans hx241_1;replace hx241_2:=(HB.out.cell (wb_ w _ hx241_2)).trans hx241_2;replace p241:=eq_true p241;replace q241:=eq_true q241;have p242 : 0 ≤ (x4_2 : Int):=oda_;have q242 : x4_2 < (l0_2.length : Int):=oda_;obtain ⟨ad242,e242,hx242_0,hx242_1,hx242_2⟩:=at_T69 HR0_2.out x4_2 p242 q242;obtain rfl : ad239 = ad242:=(by injection e242);replace hx242_0:=(HB.out.cell (wb_ w _ hx242_0)).trans hx242_0;replace hx242_1:=(HB.out.cell (wb_ w _ hx242_1)).trans hx242_1;replace hx242_2:=(HB.out.cell (wb_ w _ hx242_2)).trans hx242_2;replace p242:=eq_true p242;replace q242:=eq_true q242))
          go_roundg k2
          case measure => have:=HJ1.out;have:=HK2.out;omega
          case rel => exact ⟨((rd_T69 l0_2 x4_2).f0),(wrap64 (x4_2 + 1)),(by rfl),(by rfl),H',⟨by have:=HJ1.out;have:=HK2.out;omega⟩,⟨kq_ BK236⟩,⟨bq_ HB⟩⟩
        ·replace c18:=Bool.eq_false_iff.mpr c18;subst c18
         have H1 : (some false) = some r:=by rw [if_neg (show ¬ (false = true) by decide)] at H;exact H
         clear H;have H:=H1;clear H1;obtain rfl:=Option.some.inj H;obtain ⟨hcz26_0,hcz26_1,hcz26_2,hfz26_0,hfz26_1,hfz26_2⟩:=k3f_ BK236;have p239 : 0 ≤ (x4_2 : Int):=oda_;have q239 : x4_2 < (l0_2.length : Int):=oda_;obtain ⟨ad239,e239,hx239_0,hx239_1,hx239_2⟩:=at_T69 HR0_2.out x4_2 p239 q239
         cases e239
         replace hx239_0:=(HB.out.cell (wb_ w _ hx239_0)).trans hx239_0;replace hx239_1:=(HB.out.cell (wb_ w _ hx239_1)).trans hx239_1;replace hx239_2:=(HB.out.cell (wb_ w _ hx239_2)).trans hx239_2;replace p239:=eq_true p239;replace q239:=eq_true q239
         go_wp2_with (((with_reducible refine gate_callee (f:=82) rfl ?_);refine gL_ (some 44) Try.func82 #[.agg #[.int .i64 ((rd_T69 l0_2 x4_2).f0),.int .i64 ((rd_T69 l0_2 x4_2).f1),.string ((rd_T69 l0_2 x4_2).f2)]] ?_;(with_reducible refine (spec_EntryOk.calls k2 ((rd_T69 l0_2 x4_2).f0) ((rd_T69 l0_2 x4_2).f1) ((rd_T69 l0_2 x4_2).f2) false _ A17.out).mono ?_);rintro e w27 ⟨rfl,hb⟩;refine ⟨_,rfl,?_⟩;replace BK236:=kB_ BK236 hb;replace HB:=bS_ HB hb;(try clear hb)))
         go_ret;exact ⟨ex_,bq_ HB⟩
       ·rw [if_neg c16] at H;exact absurd H (by simp)
      ·rw [if_neg c15] at H;have c15b0 : decide (x4_2 < (l0_2.length : Int)) = false:=decide_eq_false c15;clear c15;obtain rfl:=Option.some.inj H;obtain ⟨hcz28_0,hcz28_1,hcz28_2,hfz28_0,hfz28_1,hfz28_2⟩:=k3f_ BK236;go_wp2;go_ret;exact ⟨ex_,bq_ HB⟩
end Go.Proofs.Ytbcgnncbiblibaa.PFnExactLogSteps
