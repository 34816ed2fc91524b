/- The contracts of the Go functions that this law reaches: what each call returns, by a plain Lean function of its arguments. No conditions but those each contract names. By the kit's print.py, run by this session's wip/gen/pp.py with facts and hand proofs beside it: not to the letter what print.sh prints. -/
import Derived.Test.YtbcgnncbiblibaaPFnExactDecodex0
import Derived.Test.YtbcgnncbiblibaaPFnExactDecodex1
import Derived.Test.YtbcgnncbiblibaaPFnExactDecodex2
namespace Go.Proofs.Ytbcgnncbiblibaa.PFnExactDecode
open Go.RowKit Go.Proofs.YtbcgnncbiblibaaW.PrintWords Go.Proofs.YtbcgnncbiblibaaW.PrintLast Go.Proofs.YtbcgnncbiblibaaW.PrintMore
attribute [local go_sem] max2_int min2_int max_two min_two max_three min_three max_four min_four
set_option linter.unusedVariables false
set_option linter.unusedSimpArgs false
def spec_ReadConf.l0 : Nat → ByteArray → List Int → Int → Option (List Int × Bool)
 | 0,_,_,_ => none
 | k + 1,x0,x4,x5 => if x5 < (x0.size : Int) then (if x5 ≤ 4 then (if 0 ≤ x5 then (if x4.length < 17592186044416 then (spec_ReadConf.l0 k x0 (x4 ++ [wrap64 (bt x0 x5)]) (wrap64 (x5 + 1))) else (none)) else (none)) else (if (x4.length : Int) = (x0.size : Int) then ((spec_ConfOk.f k x4).bind fun t127 => (if t127 = true then (some (x4,true)) else (some ((([] : List Int)),false)))) else (some ((([] : List Int)),false)))) else (if (x4.length : Int) = (x0.size : Int) then ((spec_ConfOk.f k x4).bind fun t134 => (if t134 = true then (some (x4,true)) else (some ((([] : List Int)),false)))) else (some ((([] : List Int)),false)))
def spec_ReadConf.f (k : Nat) (a0 : ByteArray) : Option (List Int × Bool) := spec_ReadConf.l0 k a0 (([] : List Int)) 0
theorem spec_ReadConf.mono_l : ∀ k, (∀ y0 y1 y2, LeO (spec_ReadConf.l0 k y0 y1 y2) (spec_ReadConf.l0 (k + 1) y0 y1 y2))
 | 0 => fun _ _ _ r h => by simp [spec_ReadConf.l0] at h
 | k + 1 => by
  have ih0:=spec_ReadConf.mono_l k
  ·intro y0 y1 y2
   unfold spec_ReadConf.l0
   repeat' first
   | (with_reducible exact ih0 _ _ _)
   | (with_reducible exact spec_ConfOk.mono _ _)
   | (with_reducible exact LeO.refl _)
   | (with_reducible exact LeO.none _)
   | (with_reducible refine LeO.ite ?_ ?_)
   | (with_reducible refine LeO.bind ?_ (fun _ => ?_))
theorem spec_ReadConf.mono : ∀ a0 k, LeO (spec_ReadConf.f k a0) (spec_ReadConf.f (k + 1) a0) := by
 intro a0 k;have ih0:=spec_ReadConf.mono_l k
 unfold spec_ReadConf.f
 repeat' first
   | (with_reducible exact ih0 _ _ _)
   | (with_reducible exact spec_ConfOk.mono _ _)
   | (with_reducible exact LeO.refl _)
   | (with_reducible exact LeO.none _)
   | (with_reducible refine LeO.ite ?_ ?_)
   | (with_reducible refine LeO.bind ?_ (fun _ => ?_))
set_option maxHeartbeats 8000000 in
set_option maxRecDepth 100000 in
theorem spec_ReadConf.calls (k : Nat) (a0 : ByteArray) (r1 : List Int) (r2 : Bool) (w : World) (h : spec_ReadConf.f k a0 = some (r1, r2)) :
  Calls Try.prog 63 #[.string a0] w fun e w' => ∃ v0_ : Value,e = .returned (.tuple #[v0_,.bool r2]) ∧ Kd.R (Kd.int .i64) 3 w' w.heap.size (fun _ => True) v0_ r1 ∧ Below w.heap.size w w':=by
 have HB:=A_ (Below.refl w.heap.size w);unfold spec_ReadConf.f at h;have H:=h;clear h;obtain ⟨y121,hy121⟩ : ∃ y_ : List Int,y_ = (([] : List Int)):=⟨_,rfl⟩
 replace H : (spec_ReadConf.l0 k a0 y121 0) = some (r1,r2):=by first|(rw [hy121];with_reducible exact H)|(have H2_:=(Option.bind_some _ _).symm.trans H;rw [hy121];with_reducible exact H2_)|(have H2_:=(Option.bind_some _ _).symm.trans H;with_reducible exact H2_)|with_reducible exact H|(rw [hy121];exact H)|exact H
 have Ny121:=A_ hy121;clear hy121;have H':=A_ H;clear H;go_enter Try.func63,Try.ntmps63
 go_wp2_with (first|((with_reducible refine gate_dst (N:=6) rfl ?_);refine rX_ (d:=(Kd.int .i64)) (e:=3) (xs:=([] : List Int)) (inner:=[]) (ok:=fun _ => True) (okp:=fun _ => True) 6 (Reps.none _ _) ?_;intro v122 w2 ho3 hb hg_ hnew_;clear hg_ hnew_;(first|rw [← Ny121.out] at ho3|(simp only [Int.reduceToNat] at ho3;rw [← Ny121.out] at ho3));have HO123:=A_ (rw_ ho3 (bz_ (bq_ HB)));replace HB:=bS_ HB hb;clear hb ho3))
 go_loopg [4,5] k (fun kq v4 v5 w' => ∃ (x4_1 : List Int) (x5_1 : Int),v5 = .int .i64 x5_1 ∧ Aside0 (spec_ReadConf.l0 kq a0 x4_1 x5_1 = some (r1,r2)) ∧ Aside0 (kq ≤ k) ∧ Aside0 (Kd.R (Kd.int .i64) 3 w' w.heap.size (fun _ => True) v4 x4_1) ∧ Aside0 (Below w.heap.size w w'))
 case atStart => exact ⟨(y121),(0),(by first|rfl|(simp;done)|(simp [*];done)),H',⟨Nat.le_refl _⟩,⟨by (with_reducible repeat (first|apply ra_|apply rn_|apply Rd_));exact HO123.out⟩,⟨bq_ HB⟩⟩
 case round =>
  clear H'
  try clear p2
  obtain ⟨x4_1,x5_1,rfl,HA,HK1,HO_4,HB⟩:=hrel
  cases gk with
  | zero => exact absurd HA.out (by simp [spec_ReadConf.l0])
  | succ k1 =>
   have H:=HA.out;clear HA;simp only [spec_ReadConf.l0] at H
   by_cases c4 : x5_1 < (a0.size : Int)
   ·rw [if_pos c4] at H;have c4b0 : decide (x5_1 < (a0.size : Int)) = true:=de_ c4;clear c4
    by_cases c5 : x5_1 ≤ 4
    ·rw [if_pos c5] at H;have c5b0 : decide (x5_1 ≤ 4) = true:=de_ c5;clear c5
     by_cases c6 : 0 ≤ x5_1
     ·rw [if_pos c6] at H;have c6b0 : decide (0 ≤ x5_1) = true:=de_ c6;clear c6
      by_cases c8 : x4_1.length < 17592186044416
      ·rw [if_pos c8] at H;have LMc8:=A_ c8;clear c8;obtain ⟨y124,hy124⟩ : ∃ y_ : List Int,y_ = (x4_1 ++ [wrap64 (bt a0 x5_1)]):=⟨_,rfl⟩
       replace H : (spec_ReadConf.l0 k1 a0 y124 (wrap64 (x5_1 + 1))) = some (r1,r2):=by first|(rw [hy124];with_reducible exact H)|(have H2_:=(Option.bind_some _ _).symm.trans H;rw [hy124];with_reducible exact H2_)|(have H2_:=(Option.bind_some _ _).symm.trans H;with_reducible exact H2_)|with_reducible exact H|(rw [hy124];exact H)|exact H
       have Ny124:=A_ hy124;clear hy124;have H':=A_ H;clear H;have p7 : 0 ≤ (x5_1 : Int):=oda_;have q7 : x5_1 < (a0.size : Int):=oda_;have hx7:=bt_at a0 x5_1;replace p7:=eq_true p7;replace q7:=eq_true q7
       go_wp2_with (first|((with_reducible refine gate_builtin (b:=.append) (xs:=#[.tmp 17,.tmp 22]) rfl ?_);at_builtin;refine Kd.R_append (Kd.int .i64) (w0:=w) w.heap.size rfl (.tmp 17) (.tmp 22) 39 3 (.int .i64 0) 8 rfl Try.underlying39 info3 rfl (by decide) (by omega) u4 x4_1 (wrap64 (bt a0 x5_1)) [.int .i64 (wrap64 (bt a0 x5_1))] (fun _ => True) (fun _ => False) rfl rfl ?aP (fun _ hk => hk.elim) ?aF ?aO ?aB ?aS ?aL ?_;(case aP => exact rfl);(case aB => exact (bq_ HB));(case aF => exact (fun _ _ => trivial));(case aO => exact (rq_ HO_4));(case aS => exact (bz_ (bq_ HB)));(case aL => have:=LMc8.out;omega);intro v125 w9 ho hb hg hat;rw [← Ny124.out] at ho;replace HB:=A_ (hb);have HO126:=A_ (ho);clear HO_4;clear ho hb hg hat))
       go_roundg k1
       case measure => have:=HK1.out;omega
       case rel => exact ⟨(y124),(wrap64 (x5_1 + 1)),(by first|rfl|(simp;done)|(simp [*];done)),H',⟨by have:=HK1.out;omega⟩,⟨by (with_reducible repeat (first|apply ra_|apply rn_|apply Rd_));exact HO126.out⟩,⟨bq_ HB⟩⟩
      ·rw [if_neg c8] at H;exact absurd H (by simp)
     ·rw [if_neg c6] at H;exact absurd H (by simp)
    ·rw [if_neg c5] at H;have c5b0 : decide (x5_1 ≤ 4) = false:=decide_eq_false c5;clear c5
     by_cases c10 : (x4_1.length : Int) = (a0.size : Int)
     ·rw [if_pos c10] at H;have c10b0 : ((x4_1.length : Int) == (a0.size : Int)) = true:=beq_iff_eq.mpr c10;have c10b1 : ((x4_1.length : Int) != (a0.size : Int)) = false:=bne_eq_false_iff_eq.mpr c10
      have c10b2 : (x4_1.length == a0.size) = true:=by first|simpa using c10|(simp at c10 ⊢;omega)
      clear c10;replace H:=ob_.mp H;obtain ⟨t127,A110,H⟩:=H;(try dsimp only at H);have A11:=A_ A110;clear A110
      by_cases c12 : t127 = true
      ·subst c12
       rw [if_pos rfl] at H;simp only [Option.some.injEq,Prod.mk.injEq] at H;obtain ⟨rfl,rfl⟩:=H;obtain ⟨Ao13,co13,eo13⟩:=Kd.R_slice HO_4.out;subst eo13
       go_wp2_with (first|(go_at_call 83;(with_reducible refine (spec_ConfOk.calls k1 _ _ x4_1 true _ ?side1 ?side2 A11.out).mono ?_);(case side1 => repeat (first|exact (Kd.R_reads' HO_4.out).2.2|(with_reducible refine Kd.C_alloc ?_ _)|(with_reducible refine Kd.C_drewN ?_ _)|(with_reducible refine Kd.C_drew ?_)));(case side2 => exact (Kd.R_reads' HO_4.out).2.1);rintro e w' ⟨rfl,⟨nd,rfl⟩⟩))
       go_ret2;exact ⟨_,by first|rfl|(simp [*,errW_none,errW_some] <;> rfl),by (with_reducible repeat (first|apply ra_|apply rn_|apply Rd_));exact HO_4.out,bq_ HB⟩
      ·replace c12:=Bool.eq_false_iff.mpr c12;subst c12
       have H1 : (some ((([] : List Int)),false)) = some (r1,r2):=by rw [if_neg (show ¬ (false = true) by decide)] at H;exact H
       clear H;have H:=H1;clear H1;obtain ⟨y128,hy128⟩ : ∃ y_ : List Int,y_ = (([] : List Int)):=⟨_,rfl⟩
       replace H : (some (y128,false)) = some (r1,r2):=by first|(rw [hy128];with_reducible exact H)|(have H2_:=(Option.bind_some _ _).symm.trans H;rw [hy128];with_reducible exact H2_)|(have H2_:=(Option.bind_some _ _).symm.trans H;with_reducible exact H2_)|with_reducible exact H|(rw [hy128];exact H)|exact H
       have Ny128:=A_ hy128;clear hy128;simp only [Option.some.injEq,Prod.mk.injEq] at H;obtain ⟨rfl,rfl⟩:=H;obtain ⟨Ao14,co14,eo14⟩:=Kd.R_slice HO_4.out;subst eo14
       go_wp2_with (first|(go_at_call 83;(with_reducible refine (spec_ConfOk.calls k1 _ _ x4_1 false _ ?side1 ?side2 A11.out).mono ?_);(case side1 => repeat (first|exact (Kd.R_reads' HO_4.out).2.2|(with_reducible refine Kd.C_alloc ?_ _)|(with_reducible refine Kd.C_drewN ?_ _)|(with_reducible refine Kd.C_drew ?_)));(case side2 => exact (Kd.R_reads' HO_4.out).2.1);rintro e w' ⟨rfl,⟨nd,rfl⟩⟩)|((with_reducible refine gate_dst (N:=34) rfl ?_);refine rX_ (d:=(Kd.int .i64)) (e:=3) (xs:=([] : List Int)) (inner:=[]) (ok:=fun _ => True) (okp:=fun _ => True) 34 (Reps.none _ _) ?_;intro v129 w15 ho16 hb hg_ hnew_;clear hg_ hnew_;(first|rw [← Ny128.out] at ho16|(simp only [Int.reduceToNat] at ho16;rw [← Ny128.out] at ho16));have HO130:=A_ (rw_ (Kd.R_new' ho16 (Kd.R_lt (rq_ HO_4))) (bz_ (bq_ HB)));replace HO_4:=A_ (Kd.R_elder' (rq_ HO_4) (Kd.R_base ho16) hb);replace HB:=bS_ HB hb;clear hb ho16))
       go_ret2;exact ⟨_,by first|rfl|(simp [*,errW_none,errW_some] <;> rfl),by (with_reducible repeat (first|apply ra_|apply rn_|apply Rd_));exact rm_ HO130.out (fun _ hk => trivial),bq_ HB⟩
     ·rw [if_neg c10] at H;have c10b0 : ((x4_1.length : Int) == (a0.size : Int)) = false:=beq_eq_false_iff_ne.mpr c10;have c10b1 : ((x4_1.length : Int) != (a0.size : Int)) = true:=bne_iff_ne.mpr c10
      have c10b2 : (x4_1.length == a0.size) = false:=by first|simpa using c10|(simp at c10 ⊢;omega)
      obtain ⟨y131,hy131⟩ : ∃ y_ : List Int,y_ = (([] : List Int)):=⟨_,rfl⟩
      replace H : (some (y131,false)) = some (r1,r2):=by first|(rw [hy131];with_reducible exact H)|(have H2_:=(Option.bind_some _ _).symm.trans H;rw [hy131];with_reducible exact H2_)|(have H2_:=(Option.bind_some _ _).symm.trans H;with_reducible exact H2_)|with_reducible exact H|(rw [hy131];exact H)|exact H
      have Ny131:=A_ hy131;clear hy131;simp only [Option.some.injEq,Prod.mk.injEq] at H;obtain ⟨rfl,rfl⟩:=H;obtain ⟨Ao17,co17,eo17⟩:=Kd.R_slice HO_4.out;subst eo17
      go_wp2_with (first|((with_reducible refine gate_dst (N:=34) rfl ?_);refine rX_ (d:=(Kd.int .i64)) (e:=3) (xs:=([] : List Int)) (inner:=[]) (ok:=fun _ => True) (okp:=fun _ => True) 34 (Reps.none _ _) ?_;intro v132 w18 ho19 hb hg_ hnew_;clear hg_ hnew_;(first|rw [← Ny131.out] at ho19|(simp only [Int.reduceToNat] at ho19;rw [← Ny131.out] at ho19));have HO133:=A_ (rw_ (Kd.R_new' ho19 (Kd.R_lt (rq_ HO_4))) (bz_ (bq_ HB)));replace HO_4:=A_ (Kd.R_elder' (rq_ HO_4) (Kd.R_base ho19) hb);replace HB:=bS_ HB hb;clear hb ho19))
      go_ret2;exact ⟨_,by first|rfl|(simp [*,errW_none,errW_some] <;> rfl),by (with_reducible repeat (first|apply ra_|apply rn_|apply Rd_));exact rm_ HO133.out (fun _ hk => trivial),bq_ HB⟩
   ·rw [if_neg c4] at H;have c4b0 : decide (x5_1 < (a0.size : Int)) = false:=decide_eq_false c4;clear c4
    by_cases c20 : (x4_1.length : Int) = (a0.size : Int)
    ·rw [if_pos c20] at H;have c20b0 : ((x4_1.length : Int) == (a0.size : Int)) = true:=beq_iff_eq.mpr c20;have c20b1 : ((x4_1.length : Int) != (a0.size : Int)) = false:=bne_eq_false_iff_eq.mpr c20
     have c20b2 : (x4_1.length == a0.size) = true:=by first|simpa using c20|(simp at c20 ⊢;omega)
     clear c20;replace H:=ob_.mp H;obtain ⟨t134,A210,H⟩:=H;(try dsimp only at H);have A21:=A_ A210;clear A210
     by_cases c22 : t134 = true
     ·subst c22
      rw [if_pos rfl] at H;simp only [Option.some.injEq,Prod.mk.injEq] at H;obtain ⟨rfl,rfl⟩:=H;obtain ⟨Ao23,co23,eo23⟩:=Kd.R_slice HO_4.out;subst eo23
      go_wp2_with (first|(go_at_call 83;(with_reducible refine (spec_ConfOk.calls k1 _ _ x4_1 true _ ?side1 ?side2 A21.out).mono ?_);(case side1 => repeat (first|exact (Kd.R_reads' HO_4.out).2.2|(with_reducible refine Kd.C_alloc ?_ _)|(with_reducible refine Kd.C_drewN ?_ _)|(with_reducible refine Kd.C_drew ?_)));(case side2 => exact (Kd.R_reads' HO_4.out).2.1);rintro e w' ⟨rfl,⟨nd,rfl⟩⟩))
      go_ret2;exact ⟨_,by first|rfl|(simp [*,errW_none,errW_some] <;> rfl),by (with_reducible repeat (first|apply ra_|apply rn_|apply Rd_));exact HO_4.out,bq_ HB⟩
     ·replace c22:=Bool.eq_false_iff.mpr c22;subst c22
      have H1 : (some ((([] : List Int)),false)) = some (r1,r2):=by rw [if_neg (show ¬ (false = true) by decide)] at H;exact H
      clear H;have H:=H1;clear H1;obtain ⟨y135,hy135⟩ : ∃ y_ : List Int,y_ = (([] : List Int)):=⟨_,rfl⟩
      replace H : (some (y135,false)) = some (r1,r2):=by first|(rw [hy135];with_reducible exact H)|(have H2_:=(Option.bind_some _ _).symm.trans H;rw [hy135];with_reducible exact H2_)|(have H2_:=(Option.bind_some _ _).symm.trans H;with_reducible exact H2_)|with_reducible exact H|(rw [hy135];exact H)|exact H
      have Ny135:=A_ hy135;clear hy135;simp only [Option.some.injEq,Prod.mk.injEq] at H;obtain ⟨rfl,rfl⟩:=H;obtain ⟨Ao24,co24,eo24⟩:=Kd.R_slice HO_4.out;subst eo24
      go_wp2_with (first|(go_at_call 83;(with_reducible refine (spec_ConfOk.calls k1 _ _ x4_1 false _ ?side1 ?side2 A21.out).mono ?_);(case side1 => repeat (first|exact (Kd.R_reads' HO_4.out).2.2|(with_reducible refine Kd.C_alloc ?_ _)|(with_reducible refine Kd.C_drewN ?_ _)|(with_reducible refine Kd.C_drew ?_)));(case side2 => exact (Kd.R_reads' HO_4.out).2.1);rintro e w' ⟨rfl,⟨nd,rfl⟩⟩)|((with_reducible refine gate_dst (N:=34) rfl ?_);refine rX_ (d:=(Kd.int .i64)) (e:=3) (xs:=([] : List Int)) (inner:=[]) (ok:=fun _ => True) (okp:=fun _ => True) 34 (Reps.none _ _) ?_;intro v136 w25 ho26 hb hg_ hnew_;clear hg_ hnew_;(first|rw [← Ny135.out] at ho26|(simp only [Int.reduceToNat] at ho26;rw [← Ny135.out] at ho26));have HO137:=A_ (rw_ (Kd.R_new' ho26 (Kd.R_lt (rq_ HO_4))) (bz_ (bq_ HB)));replace HO_4:=A_ (Kd.R_elder' (rq_ HO_4) (Kd.R_base ho26) hb);replace HB:=bS_ HB hb;clear hb ho26))
      go_ret2;exact ⟨_,by first|rfl|(simp [*,errW_none,errW_some] <;> rfl),by (with_reducible repeat (first|apply ra_|apply rn_|apply Rd_));exact rm_ HO137.out (fun _ hk => trivial),bq_ HB⟩
    ·rw [if_neg c20] at H;have c20b0 : ((x4_1.length : Int) == (a0.size : Int)) = false:=beq_eq_false_iff_ne.mpr c20;have c20b1 : ((x4_1.length : Int) != (a0.size : Int)) = true:=bne_iff_ne.mpr c20
     have c20b2 : (x4_1.length == a0.size) = false:=by first|simpa using c20|(simp at c20 ⊢;omega)
     obtain ⟨y138,hy138⟩ : ∃ y_ : List Int,y_ = (([] : List Int)):=⟨_,rfl⟩
     replace H : (some (y138,false)) = some (r1,r2):=by first|(rw [hy138];with_reducible exact H)|(have H2_:=(Option.bind_some _ _).symm.trans H;rw [hy138];with_reducible exact H2_)|(have H2_:=(Option.bind_some _ _).symm.trans H;with_reducible exact H2_)|with_reducible exact H|(rw [hy138];exact H)|exact H
     have Ny138:=A_ hy138;clear hy138;simp only [Option.some.injEq,Prod.mk.injEq] at H;obtain ⟨rfl,rfl⟩:=H;obtain ⟨Ao27,co27,eo27⟩:=Kd.R_slice HO_4.out;subst eo27
     go_wp2_with (first|((with_reducible refine gate_dst (N:=34) rfl ?_);refine rX_ (d:=(Kd.int .i64)) (e:=3) (xs:=([] : List Int)) (inner:=[]) (ok:=fun _ => True) (okp:=fun _ => True) 34 (Reps.none _ _) ?_;intro v139 w28 ho29 hb hg_ hnew_;clear hg_ hnew_;(first|rw [← Ny138.out] at ho29|(simp only [Int.reduceToNat] at ho29;rw [← Ny138.out] at ho29));have HO140:=A_ (rw_ (Kd.R_new' ho29 (Kd.R_lt (rq_ HO_4))) (bz_ (bq_ HB)));replace HO_4:=A_ (Kd.R_elder' (rq_ HO_4) (Kd.R_base ho29) hb);replace HB:=bS_ HB hb;clear hb ho29))
     go_ret2;exact ⟨_,by first|rfl|(simp [*,errW_none,errW_some] <;> rfl),by (with_reducible repeat (first|apply ra_|apply rn_|apply Rd_));exact rm_ HO140.out (fun _ hk => trivial),bq_ HB⟩
def spec_EntryOk.f (k : Nat) (a0_0 : Int) (a0_1 : Int) (a0_2 : ByteArray) : Option (Bool) := (spec_l01In.f a0_0 0 100000).bind fun t142 => (if t142 = true then (if a0_1 = 1 then (some (a0_2.toList == ([] : List UInt8))) else (if a0_1 = 2 then ((spec_ReadConf.f k a0_2).bind fun bt143 => (some bt143.2)) else (if a0_1 = 3 then (some (decide ((a0_2.size : Int) ≤ 120))) else (some false)))) else (some false))
theorem spec_EntryOk.mono : ∀ a0 a1 a2 k, LeO (spec_EntryOk.f k a0 a1 a2) (spec_EntryOk.f (k + 1) a0 a1 a2) := by
 intro a0 a1 a2 k
 unfold spec_EntryOk.f
 repeat' first
   | (with_reducible exact spec_ReadConf.mono _ _)
   | (with_reducible exact LeO.refl _)
   | (with_reducible exact LeO.none _)
   | (with_reducible refine LeO.ite ?_ ?_)
   | (with_reducible refine LeO.bind ?_ (fun _ => ?_))
set_option maxHeartbeats 8000000 in
set_option maxRecDepth 100000 in
theorem spec_EntryOk.calls (k : Nat) (a0_0 : Int) (a0_1 : Int) (a0_2 : ByteArray) (r : Bool) (w : World) (h : spec_EntryOk.f k a0_0 a0_1 a0_2 = some r) :
  Calls Try.prog 82 #[.agg #[.int .i64 a0_0,.int .i64 a0_1,.string a0_2]] w fun e w' => e = .returned (.bool r) ∧ Below w.heap.size w w':=by
 have hu69:=Try.underlying69;have HB:=A_ (Below.refl w.heap.size w);unfold spec_EntryOk.f at h;have H:=h;clear h;replace H:=ob_.mp H;obtain ⟨t142,A20,H⟩:=H;(try dsimp only at H);have A2:=A_ A20;clear A20
 by_cases c3 : t142 = true
 ·subst c3
  rw [if_pos rfl] at H
  by_cases c4 : a0_1 = 1
  ·rw [if_pos c4] at H;have c4b0 : (a0_1 == 1) = true:=beq_iff_eq.mpr c4;have c4b1 : (a0_1 != 1) = false:=bne_eq_false_iff_eq.mpr c4;clear c4;obtain rfl:=Option.some.inj H;go_enter Try.func82,Try.ntmps82
   go_wp2_with (first|((with_reducible refine gate_dst (N:=1) rfl ?_);refine bE_ 1 #[.int .i64 a0_0,.int .i64 a0_1,.string a0_2] 69 ?_;intro gb141 hg w5 hbox hb;have BK141:=A_ (hbox);have GW141:=gE_ hg HB;have GE141:=gE_ hg HB;replace HB:=bS_ HB hb;clear hb hbox hg;obtain ⟨hcz6_0,hcz6_1,hcz6_2,hfz6_0,hfz6_1,hfz6_2⟩:=k3f_ BK141)|((with_reducible refine gate_callee (f:=81) rfl ?_);refine gL_ (some 7) Try.func81 #[.int .i64 a0_0,.int .i64 0,.int .i64 100000] ?_;(with_reducible refine (spec_l01In.calls a0_0 0 100000 true _ A2.out).mono ?_);rintro e w' ⟨rfl,⟨nd,rfl⟩⟩;refine ⟨_,rfl,?_⟩))
   go_ret;exact ⟨ex_,bq_ HB⟩
  ·rw [if_neg c4] at H;have c4b0 : (a0_1 == 1) = false:=beq_eq_false_iff_ne.mpr c4;have c4b1 : (a0_1 != 1) = true:=bne_iff_ne.mpr c4
   by_cases c7 : a0_1 = 2
   ·rw [if_pos c7] at H;have c7b0 : (a0_1 == 2) = true:=beq_iff_eq.mpr c7;have c7b1 : (a0_1 != 2) = false:=bne_eq_false_iff_eq.mpr c7;clear c7;replace H:=ob_.mp H;obtain ⟨⟨t143,t144⟩,A80,H⟩:=H;(try dsimp only at H);have A8:=A_ A80;clear A80;obtain rfl:=Option.some.inj H;go_enter Try.func82,Try.ntmps82
    go_wp2_with (first|((with_reducible refine gate_dst (N:=1) rfl ?_);refine bE_ 1 #[.int .i64 a0_0,.int .i64 a0_1,.string a0_2] 69 ?_;intro gb141 hg w9 hbox hb;have BK141:=A_ (hbox);have GW141:=gE_ hg HB;have GE141:=gE_ hg HB;replace HB:=bS_ HB hb;clear hb hbox hg;obtain ⟨hcz10_0,hcz10_1,hcz10_2,hfz10_0,hfz10_1,hfz10_2⟩:=k3f_ BK141)|((with_reducible refine gate_callee (f:=81) rfl ?_);refine gL_ (some 7) Try.func81 #[.int .i64 a0_0,.int .i64 0,.int .i64 100000] ?_;(with_reducible refine (spec_l01In.calls a0_0 0 100000 true _ A2.out).mono ?_);rintro e w' ⟨rfl,⟨nd,rfl⟩⟩;refine ⟨_,rfl,?_⟩)|((with_reducible refine gate_callee (f:=63) rfl ?_);refine gL_ (some 21) Try.func63 #[.string a0_2] ?_;(with_reducible refine (spec_ReadConf.calls k a0_2 t143 t144 _ A8.out).mono ?_);rintro e w11 ⟨v145,rfl,ho0,hb⟩;refine ⟨_,rfl,?_⟩;have HO146:=A_ (rw_ ho0 (bz_ (bq_ HB)));replace BK141:=kB_ BK141 hb;replace HB:=bS_ HB hb;(try clear hb);(try clear ho0)))
    go_ret;exact ⟨ex_,bq_ HB⟩
   ·rw [if_neg c7] at H;have c7b0 : (a0_1 == 2) = false:=beq_eq_false_iff_ne.mpr c7;have c7b1 : (a0_1 != 2) = true:=bne_iff_ne.mpr c7
    by_cases c12 : a0_1 = 3
    ·rw [if_pos c12] at H;have c12b0 : (a0_1 == 3) = true:=beq_iff_eq.mpr c12;have c12b1 : (a0_1 != 3) = false:=bne_eq_false_iff_eq.mpr c12;clear c12;obtain rfl:=Option.some.inj H;go_enter Try.func82,Try.ntmps82
     go_wp2_with (first|((with_reducible refine gate_dst (N:=1) rfl ?_);refine bE_ 1 #[.int .i64 a0_0,.int .i64 a0_1,.string a0_2] 69 ?_;intro gb141 hg w13 hbox hb;have BK141:=A_ (hbox);have GW141:=gE_ hg HB;have GE141:=gE_ hg HB;replace HB:=bS_ HB hb;clear hb hbox hg;obtain ⟨hcz14_0,hcz14_1,hcz14_2,hfz14_0,hfz14_1,hfz14_2⟩:=k3f_ BK141)|((with_reducible refine gate_callee (f:=81) rfl ?_);refine gL_ (some 7) Try.func81 #[.int .i64 a0_0,.int .i64 0,.int .i64 100000] ?_;(with_reducible refine (spec_l01In.calls a0_0 0 100000 true _ A2.out).mono ?_);rintro e w' ⟨rfl,⟨nd,rfl⟩⟩;refine ⟨_,rfl,?_⟩))
     go_ret;exact ⟨ex_,bq_ HB⟩
    ·rw [if_neg c12] at H;have c12b0 : (a0_1 == 3) = false:=beq_eq_false_iff_ne.mpr c12;have c12b1 : (a0_1 != 3) = true:=bne_iff_ne.mpr c12;obtain rfl:=Option.some.inj H;go_enter Try.func82,Try.ntmps82
     go_wp2_with (first|((with_reducible refine gate_dst (N:=1) rfl ?_);refine bE_ 1 #[.int .i64 a0_0,.int .i64 a0_1,.string a0_2] 69 ?_;intro gb141 hg w15 hbox hb;have BK141:=A_ (hbox);have GW141:=gE_ hg HB;have GE141:=gE_ hg HB;replace HB:=bS_ HB hb;clear hb hbox hg;obtain ⟨hcz16_0,hcz16_1,hcz16_2,hfz16_0,hfz16_1,hfz16_2⟩:=k3f_ BK141)|((with_reducible refine gate_callee (f:=81) rfl ?_);refine gL_ (some 7) Try.func81 #[.int .i64 a0_0,.int .i64 0,.int .i64 100000] ?_;(with_reducible refine (spec_l01In.calls a0_0 0 100000 true _ A2.out).mono ?_);rintro e w' ⟨rfl,⟨nd,rfl⟩⟩;refine ⟨_,rfl,?_⟩))
     go_ret;exact ⟨ex_,bq_ HB⟩
 ·replace c3:=Bool.eq_false_iff.mpr c3;subst c3
  have H1 : (some false) = some r:=by rw [if_neg (show ¬ (false = true) by decide)] at H;exact H
  clear H;have H:=H1;clear H1;obtain rfl:=Option.some.inj H;go_enter Try.func82,Try.ntmps82
  go_wp2_with (first|((with_reducible refine gate_dst (N:=1) rfl ?_);refine bE_ 1 #[.int .i64 a0_0,.int .i64 a0_1,.string a0_2] 69 ?_;intro gb141 hg w17 hbox hb;have BK141:=A_ (hbox);have GW141:=gE_ hg HB;have GE141:=gE_ hg HB;replace HB:=bS_ HB hb;clear hb hbox hg;obtain ⟨hcz18_0,hcz18_1,hcz18_2,hfz18_0,hfz18_1,hfz18_2⟩:=k3f_ BK141)|((with_reducible refine gate_callee (f:=81) rfl ?_);refine gL_ (some 7) Try.func81 #[.int .i64 a0_0,.int .i64 0,.int .i64 100000] ?_;(with_reducible refine (spec_l01In.calls a0_0 0 100000 false _ A2.out).mono ?_);rintro e w' ⟨rfl,⟨nd,rfl⟩⟩;refine ⟨_,rfl,?_⟩))
  go_ret;exact ⟨ex_,bq_ HB⟩
end Go.Proofs.Ytbcgnncbiblibaa.PFnExactDecode
