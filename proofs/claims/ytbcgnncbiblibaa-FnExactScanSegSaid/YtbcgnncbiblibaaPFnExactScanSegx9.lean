/- The contracts of the Go functions that this law reaches: what each call returns, by a plain Lean function of its arguments. No conditions but those each contract names. By the kit's print.py, run by this session's wip/gen/pp.py with facts and hand proofs beside it: not to the letter what print.sh prints. -/
import Derived.Test.YtbcgnncbiblibaaPFnExactScanSegx0
import Derived.Test.YtbcgnncbiblibaaPFnExactScanSegx8
namespace Go.Proofs.Ytbcgnncbiblibaa.PFnExactScanSeg
open Go.RowKit Go.Proofs.YtbcgnncbiblibaaW.PrintWords Go.Proofs.YtbcgnncbiblibaaW.PrintLast Go.Proofs.YtbcgnncbiblibaaW.PrintMore
attribute [local go_sem] max2_int min2_int max_two min_two max_three min_three max_four min_four
set_option linter.unusedVariables false
set_option linter.unusedSimpArgs false
mutual
def impl_Unframe.l0 : Nat → ByteArray → List ByteArray → Int → Option (List ByteArray × Int)
 | 0,_,_,_ => none
 | k + 1,x0,x4,x5 => (impl_ReadVar.f k x0 x5).bind fun bt251 => (if bt251.2.2 = true then (impl_Unframe.j1 k x0 x4 x5 bt251.1 bt251.2.1 (decide (bt251.1 > (wrap64 ((wrap64 ((x0.size : Int) - bt251.2.1)) - 4))))) else (impl_Unframe.j1 k x0 x4 x5 bt251.1 bt251.2.1 true))
def impl_Unframe.j1 : Nat → ByteArray → List ByteArray → Int → Int → Int → Bool → Option (List ByteArray × Int)
 | 0,_,_,_,_,_,_ => none
 | k + 1,x0,x4,x5,x6,x7,x32 => if x32 = true then (some (x4,x5)) else (if 0 ≤ (wrap64 (x7 + 4)) then (if (wrap64 (x7 + 4)) ≤ (wrap64 ((wrap64 (x7 + 4)) + x6)) then (if (wrap64 ((wrap64 (x7 + 4)) + x6)) ≤ (x0.size : Int) then ((impl_Frame.f k (x0.extract ((wrap64 (x7 + 4)) : Int).toNat ((wrap64 ((wrap64 (x7 + 4)) + x6)) : Int).toNat)).bind fun bt254 => (if bt254.2 = true then (if 0 ≤ x5 then (if x5 ≤ (wrap64 ((wrap64 (x7 + 4)) + x6)) then (if bt254.1.toList = (x0.extract (x5 : Int).toNat ((wrap64 ((wrap64 (x7 + 4)) + x6)) : Int).toNat).toList then (if x4.length < 8796093022208 then (impl_Unframe.l0 k x0 (x4 ++ [x0.extract ((wrap64 (x7 + 4)) : Int).toNat ((wrap64 ((wrap64 (x7 + 4)) + x6)) : Int).toNat]) (wrap64 ((wrap64 (x7 + 4)) + x6))) else (none)) else (some (x4,x5))) else (none)) else (none)) else (some (x4,x5)))) else (none)) else (none)) else (none))
end
def impl_Unframe.f (k : Nat) (a0 : ByteArray) : Option (List ByteArray × Int) := if (a0.size : Int) > 20000 then (some (([] : List ByteArray), 0)) else (impl_Unframe.l0 k a0 ([] : List ByteArray) 0)
theorem impl_Unframe.mono_l : ∀ k, (∀ y0 y1 y2, LeO (impl_Unframe.l0 k y0 y1 y2) (impl_Unframe.l0 (k + 1) y0 y1 y2)) ∧ (∀ y0 y1 y2 y3 y4 y5, LeO (impl_Unframe.j1 k y0 y1 y2 y3 y4 y5) (impl_Unframe.j1 (k + 1) y0 y1 y2 y3 y4 y5))
 | 0 => ⟨fun _ _ _ r h => by simp [impl_Unframe.l0] at h,fun _ _ _ _ _ _ r h => by simp [impl_Unframe.j1] at h⟩
 | k + 1 => by
  obtain ⟨ih0,ih1⟩:=impl_Unframe.mono_l k;refine ⟨?_,?_⟩
  ·intro y0 y1 y2
   unfold impl_Unframe.l0
   repeat' first
   | (with_reducible exact ih0 _ _ _)
   | (with_reducible exact ih1 _ _ _ _ _ _)
   | (with_reducible exact impl_Frame.mono _ _)
   | (with_reducible exact impl_ReadVar.mono _ _ _)
   | (with_reducible exact LeO.refl _)
   | (with_reducible exact LeO.none _)
   | (with_reducible refine LeO.ite ?_ ?_)
   | (with_reducible refine LeO.bind ?_ (fun _ => ?_))
  ·intro y0 y1 y2 y3 y4 y5
   unfold impl_Unframe.j1
   repeat' first
   | (with_reducible exact ih0 _ _ _)
   | (with_reducible exact ih1 _ _ _ _ _ _)
   | (with_reducible exact impl_Frame.mono _ _)
   | (with_reducible exact impl_ReadVar.mono _ _ _)
   | (with_reducible exact LeO.refl _)
   | (with_reducible exact LeO.none _)
   | (with_reducible refine LeO.ite ?_ ?_)
   | (with_reducible refine LeO.bind ?_ (fun _ => ?_))
theorem impl_Unframe.mono : ∀ a0 k, LeO (impl_Unframe.f k a0) (impl_Unframe.f (k + 1) a0) := by
 intro a0 k;obtain ⟨ih0,ih1⟩:=impl_Unframe.mono_l k
 unfold impl_Unframe.f
 repeat' first
   | (with_reducible exact ih0 _ _ _)
   | (with_reducible exact ih1 _ _ _ _ _ _)
   | (with_reducible exact impl_Frame.mono _ _)
   | (with_reducible exact impl_ReadVar.mono _ _ _)
   | (with_reducible exact LeO.refl _)
   | (with_reducible exact LeO.none _)
   | (with_reducible refine LeO.ite ?_ ?_)
   | (with_reducible refine LeO.bind ?_ (fun _ => ?_))
set_option maxHeartbeats 8000000 in
set_option maxRecDepth 100000 in
theorem impl_Unframe.calls (k : Nat) (a0 : ByteArray) (r1 : List ByteArray) (r2 : Int) (w : World) (h : impl_Unframe.f k a0 = some (r1, r2)) :
  Calls Try.prog 44 #[.string a0] w fun e w' => ∃ v0_ : Value,e = .returned (.tuple #[v0_,.int .i64 r2]) ∧ Kd.R Kd.string 9 w' w.heap.size (fun _ => True) v0_ r1 ∧ Below w.heap.size w w':=by
 have HB:=A_ (Below.refl w.heap.size w);unfold impl_Unframe.f at h;have H:=h;clear h
 by_cases c2 : (a0.size : Int) > 20000
 ·rw [if_pos c2] at H;have c2b0 : decide (20000 < (a0.size : Int)) = true:=de_ c2;have c2b1 : decide (20000 < a0.size) = true:=de_ (by omega);clear c2;simp only [Option.some.injEq,Prod.mk.injEq] at H;obtain ⟨rfl,rfl⟩:=H;go_enter Try.func44,Try.ntmps44;go_wp2;go_ret2;exact ⟨_,by first|rfl|(simp [*,errW_none,errW_some] <;> rfl),by first|exact Kd.R_nil _ _ _ _ _|exact Kd.N_nil _ _ _ _ _|exact Kd.V_nil _ _ _ _ _|exact Kd.Q_nil _ _ _ _ _|exact Kd.S_nil _ _ _ _ _,bq_ HB⟩
 ·rw [if_neg c2] at H;have c2b0 : decide (20000 < (a0.size : Int)) = false:=decide_eq_false c2;have c2b1 : decide (20000 < a0.size) = false:=decide_eq_false (by omega);clear c2;have H':=A_ H;clear H;go_enter Try.func44,Try.ntmps44;go_wp2
  go_loopg [4,5] k (fun kq v4 v5 w' => ∃ (x4_1 : List ByteArray) (x5_1 : Int),v5 = .int .i64 x5_1 ∧ Aside0 (impl_Unframe.l0 kq a0 x4_1 x5_1 = some (r1,r2)) ∧ Aside0 (kq ≤ k) ∧ Aside0 (Kd.R Kd.string 9 w' w.heap.size (fun _ => True) v4 x4_1) ∧ Aside0 (Below w.heap.size w w'))
  case atStart => exact ⟨(([] : List ByteArray)),(0),(by first|rfl|(simp;done)|(simp [*];done)),H',⟨Nat.le_refl _⟩,⟨by first|exact Kd.R_nil _ _ _ _ _|exact Kd.N_nil _ _ _ _ _|exact Kd.V_nil _ _ _ _ _|exact Kd.Q_nil _ _ _ _ _|exact Kd.S_nil _ _ _ _ _⟩,⟨bq_ HB⟩⟩
  case round =>
   clear H'
   try clear c2
   try clear c2b0
   try clear c2b1
   try clear p2
   obtain ⟨x4_1,x5_1,rfl,HA,HK1,HO_4,HB⟩:=hrel
   cases gk with
   | zero => exact absurd HA.out (by simp [impl_Unframe.l0])
   | succ k1 =>
    have H:=HA.out;clear HA;simp only [impl_Unframe.l0] at H;replace H:=ob_.mp H;obtain ⟨⟨t251,t252,t253⟩,A30,H⟩:=H;(try dsimp only at H);have A3:=A_ A30;clear A30;have HC4:=A_ H;clear H
    go_upto_region 6 with (first|((with_reducible refine gate_callee (f:=97) rfl ?_);refine gL_ (some 18) Try.func97 #[.string a0,.int .i64 x5_1] ?_;(with_reducible refine (impl_ReadVar.calls k1 a0 x5_1 t251 t252 t253 _ A3.out).mono ?_);rintro e w5 ⟨rfl,hb⟩;refine ⟨_,rfl,?_⟩;replace HO_4:=rB_ HO_4 hb;replace HB:=bS_ HB hb;(try clear hb)))
    (try simp only [Act.put,s1_,s2_,s3_])
    go_cut [32] (fun v32 wc => ∃ (kq : Nat) (x32_3 : Bool),v32 = .bool x32_3 ∧ Aside0 (impl_Unframe.j1 kq a0 x4_1 x5_1 t251 t252 x32_3 = some (r1,r2)) ∧ Aside0 (kq ≤ k1) ∧ Aside0 (Kd.R Kd.string 9 wc w.heap.size (fun _ => True) u4 x4_1) ∧ Aside0 (Below w.heap.size w wc))
    case first =>
     have H:=HC4.out;clear HC4
     by_cases c6 : t253 = true
     ·subst c6
      rw [if_pos rfl] at H;have H':=A_ H;clear H;go_wp2
      go_meet
      case rel => exact ⟨_,(decide (t251 > (wrap64 ((wrap64 ((a0.size : Int) - t252)) - 4)))),(by first|rfl|(simp;done)|(simp [*];done)),H',⟨by have:=HK1.out;first|omega|exact Nat.le_refl _⟩,⟨by (with_reducible repeat (first|apply ra_|apply rn_|apply Rd_));exact HO_4.out⟩,⟨bq_ HB⟩⟩
     ·replace c6:=Bool.eq_false_iff.mpr c6;subst c6
      have H1 : (impl_Unframe.j1 k1 a0 x4_1 x5_1 t251 t252 true) = some (r1,r2):=by rw [if_neg (show ¬ (false = true) by decide)] at H;exact H
      clear H;have H:=H1;clear H1;have H':=A_ H;clear H;go_wp2
      go_meet
      case rel => exact ⟨_,(true),(by first|rfl|(simp;done)|(simp [*];done)),H',⟨by have:=HK1.out;first|omega|exact Nat.le_refl _⟩,⟨by (with_reducible repeat (first|apply ra_|apply rn_|apply Rd_));exact HO_4.out⟩,⟨bq_ HB⟩⟩
    case rest =>
     clear HC4
     try clear c2
     try clear c2b0
     try clear c2b1
     try clear p2
     try clear c4
     try clear c6
     try clear p6
     try clear p2
     obtain ⟨kq,x32_3,rfl,HA,HJ3,HO_4,HB⟩:=hcut
     cases kq with
     | zero => exact absurd HA.out (by simp [impl_Unframe.j1])
     | succ kj3 =>
      have H:=HA.out;clear HA;simp only [impl_Unframe.j1] at H
      by_cases c7 : x32_3 = true
      ·subst c7
       rw [if_pos rfl] at H;simp only [Option.some.injEq,Prod.mk.injEq] at H;obtain ⟨rfl,rfl⟩:=H;go_wp2;go_ret2;exact ⟨_,by first|rfl|(simp [*,errW_none,errW_some] <;> rfl),by (with_reducible repeat (first|apply ra_|apply rn_|apply Rd_));exact HO_4.out,bq_ HB⟩
      ·replace c7:=Bool.eq_false_iff.mpr c7;subst c7
       have H1 : (if 0 ≤ (wrap64 (t252 + 4)) then (if (wrap64 (t252 + 4)) ≤ (wrap64 ((wrap64 (t252 + 4)) + t251)) then (if (wrap64 ((wrap64 (t252 + 4)) + t251)) ≤ (a0.size : Int) then ((impl_Frame.f kj3 (a0.extract ((wrap64 (t252 + 4)) : Int).toNat ((wrap64 ((wrap64 (t252 + 4)) + t251)) : Int).toNat)).bind fun bt254 => (if bt254.2 = true then (if 0 ≤ x5_1 then (if x5_1 ≤ (wrap64 ((wrap64 (t252 + 4)) + t251)) then (if bt254.1.toList = (a0.extract (x5_1 : Int).toNat ((wrap64 ((wrap64 (t252 + 4)) + t251)) : Int).toNat).toList then (if x4_1.length < 8796093022208 then (impl_Unframe.l0 kj3 a0 (x4_1 ++ [a0.extract ((wrap64 (t252 + 4)) : Int).toNat ((wrap64 ((wrap64 (t252 + 4)) + t251)) : Int).toNat]) (wrap64 ((wrap64 (t252 + 4)) + t251))) else (none)) else (some (x4_1,x5_1))) else (none)) else (none)) else (some (x4_1,x5_1)))) else (none)) else (none)) else (none)) = some (r1,r2):=by rw [if_neg (show ¬ (false = true) by decide)] at H;exact H
       clear H;have H:=H1;clear H1;obtain ⟨ji8,hji8⟩ : ∃ j_ : Int,(wrap64 (t252 + 4)) = j_:=⟨_,rfl⟩
       replace H : (if 0 ≤ (ji8) then (if (ji8) ≤ (wrap64 ((ji8) + t251)) then (if (wrap64 ((ji8) + t251)) ≤ (a0.size : Int) then ((impl_Frame.f kj3 (a0.extract ((ji8) : Int).toNat ((wrap64 ((ji8) + t251)) : Int).toNat)).bind fun bt254 => (if bt254.2 = true then (if 0 ≤ x5_1 then (if x5_1 ≤ (wrap64 ((ji8) + t251)) then (if bt254.1.toList = (a0.extract (x5_1 : Int).toNat ((wrap64 ((ji8) + t251)) : Int).toNat).toList then (if x4_1.length < 8796093022208 then (impl_Unframe.l0 kj3 a0 (x4_1 ++ [a0.extract ((ji8) : Int).toNat ((wrap64 ((ji8) + t251)) : Int).toNat]) (wrap64 ((ji8) + t251))) else (none)) else (some (x4_1,x5_1))) else (none)) else (none)) else (some (x4_1,x5_1)))) else (none)) else (none)) else (none)) = some (r1,r2):=by first|(rw [hji8] at H;exact H)|(simp only [hji8] at H ⊢;exact H)
       have hji8w : (IntKind.i64.wrap (t252 + 4)) = ji8:=(i64_w _).trans hji8
       by_cases c9 : 0 ≤ (ji8)
       ·rw [if_pos c9] at H;have c9b0:=eq_true c9;have c9b1 : decide (0 ≤ (ji8)) = true:=de_ c9;clear c9
        by_cases c10 : (ji8) ≤ (wrap64 ((ji8) + t251))
        ·rw [if_pos c10] at H;have c10b0:=eq_true c10;have c10b1 : decide ((ji8) ≤ (wrap64 ((ji8) + t251))) = true:=de_ c10
         by_cases c11 : (wrap64 ((ji8) + t251)) ≤ (a0.size : Int)
         ·rw [if_pos c11] at H;have c11b0:=eq_true c11;have c11b1 : decide ((wrap64 ((ji8) + t251)) ≤ (a0.size : Int)) = true:=de_ c11;replace H:=ob_.mp H;obtain ⟨⟨t254,t255⟩,A120,H⟩:=H;(try dsimp only at H);have A12:=A_ A120;clear A120
          by_cases c13 : t255 = true
          ·subst c13
           rw [if_pos rfl] at H
           by_cases c14 : 0 ≤ x5_1
           ·rw [if_pos c14] at H;have c14b0:=eq_true c14;have c14b1 : decide (0 ≤ x5_1) = true:=de_ c14;clear c14
            by_cases c15 : x5_1 ≤ (wrap64 ((ji8) + t251))
            ·rw [if_pos c15] at H;have c15b0:=eq_true c15;have c15b1 : decide (x5_1 ≤ (wrap64 ((ji8) + t251))) = true:=de_ c15;have c16b0:=eq_true (oda_ : (wrap64 ((ji8) + t251)) ≤ (a0.size : Int))
             by_cases c17 : t254.toList = (a0.extract (x5_1 : Int).toNat ((wrap64 ((ji8) + t251)) : Int).toNat).toList
             ·rw [if_pos c17] at H;have c17b0 : (t254.toList == (a0.extract (x5_1 : Int).toNat ((wrap64 ((ji8) + t251)) : Int).toNat).toList) = true:=beq_iff_eq.mpr c17;have c17b1 : (t254.toList != (a0.extract (x5_1 : Int).toNat ((wrap64 ((ji8) + t251)) : Int).toNat).toList) = false:=bne_eq_false_iff_eq.mpr c17;clear c17
              by_cases c18 : x4_1.length < 8796093022208
              ·rw [if_pos c18] at H;have LMc18:=A_ c18;clear c18;obtain ⟨y256,hy256⟩ : ∃ y_ : List ByteArray,y_ = (x4_1 ++ [a0.extract ((ji8) : Int).toNat ((wrap64 ((ji8) + t251)) : Int).toNat]):=⟨_,rfl⟩
               replace H : (impl_Unframe.l0 kj3 a0 y256 (wrap64 ((ji8) + t251))) = some (r1,r2):=by first|(rw [hy256];with_reducible exact H)|(have H2_:=(Option.bind_some _ _).symm.trans H;rw [hy256];with_reducible exact H2_)|(have H2_:=(Option.bind_some _ _).symm.trans H;with_reducible exact H2_)|with_reducible exact H|(rw [hy256];exact H)|exact H
               have Ny256:=A_ hy256;clear hy256;have H':=A_ H;clear H
               go_wp2_with (first|((with_reducible refine gate_callee (f:=98) rfl ?_);refine goesL_ (some 45) rfl rfl Try.func98 (by kernel_rfl) rfl #[.string (a0.extract ((ji8) : Int).toNat ((wrap64 ((ji8) + t251)) : Int).toNat)] rfl (by (try simp only [s4_,s5_,s6_]);first|done|(simp only [hji8];rfl)|rfl|(simp only [List.length_drop,List.length_take];rfl)) ?_;(with_reducible refine (impl_Frame.calls kj3 (a0.extract ((ji8) : Int).toNat ((wrap64 ((ji8) + t251)) : Int).toNat) t254 true _ A12.out).mono ?_);rintro e w19 ⟨rfl,hb⟩;refine ⟨_,rfl,?_⟩;replace HO_4:=rB_ HO_4 hb;replace HB:=bS_ HB hb;(try clear hb))|((with_reducible refine gate_builtin (b:=.append) (xs:=#[.tmp 63,.tmp 65]) rfl ?_);(try (refine gate_guard (by rfl) ?_;dsimp only));at_builtin;refine Kd.R_append Kd.string (w0:=w) w.heap.size rfl (.tmp 63) (.tmp 65) 31 9 (.string ⟨#[]⟩) 16 rfl Try.underlying31 info9 rfl (by decide) (by omega) u4 x4_1 (a0.extract ((ji8) : Int).toNat ((wrap64 ((ji8) + t251)) : Int).toNat) [.string (a0.extract ((ji8) : Int).toNat ((wrap64 ((ji8) + t251)) : Int).toNat)] (fun _ => True) (fun _ => False) rfl rfl ?aP (fun _ hk => hk.elim) ?aF ?aO ?aB ?aS ?aL ?_;(case aP => exact rfl);(case aB => exact (bq_ HB));(case aF => exact (fun _ _ => trivial));(case aO => exact (rq_ HO_4));(case aS => exact (bz_ (bq_ HB)));(case aL => have:=LMc18.out;omega);intro v257 w20 ho hb hg hat;rw [← Ny256.out] at ho;replace HB:=A_ (hb);have HO258:=A_ (ho);clear HO_4;clear ho hb hg hat))
               go_roundg kj3
               case measure => have:=HK1.out;have:=HJ3.out;omega
               case rel => exact ⟨(y256),(wrap64 ((ji8) + t251)),(by first|rfl|(simp;done)|(simp only [← hji8] <;> (first|rfl|simp))|(simp [*];done)),H',⟨by have:=HK1.out;have:=HJ3.out;omega⟩,⟨by (with_reducible repeat (first|apply ra_|apply rn_|apply Rd_));exact HO258.out⟩,⟨bq_ HB⟩⟩
              ·rw [if_neg c18] at H;exact absurd H (by simp)
             ·rw [if_neg c17] at H;have c17b0 : (t254.toList == (a0.extract (x5_1 : Int).toNat ((wrap64 ((ji8) + t251)) : Int).toNat).toList) = false:=beq_eq_false_iff_ne.mpr c17;have c17b1 : (t254.toList != (a0.extract (x5_1 : Int).toNat ((wrap64 ((ji8) + t251)) : Int).toNat).toList) = true:=bne_iff_ne.mpr c17;simp only [Option.some.injEq,Prod.mk.injEq] at H;obtain ⟨rfl,rfl⟩:=H
              go_wp2_with (first|((with_reducible refine gate_callee (f:=98) rfl ?_);refine goesL_ (some 45) rfl rfl Try.func98 (by kernel_rfl) rfl #[.string (a0.extract ((ji8) : Int).toNat ((wrap64 ((ji8) + t251)) : Int).toNat)] rfl (by (try simp only [s4_,s5_,s6_]);first|done|(simp only [hji8];rfl)|rfl|(simp only [List.length_drop,List.length_take];rfl)) ?_;(with_reducible refine (impl_Frame.calls kj3 (a0.extract ((ji8) : Int).toNat ((wrap64 ((ji8) + t251)) : Int).toNat) t254 true _ A12.out).mono ?_);rintro e w21 ⟨rfl,hb⟩;refine ⟨_,rfl,?_⟩;replace HO_4:=rB_ HO_4 hb;replace HB:=bS_ HB hb;(try clear hb)))
              go_ret2;exact ⟨_,by first|rfl|(simp [errW_none,errW_some] <;> rfl)|(simp only [← hji8];first|rfl|(simp [errW_none,errW_some] <;> rfl))|(simp [*,errW_none,errW_some] <;> rfl),by (with_reducible repeat (first|apply ra_|apply rn_|apply Rd_));exact HO_4.out,bq_ HB⟩
            ·rw [if_neg c15] at H;exact absurd H (by simp)
           ·rw [if_neg c14] at H;exact absurd H (by simp)
          ·replace c13:=Bool.eq_false_iff.mpr c13;subst c13
           have H1 : (some (x4_1,x5_1)) = some (r1,r2):=by rw [if_neg (show ¬ (false = true) by decide)] at H;exact H
           clear H;have H:=H1;clear H1;simp only [Option.some.injEq,Prod.mk.injEq] at H;obtain ⟨rfl,rfl⟩:=H
           go_wp2_with (first|((with_reducible refine gate_callee (f:=98) rfl ?_);refine goesL_ (some 45) rfl rfl Try.func98 (by kernel_rfl) rfl #[.string (a0.extract ((ji8) : Int).toNat ((wrap64 ((ji8) + t251)) : Int).toNat)] rfl (by (try simp only [s4_,s5_,s6_]);first|done|(simp only [hji8];rfl)|rfl|(simp only [List.length_drop,List.length_take];rfl)) ?_;(with_reducible refine (impl_Frame.calls kj3 (a0.extract ((ji8) : Int).toNat ((wrap64 ((ji8) + t251)) : Int).toNat) t254 false _ A12.out).mono ?_);rintro e w22 ⟨rfl,hb⟩;refine ⟨_,rfl,?_⟩;replace HO_4:=rB_ HO_4 hb;replace HB:=bS_ HB hb;(try clear hb)))
           go_ret2;exact ⟨_,by first|rfl|(simp [errW_none,errW_some] <;> rfl)|(simp only [← hji8];first|rfl|(simp [errW_none,errW_some] <;> rfl))|(simp [*,errW_none,errW_some] <;> rfl),by (with_reducible repeat (first|apply ra_|apply rn_|apply Rd_));exact HO_4.out,bq_ HB⟩
         ·rw [if_neg c11] at H;exact absurd H (by simp)
        ·rw [if_neg c10] at H;exact absurd H (by simp)
       ·rw [if_neg c9] at H;exact absurd H (by simp)
end Go.Proofs.Ytbcgnncbiblibaa.PFnExactScanSeg
