/- The contracts of the Go functions that this law reaches: what each call returns, by a plain Lean function of its arguments. No conditions but those each contract names. By the kit's print.py, run by this session's wip/gen/pp.py with facts and hand proofs beside it: not to the letter what print.sh prints. -/
import Derived.Test.YtbcgnncbiblibaaPFnExactLogStepsx0
import Derived.Test.YtbcgnncbiblibaaPFnExactLogStepsx14
namespace Go.Proofs.Ytbcgnncbiblibaa.PFnExactLogSteps
open Go.RowKit Go.Proofs.YtbcgnncbiblibaaW.PrintWords Go.Proofs.YtbcgnncbiblibaaW.PrintLast Go.Proofs.YtbcgnncbiblibaaW.PrintMore
attribute [local go_sem] max2_int min2_int max_two min_two max_three min_three max_four min_four
set_option linter.unusedVariables false
set_option linter.unusedSimpArgs false
mutual
def impl_Unframe.l0 : Nat → ByteArray → List ByteArray → Int → Option (List ByteArray × Int)
 | 0,_,_,_ => none
 | k + 1,x0,x4,x5 => (impl_ReadVar.f k x0 x5).bind fun bt401 => (if bt401.2.2 = true then (impl_Unframe.j1 k x0 x4 x5 bt401.1 bt401.2.1 (decide (bt401.1 > (wrap64 ((wrap64 ((x0.size : Int) - bt401.2.1)) - 4))))) else (impl_Unframe.j1 k x0 x4 x5 bt401.1 bt401.2.1 true))
def impl_Unframe.j1 : Nat → ByteArray → List ByteArray → Int → Int → Int → Bool → Option (List ByteArray × Int)
 | 0,_,_,_,_,_,_ => none
 | k + 1,x0,x4,x5,x6,x7,x32 => if x32 = true then (some (x4,x5)) else (if 0 ≤ (wrap64 (x7 + 4)) then (if (wrap64 (x7 + 4)) ≤ (wrap64 ((wrap64 (x7 + 4)) + x6)) then (if (wrap64 ((wrap64 (x7 + 4)) + x6)) ≤ (x0.size : Int) then ((impl_Frame.f k (x0.extract ((wrap64 (x7 + 4)) : Int).toNat ((wrap64 ((wrap64 (x7 + 4)) + x6)) : Int).toNat)).bind fun bt404 => (if bt404.2 = true then (if 0 ≤ x5 then (if x5 ≤ (wrap64 ((wrap64 (x7 + 4)) + x6)) then (if bt404.1.toList = (x0.extract (x5 : Int).toNat ((wrap64 ((wrap64 (x7 + 4)) + x6)) : Int).toNat).toList then (if x4.length < 8796093022208 then (impl_Unframe.l0 k x0 (x4 ++ [x0.extract ((wrap64 (x7 + 4)) : Int).toNat ((wrap64 ((wrap64 (x7 + 4)) + x6)) : Int).toNat]) (wrap64 ((wrap64 (x7 + 4)) + x6))) else (none)) else (some (x4,x5))) else (none)) else (none)) else (some (x4,x5)))) else (none)) else (none)) else (none))
end
def impl_Unframe.f (k : Nat) (a0 : ByteArray) : Option (List ByteArray × Int) := if (a0.size : Int) > 20000 then (some (([] : List ByteArray), 0)) else (impl_Unframe.l0 k a0 ([] : List ByteArray) 0)
theorem impl_Unframe.mono_l : ∀ k, (∀ y0 y1 y2, LeO (impl_Unframe.l0 k y0 y1 y2) (impl_Unframe.l0 (k + 1) y0 y1 y2)) ∧ (∀ y0 y1 y2 y3 y4 y5, LeO (impl_Unframe.j1 k y0 y1 y2 y3 y4 y5) (impl_Unframe.j1 (k + 1) y0 y1 y2 y3 y4 y5))
 | 0 => ⟨fun _ _ _ r h => by simp [impl_Unframe.l0] at h,fun _ _ _ _ _ _ r h => by simp [impl_Unframe.j1] at h⟩
 | k + 1 => by
  obtain ⟨ih0,ih1⟩:=impl_Unframe.mono_l k;refine ⟨?_,?_⟩
  ·intro y0 y1 y2
   unfold impl_Unframe.l0
   repeat' first
   | (with_reducible exact ih1 _ _ _ _ _ _)
   | (with_reducible exact impl_ReadVar.mono _ _ _)
   | (with_reducible refine LeO.ite ?_ ?_)
   | (with_reducible refine LeO.bind ?_ (fun _ => ?_))
  ·intro y0 y1 y2 y3 y4 y5
   unfold impl_Unframe.j1
   repeat' first
   | (with_reducible exact ih0 _ _ _)
   | (with_reducible exact impl_Frame.mono _ _)
   | (with_reducible exact LeO.refl _)
   | (with_reducible refine LeO.ite ?_ ?_)
   | (with_reducible refine LeO.bind ?_ (fun _ => ?_))
theorem impl_Unframe.mono : ∀ a0 k, LeO (impl_Unframe.f k a0) (impl_Unframe.f (k + 1) a0) := by
 intro a0 k;obtain ⟨ih0,ih1⟩:=impl_Unframe.mono_l k
 unfold impl_Unframe.f
 repeat' first
   | (with_reducible exact ih0 _ _ _)
   | (with_reducible exact LeO.refl _)
   | (with_reducible refine LeO.ite ?_ ?_)
set_option maxHeartbeats 8000000 in
set_option maxRecDepth 100000 in
theorem impl_Unframe.calls (k : Nat) (a0 : ByteArray) (r1 : List ByteArray) (r2 : Int) (w : World) (h : impl_Unframe.f k a0 = some (r1, r2)) :
  Calls Try.prog 44 #[.string a0] w fun e w' => ∃ v0_ : Value,e = .returned (.tuple #[v0_,.int .i64 r2]) ∧ Kd.R Kd.string 9 w' w.heap.size (fun _ => True) v0_ r1 ∧ Below w.heap.size w w':=by
 have HB:=A_ (Below.refl w.heap.size w);unfold impl_Unframe.f at h;have H:=h;clear h
 by_cases c2 : (a0.size : Int) > 20000
 ·rw [if_pos c2] at H;have c2b0 : decide (20000 < (a0.size : Int)) = true:=de_ c2;have c2b1 : decide (20000 < a0.size) = true:=de_ (by omega);clear c2;simp only [Option.some.injEq,Prod.mk.injEq] at H;obtain ⟨rfl,rfl⟩:=H;go_enter Try.func44,Try.ntmps44;go_wp2;go_ret2;exact ⟨_,by rfl,by exact Kd.R_nil _ _ _ _ _,bq_ HB⟩
 ·rw [if_neg c2] at H;have c2b0 : decide (20000 < (a0.size : Int)) = false:=decide_eq_false c2;have c2b1 : decide (20000 < a0.size) = false:=decide_eq_false (by omega);clear c2;have H':=A_ H;clear H;go_enter Try.func44,Try.ntmps44;go_wp2
  go_loopg [4,5] k (fun kq v4 v5 w' => ∃ (x4_1 : List ByteArray) (x5_1 : Int),v5 = .int .i64 x5_1 ∧ Aside0 (impl_Unframe.l0 kq a0 x4_1 x5_1 = some (r1,r2)) ∧ Aside0 (kq ≤ k) ∧ Aside0 (Kd.R Kd.string 9 w' w.heap.size (fun _ => True) v4 x4_1) ∧ Aside0 (Below w.heap.size w w'))
  case atStart => exact ⟨(([] : List ByteArray)),(0),(by rfl),H',⟨Nat.le_refl _⟩,⟨by exact Kd.R_nil _ _ _ _ _⟩,⟨bq_ HB⟩⟩
  case round =>
   clear H'
   try clear c2
   try clear c2b0
   try clear c2b1
   try clear p2
   obtain ⟨x4_1,x5_1,rfl,HA,HK1,HO_4,HB⟩:=hrel
   cases gk with
   | zero => exact absurd HA.out (by simp [impl_Unframe.l0])
   | succ k1 =>
    have H:=HA.out;clear HA;simp only [impl_Unframe.l0] at H;replace H:=ob_.mp H;obtain ⟨⟨t401,t402,t403⟩,A30,H⟩:=H;(try dsimp only at H);have A3:=A_ A30;clear A30;have HC4:=A_ H;clear H
    go_upto_region 6 with (((with_reducible refine gate_callee (f:=97) rfl ?_);refine gL_ (some 18) Try.func97 #[.string a0,.int .i64 x5_1] ?_;(with_reducible refine (impl_ReadVar.calls k1 a0 x5_1 t401 t402 t403 _ A3.out).mono ?_);rintro e w5 ⟨rfl,hb⟩;refine ⟨_,rfl,?_⟩;replace HO_4:=rB_ HO_4 hb;replace HB:=bS_ HB hb;(try clear hb)))
    go_cut [32] (fun v32 wc => ∃ (kq : Nat) (x32_3 : Bool),v32 = .bool x32_3 ∧ Aside0 (impl_Unframe.j1 kq a0 x4_1 x5_1 t401 t402 x32_3 = some (r1,r2)) ∧ Aside0 (kq ≤ k1) ∧ Aside0 (Kd.R Kd.string 9 wc w.heap.size (fun _ => True) u4 x4_1) ∧ Aside0 (Below w.heap.size w wc))
    case first =>
     have H:=HC4.out;clear HC4
     by_cases c6 : t403 = true
     ·subst c6
      rw [if_pos rfl] at H;have H':=A_ H;clear H;go_wp2
      go_meet
      case rel => exact ⟨_,(decide (t401 > (wrap64 ((wrap64 ((a0.size : Int) - t402)) - 4)))),(by rfl),H',⟨by have:=HK1.out;omega⟩,⟨HO_4.out⟩,⟨bq_ HB⟩⟩
     ·replace c6:=Bool.eq_false_iff.mpr c6;subst c6
      have H1 : (impl_Unframe.j1 k1 a0 x4_1 x5_1 t401 t402 true) = some (r1,r2):=by rw [if_neg (show ¬ (false = true) by decide)] at H;exact H
      clear H;have H:=H1;clear H1;have H':=A_ H;clear H;go_wp2
      go_meet
      case rel => exact ⟨_,(true),(by rfl),H',⟨by have:=HK1.out;omega⟩,⟨HO_4.out⟩,⟨bq_ HB⟩⟩
    case rest =>
     clear HC4
     try clear c2
     try clear c2b0
     try clear c2b1
     try clear p2
     try clear c4
     try clear c6
     try clear p6
     try clear p2
     obtain ⟨kq,x32_3,rfl,HA,HJ3,HO_4,HB⟩:=hcut
     cases kq with
     | zero => exact absurd HA.out (by simp [impl_Unframe.j1])
     | succ kj3 =>
      have H:=HA.out;clear HA;simp only [impl_Unframe.j1] at H
      by_cases c7 : x32_3 = true
      ·subst c7
       rw [if_pos rfl] at H;simp only [Option.some.injEq,Prod.mk.injEq] at H;obtain ⟨rfl,rfl⟩:=H;go_wp2;go_ret2;exact ⟨_,by rfl,by exact HO_4.out,bq_ HB⟩
      ·replace c7:=Bool.eq_false_iff.mpr c7;subst c7
       have H1 : (if 0 ≤ (wrap64 (t402 + 4)) then (if (wrap64 (t402 + 4)) ≤ (wrap64 ((wrap64 (t402 + 4)) + t401)) then (if (wrap64 ((wrap64 (t402 + 4)) + t401)) ≤ (a0.size : Int) then ((impl_Frame.f kj3 (a0.extract ((wrap64 (t402 + 4)) : Int).toNat ((wrap64 ((wrap64 (t402 + 4)) + t401)) : Int).toNat)).bind fun bt404 => (if bt404.2 = true then (if 0 ≤ x5_1 then (if x5_1 ≤ (wrap64 ((wrap64 (t402 + 4)) + t401)) then (if bt404.1.toList = (a0.extract (x5_1 : Int).toNat ((wrap64 ((wrap64 (t402 + 4)) + t401)) : Int).toNat).toList then (if x4_1.length < 8796093022208 then (impl_Unframe.l0 kj3 a0 (x4_1 ++ [a0.extract ((wrap64 (t402 + 4)) : Int).toNat ((wrap64 ((wrap64 (t402 + 4)) + t401)) : Int).toNat]) (wrap64 ((wrap64 (t402 + 4)) + t401))) else (none)) else (some (x4_1,x5_1))) else (none)) else (none)) else (some (x4_1,x5_1)))) else (none)) else (none)) else (none)) = some (r1,r2):=by rw [if_neg (show ¬ (false = true) by decide)] at H;exact H
       clear H;have H:=H1;clear H1;obtain ⟨ji8,hji8⟩ : ∃ j_ : Int,(wrap64 (t402 + 4)) = j_:=⟨_,rfl⟩
       replace H : (if 0 ≤ (ji8) then (if (ji8) ≤ (wrap64 ((ji8) + t401)) then (if (wrap64 ((ji8) + t401)) ≤ (a0.size : Int) then ((impl_Frame.f kj3 (a0.extract ((ji8) : Int).toNat ((wrap64 ((ji8) + t401)) : Int).toNat)).bind fun bt404 => (if bt404.2 = true then (if 0 ≤ x5_1 then (if x5_1 ≤ (wrap64 ((ji8) + t401)) then (if bt404.1.toList = (a0.extract (x5_1 : Int).toNat ((wrap64 ((ji8) + t401)) : Int).toNat).toList then (if x4_1.length < 8796093022208 then (impl_Unframe.l0 kj3 a0 (x4_1 ++ [a0.extract ((ji8) : Int).toNat ((wrap64 ((ji8) + t401)) : Int).toNat]) (wrap64 ((ji8) + t401))) else (none)) else (some (x4_1,x5_1))) else (none)) else (none)) else (some (x4_1,x5_1)))) else (none)) else (none)) else (none)) = some (r1,r2):=by (rw [hji8] at H;exact H)
       have hji8w : (IntKind.i64.wrap (t402 + 4)) = ji8:=(i64_w _).trans hji8
       by_cases c9 : 0 ≤ (ji8)
       ·rw [if_pos c9] at H;have c9b0:=eq_true c9;have c9b1 : decide (0 ≤ (ji8)) = true:=de_ c9;clear c9
        by_cases c10 : (ji8) ≤ (wrap64 ((ji8) + t401))
        ·rw [if_pos c10] at H;have c10b0:=eq_true c10;have c10b1 : decide ((ji8) ≤ (wrap64 ((ji8) + t401))) = true:=de_ c10
         by_cases c11 : (wrap64 ((ji8) + t401)) ≤ (a0.size : Int)
         ·rw [if_pos c11] at H;have c11b0:=eq_true c11;have c11b1 : decide ((wrap64 ((ji8) + t401)) ≤ (a0.size : Int)) = true:=de_ c11;replace H:=ob_.mp H;obtain ⟨⟨t404,t405⟩,A120,H⟩:=H;(try dsimp only at H);have A12:=A_ A120;clear A120
          by_cases c13 : t405 = true
          ·subst c13
           rw [if_pos rfl] at H
           by_cases c14 : 0 ≤ x5_1
           ·rw [if_pos c14] at H;have c14b0:=eq_true c14;have c14b1 : decide (0 ≤ x5_1) = true:=de_ c14;clear c14
            by_cases c15 : x5_1 ≤ (wrap64 ((ji8) + t401))
            ·rw [if_pos c15] at H;have c15b0:=eq_true c15;have c15b1 : decide (x5_1 ≤ (wrap64 ((ji8) + t401))) = true:=de_ c15;have c16b0:=eq_true (oda_ : (wrap64 ((ji8) + t401)) ≤ (a0.size : Int))
             by_cases c17 : t404.toList = (a0.extract (x5_1 : Int).toNat ((wrap64 ((ji8) + t401)) : Int).toNat).toList
             ·rw [if_pos c17] at H;have c17b0 : (t404.toList == (a0.extract (x5_1 : Int).toNat ((wrap64 ((ji8) + t401)) : Int).toNat).toList) = true:=beq_iff_eq.mpr c17;have c17b1 : (t404.toList != (a0.extract (x5_1 : Int).toNat ((wrap64 ((ji8) + t401)) : Int).toNat).toList) = false:=bne_eq_false_iff_eq.mpr c17;clear c17
              by_cases c18 : x4_1.length < 8796093022208
              ·rw [if_pos c18] at H;have LMc18:=A_ c18;clear c18;obtain ⟨y406,hy406⟩ : ∃ y_ : List ByteArray,y_ = (x4_1 ++ [a0.extract ((ji8) : Int).toNat ((wrap64 ((ji8) + t401)) : Int).toNat]):=⟨_,rfl⟩
               replace H : (impl_Unframe.l0 kj3 a0 y406 (wrap64 ((ji8) + t401))) = some (r1,r2):=by (rw [hy406];with_reducible exact H)
               have Ny406:=A_ hy406;clear hy406;have H':=A_ H;clear H
               go_wp2_with (first|((with_reducible refine gate_callee (f:=98) rfl ?_);refine goesL_ (some 45) rfl rfl Try.func98 (by kernel_rfl) rfl #[.string (a0.extract ((ji8) : Int).toNat ((wrap64 ((ji8) + t401)) : Int).toNat)] rfl (by (try simp only [s4_,s5_,s6_]);rfl) ?_;(with_reducible refine (impl_Frame.calls kj3 (a0.extract ((ji8) : Int).toNat ((wrap64 ((ji8) + t401)) : Int).toNat) t404 true _ A12.out).mono ?_);rintro e w19 ⟨rfl,hb⟩;refine ⟨_,rfl,?_⟩;replace HO_4:=rB_ HO_4 hb;replace HB:=bS_ HB hb;(try clear hb))|((with_reducible refine gate_builtin (b:=.append) (xs:=#[.tmp 63,.tmp 65]) rfl ?_);(try (refine gate_guard (by rfl) ?_;dsimp only));at_builtin;refine Kd.R_append Kd.string (w0:=w) w.heap.size rfl (.tmp 63) (.tmp 65) 31 9 (.string ⟨#[]⟩) 16 rfl Try.underlying31 info9 rfl (by decide) (by omega) u4 x4_1 (a0.extract ((ji8) : Int).toNat ((wrap64 ((ji8) + t401)) : Int).toNat) [.string (a0.extract ((ji8) : Int).toNat ((wrap64 ((ji8) + t401)) : Int).toNat)] (fun _ => True) (fun _ => False) rfl rfl ?aP (fun _ hk => hk.elim) ?aF ?aO ?aB ?aS ?aL ?_;(case aP => exact rfl);(case aB => exact (bq_ HB));(case aF => exact (fun _ _ => trivial));(case aO => exact (rq_ HO_4));(case aS => exact (bz_ (bq_ HB)));(case aL => have:=LMc18.out;omega);intro v407 w20 ho hb hg hat;rw [← Ny406.out] at ho;replace HB:=A_ (hb);have HO408:=A_ (ho);clear HO_4;clear ho hb hg hat))
               go_roundg kj3
               case measure => have:=HK1.out;have:=HJ3.out;omega
               case rel => exact ⟨(y406),(wrap64 ((ji8) + t401)),(by rfl),H',⟨by have:=HK1.out;have:=HJ3.out;omega⟩,⟨HO408.out⟩,⟨bq_ HB⟩⟩
              ·rw [if_neg c18] at H;exact absurd H (by simp)
             ·rw [if_neg c17] at H;have c17b0 : (t404.toList == (a0.extract (x5_1 : Int).toNat ((wrap64 ((ji8) + t401)) : Int).toNat).toList) = false:=beq_eq_false_iff_ne.mpr c17;have c17b1 : (t404.toList != (a0.extract (x5_1 : Int).toNat ((wrap64 ((ji8) + t401)) : Int).toNat).toList) = true:=bne_iff_ne.mpr c17;simp only [Option.some.injEq,Prod.mk.injEq] at H;obtain ⟨rfl,rfl⟩:=H
              go_wp2_with (((with_reducible refine gate_callee (f:=98) rfl ?_);refine goesL_ (some 45) rfl rfl Try.func98 (by kernel_rfl) rfl #[.string (a0.extract ((ji8) : Int).toNat ((wrap64 ((ji8) + t401)) : Int).toNat)] rfl (by (try simp only [s4_,s5_,s6_]);rfl) ?_;(with_reducible refine (impl_Frame.calls kj3 (a0.extract ((ji8) : Int).toNat ((wrap64 ((ji8) + t401)) : Int).toNat) t404 true _ A12.out).mono ?_);rintro e w21 ⟨rfl,hb⟩;refine ⟨_,rfl,?_⟩;replace HO_4:=rB_ HO_4 hb;replace HB:=bS_ HB hb;(try clear hb)))
              go_ret2;exact ⟨_,by rfl,by exact HO_4.out,bq_ HB⟩
            ·rw [if_neg c15] at H;exact absurd H (by simp)
           ·rw [if_neg c14] at H;exact absurd H (by simp)
          ·replace c13:=Bool.eq_false_iff.mpr c13;subst c13
           have H1 : (some (x4_1,x5_1)) = some (r1,r2):=by rw [if_neg (show ¬ (false = true) by decide)] at H;exact H
           clear H;have H:=H1;clear H1;simp only [Option.some.injEq,Prod.mk.injEq] at H;obtain ⟨rfl,rfl⟩:=H
           go_wp2_with (((with_reducible refine gate_callee (f:=98) rfl ?_);refine goesL_ (some 45) rfl rfl Try.func98 (by kernel_rfl) rfl #[.string (a0.extract ((ji8) : Int).toNat ((wrap64 ((ji8) + t401)) : Int).toNat)] rfl (by (try simp only [s4_,s5_,s6_]);rfl) ?_;(with_reducible refine (impl_Frame.calls kj3 (a0.extract ((ji8) : Int).toNat ((wrap64 ((ji8) + t401)) : Int).toNat) t404 false _ A12.out).mono ?_);rintro e w22 ⟨rfl,hb⟩;refine ⟨_,rfl,?_⟩;replace HO_4:=rB_ HO_4 hb;replace HB:=bS_ HB hb;(try clear hb)))
           go_ret2;exact ⟨_,by rfl,by exact HO_4.out,bq_ HB⟩
         ·rw [if_neg c11] at H;exact absurd H (by simp)
        ·rw [if_neg c10] at H;exact absurd H (by simp)
       ·rw [if_neg c9] at H;exact absurd H (by simp)
def IsS106 (w0 W : World) (g : Nat) (f0 : ByteArray) (f1 : Int) (f2 : Bool) : Prop := W.heap[g]? = some (.cells #[.string f0, .int .i64 f1, .bool f2] 106 (0, 0)) ∧ w0.heap.size ≤ g
theorem IsS106.grown {w0 W : World} {g : Nat} {f0 : ByteArray} {f1 : Int} {f2 : Bool} {W1 : World} {row : Option Nat} (h : IsS106 w0 W g f0 f1 f2) (hw : W.grownBy W1 row) (hne : some g ≠ row) : IsS106 w0 W1 g f0 f1 f2 := by
 obtain ⟨hb,hg⟩:=h;exact ⟨kg_ hb hw hne,hg⟩
theorem IsS106.own_neN {w0 W : World} {g : Nat} {f0 : ByteArray} {f1 : Int} {f2 : Bool} {α : Type} {d : Kd α} {e : Nat} {base : Nat} {ok : Nat → Prop} {v : Value} {xs : List α} (h : IsS106 w0 W g f0 f1 f2) (ho : Kd.N d e W base ok v xs) (ht : e ≠ 106) : some g ≠ v.ownBlock := by
 obtain ⟨hb,hg⟩:=h;exact Kd.N_ne ho hb ht
theorem IsS106.fresh {w0 W : World} {g : Nat} {f0 : ByteArray} {f1 : Int} {f2 : Bool} (h : IsS106 w0 W g f0 f1 f2) : ∀ k, W.heap.size ≤ k → k ≠ g := by
 obtain ⟨hb,hg⟩:=h;exact Kd.freshB hb
theorem IsS106.kept {w0 W : World} {g : Nat} {f0 : ByteArray} {f1 : Int} {f2 : Bool} {W1 : World} {S : Nat → Prop} (h : IsS106 w0 W g f0 f1 f2) (hk : Kept W W1 S) (hne : ¬ S g) : IsS106 w0 W1 g f0 f1 f2 := by
 obtain ⟨hb,hg⟩:=h;exact ⟨blk_kept hb hk hne,hg⟩
theorem IsS106.below {w0 W : World} {g : Nat} {f0 : ByteArray} {f1 : Int} {f2 : Bool} {W1 : World} (h : IsS106 w0 W g f0 f1 f2) (hw : Below W.heap.size W W1) : IsS106 w0 W1 g f0 f1 f2 := h.grown (grown_of_below hw none) (by simp)
theorem IsS106.alloc {w0 W : World} {g : Nat} {f0 : ByteArray} {f1 : Int} {f2 : Bool} (h : IsS106 w0 W g f0 f1 f2) (o : Obj) : IsS106 w0 (W.alloc o) g f0 f1 f2 := h.below (below_alloc (Below.refl _ _) o)
theorem IsS106.drewN {w0 W : World} {g : Nat} {f0 : ByteArray} {f1 : Int} {f2 : Bool} (h : IsS106 w0 W g f0 f1 f2) (m : Nat) : IsS106 w0 (W.drewN m) g f0 f1 f2 := h
theorem IsS106.drew {w0 W : World} {g : Nat} {f0 : ByteArray} {f1 : Int} {f2 : Bool} (h : IsS106 w0 W g f0 f1 f2) : IsS106 w0 W.drew g f0 f1 f2 := h
theorem IsS106.at_ {w0 W : World} {g : Nat} {f0 : ByteArray} {f1 : Int} {f2 : Bool} {w' : World} {m : Nat} (hq : W.drewN m = w') (h : IsS106 w0 W g f0 f1 f2) : IsS106 w0 w' g f0 f1 f2 := by subst hq; exact IsS106.drewN h m
theorem IsS106.apart {w0 W : World} {g : Nat} {f0 : ByteArray} {f1 : Int} {f2 : Bool} {α : Type} {d : Kd α} {e : Nat} {base : Nat} {ok : Nat → Prop} {v : Value} {xs : List α} (h : IsS106 w0 W g f0 f1 f2) (ho : d.R e W base ok v xs) (ht : ∀ q, q ∈ e :: d.E → q ≠ 106) : d.R e W base (fun k => ok k ∧ k ≠ g) v xs := by
 obtain ⟨hb,hg⟩:=h;exact Kd.R_types ho hb ht
theorem IsS106.own_ne {w0 W : World} {g : Nat} {f0 : ByteArray} {f1 : Int} {f2 : Bool} {α : Type} {d : Kd α} {e : Nat} {base : Nat} {ok : Nat → Prop} {v : Value} {xs : List α} (h : IsS106 w0 W g f0 f1 f2) (ho : d.R e W base ok v xs) (ht : e ≠ 106) : some g ≠ v.ownBlock := by
 obtain ⟨hb,hg⟩:=h;exact re_ ho hb ht
theorem IsS106.apartQ {w0 W : World} {g : Nat} {f0 : ByteArray} {f1 : Int} {f2 : Bool} {α : Type} {d : Kd α} {e : Nat} {base : Nat} {ok : Nat → Prop} {v : Value} {xs : List α} (h : IsS106 w0 W g f0 f1 f2) (ho : d.Q e W base ok v xs) (ht : ∀ q, q ∈ e :: d.E → q ≠ 106) : d.Q e W base (fun k => ok k ∧ k ≠ g) v xs := by
 obtain ⟨hb,hg⟩:=h;exact Kd.Q_types ho hb ht
theorem IsS106.own_neQ {w0 W : World} {g : Nat} {f0 : ByteArray} {f1 : Int} {f2 : Bool} {α : Type} {d : Kd α} {e : Nat} {base : Nat} {ok : Nat → Prop} {v : Value} {xs : List α} (h : IsS106 w0 W g f0 f1 f2) (ho : d.Q e W base ok v xs) (ht : e ≠ 106) : some g ≠ v.ownBlock := by
 obtain ⟨hb,hg⟩:=h;exact Kd.Q_ne ho hb ht
theorem IsS106.apartS {w0 W : World} {g : Nat} {f0 : ByteArray} {f1 : Int} {f2 : Bool} {α : Type} {d : Kd α} {e : Nat} {base : Nat} {ok : Nat → Prop} {v : Value} {xs : List α} (h : IsS106 w0 W g f0 f1 f2) (ho : d.S e W base ok v xs) (ht : ∀ q, q ∈ e :: d.E → q ≠ 106) : d.S e W base (fun k => ok k ∧ k ≠ g) v xs := by
 obtain ⟨hb,hg⟩:=h;exact Kd.S_types ho hb ht
theorem IsS106.own_neS {w0 W : World} {g : Nat} {f0 : ByteArray} {f1 : Int} {f2 : Bool} {α : Type} {d : Kd α} {e : Nat} {base : Nat} {ok : Nat → Prop} {v : Value} {xs : List α} (h : IsS106 w0 W g f0 f1 f2) (ho : d.S e W base ok v xs) (ht : e ≠ 106) : some g ≠ v.ownBlock := by
 obtain ⟨hb,hg⟩:=h;exact Kd.S_ne ho hb ht
theorem IsS106.lt {w0 W : World} {g : Nat} {f0 : ByteArray} {f1 : Int} {f2 : Bool} (h : IsS106 w0 W g f0 f1 f2) : g < W.heap.size := by
 obtain ⟨hb,hg⟩:=h;exact kl_ hb
theorem IsS106.ge {w0 W : World} {g : Nat} {f0 : ByteArray} {f1 : Int} {f2 : Bool} (h : IsS106 w0 W g f0 f1 f2) : w0.heap.size ≤ g := by
 obtain ⟨hb,hg⟩:=h;exact hg
theorem IsS106.ne_blk {w0 W : World} {g : Nat} {f0 : ByteArray} {f1 : Int} {f2 : Bool} {a : Nat} {cs : Array Value} {t : TypeId} {fr : Nat × Nat} (h : IsS106 w0 W g f0 f1 f2) (hb2 : W.heap[a]? = some (.cells cs t fr)) (ht : t ≠ 106) : g ≠ a := by
 obtain ⟨hb,hg⟩:=h;rintro rfl;rw [hb] at hb2
 injection hb2 with hb2
 injection hb2 with _ ht2
 exact ht ht2.symm
theorem IsS106.far {w0 W : World} {g : Nat} {f0 : ByteArray} {f1 : Int} {f2 : Bool} {p : Addr} (h : IsS106 w0 W g f0 f1 f2) (hne : g ≠ p.block) (u : Value) : IsS106 w0 (W.setCell p u) g f0 f1 f2 := by
 obtain ⟨hb,hg⟩:=h;exact ⟨kr_ hb hne u,hg⟩
theorem cellS106_0 {W : World} {g : Nat} {f0 : ByteArray} {f1 : Int} {f2 : Bool} (h : W.heap[g]? = some (.cells #[.string f0, .int .i64 f1, .bool f2] 106 (0, 0))) : W.cell? ⟨g, 0, none⟩ = some (.string f0) := (blk_cell h 0).trans rfl
theorem IsS106.set_0 {w0 W : World} {g : Nat} {f0 : ByteArray} {f1 : Int} {f2 : Bool} (h : IsS106 w0 W g f0 f1 f2) (x : ByteArray) : IsS106 w0 (W.setCell ⟨g, 0, none⟩ (.string x)) g x f1 f2 := by
 obtain ⟨hb,hg⟩:=h;exact ⟨by simpa using blk_set hb 0 (.string x),hg⟩
theorem cellS106_1 {W : World} {g : Nat} {f0 : ByteArray} {f1 : Int} {f2 : Bool} (h : W.heap[g]? = some (.cells #[.string f0, .int .i64 f1, .bool f2] 106 (0, 0))) : W.cell? ⟨g, 1, none⟩ = some (.int .i64 f1) := (blk_cell h 1).trans rfl
theorem IsS106.set_1 {w0 W : World} {g : Nat} {f0 : ByteArray} {f1 : Int} {f2 : Bool} (h : IsS106 w0 W g f0 f1 f2) (x : Int) : IsS106 w0 (W.setCell ⟨g, 1, none⟩ (.int .i64 x)) g f0 x f2 := by
 obtain ⟨hb,hg⟩:=h;exact ⟨by simpa using blk_set hb 1 (.int .i64 x),hg⟩
theorem cellS106_2 {W : World} {g : Nat} {f0 : ByteArray} {f1 : Int} {f2 : Bool} (h : W.heap[g]? = some (.cells #[.string f0, .int .i64 f1, .bool f2] 106 (0, 0))) : W.cell? ⟨g, 2, none⟩ = some (.bool f2) := (blk_cell h 2).trans rfl
theorem IsS106.set_2 {w0 W : World} {g : Nat} {f0 : ByteArray} {f1 : Int} {f2 : Bool} (h : IsS106 w0 W g f0 f1 f2) (x : Bool) : IsS106 w0 (W.setCell ⟨g, 2, none⟩ (.bool x)) g f0 f1 x := by
 obtain ⟨hb,hg⟩:=h;exact ⟨by simpa using blk_set hb 2 (.bool x),hg⟩
theorem IsS106.new (w0 W : World) (f0 : ByteArray) (f1 : Int) (f2 : Bool) (hB : Below w0.heap.size w0 W) : IsS106 w0 (W.alloc (.cells #[.string f0, .int .i64 f1, .bool f2] 106)) W.heap.size f0 f1 f2 := ⟨by simpa using heap_alloc_new W _, hB.size⟩
theorem iq106_ {p q : Prop} (B : Aside0 q) (h : q → p := by intro h_;repeat (first|(with_reducible first|exact h_|apply IsS106.alloc|apply IsS106.drewN|apply IsS106.drew|apply IsS106.set_0|apply IsS106.set_1|apply IsS106.set_2|refine IsS106.far ?_ (Aside0.out (by assumption)) _)|exact h_)) : p := h B.out
def impl_reader_byte.f (s0_0 : ByteArray) (s0_1 : Int) (s0_2 : Bool) : Option (Int × ByteArray × Int × Bool) := if s0_2 = true then (some (0, s0_0, s0_1, true)) else (if s0_1 ≥ (s0_0.size : Int) then (some (0, s0_0, s0_1, true)) else (if 0 ≤ (wrap64 ((wrap64 (s0_1 + 1)) - 1)) then (if (wrap64 ((wrap64 (s0_1 + 1)) - 1)) < (s0_0.size : Int) then (some (wrap64 (bt s0_0 (wrap64 ((wrap64 (s0_1 + 1)) - 1))), s0_0, wrap64 (s0_1 + 1), s0_2)) else (none)) else (none)))
set_option maxHeartbeats 8000000 in
set_option maxRecDepth 100000 in
theorem impl_reader_byte.calls (g : Nat) (s0_0 : ByteArray) (s0_1 : Int) (s0_2 : Bool) (r1 : Int) (r2 : ByteArray) (r3 : Int) (r4 : Bool) (w0 w : World) (hI : IsS106 w0 w g s0_0 s0_1 s0_2) (hB : Below w0.heap.size w0 w) (h : impl_reader_byte.f s0_0 s0_1 s0_2 = some (r1, r2, r3, r4)) :
  Calls Try.prog 65 #[.pointer (some ⟨g,0,none⟩)] w fun e w' => e = .returned (.int .i64 r1) ∧ IsS106 w0 w' g r2 r3 r4 ∧ Below w0.heap.size w0 w' ∧ KeepBut w w' g none:=by
 have HI0:=A_ hI;have HK:=A_ (KeepBut.refl w g none);have HL:=A_ hB.size;clear hI;have HW0:=A_ hB.size;have HB:=A_ hB;clear hB;unfold impl_reader_byte.f at h;have H:=h;clear h
 by_cases c2 : s0_2 = true
 ·subst c2
  rw [if_pos rfl] at H;simp only [Option.some.injEq,Prod.mk.injEq] at H;obtain ⟨rfl,rfl,rfl,rfl⟩:=H;obtain ⟨HGz3,hgz3⟩:=HI0.out;have hcz3_0:=cellS106_0 HGz3;have hcz3_1:=cellS106_1 HGz3;have hcz3_2:=cellS106_2 HGz3;have hfz3_0:=kf_ HGz3 0;have hfz3_1:=kf_ HGz3 1;have hfz3_2:=kf_ HGz3 2;clear HGz3 hgz3;go_enter Try.func65,Try.ntmps65;go_wp2
  repeat (go_quiet (fail);try go_wp2)
  go_ret;exact ⟨ex_,iq106_ HI0,bi_ HB (IsS106.ge HI0.out),hq_ HK⟩
 ·replace c2:=Bool.eq_false_iff.mpr c2;subst c2
  have H1 : (if s0_1 ≥ (s0_0.size : Int) then (some (0,s0_0,s0_1,true)) else (if 0 ≤ (wrap64 ((wrap64 (s0_1 + 1)) - 1)) then (if (wrap64 ((wrap64 (s0_1 + 1)) - 1)) < (s0_0.size : Int) then (some (wrap64 (bt s0_0 (wrap64 ((wrap64 (s0_1 + 1)) - 1))),s0_0,wrap64 (s0_1 + 1),false)) else (none)) else (none))) = some (r1,r2,r3,r4):=by rw [if_neg (show ¬ (false = true) by decide)] at H;exact H
  clear H;have H:=H1;clear H1
  by_cases c4 : s0_1 ≥ (s0_0.size : Int)
  ·rw [if_pos c4] at H;have c4b0 : decide ((s0_0.size : Int) ≤ s0_1) = true:=de_ c4;clear c4;simp only [Option.some.injEq,Prod.mk.injEq] at H;obtain ⟨rfl,rfl,rfl,rfl⟩:=H;obtain ⟨HGz5,hgz5⟩:=HI0.out;have hcz5_0:=cellS106_0 HGz5;have hcz5_1:=cellS106_1 HGz5;have hcz5_2:=cellS106_2 HGz5;have hfz5_0:=kf_ HGz5 0;have hfz5_1:=kf_ HGz5 1;have hfz5_2:=kf_ HGz5 2;clear HGz5 hgz5;go_enter Try.func65,Try.ntmps65;go_wp2
   repeat (go_quiet (fail);try go_wp2)
   go_ret;exact ⟨ex_,iq106_ HI0,bi_ HB (IsS106.ge HI0.out),hq_ HK⟩
  ·rw [if_neg c4] at H;have c4b0 : decide ((s0_0.size : Int) ≤ s0_1) = false:=decide_eq_false c4;clear c4;obtain ⟨ji6,hji6⟩ : ∃ j_ : Int,(wrap64 ((wrap64 (s0_1 + 1)) - 1)) = j_:=⟨_,rfl⟩
   replace H : (if 0 ≤ (ji6) then (if (ji6) < (s0_0.size : Int) then (some (wrap64 (bt s0_0 (ji6)),s0_0,wrap64 (s0_1 + 1),false)) else (none)) else (none)) = some (r1,r2,r3,r4):=by (rw [hji6] at H;exact H)
   have hji6w : (IntKind.i64.wrap ((wrap64 (s0_1 + 1)) - 1)) = ji6:=(i64_w _).trans hji6
   by_cases c7 : 0 ≤ (ji6)
   ·rw [if_pos c7] at H;have c7b0 : decide (0 ≤ (ji6)) = true:=de_ c7;clear c7
    by_cases c8 : (ji6) < (s0_0.size : Int)
    ·rw [if_pos c8] at H;have c8b0 : decide ((ji6) < (s0_0.size : Int)) = true:=de_ c8;clear c8;simp only [Option.some.injEq,Prod.mk.injEq] at H;obtain ⟨rfl,rfl,rfl,rfl⟩:=H;obtain ⟨HGz10,hgz10⟩:=HI0.out;have hcz10_0:=cellS106_0 HGz10;have hcz10_1:=cellS106_1 HGz10;have hcz10_2:=cellS106_2 HGz10;have hfz10_0:=kf_ HGz10 0;have hfz10_1:=kf_ HGz10 1;have hfz10_2:=kf_ HGz10 2;clear HGz10 hgz10;have p9 : 0 ≤ ((ji6) : Int):=oda_;have q9 : (ji6) < (s0_0.size : Int):=oda_;have hx9:=bt_at s0_0 (ji6);replace p9:=eq_true p9;replace q9:=eq_true q9;go_enter Try.func65,Try.ntmps65;go_wp2
     repeat (go_quiet (fail);try go_wp2)
     go_ret;exact ⟨by rfl,iq106_ HI0,bi_ HB (IsS106.ge HI0.out),hq_ HK⟩
    ·rw [if_neg c8] at H;exact absurd H (by simp)
   ·rw [if_neg c7] at H;exact absurd H (by simp)
end Go.Proofs.Ytbcgnncbiblibaa.PFnExactLogSteps
