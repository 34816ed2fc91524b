/- The contracts of Go functions that this law reaches: what each call returns, by a plain Lean function of its arguments, under the conditions that each names. By the kit's print.py, run by this repo's wip/gen/pp.py: not to the letter what print.sh prints. -/
import Derived.Test.YtbcgnncbiblibaaPFnMessagesx0
import Derived.Test.YtbcgnncbiblibaaPFnMessagesx10
import Derived.Test.YtbcgnncbiblibaaPFnMessagesx20
import Derived.Test.YtbcgnncbiblibaaPFnMessagesx24
namespace Go.Proofs.Ytbcgnncbiblibaa.PFnMessages
open Go.RowKit Go.Proofs.YtbcgnncbiblibaaW.PrintWords Go.Proofs.YtbcgnncbiblibaaW.PrintLast Go.Proofs.YtbcgnncbiblibaaW.PrintMore
attribute [local go_sem] max2_int min2_int max_two min_two max_three min_three max_four min_four
set_option linter.unusedVariables false
set_option linter.unusedSimpArgs false
def spec_l02Spoilt.j0 : Nat → ByteArray → Bool → List Int → Int → Int → Option (ByteArray × Int × Int)
 | 0,_,_,_,_,_ => none
 | k + 1,x1,x23,x1000,x1001,x1002 => if x23 = true then (if (x1.size : Int) > 0 then ((spec_l01Below.f x1000 x1001 x1002 (x1.size : Int)).bind fun bt739 => (if 0 ≤ bt739.1 then (if bt739.1 ≤ (x1.size : Int) then ((spec_l01Text.f k x1000 bt739.2.1 bt739.2.2 1).bind fun bt742 => (if (x1.extract 0 (bt739.1 : Int).toNat).size + bt742.1.size ≤ 9223372036854775807 then (if 0 ≤ (wrap64 (bt739.1 + 1)) then (if (wrap64 (bt739.1 + 1)) ≤ (x1.size : Int) then (if ((x1.extract 0 (bt739.1 : Int).toNat) ++ bt742.1).size + (x1.extract ((wrap64 (bt739.1 + 1)) : Int).toNat x1.size).size ≤ 9223372036854775807 then (some (((x1.extract 0 (bt739.1 : Int).toNat) ++ bt742.1) ++ (x1.extract ((wrap64 (bt739.1 + 1)) : Int).toNat x1.size),bt742.2.1,bt742.2.2)) else (none)) else (none)) else (none)) else (none))) else (none)) else (none))) else (some (x1,x1001,x1002))) else (some (x1,x1001,x1002))
def spec_l02Spoilt.f (k : Nat) (s0_0 : List Int) (s0_1 s0_2 : Int) (a1 : ByteArray) : Option (ByteArray × Int × Int) := (spec_l01Below.f s0_0 s0_1 s0_2 12).bind fun bt730 => (if bt730.1 = 0 then ((spec_l01Text.f k s0_0 bt730.2.1 bt730.2.2 1).bind fun bt733 => (if a1.size + bt733.1.size ≤ 9223372036854775807 then (some (a1 ++ bt733.1, bt733.2.1, bt733.2.2)) else (none))) else (if bt730.1 = 1 then ((spec_l01Below.f s0_0 bt730.2.1 bt730.2.2 (wrap64 ((a1.size : Int) + 1))).bind fun bt736 => (if 0 ≤ bt736.1 then (if bt736.1 ≤ (a1.size : Int) then (some (a1.extract 0 (bt736.1 : Int).toNat, bt736.2.1, bt736.2.2)) else (none)) else (none))) else (if bt730.1 = 2 then (spec_l02Spoilt.j0 k a1 (bt730.1 == 2) s0_0 bt730.2.1 bt730.2.2) else (spec_l02Spoilt.j0 k a1 (bt730.1 == 3) s0_0 bt730.2.1 bt730.2.2))))
theorem spec_l02Spoilt.mono_l : ∀ k, (∀ y0 y1 y2 y3 y4, LeO (spec_l02Spoilt.j0 k y0 y1 y2 y3 y4) (spec_l02Spoilt.j0 (k + 1) y0 y1 y2 y3 y4))
 | 0 => fun _ _ _ _ _ r h => by simp [spec_l02Spoilt.j0] at h
 | k + 1 => by
  have ih0:=spec_l02Spoilt.mono_l k
  ·intro y0 y1 y2 y3 y4
   unfold spec_l02Spoilt.j0
   repeat' first
   | (with_reducible exact spec_l01Text.mono _ _ _ _ _)
   | (with_reducible exact LeO.refl _)
   | (with_reducible refine LeO.ite ?_ ?_)
   | (with_reducible refine LeO.bind ?_ (fun _ => ?_))
theorem spec_l02Spoilt.mono : ∀ a0 a1 a2 a3 k, LeO (spec_l02Spoilt.f k a0 a1 a2 a3) (spec_l02Spoilt.f (k + 1) a0 a1 a2 a3) := by
 intro a0 a1 a2 a3 k;have ih0:=spec_l02Spoilt.mono_l k
 unfold spec_l02Spoilt.f
 repeat' first
   | (with_reducible exact ih0 _ _ _ _ _)
   | (with_reducible exact spec_l01Text.mono _ _ _ _ _)
   | (with_reducible exact LeO.refl _)
   | (with_reducible refine LeO.ite ?_ ?_)
   | (with_reducible refine LeO.bind ?_ (fun _ => ?_))
def spec_l02Spoilt.T10 : Bool × List (List Nat × List Nat) := (true, [([], []), ([], []), ([0, 1], [0, 1]), ([], []), ([3], [3]), ([2, 4], [2, 4]), ([], []), ([], []), ([7], [7]), ([6, 8], [6, 8]), ([5, 9], [5, 9]), ([10, 4, 0, 1, 2, 3, 4, 5, 6, 7, 8, 9, 10], [10])])
def spec_l02Spoilt.B10 : List Nat := [0, 0, 3, 0, 8, 31, 0, 0, 128, 448, 1023, 2047]
theorem spec_l02Spoilt.tab10 : rtab .any (opsOf Try.f85 10) = spec_l02Spoilt.T10 := by kernel_rfl
theorem spec_l02Spoilt.bits10 : waitsOk spec_l02Spoilt.T10.2 spec_l02Spoilt.B10 = true := by kernel_rfl
set_option maxHeartbeats 8000000 in
set_option maxRecDepth 100000 in
theorem spec_l02Spoilt.calls (k g : Nat) (s0_0 : List Int) (s0_1 s0_2 : Int) (a1 r1 : ByteArray) (r2 r3 : Int) (w0 w : World) (hI : IsS146 w0 w g s0_0 s0_1 s0_2) (hB : Below w0.heap.size w0 w) (h : spec_l02Spoilt.f k s0_0 s0_1 s0_2 a1 = some (r1, r2, r3)) :
  Calls Try.prog 85 #[.pointer (some ⟨g,0,none⟩),.string a1] w fun e w' => e = .returned (.string r1) ∧ IsS146 w0 w' g s0_0 r2 r3 ∧ Below w0.heap.size w0 w' ∧ KeepBut w w' g none:=by
 have HI0:=A_ hI;have HK:=A_ (KeepBut.refl w g none);have HL:=A_ hB.size;clear hI;have HW0:=A_ hB.size;have HB:=A_ hB;clear hB;unfold spec_l02Spoilt.f at h;have H:=h;clear h;obtain ⟨⟨t730,t731,t732⟩,A3,H⟩:=oB_ H;(try dsimp only at H);have HC4:=A_ H;clear H;go_enter Try.func85,Try.ntmps85
 go_upto_if 8 with (((with_reducible refine gate_callee (f:=111) rfl ?_);refine gL_ (some 7) Try.func111 #[.pointer (some ⟨g,0,none⟩),.int .i64 12] ?_;(with_reducible refine (spec_l01Below.calls g s0_0 s0_1 s0_2 12 t730 t731 t732 w0 _ ?side1 ?side2 A3.out).mono ?_);(case side1 => exact iq146_ HI0);(case side2 => exact bi_ HB (IsS146.ge HI0.out));rintro e w5 ⟨rfl,hi,hb,hk⟩;refine ⟨_,rfl,?_⟩;replace HK:=hT_ HK hk;replace HB:=A_ hb;replace HI0:=A_ hi;(try clear hb);(try clear hk);(try clear hi)))
 have H:=HC4.out;clear HC4
 by_cases c6 : t730 = 0
 ·rw [if_pos c6] at H;have c6b0:=beq_iff_eq.mpr c6;have c6b1:=bne_eq_false_iff_eq.mpr c6;clear c6
  (rw [c6b0])
  obtain ⟨⟨t733,t734,t735⟩,A7,H⟩:=oB_ H;(try dsimp only at H)
  by_cases c8 : a1.size + t733.size ≤ 9223372036854775807
  ·rw [if_pos c8] at H;have c8b0:=eq_true c8;have c8b1:=de_ c8
   try have c8b2 : (9223372036854775807 < a1.size + t733.size) = False:=eq_false (Nat.not_lt.2 c8)
   simp only [Option.some.injEq,Prod.mk.injEq] at H;obtain ⟨rfl,rfl,rfl⟩:=H
   go_wp2_with (((with_reducible refine gate_callee (f:=118) rfl ?_);refine gL_ (some 12) Try.func118 #[.pointer (some ⟨g,0,none⟩),.int .i64 1] ?_;(with_reducible refine (spec_l01Text.calls k g s0_0 t731 t732 1 t733 t734 t735 w0 _ ?side1 ?side2 A7.out).mono ?_);(case side1 => exact iq146_ HI0);(case side2 => exact bi_ HB (IsS146.ge HI0.out));rintro e w9 ⟨rfl,hi,hb,hk⟩;refine ⟨_,rfl,?_⟩;replace HK:=hT_ HK hk;replace HB:=A_ hb;replace HI0:=A_ hi;(try clear hb);(try clear hk);(try clear hi)))
   go_ret;exact ⟨ex_,iq146_ HI0,bi_ HB (IsS146.ge HI0.out),hq_ HK⟩
  rw [if_neg c8] at H;exact absurd H (by simp)
 rw [if_neg c6] at H;have c6b0:=beq_eq_false_iff_ne.mpr c6;have c6b1:=bne_iff_ne.mpr c6
 (rw [c6b0])
 by_cases c10 : t730 = 1
 ·rw [if_pos c10] at H;have c10b0:=beq_iff_eq.mpr c10;have c10b1:=bne_eq_false_iff_eq.mpr c10;clear c10;obtain ⟨⟨t736,t737,t738⟩,A11,H⟩:=oB_ H;(try dsimp only at H)
  by_cases c12 : 0 ≤ t736
  ·rw [if_pos c12] at H;have c12b0:=eq_true c12;have c12b1:=de_ c12;clear c12
   by_cases c13 : t736 ≤ (a1.size : Int)
   ·rw [if_pos c13] at H;have c13b0:=eq_true c13;have c13b1:=de_ c13;clear c13;simp only [Option.some.injEq,Prod.mk.injEq] at H;obtain ⟨rfl,rfl,rfl⟩:=H
    go_wp2_with (((with_reducible refine gate_callee (f:=111) rfl ?_);refine gL_ (some 21) Try.func111 #[.pointer (some ⟨g,0,none⟩),.int .i64 (wrap64 ((a1.size : Int) + 1))] ?_;(with_reducible refine (spec_l01Below.calls g s0_0 t731 t732 (wrap64 ((a1.size : Int) + 1)) t736 t737 t738 w0 _ ?side1 ?side2 A11.out).mono ?_);(case side1 => exact iq146_ HI0);(case side2 => exact bi_ HB (IsS146.ge HI0.out));rintro e w14 ⟨rfl,hi,hb,hk⟩;refine ⟨_,rfl,?_⟩;replace HK:=hT_ HK hk;replace HB:=A_ hb;replace HI0:=A_ hi;(try clear hb);(try clear hk);(try clear hi)))
    go_ret;exact ⟨ex_,iq146_ HI0,bi_ HB (IsS146.ge HI0.out),hq_ HK⟩
   rw [if_neg c13] at H;exact absurd H (by simp)
  rw [if_neg c12] at H;exact absurd H (by simp)
 rw [if_neg c10] at H;have c10b0:=beq_eq_false_iff_ne.mpr c10;have c10b1:=bne_iff_ne.mpr c10;have HC15:=A_ H;clear H
 go_upto_if 23 with (fail)
 go_cut [23] (fun v23 wc => ∃ (kq : Nat) (x23_14 : Bool),v23 = .bool x23_14 ∧ Aside0 (spec_l02Spoilt.j0 kq a1 x23_14 s0_0 t731 t732 = some (r1,r2,r3)) ∧ Aside0 (kq ≤ k) ∧ Aside0 (IsS146 w0 wc g s0_0 t731 t732) ∧ Aside0 (KeepBut w wc g none) ∧ Aside0 (Below w0.heap.size w0 wc))
 case first =>
  have H:=HC15.out;clear HC15
  by_cases c16 : t730 = 2
  ·rw [if_pos c16] at H;have c16b0:=beq_iff_eq.mpr c16;have c16b1:=bne_eq_false_iff_eq.mpr c16;clear c16
   (rw [c16b0])
   have H':=A_ H;clear H;go_wp2
   go_meet
   case rel => exact ⟨_,((t730 == 2)),(by (simp [*];done)),H',⟨by omega⟩,⟨iq146_ HI0⟩,⟨hq_ HK⟩,⟨bi_ HB (IsS146.ge HI0.out)⟩⟩
  rw [if_neg c16] at H;have c16b0:=beq_eq_false_iff_ne.mpr c16;have c16b1:=bne_iff_ne.mpr c16
  (rw [c16b0])
  have H':=A_ H;clear H;go_wp2
  go_meet
  case rel => exact ⟨_,((t730 == 3)),(by rfl),H',⟨by omega⟩,⟨iq146_ HI0⟩,⟨hq_ HK⟩,⟨bi_ HB (IsS146.ge HI0.out)⟩⟩
 case rest =>
  clear HC15
  (try clear c1);(try clear p2);(try clear c6);(try clear c6b0);(try clear c6b1);(try clear p6);(try clear c8);(try clear c8b0);(try clear c8b1);(try clear c8b2);(try clear c10);(try clear c10b0);(try clear c10b1);(try clear c11);(try clear c12);(try clear c12b0);(try clear c12b1);(try clear c13);(try clear c13b0);(try clear c13b1);(try clear c16);(try clear c16b0);(try clear c16b1)
  obtain ⟨kq,x23_14,rfl,HA,HJ14,HI0,HK,HB⟩:=hcut
  cases kq with
  | zero => exact absurd HA.out (by simp [spec_l02Spoilt.j0])
  | succ kj14 =>
   have H:=HA.out;clear HA;simp only [spec_l02Spoilt.j0] at H
   by_cases c17 : x23_14 = true;rotate_left
   ·replace c17:=Bool.eq_false_iff.mpr c17;subst c17
    have H1 : (some (a1,t731,t732)) = some (r1,r2,r3):=by rw [if_neg (show ¬ (false = true) by decide)] at H;exact H
    clear H;have H:=H1;clear H1;simp only [Option.some.injEq,Prod.mk.injEq] at H;obtain ⟨rfl,rfl,rfl⟩:=H;go_wp2;go_ret;exact ⟨ex_,iq146_ HI0,bi_ HB (IsS146.ge HI0.out),hq_ HK⟩
   subst c17
   rw [if_pos rfl] at H
   by_cases c18 : (a1.size : Int) > 0;rotate_left
   ·rw [if_neg c18] at H;have c18b0:=decide_eq_false c18;have c18b1 : decide (0 < a1.size) = false:=decide_eq_false (by omega);clear c18;simp only [Option.some.injEq,Prod.mk.injEq] at H;obtain ⟨rfl,rfl,rfl⟩:=H;go_wp2;go_ret;exact ⟨ex_,iq146_ HI0,bi_ HB (IsS146.ge HI0.out),hq_ HK⟩
   rw [if_pos c18] at H;have c18b0:=de_ c18;have c18b1 : decide (0 < a1.size) = true:=de_ (by omega);clear c18;obtain ⟨⟨t739,t740,t741⟩,A19,H⟩:=oB_ H;(try dsimp only at H)
   by_cases c20 : 0 ≤ t739;rotate_left
   ·rw [if_neg c20] at H;exact absurd H (by simp)
   rw [if_pos c20] at H;have c20b0:=eq_true c20;have c20b1:=de_ c20;clear c20
   by_cases c21 : t739 ≤ (a1.size : Int);rotate_left
   ·rw [if_neg c21] at H;exact absurd H (by simp)
   rw [if_pos c21] at H;have c21b0:=eq_true c21;have c21b1:=de_ c21;clear c21;obtain ⟨⟨t742,t743,t744⟩,A22,H⟩:=oB_ H;(try dsimp only at H)
   by_cases c23 : (a1.extract 0 (t739 : Int).toNat).size + t742.size ≤ 9223372036854775807;rotate_left
   ·rw [if_neg c23] at H;exact absurd H (by simp)
   rw [if_pos c23] at H;have c23b0:=eq_true c23;have c23b1:=de_ c23;have c23b4 : (9223372036854775807 < t739.toNat + t742.size) = False:=eq_false (by have h_:=c23;have h2_:=od_ c21b1;simp only [ByteArray.size_extract] at h_;omega);obtain ⟨ji24,hji24⟩ : ∃ j_ : Int,(wrap64 (t739 + 1)) = j_:=⟨_,rfl⟩
   replace H : (if 0 ≤ (ji24) then (if (ji24) ≤ (a1.size : Int) then (if ((a1.extract 0 (t739 : Int).toNat) ++ t742).size + (a1.extract ((ji24) : Int).toNat a1.size).size ≤ 9223372036854775807 then (some (((a1.extract 0 (t739 : Int).toNat) ++ t742) ++ (a1.extract ((ji24) : Int).toNat a1.size),t743,t744)) else (none)) else (none)) else (none)) = some (r1,r2,r3):=by (rw [hji24] at H;exact H)
   have hji24w : (IntKind.i64.wrap (t739 + 1)) = ji24:=(i64_w _).trans hji24
   by_cases c25 : 0 ≤ (ji24);rotate_left
   ·rw [if_neg c25] at H;exact absurd H (by simp)
   rw [if_pos c25] at H;have c25b0:=eq_true c25;have c25b1:=de_ c25;clear c25
   by_cases c26 : (ji24) ≤ (a1.size : Int);rotate_left
   ·rw [if_neg c26] at H;exact absurd H (by simp)
   rw [if_pos c26] at H;have c26b0:=eq_true c26;have c26b1:=de_ c26;clear c26
   by_cases c27 : ((a1.extract 0 (t739 : Int).toNat) ++ t742).size + (a1.extract ((ji24) : Int).toNat a1.size).size ≤ 9223372036854775807;rotate_left
   ·rw [if_neg c27] at H;exact absurd H (by simp)
   rw [if_pos c27] at H;have c27b0:=eq_true c27;have c27b1:=de_ c27
   try have c27b2 : (9223372036854775807 < ((a1.extract 0 (t739 : Int).toNat) ++ t742).size + (a1.extract ((ji24) : Int).toNat a1.size).size) = False:=eq_false (Nat.not_lt.2 c27)
   try have c27b3 : (9223372036854775807 < (a1.extract 0 (t739 : Int).toNat).size + t742.size + (a1.extract ((ji24) : Int).toNat a1.size).size) = False:=eq_false (by have h_:=c27;simp only [ByteArray.size_append,show ∀ x_ : UInt8,(⟨#[x_]⟩ : ByteArray).size = 1 from fun _ => rfl] at h_;omega)
   have c27b4 : (9223372036854775807 < t739.toNat + t742.size + (a1.size - ji24.toNat)) = False:=eq_false (by have h_:=c27;have h2_:=od_ c21b1;simp only [ByteArray.size_append,ByteArray.size_extract] at h_;omega);simp only [Option.some.injEq,Prod.mk.injEq] at H;obtain ⟨rfl,rfl,rfl⟩:=H
   try go_wp2_with (((with_reducible refine gate_callee (f:=111) rfl ?_);refine gL_ (some 32) Try.func111 #[.pointer (some ⟨g,0,none⟩),.int .i64 (a1.size : Int)] ?_;(with_reducible refine (spec_l01Below.calls g s0_0 t731 t732 (a1.size : Int) t739 t740 t741 w0 _ ?side1 ?side2 A19.out).mono ?_);(case side1 => exact iq146_ HI0);(case side2 => exact bi_ HB (IsS146.ge HI0.out));rintro e w28 ⟨rfl,hi,hb,hk⟩;refine ⟨_,rfl,?_⟩;replace HK:=hT_ HK hk;replace HB:=A_ hb;replace HI0:=A_ hi;(try clear hb);(try clear hk);(try clear hi)))
   replace HI0:=A_ (IsS146.drew HI0.out);replace HK:=A_ (keep_drew HK.out);replace HB:=A_ (pd_ HB.out);refine start_ (n:=12) (S:=fun w' => True) (ds:=[]) #[false,false,false,false,false,false,false,false,false,false,false,false] (by kernel_rfl) rfl rfl trivial (fun hHeld => ?_);refine with_tabW spec_l02Spoilt.tab10 spec_l02Spoilt.bits10 (fun HT_ HW_ => ?_);generalize w28.drew = w29 at HI0 HK HB hHeld ⊢;refine pU_ 0 (some 33) ?_
   refine pU_ 1 (some 34) ?_
   refine pU_ 2 (some 35) ?_
   refine pU_ 3 (some 36) ?_
   refine pU_ 6 (some 39) ?_
   refine pU_ 7 (some 40) ?_
   refine pU_ 8 (some 41) ?_
   refine pU_ 9 (some 42) ?_
   refine oN_ 4 (some 37) (fun K hK => ?_);refine gs_ Try.func118 #[.pointer (some ⟨g,0,none⟩),.int .i64 1] ?_;with_reducible refine (spec_l01Text.calls kj14 g s0_0 t740 t741 1 t742 t743 t744 w0 _ ?side1 ?side2 A22.out).mono ?_
   (case side1 => exact iq146_ HI0)
   (case side2 => exact bi_ HB (IsS146.ge HI0.out))
   rintro e w30 ⟨rfl,hi,hb,hk⟩;refine ⟨_,rfl,?_⟩;replace HK:=hT_ HK hk;replace HB:=A_ hb;replace HI0:=A_ hi
   (try clear hb)
   (try clear hk)
   (try clear hi)
   refine hK.out _ _ trivial (fun hHeld => ?_);clear hK K;refine nX_ (some 37) ?_
   refine pU_ 5 (some 38) ?_
   refine pU_ 10 (some 43) ?_
   refine pU_ 11 (some 4) ?_
   refine done_ (done_of HT_.out (by kernel_rfl)) ?_
   try go_wp2
   go_ret;exact ⟨by rfl,iq146_ HI0,bi_ HB (IsS146.ge HI0.out),hq_ HK⟩
def spec_DrawDecode.f (k : Nat) (l0 : List Int) : Option (ByteArray) := (spec_l01New.f k l0).bind fun bt745 => ((spec_l14Any.f k bt745.1 bt745.2.1 bt745.2.2).bind fun bt749 => ((spec_Encode.f k bt749.1 bt749.2.1 bt749.2.2.1 bt749.2.2.2.1 bt749.2.2.2.2.1 bt749.2.2.2.2.2.1 bt749.2.2.2.2.2.2.1 bt749.2.2.2.2.2.2.2.1 bt749.2.2.2.2.2.2.2.2.1 bt749.2.2.2.2.2.2.2.2.2.1 bt749.2.2.2.2.2.2.2.2.2.2.1 bt749.2.2.2.2.2.2.2.2.2.2.2.1).bind fun bt767 => ((spec_l02Spoilt.f k bt745.1 bt749.2.2.2.2.2.2.2.2.2.2.2.2.1 bt749.2.2.2.2.2.2.2.2.2.2.2.2.2 bt767.1).bind fun bt769 => (some bt769.1))))
theorem spec_DrawDecode.mono : ∀ a0 k, LeO (spec_DrawDecode.f k a0) (spec_DrawDecode.f (k + 1) a0) := by
 intro a0 k
 unfold spec_DrawDecode.f
 repeat' first
   | (with_reducible exact spec_Encode.mono _ _ _ _ _ _ _ _ _ _ _ _ _)
   | (with_reducible exact spec_l01New.mono _ _)
   | (with_reducible exact spec_l02Spoilt.mono _ _ _ _ _)
   | (with_reducible exact spec_l14Any.mono _ _ _ _)
   | (with_reducible exact LeO.refl _)
   | (with_reducible refine LeO.bind ?_ (fun _ => ?_))
set_option maxHeartbeats 8000000 in
set_option maxRecDepth 100000 in
theorem spec_DrawDecode.calls (k : Nat) (A0 : Option Addr) (c0 : Nat) (l0 : List Int) (r : ByteArray) (w : World) (hr0 : Kd.C (Kd.int .u8) w A0 l0.length l0) (hc0 : l0.length ≤ c0) (h : spec_DrawDecode.f k l0 = some r) :
  Calls Try.prog 31 #[.slice A0 l0.length c0] w fun e w' => e = .returned (.string r) ∧ Below w.heap.size w w':=by
 have HR0:=A_ hr0;have HC0:=A_ hc0;clear hr0 hc0;have HB:=A_ (Below.refl w.heap.size w);unfold spec_DrawDecode.f at h;have H:=h;clear h;obtain ⟨⟨t745,t746,t747⟩,A2,H⟩:=oB_ H;(try dsimp only at H);obtain ⟨⟨t749,t750,t751,t752,t753,t754,t755,t756,t757,t760,t763,t764,t765,t766⟩,A3,H⟩:=oB_ H;(try dsimp only at H);obtain ⟨⟨t767,t768⟩,A4,H⟩:=oB_ H;(try dsimp only at H);obtain ⟨⟨t769,t770,t771⟩,A5,H⟩:=oB_ H;(try dsimp only at H);obtain rfl:=Option.some.inj H;go_enter Try.func31,Try.ntmps31
 go_wp2_with (first|((with_reducible refine gate_callee (f:=74) rfl ?_);refine gL_ (some 7) Try.func74 #[.slice A0 l0.length c0] ?_;(with_reducible refine (spec_l01New.calls k _ _ l0 t745 t746 t747 w _ ?side1 ?side2 ?side3 A2.out).mono ?_);(case side1 => exact bq_ HB);(case side2 => exact HR0.out);(case side3 => exact HC0.out);rintro e w6 ⟨g748,rfl,hi,hb,hb2⟩;refine ⟨_,rfl,?_⟩;replace HB:=A_ hb;have HI748:=A_ hi;(try clear hb);(try clear hb2);(try clear hi))|((with_reducible refine gate_callee (f:=73) rfl ?_);refine gL_ (some 10) Try.func73 #[.pointer (some ⟨g748,0,none⟩)] ?_;(with_reducible refine (spec_l14Any.calls k g748 t745 t746 t747 t749 t750 t751 t752 t753 t754 t755 t756 t757 t760 t763 t764 t765 t766 w _ ?side1 ?side2 A3.out).mono ?_);(case side1 => exact iq146_ HI748);(case side2 => exact bi_ HB (IsS146.ge HI748.out));rintro e w7 ⟨v758,v761,rfl,ho0,ho1,hi,hb,hk⟩;refine ⟨_,rfl,?_⟩;have HO759:=A_ (rw_ ho0 (bz_ (bi_ HB (IsS146.ge HI748.out))));have HO762:=A_ (rw_ ho1 (bz_ (bi_ HB (IsS146.ge HI748.out))));replace HB:=A_ hb;replace HI748:=A_ hi;(try clear hb);(try clear hk);(try clear hi);(try clear ho0);(try clear ho1);obtain ⟨Ao8,co8,eo8⟩:=Kd.R_slice HO759.out;subst eo8;obtain ⟨Ao9,co9,eo9⟩:=Kd.R_slice HO762.out;subst eo9)|((with_reducible refine gate_callee (f:=64) rfl ?_);refine gL_ (some 11) Try.func64 #[.agg #[.int .i64 t749,.int .i64 t750,.int .i64 t751,.int .i64 t752,.int .i64 t753,.int .i64 t754,.int .i64 t755,.bool t756,.slice Ao8 t757.length co8,.slice Ao9 t760.length co9,.string t763,.bool t764]] ?_;(with_reducible refine (spec_Encode.calls k t749 t750 t751 t752 t753 t754 t755 t756 _ _ t757 _ _ t760 t763 t764 t767 t768 _ ?side1 ?side2 ?side3 ?side4 A4.out).mono ?_);(case side1 => repeat (exact (Kd.R_reads' HO759.out).2.2));(case side2 => exact (Kd.R_reads' HO759.out).2.1);(case side3 => repeat (exact (Kd.R_reads' HO762.out).2.2));(case side4 => exact (Kd.R_reads' HO762.out).2.1);rintro e w10 ⟨rfl,hb⟩;refine ⟨_,rfl,?_⟩;have n2_:=A_ (IsS146.below (iq146_ HI748) hb);have n3_:=A_ (bs_ (bi_ HB (IsS146.ge HI748.out)) hb);clear HO759;clear HO762;clear HI748;clear HB;have HI748:=n2_;have HB:=n3_;clear n2_ n3_;(try clear hb))|((with_reducible refine gate_callee (f:=85) rfl ?_);refine gL_ (some 16) Try.func85 #[.pointer (some ⟨g748,0,none⟩),.string t767] ?_;(with_reducible refine (spec_l02Spoilt.calls k g748 t745 t765 t766 t767 t769 t770 t771 w _ ?side1 ?side2 A5.out).mono ?_);(case side1 => exact iq146_ HI748);(case side2 => exact bi_ HB (IsS146.ge HI748.out));rintro e w11 ⟨rfl,hi,hb,hk⟩;refine ⟨_,rfl,?_⟩;have n2_:=A_ hb;have n3_:=A_ hi;clear HB;clear HI748;have HB:=n2_;have HI748:=n3_;clear n2_ n3_;(try clear hb);(try clear hk);(try clear hi)))
 go_ret;exact ⟨ex_,bi_ HB (IsS146.ge HI748.out)⟩
end Go.Proofs.Ytbcgnncbiblibaa.PFnMessages
