/- The contracts of Go functions that this law reaches: what each call returns, by a plain Lean function of its arguments, under the conditions that each names. By the kit's print.py, run by this repo's wip/gen/pp.py: not to the letter what print.sh prints. -/
import Derived.Test.YtbcgnncbiblibaaPFnMessagesx0
import Derived.Test.YtbcgnncbiblibaaPFnMessagesx3
import Derived.Test.YtbcgnncbiblibaaPFnMessagesx6
import Derived.Test.YtbcgnncbiblibaaPFnMessagesx8
import Derived.Test.YtbcgnncbiblibaaPFnMessagesx9
namespace Go.Proofs.Ytbcgnncbiblibaa.PFnMessages
open Go.RowKit Go.Proofs.YtbcgnncbiblibaaW.PrintWords Go.Proofs.YtbcgnncbiblibaaW.PrintLast Go.Proofs.YtbcgnncbiblibaaW.PrintMore
attribute [local go_sem] max2_int min2_int max_two min_two max_three min_three max_four min_four
set_option linter.unusedVariables false
set_option linter.unusedSimpArgs false
def spec_Encode.l0 : Nat → ByteArray → Int → Int → Int → Int → Int → Int → Int → Int → Bool → List (S69) → List Int → ByteArray → Bool → Option (ByteArray × Bool)
 | 0,_,_,_,_,_,_,_,_,_,_,_,_,_,_ => none
 | k + 1,x4,x5,x208000,x208001,x208002,x208003,x208004,x208005,x208006,x208007,x208008,x208009,x208010,x208011 => if x5 < (x208008.length : Int) then (if 0 ≤ x5 then ((spec_EntryText.f k 1 ((rd_T69 x208008 x5).f0) ((rd_T69 x208008 x5).f1) ((rd_T69 x208008 x5).f2)).bind fun bt220 => ((spec_l05Short.f k bt220.1).bind fun t222 => (if x4.size + t222.size ≤ 9223372036854775807 then (spec_Encode.l0 k (x4 ++ t222) (wrap64 (x5 + 1)) x208000 x208001 x208002 x208003 x208004 x208005 x208006 x208007 x208008 x208009 x208010 x208011) else (none)))) else (none)) else ((spec_ConfText.f k x208009).bind fun bt223 => ((spec_l05Short.f k bt223.1).bind fun t225 => (if x4.size + t225.size ≤ 9223372036854775807 then ((spec_l05Short.f k x208010).bind fun t226 => (if (x4 ++ t225).size + t226.size ≤ 9223372036854775807 then (some ((x4 ++ t225) ++ t226,true)) else (none))) else (none))))
def spec_Encode.f (k : Nat) (a0_0 a0_1 a0_2 a0_3 a0_4 a0_5 a0_6 : Int) (a0_7 : Bool) (l0_8 : List (S69)) (l0_9 : List Int) (a0_10 : ByteArray) (a0_11 : Bool) : Option (ByteArray × Bool) := (spec_MessageOk.f k a0_0 a0_1 a0_2 a0_3 a0_4 a0_5 a0_6 a0_7 l0_8 l0_9 a0_10 a0_11).bind fun t208 => (if t208 = true then ((some (([(a0_0) % 256, (a0_1) % 256, (a0_2) % 256] : List Int) : List Int)).bind fun y209 => ((spec_l01Var.f k a0_3).bind fun t212 => (if (strOfNums y209).size + t212.size ≤ 9223372036854775807 then ((spec_l01Var.f k a0_4).bind fun t213 => (if ((strOfNums y209) ++ t212).size + t213.size ≤ 9223372036854775807 then ((spec_l01Var.f k a0_5).bind fun t214 => (if (((strOfNums y209) ++ t212) ++ t213).size + t214.size ≤ 9223372036854775807 then ((spec_l01Var.f k a0_6).bind fun t215 => (if ((((strOfNums y209) ++ t212) ++ t213) ++ t214).size + t215.size ≤ 9223372036854775807 then ((spec_l14Flag.f a0_7).bind fun t216 => (if (((((strOfNums y209) ++ t212) ++ t213) ++ t214) ++ t215).size + t216.size ≤ 9223372036854775807 then ((spec_l14Flag.f a0_11).bind fun t217 => (if ((((((strOfNums y209) ++ t212) ++ t213) ++ t214) ++ t215) ++ t216).size + t217.size ≤ 9223372036854775807 then ((spec_l01Var.f k (l0_8.length : Int)).bind fun t218 => (if (((((((strOfNums y209) ++ t212) ++ t213) ++ t214) ++ t215) ++ t216) ++ t217).size + t218.size ≤ 9223372036854775807 then (spec_Encode.l0 k ((((((((strOfNums y209) ++ t212) ++ t213) ++ t214) ++ t215) ++ t216) ++ t217) ++ t218) 0 a0_0 a0_1 a0_2 a0_3 a0_4 a0_5 a0_6 a0_7 l0_8 l0_9 a0_10 a0_11) else (none))) else (none))) else (none))) else (none))) else (none))) else (none))) else (none)))) else (some ((⟨#[]⟩ : ByteArray), false)))
theorem spec_Encode.mono_l : ∀ k, (∀ y0 y1 y2 y3 y4 y5 y6 y7 y8 y9 y10 y11 y12 y13, LeO (spec_Encode.l0 k y0 y1 y2 y3 y4 y5 y6 y7 y8 y9 y10 y11 y12 y13) (spec_Encode.l0 (k + 1) y0 y1 y2 y3 y4 y5 y6 y7 y8 y9 y10 y11 y12 y13))
 | 0 => fun _ _ _ _ _ _ _ _ _ _ _ _ _ _ r h => by simp [spec_Encode.l0] at h
 | k + 1 => by
  have ih0:=spec_Encode.mono_l k
  ·intro y0 y1 y2 y3 y4 y5 y6 y7 y8 y9 y10 y11 y12 y13
   unfold spec_Encode.l0
   repeat' first
   | (with_reducible exact ih0 _ _ _ _ _ _ _ _ _ _ _ _ _ _)
   | (with_reducible exact spec_ConfText.mono _ _)
   | (with_reducible exact spec_EntryText.mono _ _ _ _ _)
   | (with_reducible exact spec_l05Short.mono _ _)
   | (with_reducible exact LeO.refl _)
   | (with_reducible refine LeO.ite ?_ ?_)
   | (with_reducible refine LeO.bind ?_ (fun _ => ?_))
theorem spec_Encode.mono : ∀ a0 a1 a2 a3 a4 a5 a6 a7 a8 a9 a10 a11 k, LeO (spec_Encode.f k a0 a1 a2 a3 a4 a5 a6 a7 a8 a9 a10 a11) (spec_Encode.f (k + 1) a0 a1 a2 a3 a4 a5 a6 a7 a8 a9 a10 a11) := by
 intro a0 a1 a2 a3 a4 a5 a6 a7 a8 a9 a10 a11 k;have ih0:=spec_Encode.mono_l k
 unfold spec_Encode.f
 repeat' first
   | (with_reducible exact ih0 _ _ _ _ _ _ _ _ _ _ _ _ _ _)
   | (with_reducible exact spec_MessageOk.mono _ _ _ _ _ _ _ _ _ _ _ _ _)
   | (with_reducible exact spec_l01Var.mono _ _)
   | (with_reducible exact LeO.refl _)
   | (with_reducible refine LeO.ite ?_ ?_)
   | (with_reducible refine LeO.bind ?_ (fun _ => ?_))
def spec_Encode.T3 : Bool × List (List Nat × List Nat) := (true, [([], []), ([0], [0]), ([1], [1]), ([], []), ([3], [3]), ([4], [4]), ([], []), ([6], [6]), ([7], [7]), ([2, 5, 8], [2, 5, 8]), ([9], [9]), ([], []), ([11], [11]), ([12], [12]), ([10, 13], [10, 13]), ([], []), ([15], [15]), ([16, 13], [16]), ([14, 17], [14, 17]), ([], []), ([19], [19]), ([20, 17], [20]), ([18, 21], [18, 21]), ([], []), ([23], [23]), ([24, 21], [24]), ([22, 25], [22, 25]), ([], []), ([27], [27]), ([28, 25], [28]), ([26, 29], [26, 29]), ([], []), ([31], [31]), ([32, 29], [32]), ([30, 33], [30, 33]), ([], []), ([35], [35]), ([36], [36]), ([37, 33], [37]), ([34, 38], [34, 38]), ([39, 38, 0, 1, 2, 3, 4, 5, 6, 7, 8, 9, 10, 11, 12, 13, 14, 15, 16, 17, 18, 19, 20, 21, 22, 23, 24, 25, 26, 27, 28, 29, 30, 31, 32, 33, 34, 35, 36, 37, 38, 39], [39])])
def spec_Encode.B3 : List Nat := [0, 1, 3, 0, 8, 24, 0, 64, 192, 511, 1023, 0, 2048, 6144, 16383, 0, 32768, 112640, 262143, 0, 524288, 1816576, 4194303, 0, 8388608, 29079552, 67108863, 0, 134217728, 465287168, 1073741823, 0, 2147483648, 7444609024, 17179869183, 0, 34359738368, 103079215104, 256552712192, 549755813887, 1099511627775]
theorem spec_Encode.tab3 : rtab .any (opsOf Try.f64 3) = spec_Encode.T3 := by kernel_rfl
theorem spec_Encode.bits3 : waitsOk spec_Encode.T3.2 spec_Encode.B3 = true := by kernel_rfl
def spec_Encode.T10 : Bool × List (List Nat × List Nat) := (true, [([], []), ([], []), ([1], [1]), ([0, 2], [0, 2]), ([], []), ([4], [4]), ([5, 2], [5]), ([3, 6], [3, 6]), ([7, 6, 0, 1, 2, 3, 4, 5, 6, 7], [7]), ([8, 0, 1, 2, 3, 4, 5, 6, 7, 8], [])])
def spec_Encode.B10 : List Nat := [0, 0, 2, 7, 0, 16, 54, 127, 255, 511]
theorem spec_Encode.tab10 : rtab .any (opsOf Try.f64 10) = spec_Encode.T10 := by kernel_rfl
theorem spec_Encode.bits10 : waitsOk spec_Encode.T10.2 spec_Encode.B10 = true := by kernel_rfl
abbrev j10_0 (w_ : World) (g_ : Nat) (a0_0 a0_1 a0_2 a0_3 a0_4 a0_5 a0_6 : Int) (a0_7 : Bool) (A0_8 : Option Addr) (l0_8 : List (S69)) (c0_8 : Nat) (A0_9 : Option Addr) (l0_9 : List Int) (c0_9 : Nat) (a0_10 : ByteArray) (a0_11 : Bool) : Prop := w_.cell? ⟨g_,0,none⟩ = some (.int .i64 a0_0) ∧ w_.cell? ⟨g_,1,none⟩ = some (.int .i64 a0_1) ∧ w_.cell? ⟨g_,2,none⟩ = some (.int .i64 a0_2) ∧ w_.cell? ⟨g_,3,none⟩ = some (.int .i64 a0_3) ∧ w_.cell? ⟨g_,4,none⟩ = some (.int .i64 a0_4) ∧ w_.cell? ⟨g_,5,none⟩ = some (.int .i64 a0_5) ∧ w_.cell? ⟨g_,6,none⟩ = some (.int .i64 a0_6) ∧ w_.cell? ⟨g_,7,none⟩ = some (.bool a0_7) ∧ w_.cell? ⟨g_,8,none⟩ = some (.slice A0_8 l0_8.length c0_8) ∧ w_.cell? ⟨g_,9,none⟩ = some (.slice A0_9 l0_9.length c0_9) ∧ w_.cell? ⟨g_,10,none⟩ = some (.string a0_10) ∧ w_.cell? ⟨g_,11,none⟩ = some (.bool a0_11)
abbrev j10_1 (w_ : World) (g_ : Nat) (a0_0 a0_1 a0_2 a0_3 a0_4 a0_5 a0_6 : Int) (a0_7 : Bool) (A0_8 : Option Addr) (l0_8 : List (S69)) (c0_8 : Nat) (A0_9 : Option Addr) (l0_9 : List Int) (c0_9 : Nat) (a0_10 : ByteArray) (a0_11 : Bool) : Prop := w_.heap[g_]? = some (.cells #[.int .i64 a0_0,.int .i64 a0_1,.int .i64 a0_2,.int .i64 a0_3,.int .i64 a0_4,.int .i64 a0_5,.int .i64 a0_6,.bool a0_7,.slice A0_8 l0_8.length c0_8,.slice A0_9 l0_9.length c0_9,.string a0_10,.bool a0_11] 41 (0,0))
set_option maxHeartbeats 8000000 in
set_option maxRecDepth 100000 in
theorem spec_Encode.calls (k : Nat) (a0_0 a0_1 a0_2 a0_3 a0_4 a0_5 a0_6 : Int) (a0_7 : Bool) (A0_8 : Option Addr) (c0_8 : Nat) (l0_8 : List (S69)) (A0_9 : Option Addr) (c0_9 : Nat) (l0_9 : List Int) (a0_10 : ByteArray) (a0_11 : Bool) (r1 : ByteArray) (r2 : Bool) (w : World) (hr0_8 : Kd.C k69 w A0_8 l0_8.length l0_8) (hc0_8 : l0_8.length ≤ c0_8) (hr0_9 : Kd.C (Kd.int .i64) w A0_9 l0_9.length l0_9) (hc0_9 : l0_9.length ≤ c0_9) (h : spec_Encode.f k a0_0 a0_1 a0_2 a0_3 a0_4 a0_5 a0_6 a0_7 l0_8 l0_9 a0_10 a0_11 = some (r1, r2)) :
  Calls Try.prog 64 #[.agg #[.int .i64 a0_0,.int .i64 a0_1,.int .i64 a0_2,.int .i64 a0_3,.int .i64 a0_4,.int .i64 a0_5,.int .i64 a0_6,.bool a0_7,.slice A0_8 l0_8.length c0_8,.slice A0_9 l0_9.length c0_9,.string a0_10,.bool a0_11]] w fun e w' => e = .returned (.tuple #[.string r1,.bool r2]) ∧ Below w.heap.size w w':=by
 have hu41:=Try.underlying41;have hu69:=Try.underlying69;have HR0_8:=A_ hr0_8;have HC0_8:=A_ hc0_8;clear hr0_8 hc0_8;have HR0_9:=A_ hr0_9;have HC0_9:=A_ hc0_9;clear hr0_9 hc0_9;have HB:=A_ (Below.refl w.heap.size w);unfold spec_Encode.f at h;have H:=h;clear h;replace H:=ob_.mp H;obtain ⟨t208,A20,H⟩:=H;have A2:=A_ A20;clear A20;have HC3:=A_ H;clear H;go_enter Try.func64,Try.ntmps64
 go_upto_if 12 with (first|((with_reducible refine gate_dst (N:=1) rfl ?_);refine bE_ 1 #[.int .i64 a0_0,.int .i64 a0_1,.int .i64 a0_2,.int .i64 a0_3,.int .i64 a0_4,.int .i64 a0_5,.int .i64 a0_6,.bool a0_7,.slice A0_8 l0_8.length c0_8,.slice A0_9 l0_9.length c0_9,.string a0_10,.bool a0_11] 41 ?_;intro gb207 hg w4 hbox hb;have n0_:=bS_ HB hb;have n1_:=A_ hbox;have n2_:=gE_ hg HB;have n3_:=gE_ hg HB;clear HB;have HB:=n0_;have BK207:=n1_;have GE207:=n3_;clear n0_ n1_ n2_ n3_;clear hb hbox hg;obtain ⟨hcz5_0,hcz5_1,hcz5_2,hcz5_3,hcz5_4,hcz5_5,hcz5_6,hcz5_7,hcz5_8,hcz5_9,hcz5_10,hcz5_11,hfz5_0,hfz5_1,hfz5_2,hfz5_3,hfz5_4,hfz5_5,hfz5_6,hfz5_7,hfz5_8,hfz5_9,hfz5_10,hfz5_11⟩:=k12f_ BK207)|((with_reducible refine gate_callee (f:=29) rfl ?_);refine gL_ (some 11) Try.func29 #[.agg #[.int .i64 a0_0,.int .i64 a0_1,.int .i64 a0_2,.int .i64 a0_3,.int .i64 a0_4,.int .i64 a0_5,.int .i64 a0_6,.bool a0_7,.slice A0_8 l0_8.length c0_8,.slice A0_9 l0_9.length c0_9,.string a0_10,.bool a0_11]] ?_;(with_reducible refine (spec_MessageOk.calls k a0_0 a0_1 a0_2 a0_3 a0_4 a0_5 a0_6 a0_7 _ _ l0_8 _ _ l0_9 a0_10 a0_11 t208 _ ?side1 ?side2 ?side3 ?side4 A2.out).mono ?_);(case side1 => repeat (exact (Kd.C_below HR0_8.out HB.out)));(case side2 => exact HC0_8.out);(case side3 => repeat (exact (Kd.C_below HR0_9.out HB.out)));(case side4 => exact HC0_9.out);rintro e w6 ⟨rfl,hb⟩;refine ⟨_,rfl,?_⟩;replace BK207:=kB_ BK207 hb;replace HB:=bS_ HB hb;(try clear hb)))
 have H:=HC3.out;clear HC3
 by_cases c7 : t208 = true;rotate_left
 ·replace c7:=Bool.eq_false_iff.mpr c7;subst c7
  have H1 : (some ((⟨#[]⟩ : ByteArray),false)) = some (r1,r2):=by rw [if_neg (show ¬ (false = true) by decide)] at H;exact H
  clear H;have H:=H1;clear H1;simp only [Option.some.injEq,Prod.mk.injEq] at H;obtain ⟨rfl,rfl⟩:=H;go_wp2;go_ret2;exact ⟨ex_,bq_ HB⟩
 subst c7
 rw [if_pos rfl] at H;obtain ⟨y209,hy209⟩ : ∃ y_ : List Int,y_ = (([(a0_0) % 256,(a0_1) % 256,(a0_2) % 256] : List Int)):=⟨_,rfl⟩
 replace H : ((spec_l01Var.f k a0_3).bind fun t212 => (if (strOfNums y209).size + t212.size ≤ 9223372036854775807 then ((spec_l01Var.f k a0_4).bind fun t213 => (if ((strOfNums y209) ++ t212).size + t213.size ≤ 9223372036854775807 then ((spec_l01Var.f k a0_5).bind fun t214 => (if (((strOfNums y209) ++ t212) ++ t213).size + t214.size ≤ 9223372036854775807 then ((spec_l01Var.f k a0_6).bind fun t215 => (if ((((strOfNums y209) ++ t212) ++ t213) ++ t214).size + t215.size ≤ 9223372036854775807 then ((spec_l14Flag.f a0_7).bind fun t216 => (if (((((strOfNums y209) ++ t212) ++ t213) ++ t214) ++ t215).size + t216.size ≤ 9223372036854775807 then ((spec_l14Flag.f a0_11).bind fun t217 => (if ((((((strOfNums y209) ++ t212) ++ t213) ++ t214) ++ t215) ++ t216).size + t217.size ≤ 9223372036854775807 then ((spec_l01Var.f k (l0_8.length : Int)).bind fun t218 => (if (((((((strOfNums y209) ++ t212) ++ t213) ++ t214) ++ t215) ++ t216) ++ t217).size + t218.size ≤ 9223372036854775807 then (spec_Encode.l0 k ((((((((strOfNums y209) ++ t212) ++ t213) ++ t214) ++ t215) ++ t216) ++ t217) ++ t218) 0 a0_0 a0_1 a0_2 a0_3 a0_4 a0_5 a0_6 a0_7 l0_8 l0_9 a0_10 a0_11) else (none))) else (none))) else (none))) else (none))) else (none))) else (none))) else (none))) = some (r1,r2):=by (have H2_:=(Option.bind_some _ _).symm.trans H;rw [hy209];with_reducible exact H2_)
 have Ny209:=A_ hy209;clear hy209;replace H:=ob_.mp H;obtain ⟨t212,A80,H⟩:=H;have A8:=A_ A80;clear A80
 by_cases c9 : (strOfNums y209).size + t212.size ≤ 9223372036854775807;rotate_left
 ·rw [if_neg c9] at H;exact absurd H (by simp)
 rw [if_pos c9] at H;have c9b0:=eq_true c9;have c9b1:=de_ c9
 try have c9b2 : (9223372036854775807 < (strOfNums y209).size + t212.size) = False:=eq_false (Nat.not_lt.2 c9)
 replace H:=ob_.mp H;obtain ⟨t213,A100,H⟩:=H;have A10:=A_ A100;clear A100
 by_cases c11 : ((strOfNums y209) ++ t212).size + t213.size ≤ 9223372036854775807;rotate_left
 ·rw [if_neg c11] at H;exact absurd H (by simp)
 rw [if_pos c11] at H;have c11b0:=eq_true c11;have c11b1:=de_ c11
 try have c11b2 : (9223372036854775807 < ((strOfNums y209) ++ t212).size + t213.size) = False:=eq_false (Nat.not_lt.2 c11)
 try have c11b3 : (9223372036854775807 < (strOfNums y209).size + t212.size + t213.size) = False:=eq_false (by have h_:=c11;simp only [ByteArray.size_append,show ∀ x_ : UInt8,(⟨#[x_]⟩ : ByteArray).size = 1 from fun _ => rfl] at h_;omega)
 replace H:=ob_.mp H;obtain ⟨t214,A120,H⟩:=H;have A12:=A_ A120;clear A120
 by_cases c13 : (((strOfNums y209) ++ t212) ++ t213).size + t214.size ≤ 9223372036854775807;rotate_left
 ·rw [if_neg c13] at H;exact absurd H (by simp)
 rw [if_pos c13] at H;have c13b0:=eq_true c13;have c13b1:=de_ c13
 try have c13b2 : (9223372036854775807 < (((strOfNums y209) ++ t212) ++ t213).size + t214.size) = False:=eq_false (Nat.not_lt.2 c13)
 try have c13b3 : (9223372036854775807 < (strOfNums y209).size + t212.size + t213.size + t214.size) = False:=eq_false (by have h_:=c13;simp only [ByteArray.size_append,show ∀ x_ : UInt8,(⟨#[x_]⟩ : ByteArray).size = 1 from fun _ => rfl] at h_;omega)
 replace H:=ob_.mp H;obtain ⟨t215,A140,H⟩:=H;have A14:=A_ A140;clear A140
 by_cases c15 : ((((strOfNums y209) ++ t212) ++ t213) ++ t214).size + t215.size ≤ 9223372036854775807;rotate_left
 ·rw [if_neg c15] at H;exact absurd H (by simp)
 rw [if_pos c15] at H;have c15b0:=eq_true c15;have c15b1:=de_ c15
 try have c15b2 : (9223372036854775807 < ((((strOfNums y209) ++ t212) ++ t213) ++ t214).size + t215.size) = False:=eq_false (Nat.not_lt.2 c15)
 try have c15b3 : (9223372036854775807 < (strOfNums y209).size + t212.size + t213.size + t214.size + t215.size) = False:=eq_false (by have h_:=c15;simp only [ByteArray.size_append,show ∀ x_ : UInt8,(⟨#[x_]⟩ : ByteArray).size = 1 from fun _ => rfl] at h_;omega)
 replace H:=ob_.mp H;obtain ⟨t216,A160,H⟩:=H;have A16:=A_ A160;clear A160
 by_cases c17 : (((((strOfNums y209) ++ t212) ++ t213) ++ t214) ++ t215).size + t216.size ≤ 9223372036854775807;rotate_left
 ·rw [if_neg c17] at H;exact absurd H (by simp)
 rw [if_pos c17] at H;have c17b0:=eq_true c17;have c17b1:=de_ c17
 try have c17b2 : (9223372036854775807 < (((((strOfNums y209) ++ t212) ++ t213) ++ t214) ++ t215).size + t216.size) = False:=eq_false (Nat.not_lt.2 c17)
 try have c17b3 : (9223372036854775807 < (strOfNums y209).size + t212.size + t213.size + t214.size + t215.size + t216.size) = False:=eq_false (by have h_:=c17;simp only [ByteArray.size_append,show ∀ x_ : UInt8,(⟨#[x_]⟩ : ByteArray).size = 1 from fun _ => rfl] at h_;omega)
 replace H:=ob_.mp H;obtain ⟨t217,A180,H⟩:=H;have A18:=A_ A180;clear A180
 by_cases c19 : ((((((strOfNums y209) ++ t212) ++ t213) ++ t214) ++ t215) ++ t216).size + t217.size ≤ 9223372036854775807;rotate_left
 ·rw [if_neg c19] at H;exact absurd H (by simp)
 rw [if_pos c19] at H;have c19b0:=eq_true c19;have c19b1:=de_ c19
 try have c19b2 : (9223372036854775807 < ((((((strOfNums y209) ++ t212) ++ t213) ++ t214) ++ t215) ++ t216).size + t217.size) = False:=eq_false (Nat.not_lt.2 c19)
 try have c19b3 : (9223372036854775807 < (strOfNums y209).size + t212.size + t213.size + t214.size + t215.size + t216.size + t217.size) = False:=eq_false (by have h_:=c19;simp only [ByteArray.size_append,show ∀ x_ : UInt8,(⟨#[x_]⟩ : ByteArray).size = 1 from fun _ => rfl] at h_;omega)
 replace H:=ob_.mp H;obtain ⟨t218,A200,H⟩:=H;have A20:=A_ A200;clear A200
 by_cases c21 : (((((((strOfNums y209) ++ t212) ++ t213) ++ t214) ++ t215) ++ t216) ++ t217).size + t218.size ≤ 9223372036854775807;rotate_left
 ·rw [if_neg c21] at H;exact absurd H (by simp)
 rw [if_pos c21] at H;have c21b0:=eq_true c21;have c21b1:=de_ c21
 try have c21b2 : (9223372036854775807 < (((((((strOfNums y209) ++ t212) ++ t213) ++ t214) ++ t215) ++ t216) ++ t217).size + t218.size) = False:=eq_false (Nat.not_lt.2 c21)
 try have c21b3 : (9223372036854775807 < (strOfNums y209).size + t212.size + t213.size + t214.size + t215.size + t216.size + t217.size + t218.size) = False:=eq_false (by have h_:=c21;simp only [ByteArray.size_append,show ∀ x_ : UInt8,(⟨#[x_]⟩ : ByteArray).size = 1 from fun _ => rfl] at h_;omega)
 have H':=A_ H;clear H
 try go_wp2
 replace BK207:=A_ (kd_ BK207.out);replace HB:=A_ (pd_ HB.out);refine start_ (n:=41) (S:=fun w' => w'.cell? ⟨gb207,0,none⟩ = some (.int .i64 a0_0) ∧ w'.cell? ⟨gb207,1,none⟩ = some (.int .i64 a0_1) ∧ w'.cell? ⟨gb207,2,none⟩ = some (.int .i64 a0_2) ∧ w'.cell? ⟨gb207,3,none⟩ = some (.int .i64 a0_3) ∧ w'.cell? ⟨gb207,4,none⟩ = some (.int .i64 a0_4) ∧ w'.cell? ⟨gb207,5,none⟩ = some (.int .i64 a0_5) ∧ w'.cell? ⟨gb207,6,none⟩ = some (.int .i64 a0_6) ∧ w'.cell? ⟨gb207,7,none⟩ = some (.bool a0_7) ∧ w'.cell? ⟨gb207,8,none⟩ = some (.slice A0_8 l0_8.length c0_8) ∧ w'.cell? ⟨gb207,9,none⟩ = some (.slice A0_9 l0_9.length c0_9) ∧ w'.cell? ⟨gb207,10,none⟩ = some (.string a0_10) ∧ w'.cell? ⟨gb207,11,none⟩ = some (.bool a0_11)) (ds:=[]) #[false,false,false,false,false,false,false,false,false,false,false,false,false,false,false,false,false,false,false,false,false,false,false,false,false,false,false,false,false,false,false,false,false,false,false,false,false,false,false,false,false] (by kernel_rfl) rfl rfl (kJ12_ BK207) (fun hHeld => ?_);refine with_tabW spec_Encode.tab3 spec_Encode.bits3 (fun HT_ HW_ => ?_);generalize w6.drew = w22 at BK207 HB hHeld ⊢;refine pU_ 0 (some 13) ?_
 refine pU_ 3 (some 16) ?_
 refine pU_ 6 (some 19) ?_
 refine pU_ 11 (some 24) ?_
 refine pU_ 15 (some 28) ?_
 refine pU_ 19 (some 32) ?_
 refine pU_ 23 (some 36) ?_
 refine pU_ 27 (some 40) ?_
 refine pU_ 31 (some 44) ?_
 refine pU_ 35 (some 48) ?_
 refine tK_ 1 (some 14) hHeld ?_
 refine pU_ 2 (some 15) ?_
 refine tK_ 4 (some 17) hHeld ?_
 refine pU_ 5 (some 18) ?_
 refine tK_ 7 (some 20) hHeld ?_
 refine pU_ 8 (some 21) ?_
 refine tK_ 12 (some 25) hHeld ?_
 refine tK_ 16 (some 29) hHeld ?_
 refine tK_ 20 (some 33) hHeld ?_
 refine tK_ 24 (some 37) hHeld ?_
 refine tK_ 28 (some 41) hHeld ?_
 refine tK_ 32 (some 45) hHeld ?_
 refine tK_ 36 (some 49) hHeld ?_
 refine pU_ 37 (some 50) ?_
 refine join_ (σ:=Value) 2 #[true,true,true,true,true,true,true,true,true,true,true,true,true,true,true,true,true,true,true,true,true,true,true,true,true,true,true,true,true,true,true,true,true,true,true,true,true,true,true,false,false] (fun s_ => [(22,s_),(23,.string (strOfNums y209)),(26,.string t212),(30,.string t213),(34,.string t214),(38,.string t215),(42,.string t216),(46,.string t217),(51,.string t218),(27,.string ((strOfNums y209) ++ t212)),(31,.string (((strOfNums y209) ++ t212) ++ t213)),(35,.string ((((strOfNums y209) ++ t212) ++ t213) ++ t214)),(39,.string (((((strOfNums y209) ++ t212) ++ t213) ++ t214) ++ t215)),(43,.string ((((((strOfNums y209) ++ t212) ++ t213) ++ t214) ++ t215) ++ t216)),(47,.string (((((((strOfNums y209) ++ t212) ++ t213) ++ t214) ++ t215) ++ t216) ++ t217))]) (fun s_ w' => (j10_0 w' gb207 a0_0 a0_1 a0_2 a0_3 a0_4 a0_5 a0_6 a0_7 A0_8 l0_8 c0_8 A0_9 l0_9 c0_9 a0_10 a0_11) ∧ (Kd.R (Kd.int .u8) 5 w' w.heap.size (fun _ => True) s_ y209) ∧ (j10_1 w' gb207 a0_0 a0_1 a0_2 a0_3 a0_4 a0_5 a0_6 a0_7 A0_8 l0_8 c0_8 A0_9 l0_9 c0_9 a0_10 a0_11) ∧ (Below w.heap.size w w')) ?_ ?_;rotate_left
 ·intro hJ9_10_13_17_21_25_29_33_38;refine join_ (σ:=Value) 3 #[true,true,true,true,true,true,true,true,true,true,true,true,true,true,true,true,true,true,true,true,true,true,true,true,true,true,true,true,true,true,true,true,true,true,true,true,true,true,false,false,false] (fun s_ => [(22,s_),(23,.string (strOfNums y209)),(26,.string t212),(30,.string t213),(34,.string t214),(38,.string t215),(42,.string t216),(46,.string t217),(27,.string ((strOfNums y209) ++ t212)),(31,.string (((strOfNums y209) ++ t212) ++ t213)),(35,.string ((((strOfNums y209) ++ t212) ++ t213) ++ t214)),(39,.string (((((strOfNums y209) ++ t212) ++ t213) ++ t214) ++ t215)),(43,.string ((((((strOfNums y209) ++ t212) ++ t213) ++ t214) ++ t215) ++ t216)),(47,.string (((((((strOfNums y209) ++ t212) ++ t213) ++ t214) ++ t215) ++ t216) ++ t217))]) (fun s_ w' => (j10_0 w' gb207 a0_0 a0_1 a0_2 a0_3 a0_4 a0_5 a0_6 a0_7 A0_8 l0_8 c0_8 A0_9 l0_9 c0_9 a0_10 a0_11) ∧ (Kd.R (Kd.int .u8) 5 w' w.heap.size (fun _ => True) s_ y209) ∧ (j10_1 w' gb207 a0_0 a0_1 a0_2 a0_3 a0_4 a0_5 a0_6 a0_7 A0_8 l0_8 c0_8 A0_9 l0_9 c0_9 a0_10 a0_11) ∧ (Below w.heap.size w w')) ?_ ?_;rotate_left
  ·intro hJ9_10_13_17_21_25_29_33;refine join_ (σ:=Value) 9 #[true,true,true,true,true,true,true,true,true,true,false,true,true,true,false,true,true,true,false,true,true,true,false,true,true,true,false,true,true,true,false,true,true,true,false,true,true,true,true,false,false] (fun s_ => [(22,s_),(26,.string t212),(30,.string t213),(34,.string t214),(38,.string t215),(42,.string t216),(46,.string t217),(51,.string t218)]) (fun s_ w' => (j10_0 w' gb207 a0_0 a0_1 a0_2 a0_3 a0_4 a0_5 a0_6 a0_7 A0_8 l0_8 c0_8 A0_9 l0_9 c0_9 a0_10 a0_11) ∧ (Kd.R (Kd.int .u8) 5 w' w.heap.size (fun _ => True) s_ y209) ∧ (j10_1 w' gb207 a0_0 a0_1 a0_2 a0_3 a0_4 a0_5 a0_6 a0_7 A0_8 l0_8 c0_8 A0_9 l0_9 c0_9 a0_10 a0_11) ∧ (Below w.heap.size w w')) ?_ ?_;rotate_left
   ·intro hJ9_13_17_21_25_29_33_38;refine join_ (σ:=Value) 5 #[true,true,true,true,true,true,true,true,true,true,true,true,true,true,true,true,true,true,true,true,true,true,true,true,true,true,true,true,true,true,true,true,true,false,false,true,true,true,false,false,false] (fun s_ => [(22,s_),(23,.string (strOfNums y209)),(26,.string t212),(30,.string t213),(34,.string t214),(38,.string t215),(42,.string t216),(27,.string ((strOfNums y209) ++ t212)),(31,.string (((strOfNums y209) ++ t212) ++ t213)),(35,.string ((((strOfNums y209) ++ t212) ++ t213) ++ t214)),(39,.string (((((strOfNums y209) ++ t212) ++ t213) ++ t214) ++ t215)),(43,.string ((((((strOfNums y209) ++ t212) ++ t213) ++ t214) ++ t215) ++ t216))]) (fun s_ w' => (j10_0 w' gb207 a0_0 a0_1 a0_2 a0_3 a0_4 a0_5 a0_6 a0_7 A0_8 l0_8 c0_8 A0_9 l0_9 c0_9 a0_10 a0_11) ∧ (Kd.R (Kd.int .u8) 5 w' w.heap.size (fun _ => True) s_ y209) ∧ (j10_1 w' gb207 a0_0 a0_1 a0_2 a0_3 a0_4 a0_5 a0_6 a0_7 A0_8 l0_8 c0_8 A0_9 l0_9 c0_9 a0_10 a0_11) ∧ (Below w.heap.size w w')) ?_ ?_;rotate_left
    ·intro hJ9_10_13_17_21_25_29;refine join_ (σ:=Value) 10 #[true,true,true,true,true,true,true,true,true,true,false,true,true,true,false,true,true,true,false,true,true,true,false,true,true,true,false,true,true,true,false,true,true,true,false,true,true,true,false,false,false] (fun s_ => [(22,s_),(26,.string t212),(30,.string t213),(34,.string t214),(38,.string t215),(42,.string t216),(46,.string t217)]) (fun s_ w' => (j10_0 w' gb207 a0_0 a0_1 a0_2 a0_3 a0_4 a0_5 a0_6 a0_7 A0_8 l0_8 c0_8 A0_9 l0_9 c0_9 a0_10 a0_11) ∧ (Kd.R (Kd.int .u8) 5 w' w.heap.size (fun _ => True) s_ y209) ∧ (j10_1 w' gb207 a0_0 a0_1 a0_2 a0_3 a0_4 a0_5 a0_6 a0_7 A0_8 l0_8 c0_8 A0_9 l0_9 c0_9 a0_10 a0_11) ∧ (Below w.heap.size w w')) ?_ ?_;rotate_left
     ·intro hJ9_13_17_21_25_29_33;refine join_ (σ:=Unit) 10 #[true,true,true,true,true,true,true,true,true,false,false,true,true,true,false,true,true,true,false,true,true,true,false,true,true,true,false,true,true,true,false,true,true,true,false,true,true,true,true,false,false] (fun s_ => [(26,.string t212),(30,.string t213),(34,.string t214),(38,.string t215),(42,.string t216),(46,.string t217),(51,.string t218)]) (fun s_ w' => (j10_0 w' gb207 a0_0 a0_1 a0_2 a0_3 a0_4 a0_5 a0_6 a0_7 A0_8 l0_8 c0_8 A0_9 l0_9 c0_9 a0_10 a0_11) ∧ (j10_1 w' gb207 a0_0 a0_1 a0_2 a0_3 a0_4 a0_5 a0_6 a0_7 A0_8 l0_8 c0_8 A0_9 l0_9 c0_9 a0_10 a0_11) ∧ (Below w.heap.size w w')) ?_ ?_;rotate_left
      ·intro hJ13_17_21_25_29_33_38;refine join_ (σ:=Value) 7 #[true,true,true,true,true,true,true,true,true,true,true,true,true,true,true,true,true,true,true,true,true,true,true,true,true,true,true,true,true,false,false,true,true,false,false,true,true,true,false,false,false] (fun s_ => [(22,s_),(23,.string (strOfNums y209)),(26,.string t212),(30,.string t213),(34,.string t214),(38,.string t215),(27,.string ((strOfNums y209) ++ t212)),(31,.string (((strOfNums y209) ++ t212) ++ t213)),(35,.string ((((strOfNums y209) ++ t212) ++ t213) ++ t214)),(39,.string (((((strOfNums y209) ++ t212) ++ t213) ++ t214) ++ t215))]) (fun s_ w' => (j10_0 w' gb207 a0_0 a0_1 a0_2 a0_3 a0_4 a0_5 a0_6 a0_7 A0_8 l0_8 c0_8 A0_9 l0_9 c0_9 a0_10 a0_11) ∧ (Kd.R (Kd.int .u8) 5 w' w.heap.size (fun _ => True) s_ y209) ∧ (j10_1 w' gb207 a0_0 a0_1 a0_2 a0_3 a0_4 a0_5 a0_6 a0_7 A0_8 l0_8 c0_8 A0_9 l0_9 c0_9 a0_10 a0_11) ∧ (Below w.heap.size w w')) ?_ ?_;rotate_left
       ·intro hJ9_10_13_17_21_25;refine join_ (σ:=Value) 11 #[true,true,true,true,true,true,true,true,true,true,false,true,true,true,false,true,true,true,false,true,true,true,false,true,true,true,false,true,true,true,false,true,true,false,false,true,true,true,false,false,false] (fun s_ => [(22,s_),(26,.string t212),(30,.string t213),(34,.string t214),(38,.string t215),(42,.string t216)]) (fun s_ w' => (j10_0 w' gb207 a0_0 a0_1 a0_2 a0_3 a0_4 a0_5 a0_6 a0_7 A0_8 l0_8 c0_8 A0_9 l0_9 c0_9 a0_10 a0_11) ∧ (Kd.R (Kd.int .u8) 5 w' w.heap.size (fun _ => True) s_ y209) ∧ (j10_1 w' gb207 a0_0 a0_1 a0_2 a0_3 a0_4 a0_5 a0_6 a0_7 A0_8 l0_8 c0_8 A0_9 l0_9 c0_9 a0_10 a0_11) ∧ (Below w.heap.size w w')) ?_ ?_;rotate_left
        ·intro hJ9_13_17_21_25_29;refine join_ (σ:=Unit) 11 #[true,true,true,true,true,true,true,true,true,false,false,true,true,true,false,true,true,true,false,true,true,true,false,true,true,true,false,true,true,true,false,true,true,true,false,true,true,true,false,false,false] (fun s_ => [(26,.string t212),(30,.string t213),(34,.string t214),(38,.string t215),(42,.string t216),(46,.string t217)]) (fun s_ w' => (j10_0 w' gb207 a0_0 a0_1 a0_2 a0_3 a0_4 a0_5 a0_6 a0_7 A0_8 l0_8 c0_8 A0_9 l0_9 c0_9 a0_10 a0_11) ∧ (j10_1 w' gb207 a0_0 a0_1 a0_2 a0_3 a0_4 a0_5 a0_6 a0_7 A0_8 l0_8 c0_8 A0_9 l0_9 c0_9 a0_10 a0_11) ∧ (Below w.heap.size w w')) ?_ ?_;rotate_left
         ·intro hJ13_17_21_25_29_33;refine join_ (σ:=Value) 9 #[true,true,true,true,true,true,true,true,true,true,true,true,true,true,true,true,true,true,true,true,true,true,true,true,true,false,false,true,true,false,false,true,true,false,false,true,true,true,false,false,false] (fun s_ => [(22,s_),(23,.string (strOfNums y209)),(26,.string t212),(30,.string t213),(34,.string t214),(27,.string ((strOfNums y209) ++ t212)),(31,.string (((strOfNums y209) ++ t212) ++ t213)),(35,.string ((((strOfNums y209) ++ t212) ++ t213) ++ t214))]) (fun s_ w' => (j10_0 w' gb207 a0_0 a0_1 a0_2 a0_3 a0_4 a0_5 a0_6 a0_7 A0_8 l0_8 c0_8 A0_9 l0_9 c0_9 a0_10 a0_11) ∧ (Kd.R (Kd.int .u8) 5 w' w.heap.size (fun _ => True) s_ y209) ∧ (j10_1 w' gb207 a0_0 a0_1 a0_2 a0_3 a0_4 a0_5 a0_6 a0_7 A0_8 l0_8 c0_8 A0_9 l0_9 c0_9 a0_10 a0_11) ∧ (Below w.heap.size w w')) ?_ ?_;rotate_left
          ·intro hJ9_10_13_17_21;refine join_ (σ:=Value) 12 #[true,true,true,true,true,true,true,true,true,true,false,true,true,true,false,true,true,true,false,true,true,true,false,true,true,true,false,true,true,false,false,true,true,false,false,true,true,true,false,false,false] (fun s_ => [(22,s_),(26,.string t212),(30,.string t213),(34,.string t214),(38,.string t215)]) (fun s_ w' => (j10_0 w' gb207 a0_0 a0_1 a0_2 a0_3 a0_4 a0_5 a0_6 a0_7 A0_8 l0_8 c0_8 A0_9 l0_9 c0_9 a0_10 a0_11) ∧ (Kd.R (Kd.int .u8) 5 w' w.heap.size (fun _ => True) s_ y209) ∧ (j10_1 w' gb207 a0_0 a0_1 a0_2 a0_3 a0_4 a0_5 a0_6 a0_7 A0_8 l0_8 c0_8 A0_9 l0_9 c0_9 a0_10 a0_11) ∧ (Below w.heap.size w w')) ?_ ?_;rotate_left
           ·intro hJ9_13_17_21_25;refine join_ (σ:=Unit) 12 #[true,true,true,true,true,true,true,true,true,false,false,true,true,true,false,true,true,true,false,true,true,true,false,true,true,true,false,true,true,true,false,true,true,false,false,true,true,true,false,false,false] (fun s_ => [(26,.string t212),(30,.string t213),(34,.string t214),(38,.string t215),(42,.string t216)]) (fun s_ w' => (j10_0 w' gb207 a0_0 a0_1 a0_2 a0_3 a0_4 a0_5 a0_6 a0_7 A0_8 l0_8 c0_8 A0_9 l0_9 c0_9 a0_10 a0_11) ∧ (j10_1 w' gb207 a0_0 a0_1 a0_2 a0_3 a0_4 a0_5 a0_6 a0_7 A0_8 l0_8 c0_8 A0_9 l0_9 c0_9 a0_10 a0_11) ∧ (Below w.heap.size w w')) ?_ ?_;rotate_left
            ·intro hJ13_17_21_25_29;refine join_ (σ:=Value) 11 #[true,true,true,true,true,true,true,true,true,true,true,true,true,true,true,true,true,true,true,true,true,false,false,true,true,false,false,true,true,false,false,true,true,false,false,true,true,true,false,false,false] (fun s_ => [(22,s_),(23,.string (strOfNums y209)),(26,.string t212),(30,.string t213),(27,.string ((strOfNums y209) ++ t212)),(31,.string (((strOfNums y209) ++ t212) ++ t213))]) (fun s_ w' => (j10_0 w' gb207 a0_0 a0_1 a0_2 a0_3 a0_4 a0_5 a0_6 a0_7 A0_8 l0_8 c0_8 A0_9 l0_9 c0_9 a0_10 a0_11) ∧ (Kd.R (Kd.int .u8) 5 w' w.heap.size (fun _ => True) s_ y209) ∧ (j10_1 w' gb207 a0_0 a0_1 a0_2 a0_3 a0_4 a0_5 a0_6 a0_7 A0_8 l0_8 c0_8 A0_9 l0_9 c0_9 a0_10 a0_11) ∧ (Below w.heap.size w w')) ?_ ?_;rotate_left
             ·intro hJ9_10_13_17;refine join_ (σ:=Value) 13 #[true,true,true,true,true,true,true,true,true,true,false,true,true,true,false,true,true,true,false,true,true,true,false,true,true,false,false,true,true,false,false,true,true,false,false,true,true,true,false,false,false] (fun s_ => [(22,s_),(26,.string t212),(30,.string t213),(34,.string t214)]) (fun s_ w' => (j10_0 w' gb207 a0_0 a0_1 a0_2 a0_3 a0_4 a0_5 a0_6 a0_7 A0_8 l0_8 c0_8 A0_9 l0_9 c0_9 a0_10 a0_11) ∧ (Kd.R (Kd.int .u8) 5 w' w.heap.size (fun _ => True) s_ y209) ∧ (j10_1 w' gb207 a0_0 a0_1 a0_2 a0_3 a0_4 a0_5 a0_6 a0_7 A0_8 l0_8 c0_8 A0_9 l0_9 c0_9 a0_10 a0_11) ∧ (Below w.heap.size w w')) ?_ ?_;rotate_left
              ·intro hJ9_13_17_21;refine join_ (σ:=Unit) 13 #[true,true,true,true,true,true,true,true,true,false,false,true,true,true,false,true,true,true,false,true,true,true,false,true,true,true,false,true,true,false,false,true,true,false,false,true,true,true,false,false,false] (fun s_ => [(26,.string t212),(30,.string t213),(34,.string t214),(38,.string t215)]) (fun s_ w' => (j10_0 w' gb207 a0_0 a0_1 a0_2 a0_3 a0_4 a0_5 a0_6 a0_7 A0_8 l0_8 c0_8 A0_9 l0_9 c0_9 a0_10 a0_11) ∧ (j10_1 w' gb207 a0_0 a0_1 a0_2 a0_3 a0_4 a0_5 a0_6 a0_7 A0_8 l0_8 c0_8 A0_9 l0_9 c0_9 a0_10 a0_11) ∧ (Below w.heap.size w w')) ?_ ?_;rotate_left
               ·intro hJ13_17_21_25;refine join_ (σ:=Value) 13 #[true,true,true,true,true,true,true,true,true,true,true,true,true,true,true,true,true,false,false,true,true,false,false,true,true,false,false,true,true,false,false,true,true,false,false,true,true,true,false,false,false] (fun s_ => [(22,s_),(23,.string (strOfNums y209)),(26,.string t212),(27,.string ((strOfNums y209) ++ t212))]) (fun s_ w' => (j10_0 w' gb207 a0_0 a0_1 a0_2 a0_3 a0_4 a0_5 a0_6 a0_7 A0_8 l0_8 c0_8 A0_9 l0_9 c0_9 a0_10 a0_11) ∧ (Kd.R (Kd.int .u8) 5 w' w.heap.size (fun _ => True) s_ y209) ∧ (j10_1 w' gb207 a0_0 a0_1 a0_2 a0_3 a0_4 a0_5 a0_6 a0_7 A0_8 l0_8 c0_8 A0_9 l0_9 c0_9 a0_10 a0_11) ∧ (Below w.heap.size w w')) ?_ ?_;rotate_left
                ·intro hJ9_10_13;refine join_ (σ:=Value) 14 #[true,true,true,true,true,true,true,true,true,true,false,true,true,true,false,true,true,true,false,true,true,false,false,true,true,false,false,true,true,false,false,true,true,false,false,true,true,true,false,false,false] (fun s_ => [(22,s_),(26,.string t212),(30,.string t213)]) (fun s_ w' => (j10_0 w' gb207 a0_0 a0_1 a0_2 a0_3 a0_4 a0_5 a0_6 a0_7 A0_8 l0_8 c0_8 A0_9 l0_9 c0_9 a0_10 a0_11) ∧ (Kd.R (Kd.int .u8) 5 w' w.heap.size (fun _ => True) s_ y209) ∧ (j10_1 w' gb207 a0_0 a0_1 a0_2 a0_3 a0_4 a0_5 a0_6 a0_7 A0_8 l0_8 c0_8 A0_9 l0_9 c0_9 a0_10 a0_11) ∧ (Below w.heap.size w w')) ?_ ?_;rotate_left
                 ·intro hJ9_13_17;refine join_ (σ:=Unit) 14 #[true,true,true,true,true,true,true,true,true,false,false,true,true,true,false,true,true,true,false,true,true,true,false,true,true,false,false,true,true,false,false,true,true,false,false,true,true,true,false,false,false] (fun s_ => [(26,.string t212),(30,.string t213),(34,.string t214)]) (fun s_ w' => (j10_0 w' gb207 a0_0 a0_1 a0_2 a0_3 a0_4 a0_5 a0_6 a0_7 A0_8 l0_8 c0_8 A0_9 l0_9 c0_9 a0_10 a0_11) ∧ (j10_1 w' gb207 a0_0 a0_1 a0_2 a0_3 a0_4 a0_5 a0_6 a0_7 A0_8 l0_8 c0_8 A0_9 l0_9 c0_9 a0_10 a0_11) ∧ (Below w.heap.size w w')) ?_ ?_;rotate_left
                  ·intro hJ13_17_21;refine join_ (σ:=Value) 15 #[true,true,true,true,true,true,true,true,true,true,true,true,true,false,false,true,true,false,false,true,true,false,false,true,true,false,false,true,true,false,false,true,true,false,false,true,true,true,false,false,false] (fun s_ => [(22,s_),(23,.string (strOfNums y209))]) (fun s_ w' => (j10_0 w' gb207 a0_0 a0_1 a0_2 a0_3 a0_4 a0_5 a0_6 a0_7 A0_8 l0_8 c0_8 A0_9 l0_9 c0_9 a0_10 a0_11) ∧ (Kd.R (Kd.int .u8) 5 w' w.heap.size (fun _ => True) s_ y209) ∧ (j10_1 w' gb207 a0_0 a0_1 a0_2 a0_3 a0_4 a0_5 a0_6 a0_7 A0_8 l0_8 c0_8 A0_9 l0_9 c0_9 a0_10 a0_11) ∧ (Below w.heap.size w w')) ?_ ?_;rotate_left
                   ·intro hJ9_10;refine join_ (σ:=Value) 15 #[true,true,true,true,true,true,true,true,true,true,false,true,true,true,false,true,true,false,false,true,true,false,false,true,true,false,false,true,true,false,false,true,true,false,false,true,true,true,false,false,false] (fun s_ => [(22,s_),(26,.string t212)]) (fun s_ w' => (j10_0 w' gb207 a0_0 a0_1 a0_2 a0_3 a0_4 a0_5 a0_6 a0_7 A0_8 l0_8 c0_8 A0_9 l0_9 c0_9 a0_10 a0_11) ∧ (Kd.R (Kd.int .u8) 5 w' w.heap.size (fun _ => True) s_ y209) ∧ (j10_1 w' gb207 a0_0 a0_1 a0_2 a0_3 a0_4 a0_5 a0_6 a0_7 A0_8 l0_8 c0_8 A0_9 l0_9 c0_9 a0_10 a0_11) ∧ (Below w.heap.size w w')) ?_ ?_;rotate_left
                    ·intro hJ9_13;refine join_ (σ:=Unit) 15 #[true,true,true,true,true,true,true,true,true,false,false,true,true,true,false,true,true,true,false,true,true,false,false,true,true,false,false,true,true,false,false,true,true,false,false,true,true,true,false,false,false] (fun s_ => [(26,.string t212),(30,.string t213)]) (fun s_ w' => (j10_0 w' gb207 a0_0 a0_1 a0_2 a0_3 a0_4 a0_5 a0_6 a0_7 A0_8 l0_8 c0_8 A0_9 l0_9 c0_9 a0_10 a0_11) ∧ (j10_1 w' gb207 a0_0 a0_1 a0_2 a0_3 a0_4 a0_5 a0_6 a0_7 A0_8 l0_8 c0_8 A0_9 l0_9 c0_9 a0_10 a0_11) ∧ (Below w.heap.size w w')) ?_ ?_;rotate_left
                     ·intro hJ13_17;refine join_ (σ:=Value) 16 #[true,true,true,true,true,true,true,true,true,true,false,true,true,false,false,true,true,false,false,true,true,false,false,true,true,false,false,true,true,false,false,true,true,false,false,true,true,true,false,false,false] (fun s_ => [(22,s_)]) (fun s_ w' => (j10_0 w' gb207 a0_0 a0_1 a0_2 a0_3 a0_4 a0_5 a0_6 a0_7 A0_8 l0_8 c0_8 A0_9 l0_9 c0_9 a0_10 a0_11) ∧ (Kd.R (Kd.int .u8) 5 w' w.heap.size (fun _ => True) s_ y209) ∧ (j10_1 w' gb207 a0_0 a0_1 a0_2 a0_3 a0_4 a0_5 a0_6 a0_7 A0_8 l0_8 c0_8 A0_9 l0_9 c0_9 a0_10 a0_11) ∧ (Below w.heap.size w w')) ?_ ?_;rotate_left
                      ·intro hJ9;refine join_ (σ:=Unit) 16 #[true,true,true,true,true,true,true,true,true,false,false,true,true,true,false,true,true,false,false,true,true,false,false,true,true,false,false,true,true,false,false,true,true,false,false,true,true,true,false,false,false] (fun s_ => [(26,.string t212)]) (fun s_ w' => (j10_0 w' gb207 a0_0 a0_1 a0_2 a0_3 a0_4 a0_5 a0_6 a0_7 A0_8 l0_8 c0_8 A0_9 l0_9 c0_9 a0_10 a0_11) ∧ (j10_1 w' gb207 a0_0 a0_1 a0_2 a0_3 a0_4 a0_5 a0_6 a0_7 A0_8 l0_8 c0_8 A0_9 l0_9 c0_9 a0_10 a0_11) ∧ (Below w.heap.size w w')) ?_ ?_;rotate_left
                       ·intro hJ13;refine two_ (i:=9) (j:=13) (Ni:=some 22) (Nj:=some 26) #[true,true,true,true,true,true,true,true,true,true,false,true,true,false,false,true,true,false,false,true,true,false,false,true,true,false,false,true,true,false,false,true,true,false,false,true,true,true,false,false,false] #[true,true,true,true,true,true,true,true,true,false,false,true,true,true,false,true,true,false,false,true,true,false,false,true,true,false,false,true,true,false,false,true,true,false,false,true,true,true,false,false,false] rfl rfl rfl rfl (two_of HT_.out (by kernel_rfl)) (by decide) (by decide) (fun K hK => ?_) (fun K hK => ?_)
                        ·skip
                         refine Kd.R_lit_step (Kd.int .u8) _ 5 ?hg (N:=22) ?hd (xs:=([(a0_0) % 256,(a0_1) % 256,(a0_2) % 256] : List Int)) (inner:=[.int .u8 ((a0_0) % 256),.int .u8 ((a0_1) % 256),.int .u8 ((a0_2) % 256)]) (ok:=fun _ => True) (okp:=fun _ => True) ?hr ?hp (fun _ hk => hk) trivial (Below.refl _ _) (Nat.le_refl _) (by simp) ?_;(case hd => rfl);(case hg => rfl);(case hr => exact gx_);(case hp => exact (Reps.one (show Kd.M (Kd.int .u8) _ _ _ ((a0_0) % 256) [.int .u8 ((a0_0) % 256)] from rfl) (Reps.one (show Kd.M (Kd.int .u8) _ _ _ ((a0_1) % 256) [.int .u8 ((a0_1) % 256)] from rfl) (Reps.one (show Kd.M (Kd.int .u8) _ _ _ ((a0_2) % 256) [.int .u8 ((a0_2) % 256)] from rfl) (Reps.none _ _)))));intro v210 w23 ho24 hb hg_ hnew_;clear hg_ hnew_
                         (rw [← Ny209.out] at ho24)
                         have HO211:=A_ (rw_ ho24 (bz_ (bq_ HB)));replace BK207:=kB_ BK207 hb;replace HB:=bS_ HB hb;clear hb ho24;refine hK.out _ _ (kJ12_ BK207) (fun hHeld => ?_);clear hK K;refine nX_ (some 22) ?_
                         exact norm_ (by (simp only [putAll,Act.put,s1_,s2_,s3_];done)) (hJ9 (v210) _ ⟨hHeld,(rq_ HO211),(kq_ BK207),(bq_ HB)⟩)
                        skip
                        refine gs_ Try.func54 #[.int .i64 a0_3] ?_;with_reducible refine (spec_l01Var.calls k a0_3 t212 _ A8.out).mono ?_;rintro e w23 ⟨rfl,hb⟩;refine ⟨_,rfl,?_⟩;replace BK207:=kB_ BK207 hb;replace HB:=bS_ HB hb
                        (try clear hb)
                        refine hK.out _ _ (kJ12_ BK207) (fun hHeld => ?_);clear hK K;refine nX_ (some 26) ?_
                        exact norm_ (by (simp only [putAll,Act.put,s1_,s2_,s3_];done)) (hJ13 () _ ⟨hHeld,(kq_ BK207),(bq_ HB)⟩)
                       skip
                       rintro _ w24 ⟨hS_,h0_,h1_⟩;have n0_ : Aside0 (j10_1 w24 gb207 a0_0 a0_1 a0_2 a0_3 a0_4 a0_5 a0_6 a0_7 A0_8 l0_8 c0_8 A0_9 l0_9 c0_9 a0_10 a0_11):=⟨h0_⟩;have n1_ : Aside0 (Below w.heap.size w w24):=⟨h1_⟩;clear BK207;clear HB;clear h0_ h1_;have BK207:=n0_;have HB:=n1_;have hHeld : j10_0 w24 gb207 a0_0 a0_1 a0_2 a0_3 a0_4 a0_5 a0_6 a0_7 A0_8 l0_8 c0_8 A0_9 l0_9 c0_9 a0_10 a0_11:=hS_;refine norm_ (a':=?_) ?_ ?_;rotate_left
                       ·simp only [putAll,Act.put,s1_,s2_,s3_];rfl
                       refine two_ (i:=9) (j:=17) (Ni:=some 22) (Nj:=some 30) #[true,true,true,true,true,true,true,true,true,true,false,true,true,true,false,true,true,false,false,true,true,false,false,true,true,false,false,true,true,false,false,true,true,false,false,true,true,true,false,false,false] #[true,true,true,true,true,true,true,true,true,false,false,true,true,true,false,true,true,true,false,true,true,false,false,true,true,false,false,true,true,false,false,true,true,false,false,true,true,true,false,false,false] rfl rfl rfl rfl (two_of HT_.out (by kernel_rfl)) (by decide) (by decide) (fun K hK => ?_) (fun K hK => ?_)
                       ·skip
                        refine Kd.R_lit_step (Kd.int .u8) _ 5 ?hg (N:=22) ?hd (xs:=([(a0_0) % 256,(a0_1) % 256,(a0_2) % 256] : List Int)) (inner:=[.int .u8 ((a0_0) % 256),.int .u8 ((a0_1) % 256),.int .u8 ((a0_2) % 256)]) (ok:=fun _ => True) (okp:=fun _ => True) ?hr ?hp (fun _ hk => hk) trivial (Below.refl _ _) (Nat.le_refl _) (by simp) ?_;(case hd => rfl);(case hg => rfl);(case hr => exact gx_);(case hp => exact (Reps.one (show Kd.M (Kd.int .u8) _ _ _ ((a0_0) % 256) [.int .u8 ((a0_0) % 256)] from rfl) (Reps.one (show Kd.M (Kd.int .u8) _ _ _ ((a0_1) % 256) [.int .u8 ((a0_1) % 256)] from rfl) (Reps.one (show Kd.M (Kd.int .u8) _ _ _ ((a0_2) % 256) [.int .u8 ((a0_2) % 256)] from rfl) (Reps.none _ _)))));intro v210 w25 ho26 hb hg_ hnew_;clear hg_ hnew_
                        (rw [← Ny209.out] at ho26)
                        have HO211:=A_ (rw_ ho26 (bz_ (bq_ HB)));replace BK207:=kB_ BK207 hb;replace HB:=bS_ HB hb;clear hb ho26;refine hK.out _ _ (kJ12_ BK207) (fun hHeld => ?_);clear hK K;refine nX_ (some 22) ?_
                        exact norm_ (by (simp only [putAll,Act.put,s1_,s2_,s3_];done)) (hJ9_13 (v210) _ ⟨hHeld,(rq_ HO211),(kq_ BK207),(bq_ HB)⟩)
                       skip
                       refine gs_ Try.func54 #[.int .i64 a0_4] ?_;with_reducible refine (spec_l01Var.calls k a0_4 t213 _ A10.out).mono ?_;rintro e w25 ⟨rfl,hb⟩;refine ⟨_,rfl,?_⟩;replace BK207:=kB_ BK207 hb;replace HB:=bS_ HB hb
                       (try clear hb)
                       refine hK.out _ _ (kJ12_ BK207) (fun hHeld => ?_);clear hK K;refine nX_ (some 30) ?_
                       exact norm_ (by (simp only [putAll,Act.put,s1_,s2_,s3_];done)) (hJ13_17 () _ ⟨hHeld,(kq_ BK207),(bq_ HB)⟩)
                      skip
                      rintro v210 w25 ⟨hS_,h0_,h1_,h2_⟩;have n0_ : Aside0 (Kd.R (Kd.int .u8) 5 w25 w.heap.size (fun _ => True) v210 y209):=⟨h0_⟩;have n1_ : Aside0 (j10_1 w25 gb207 a0_0 a0_1 a0_2 a0_3 a0_4 a0_5 a0_6 a0_7 A0_8 l0_8 c0_8 A0_9 l0_9 c0_9 a0_10 a0_11):=⟨h1_⟩;have n2_ : Aside0 (Below w.heap.size w w25):=⟨h2_⟩;clear BK207;clear HB;clear h0_ h1_ h2_;have HO211:=n0_;have BK207:=n1_;have HB:=n2_;have hHeld : j10_0 w25 gb207 a0_0 a0_1 a0_2 a0_3 a0_4 a0_5 a0_6 a0_7 A0_8 l0_8 c0_8 A0_9 l0_9 c0_9 a0_10 a0_11:=hS_;refine norm_ (a':=?_) ?_ ?_;rotate_left
                      ·simp only [putAll,Act.put,s1_,s2_,s3_];rfl
                      refine two_ (i:=10) (j:=13) (Ni:=some 23) (Nj:=some 26) #[true,true,true,true,true,true,true,true,true,true,true,true,true,false,false,true,true,false,false,true,true,false,false,true,true,false,false,true,true,false,false,true,true,false,false,true,true,true,false,false,false] #[true,true,true,true,true,true,true,true,true,true,false,true,true,true,false,true,true,false,false,true,true,false,false,true,true,false,false,true,true,false,false,true,true,false,false,true,true,true,false,false,false] rfl rfl rfl rfl (two_of HT_.out (by kernel_rfl)) (by decide) (by decide) (fun K hK => ?_) (fun K hK => ?_)
                      ·skip
                       have hcv26:=own_string (P:=Try.prog) Try.underlying46 Try.underlying5 Try.underlying9 (Kd.own_of_R HO211.out);refine value_ (w1:=?_) (v:=?_) (by rfl) rfl ?_ ?_;rotate_left 2
                       ·go_simp
                        constructor
                        ·rfl
                        rfl
                       clear hcv26;refine hK.out _ _ (kJ12_ BK207) (fun hHeld => ?_);clear hK K;refine nX_ (some 23) ?_
                       exact norm_ (by (simp only [putAll,Act.put,s1_,s2_,s3_];done)) (hJ9_10 (v210) _ ⟨hHeld,(rq_ HO211),(kq_ BK207),(bq_ HB)⟩)
                      skip
                      refine gs_ Try.func54 #[.int .i64 a0_3] ?_;with_reducible refine (spec_l01Var.calls k a0_3 t212 _ A8.out).mono ?_;rintro e w26 ⟨rfl,hb⟩;refine ⟨_,rfl,?_⟩;replace HO211:=rB_ HO211 hb;replace BK207:=kB_ BK207 hb;replace HB:=bS_ HB hb
                      (try clear hb)
                      refine hK.out _ _ (kJ12_ BK207) (fun hHeld => ?_);clear hK K;refine nX_ (some 26) ?_
                      exact norm_ (by (simp only [putAll,Act.put,s1_,s2_,s3_];done)) (hJ9_13 (v210) _ ⟨hHeld,(rq_ HO211),(kq_ BK207),(bq_ HB)⟩)
                     skip
                     rintro _ w25 ⟨hS_,h0_,h1_⟩;have n0_ : Aside0 (j10_1 w25 gb207 a0_0 a0_1 a0_2 a0_3 a0_4 a0_5 a0_6 a0_7 A0_8 l0_8 c0_8 A0_9 l0_9 c0_9 a0_10 a0_11):=⟨h0_⟩;have n1_ : Aside0 (Below w.heap.size w w25):=⟨h1_⟩;clear BK207;clear HB;clear h0_ h1_;have BK207:=n0_;have HB:=n1_;have hHeld : j10_0 w25 gb207 a0_0 a0_1 a0_2 a0_3 a0_4 a0_5 a0_6 a0_7 A0_8 l0_8 c0_8 A0_9 l0_9 c0_9 a0_10 a0_11:=hS_;refine norm_ (a':=?_) ?_ ?_;rotate_left
                     ·simp only [putAll,Act.put,s1_,s2_,s3_];rfl
                     refine two_ (i:=9) (j:=21) (Ni:=some 22) (Nj:=some 34) #[true,true,true,true,true,true,true,true,true,true,false,true,true,true,false,true,true,true,false,true,true,false,false,true,true,false,false,true,true,false,false,true,true,false,false,true,true,true,false,false,false] #[true,true,true,true,true,true,true,true,true,false,false,true,true,true,false,true,true,true,false,true,true,true,false,true,true,false,false,true,true,false,false,true,true,false,false,true,true,true,false,false,false] rfl rfl rfl rfl (two_of HT_.out (by kernel_rfl)) (by decide) (by decide) (fun K hK => ?_) (fun K hK => ?_)
                     ·skip
                      refine Kd.R_lit_step (Kd.int .u8) _ 5 ?hg (N:=22) ?hd (xs:=([(a0_0) % 256,(a0_1) % 256,(a0_2) % 256] : List Int)) (inner:=[.int .u8 ((a0_0) % 256),.int .u8 ((a0_1) % 256),.int .u8 ((a0_2) % 256)]) (ok:=fun _ => True) (okp:=fun _ => True) ?hr ?hp (fun _ hk => hk) trivial (Below.refl _ _) (Nat.le_refl _) (by simp) ?_;(case hd => rfl);(case hg => rfl);(case hr => exact gx_);(case hp => exact (Reps.one (show Kd.M (Kd.int .u8) _ _ _ ((a0_0) % 256) [.int .u8 ((a0_0) % 256)] from rfl) (Reps.one (show Kd.M (Kd.int .u8) _ _ _ ((a0_1) % 256) [.int .u8 ((a0_1) % 256)] from rfl) (Reps.one (show Kd.M (Kd.int .u8) _ _ _ ((a0_2) % 256) [.int .u8 ((a0_2) % 256)] from rfl) (Reps.none _ _)))));intro v210 w26 ho27 hb hg_ hnew_;clear hg_ hnew_
                      (rw [← Ny209.out] at ho27)
                      have HO211:=A_ (rw_ ho27 (bz_ (bq_ HB)));replace BK207:=kB_ BK207 hb;replace HB:=bS_ HB hb;clear hb ho27;refine hK.out _ _ (kJ12_ BK207) (fun hHeld => ?_);clear hK K;refine nX_ (some 22) ?_
                      exact norm_ (by (simp only [putAll,Act.put,s1_,s2_,s3_];done)) (hJ9_13_17 (v210) _ ⟨hHeld,(rq_ HO211),(kq_ BK207),(bq_ HB)⟩)
                     skip
                     refine gs_ Try.func54 #[.int .i64 a0_5] ?_;with_reducible refine (spec_l01Var.calls k a0_5 t214 _ A12.out).mono ?_;rintro e w26 ⟨rfl,hb⟩;refine ⟨_,rfl,?_⟩;replace BK207:=kB_ BK207 hb;replace HB:=bS_ HB hb
                     (try clear hb)
                     refine hK.out _ _ (kJ12_ BK207) (fun hHeld => ?_);clear hK K;refine nX_ (some 34) ?_
                     exact norm_ (by (simp only [putAll,Act.put,s1_,s2_,s3_];done)) (hJ13_17_21 () _ ⟨hHeld,(kq_ BK207),(bq_ HB)⟩)
                    skip
                    rintro v210 w26 ⟨hS_,h0_,h1_,h2_⟩;have n0_ : Aside0 (Kd.R (Kd.int .u8) 5 w26 w.heap.size (fun _ => True) v210 y209):=⟨h0_⟩;have n1_ : Aside0 (j10_1 w26 gb207 a0_0 a0_1 a0_2 a0_3 a0_4 a0_5 a0_6 a0_7 A0_8 l0_8 c0_8 A0_9 l0_9 c0_9 a0_10 a0_11):=⟨h1_⟩;have n2_ : Aside0 (Below w.heap.size w w26):=⟨h2_⟩;clear BK207;clear HB;clear h0_ h1_ h2_;have HO211:=n0_;have BK207:=n1_;have HB:=n2_;have hHeld : j10_0 w26 gb207 a0_0 a0_1 a0_2 a0_3 a0_4 a0_5 a0_6 a0_7 A0_8 l0_8 c0_8 A0_9 l0_9 c0_9 a0_10 a0_11:=hS_;refine norm_ (a':=?_) ?_ ?_;rotate_left
                    ·simp only [putAll,Act.put,s1_,s2_,s3_];rfl
                    refine two_ (i:=10) (j:=17) (Ni:=some 23) (Nj:=some 30) #[true,true,true,true,true,true,true,true,true,true,true,true,true,true,false,true,true,false,false,true,true,false,false,true,true,false,false,true,true,false,false,true,true,false,false,true,true,true,false,false,false] #[true,true,true,true,true,true,true,true,true,true,false,true,true,true,false,true,true,true,false,true,true,false,false,true,true,false,false,true,true,false,false,true,true,false,false,true,true,true,false,false,false] rfl rfl rfl rfl (two_of HT_.out (by kernel_rfl)) (by decide) (by decide) (fun K hK => ?_) (fun K hK => ?_)
                    ·skip
                     have hcv27:=own_string (P:=Try.prog) Try.underlying46 Try.underlying5 Try.underlying9 (Kd.own_of_R HO211.out);refine value_ (w1:=?_) (v:=?_) (by rfl) rfl ?_ ?_;rotate_left 2
                     ·go_simp
                      constructor
                      ·rfl
                      rfl
                     clear hcv27;refine hK.out _ _ (kJ12_ BK207) (fun hHeld => ?_);clear hK K;refine nX_ (some 23) ?_
                     refine pU_ 14 (some 27) ?_
                     exact norm_ (by (simp only [putAll,Act.put,s1_,s2_,s3_];done)) (hJ9_10_13 (v210) _ ⟨hHeld,(rq_ HO211),(kq_ BK207),(bq_ HB)⟩)
                    skip
                    refine gs_ Try.func54 #[.int .i64 a0_4] ?_;with_reducible refine (spec_l01Var.calls k a0_4 t213 _ A10.out).mono ?_;rintro e w27 ⟨rfl,hb⟩;refine ⟨_,rfl,?_⟩;replace HO211:=rB_ HO211 hb;replace BK207:=kB_ BK207 hb;replace HB:=bS_ HB hb
                    (try clear hb)
                    refine hK.out _ _ (kJ12_ BK207) (fun hHeld => ?_);clear hK K;refine nX_ (some 30) ?_
                    exact norm_ (by (simp only [putAll,Act.put,s1_,s2_,s3_];done)) (hJ9_13_17 (v210) _ ⟨hHeld,(rq_ HO211),(kq_ BK207),(bq_ HB)⟩)
                   skip
                   rintro v210 w26 ⟨hS_,h0_,h1_,h2_⟩;have n0_ : Aside0 (Kd.R (Kd.int .u8) 5 w26 w.heap.size (fun _ => True) v210 y209):=⟨h0_⟩;have n1_ : Aside0 (j10_1 w26 gb207 a0_0 a0_1 a0_2 a0_3 a0_4 a0_5 a0_6 a0_7 A0_8 l0_8 c0_8 A0_9 l0_9 c0_9 a0_10 a0_11):=⟨h1_⟩;have n2_ : Aside0 (Below w.heap.size w w26):=⟨h2_⟩;clear BK207;clear HB;clear h0_ h1_ h2_;have HO211:=n0_;have BK207:=n1_;have HB:=n2_;have hHeld : j10_0 w26 gb207 a0_0 a0_1 a0_2 a0_3 a0_4 a0_5 a0_6 a0_7 A0_8 l0_8 c0_8 A0_9 l0_9 c0_9 a0_10 a0_11:=hS_;refine norm_ (a':=?_) ?_ ?_;rotate_left
                   ·simp only [putAll,Act.put,s1_,s2_,s3_];rfl
                   refine oN_ 13 (some 26) (fun K hK => ?_);refine gs_ Try.func54 #[.int .i64 a0_3] ?_;with_reducible refine (spec_l01Var.calls k a0_3 t212 _ A8.out).mono ?_;rintro e w27 ⟨rfl,hb⟩;refine ⟨_,rfl,?_⟩;replace HO211:=rB_ HO211 hb;replace BK207:=kB_ BK207 hb;replace HB:=bS_ HB hb
                   (try clear hb)
                   refine hK.out _ _ (kJ12_ BK207) (fun hHeld => ?_);clear hK K;refine nX_ (some 26) ?_
                   refine pU_ 14 (some 27) ?_
                   exact norm_ (by (simp only [putAll,Act.put,s1_,s2_,s3_];done)) (hJ9_10_13 (v210) _ ⟨hHeld,(rq_ HO211),(kq_ BK207),(bq_ HB)⟩)
                  skip
                  rintro _ w26 ⟨hS_,h0_,h1_⟩;have n0_ : Aside0 (j10_1 w26 gb207 a0_0 a0_1 a0_2 a0_3 a0_4 a0_5 a0_6 a0_7 A0_8 l0_8 c0_8 A0_9 l0_9 c0_9 a0_10 a0_11):=⟨h0_⟩;have n1_ : Aside0 (Below w.heap.size w w26):=⟨h1_⟩;clear BK207;clear HB;clear h0_ h1_;have BK207:=n0_;have HB:=n1_;have hHeld : j10_0 w26 gb207 a0_0 a0_1 a0_2 a0_3 a0_4 a0_5 a0_6 a0_7 A0_8 l0_8 c0_8 A0_9 l0_9 c0_9 a0_10 a0_11:=hS_;refine norm_ (a':=?_) ?_ ?_;rotate_left
                  ·simp only [putAll,Act.put,s1_,s2_,s3_];rfl
                  refine two_ (i:=9) (j:=25) (Ni:=some 22) (Nj:=some 38) #[true,true,true,true,true,true,true,true,true,true,false,true,true,true,false,true,true,true,false,true,true,true,false,true,true,false,false,true,true,false,false,true,true,false,false,true,true,true,false,false,false] #[true,true,true,true,true,true,true,true,true,false,false,true,true,true,false,true,true,true,false,true,true,true,false,true,true,true,false,true,true,false,false,true,true,false,false,true,true,true,false,false,false] rfl rfl rfl rfl (two_of HT_.out (by kernel_rfl)) (by decide) (by decide) (fun K hK => ?_) (fun K hK => ?_)
                  ·skip
                   refine Kd.R_lit_step (Kd.int .u8) _ 5 ?hg (N:=22) ?hd (xs:=([(a0_0) % 256,(a0_1) % 256,(a0_2) % 256] : List Int)) (inner:=[.int .u8 ((a0_0) % 256),.int .u8 ((a0_1) % 256),.int .u8 ((a0_2) % 256)]) (ok:=fun _ => True) (okp:=fun _ => True) ?hr ?hp (fun _ hk => hk) trivial (Below.refl _ _) (Nat.le_refl _) (by simp) ?_;(case hd => rfl);(case hg => rfl);(case hr => exact gx_);(case hp => exact (Reps.one (show Kd.M (Kd.int .u8) _ _ _ ((a0_0) % 256) [.int .u8 ((a0_0) % 256)] from rfl) (Reps.one (show Kd.M (Kd.int .u8) _ _ _ ((a0_1) % 256) [.int .u8 ((a0_1) % 256)] from rfl) (Reps.one (show Kd.M (Kd.int .u8) _ _ _ ((a0_2) % 256) [.int .u8 ((a0_2) % 256)] from rfl) (Reps.none _ _)))));intro v210 w27 ho28 hb hg_ hnew_;clear hg_ hnew_
                   (rw [← Ny209.out] at ho28)
                   have HO211:=A_ (rw_ ho28 (bz_ (bq_ HB)));replace BK207:=kB_ BK207 hb;replace HB:=bS_ HB hb;clear hb ho28;refine hK.out _ _ (kJ12_ BK207) (fun hHeld => ?_);clear hK K;refine nX_ (some 22) ?_
                   exact norm_ (by (simp only [putAll,Act.put,s1_,s2_,s3_];done)) (hJ9_13_17_21 (v210) _ ⟨hHeld,(rq_ HO211),(kq_ BK207),(bq_ HB)⟩)
                  skip
                  refine gs_ Try.func54 #[.int .i64 a0_6] ?_;with_reducible refine (spec_l01Var.calls k a0_6 t215 _ A14.out).mono ?_;rintro e w27 ⟨rfl,hb⟩;refine ⟨_,rfl,?_⟩;replace BK207:=kB_ BK207 hb;replace HB:=bS_ HB hb
                  (try clear hb)
                  refine hK.out _ _ (kJ12_ BK207) (fun hHeld => ?_);clear hK K;refine nX_ (some 38) ?_
                  exact norm_ (by (simp only [putAll,Act.put,s1_,s2_,s3_];done)) (hJ13_17_21_25 () _ ⟨hHeld,(kq_ BK207),(bq_ HB)⟩)
                 skip
                 rintro v210 w27 ⟨hS_,h0_,h1_,h2_⟩;have n0_ : Aside0 (Kd.R (Kd.int .u8) 5 w27 w.heap.size (fun _ => True) v210 y209):=⟨h0_⟩;have n1_ : Aside0 (j10_1 w27 gb207 a0_0 a0_1 a0_2 a0_3 a0_4 a0_5 a0_6 a0_7 A0_8 l0_8 c0_8 A0_9 l0_9 c0_9 a0_10 a0_11):=⟨h1_⟩;have n2_ : Aside0 (Below w.heap.size w w27):=⟨h2_⟩;clear BK207;clear HB;clear h0_ h1_ h2_;have HO211:=n0_;have BK207:=n1_;have HB:=n2_;have hHeld : j10_0 w27 gb207 a0_0 a0_1 a0_2 a0_3 a0_4 a0_5 a0_6 a0_7 A0_8 l0_8 c0_8 A0_9 l0_9 c0_9 a0_10 a0_11:=hS_;refine norm_ (a':=?_) ?_ ?_;rotate_left
                 ·simp only [putAll,Act.put,s1_,s2_,s3_];rfl
                 refine two_ (i:=10) (j:=21) (Ni:=some 23) (Nj:=some 34) #[true,true,true,true,true,true,true,true,true,true,true,true,true,true,false,true,true,true,false,true,true,false,false,true,true,false,false,true,true,false,false,true,true,false,false,true,true,true,false,false,false] #[true,true,true,true,true,true,true,true,true,true,false,true,true,true,false,true,true,true,false,true,true,true,false,true,true,false,false,true,true,false,false,true,true,false,false,true,true,true,false,false,false] rfl rfl rfl rfl (two_of HT_.out (by kernel_rfl)) (by decide) (by decide) (fun K hK => ?_) (fun K hK => ?_)
                 ·skip
                  have hcv28:=own_string (P:=Try.prog) Try.underlying46 Try.underlying5 Try.underlying9 (Kd.own_of_R HO211.out);refine value_ (w1:=?_) (v:=?_) (by rfl) rfl ?_ ?_;rotate_left 2
                  ·go_simp
                   constructor
                   ·rfl
                   rfl
                  clear hcv28;refine hK.out _ _ (kJ12_ BK207) (fun hHeld => ?_);clear hK K;refine nX_ (some 23) ?_
                  refine pU_ 14 (some 27) ?_
                  refine pU_ 18 (some 31) ?_
                  exact norm_ (by (simp only [putAll,Act.put,s1_,s2_,s3_];done)) (hJ9_10_13_17 (v210) _ ⟨hHeld,(rq_ HO211),(kq_ BK207),(bq_ HB)⟩)
                 skip
                 refine gs_ Try.func54 #[.int .i64 a0_5] ?_;with_reducible refine (spec_l01Var.calls k a0_5 t214 _ A12.out).mono ?_;rintro e w28 ⟨rfl,hb⟩;refine ⟨_,rfl,?_⟩;replace HO211:=rB_ HO211 hb;replace BK207:=kB_ BK207 hb;replace HB:=bS_ HB hb
                 (try clear hb)
                 refine hK.out _ _ (kJ12_ BK207) (fun hHeld => ?_);clear hK K;refine nX_ (some 34) ?_
                 exact norm_ (by (simp only [putAll,Act.put,s1_,s2_,s3_];done)) (hJ9_13_17_21 (v210) _ ⟨hHeld,(rq_ HO211),(kq_ BK207),(bq_ HB)⟩)
                skip
                rintro v210 w27 ⟨hS_,h0_,h1_,h2_⟩;have n0_ : Aside0 (Kd.R (Kd.int .u8) 5 w27 w.heap.size (fun _ => True) v210 y209):=⟨h0_⟩;have n1_ : Aside0 (j10_1 w27 gb207 a0_0 a0_1 a0_2 a0_3 a0_4 a0_5 a0_6 a0_7 A0_8 l0_8 c0_8 A0_9 l0_9 c0_9 a0_10 a0_11):=⟨h1_⟩;have n2_ : Aside0 (Below w.heap.size w w27):=⟨h2_⟩;clear BK207;clear HB;clear h0_ h1_ h2_;have HO211:=n0_;have BK207:=n1_;have HB:=n2_;have hHeld : j10_0 w27 gb207 a0_0 a0_1 a0_2 a0_3 a0_4 a0_5 a0_6 a0_7 A0_8 l0_8 c0_8 A0_9 l0_9 c0_9 a0_10 a0_11:=hS_;refine norm_ (a':=?_) ?_ ?_;rotate_left
                ·simp only [putAll,Act.put,s1_,s2_,s3_];rfl
                refine oN_ 17 (some 30) (fun K hK => ?_);refine gs_ Try.func54 #[.int .i64 a0_4] ?_;with_reducible refine (spec_l01Var.calls k a0_4 t213 _ A10.out).mono ?_;rintro e w28 ⟨rfl,hb⟩;refine ⟨_,rfl,?_⟩;replace HO211:=rB_ HO211 hb;replace BK207:=kB_ BK207 hb;replace HB:=bS_ HB hb
                (try clear hb)
                refine hK.out _ _ (kJ12_ BK207) (fun hHeld => ?_);clear hK K;refine nX_ (some 30) ?_
                refine pU_ 18 (some 31) ?_
                exact norm_ (by (simp only [putAll,Act.put,s1_,s2_,s3_];done)) (hJ9_10_13_17 (v210) _ ⟨hHeld,(rq_ HO211),(kq_ BK207),(bq_ HB)⟩)
               skip
               rintro _ w27 ⟨hS_,h0_,h1_⟩;have n0_ : Aside0 (j10_1 w27 gb207 a0_0 a0_1 a0_2 a0_3 a0_4 a0_5 a0_6 a0_7 A0_8 l0_8 c0_8 A0_9 l0_9 c0_9 a0_10 a0_11):=⟨h0_⟩;have n1_ : Aside0 (Below w.heap.size w w27):=⟨h1_⟩;clear BK207;clear HB;clear h0_ h1_;have BK207:=n0_;have HB:=n1_;have hHeld : j10_0 w27 gb207 a0_0 a0_1 a0_2 a0_3 a0_4 a0_5 a0_6 a0_7 A0_8 l0_8 c0_8 A0_9 l0_9 c0_9 a0_10 a0_11:=hS_;refine norm_ (a':=?_) ?_ ?_;rotate_left
               ·simp only [putAll,Act.put,s1_,s2_,s3_];rfl
               refine two_ (i:=9) (j:=29) (Ni:=some 22) (Nj:=some 42) #[true,true,true,true,true,true,true,true,true,true,false,true,true,true,false,true,true,true,false,true,true,true,false,true,true,true,false,true,true,false,false,true,true,false,false,true,true,true,false,false,false] #[true,true,true,true,true,true,true,true,true,false,false,true,true,true,false,true,true,true,false,true,true,true,false,true,true,true,false,true,true,true,false,true,true,false,false,true,true,true,false,false,false] rfl rfl rfl rfl (two_of HT_.out (by kernel_rfl)) (by decide) (by decide) (fun K hK => ?_) (fun K hK => ?_)
               ·skip
                refine Kd.R_lit_step (Kd.int .u8) _ 5 ?hg (N:=22) ?hd (xs:=([(a0_0) % 256,(a0_1) % 256,(a0_2) % 256] : List Int)) (inner:=[.int .u8 ((a0_0) % 256),.int .u8 ((a0_1) % 256),.int .u8 ((a0_2) % 256)]) (ok:=fun _ => True) (okp:=fun _ => True) ?hr ?hp (fun _ hk => hk) trivial (Below.refl _ _) (Nat.le_refl _) (by simp) ?_;(case hd => rfl);(case hg => rfl);(case hr => exact gx_);(case hp => exact (Reps.one (show Kd.M (Kd.int .u8) _ _ _ ((a0_0) % 256) [.int .u8 ((a0_0) % 256)] from rfl) (Reps.one (show Kd.M (Kd.int .u8) _ _ _ ((a0_1) % 256) [.int .u8 ((a0_1) % 256)] from rfl) (Reps.one (show Kd.M (Kd.int .u8) _ _ _ ((a0_2) % 256) [.int .u8 ((a0_2) % 256)] from rfl) (Reps.none _ _)))));intro v210 w28 ho29 hb hg_ hnew_;clear hg_ hnew_
                (rw [← Ny209.out] at ho29)
                have HO211:=A_ (rw_ ho29 (bz_ (bq_ HB)));replace BK207:=kB_ BK207 hb;replace HB:=bS_ HB hb;clear hb ho29;refine hK.out _ _ (kJ12_ BK207) (fun hHeld => ?_);clear hK K;refine nX_ (some 22) ?_
                exact norm_ (by (simp only [putAll,Act.put,s1_,s2_,s3_];done)) (hJ9_13_17_21_25 (v210) _ ⟨hHeld,(rq_ HO211),(kq_ BK207),(bq_ HB)⟩)
               skip
               refine gs_ Try.func107 #[.bool a0_7] ?_;with_reducible refine (spec_l14Flag.calls a0_7 t216 _ A16.out).mono ?_;rintro e w' ⟨rfl,⟨nd,rfl⟩⟩;refine ⟨_,rfl,?_⟩;have BK207d_:=A_ (kn_ BK207.out nd);have HBd_:=A_ (pn_ HB.out nd);refine hK.out _ _ (kJ12_ BK207d_) (fun hHeld => ?_);clear hK K;refine nX_ (some 42) ?_
               exact norm_ (by (simp only [putAll,Act.put,s1_,s2_,s3_];done)) (hJ13_17_21_25_29 () _ ⟨hHeld,(kq_ BK207),(bq_ HB)⟩)
              skip
              rintro v210 w28 ⟨hS_,h0_,h1_,h2_⟩;have n0_ : Aside0 (Kd.R (Kd.int .u8) 5 w28 w.heap.size (fun _ => True) v210 y209):=⟨h0_⟩;have n1_ : Aside0 (j10_1 w28 gb207 a0_0 a0_1 a0_2 a0_3 a0_4 a0_5 a0_6 a0_7 A0_8 l0_8 c0_8 A0_9 l0_9 c0_9 a0_10 a0_11):=⟨h1_⟩;have n2_ : Aside0 (Below w.heap.size w w28):=⟨h2_⟩;clear BK207;clear HB;clear h0_ h1_ h2_;have HO211:=n0_;have BK207:=n1_;have HB:=n2_;have hHeld : j10_0 w28 gb207 a0_0 a0_1 a0_2 a0_3 a0_4 a0_5 a0_6 a0_7 A0_8 l0_8 c0_8 A0_9 l0_9 c0_9 a0_10 a0_11:=hS_;refine norm_ (a':=?_) ?_ ?_;rotate_left
              ·simp only [putAll,Act.put,s1_,s2_,s3_];rfl
              refine two_ (i:=10) (j:=25) (Ni:=some 23) (Nj:=some 38) #[true,true,true,true,true,true,true,true,true,true,true,true,true,true,false,true,true,true,false,true,true,true,false,true,true,false,false,true,true,false,false,true,true,false,false,true,true,true,false,false,false] #[true,true,true,true,true,true,true,true,true,true,false,true,true,true,false,true,true,true,false,true,true,true,false,true,true,true,false,true,true,false,false,true,true,false,false,true,true,true,false,false,false] rfl rfl rfl rfl (two_of HT_.out (by kernel_rfl)) (by decide) (by decide) (fun K hK => ?_) (fun K hK => ?_)
              ·skip
               have hcv29:=own_string (P:=Try.prog) Try.underlying46 Try.underlying5 Try.underlying9 (Kd.own_of_R HO211.out);refine value_ (w1:=?_) (v:=?_) (by rfl) rfl ?_ ?_;rotate_left 2
               ·go_simp
                constructor
                ·rfl
                rfl
               clear hcv29;refine hK.out _ _ (kJ12_ BK207) (fun hHeld => ?_);clear hK K;refine nX_ (some 23) ?_
               refine pU_ 14 (some 27) ?_
               refine pU_ 18 (some 31) ?_
               refine pU_ 22 (some 35) ?_
               exact norm_ (by (simp only [putAll,Act.put,s1_,s2_,s3_];done)) (hJ9_10_13_17_21 (v210) _ ⟨hHeld,(rq_ HO211),(kq_ BK207),(bq_ HB)⟩)
              skip
              refine gs_ Try.func54 #[.int .i64 a0_6] ?_;with_reducible refine (spec_l01Var.calls k a0_6 t215 _ A14.out).mono ?_;rintro e w29 ⟨rfl,hb⟩;refine ⟨_,rfl,?_⟩;replace HO211:=rB_ HO211 hb;replace BK207:=kB_ BK207 hb;replace HB:=bS_ HB hb
              (try clear hb)
              refine hK.out _ _ (kJ12_ BK207) (fun hHeld => ?_);clear hK K;refine nX_ (some 38) ?_
              exact norm_ (by (simp only [putAll,Act.put,s1_,s2_,s3_];done)) (hJ9_13_17_21_25 (v210) _ ⟨hHeld,(rq_ HO211),(kq_ BK207),(bq_ HB)⟩)
             skip
             rintro v210 w28 ⟨hS_,h0_,h1_,h2_⟩;have n0_ : Aside0 (Kd.R (Kd.int .u8) 5 w28 w.heap.size (fun _ => True) v210 y209):=⟨h0_⟩;have n1_ : Aside0 (j10_1 w28 gb207 a0_0 a0_1 a0_2 a0_3 a0_4 a0_5 a0_6 a0_7 A0_8 l0_8 c0_8 A0_9 l0_9 c0_9 a0_10 a0_11):=⟨h1_⟩;have n2_ : Aside0 (Below w.heap.size w w28):=⟨h2_⟩;clear BK207;clear HB;clear h0_ h1_ h2_;have HO211:=n0_;have BK207:=n1_;have HB:=n2_;have hHeld : j10_0 w28 gb207 a0_0 a0_1 a0_2 a0_3 a0_4 a0_5 a0_6 a0_7 A0_8 l0_8 c0_8 A0_9 l0_9 c0_9 a0_10 a0_11:=hS_;refine norm_ (a':=?_) ?_ ?_;rotate_left
             ·simp only [putAll,Act.put,s1_,s2_,s3_];rfl
             refine oN_ 21 (some 34) (fun K hK => ?_);refine gs_ Try.func54 #[.int .i64 a0_5] ?_;with_reducible refine (spec_l01Var.calls k a0_5 t214 _ A12.out).mono ?_;rintro e w29 ⟨rfl,hb⟩;refine ⟨_,rfl,?_⟩;replace HO211:=rB_ HO211 hb;replace BK207:=kB_ BK207 hb;replace HB:=bS_ HB hb
             (try clear hb)
             refine hK.out _ _ (kJ12_ BK207) (fun hHeld => ?_);clear hK K;refine nX_ (some 34) ?_
             refine pU_ 22 (some 35) ?_
             exact norm_ (by (simp only [putAll,Act.put,s1_,s2_,s3_];done)) (hJ9_10_13_17_21 (v210) _ ⟨hHeld,(rq_ HO211),(kq_ BK207),(bq_ HB)⟩)
            skip
            rintro _ w27 ⟨hS_,h0_,h1_⟩;have n0_ : Aside0 (j10_1 w27 gb207 a0_0 a0_1 a0_2 a0_3 a0_4 a0_5 a0_6 a0_7 A0_8 l0_8 c0_8 A0_9 l0_9 c0_9 a0_10 a0_11):=⟨h0_⟩;have n1_ : Aside0 (Below w.heap.size w w27):=⟨h1_⟩;clear BK207;clear HB;clear h0_ h1_;have BK207:=n0_;have HB:=n1_;have hHeld : j10_0 w27 gb207 a0_0 a0_1 a0_2 a0_3 a0_4 a0_5 a0_6 a0_7 A0_8 l0_8 c0_8 A0_9 l0_9 c0_9 a0_10 a0_11:=hS_;refine norm_ (a':=?_) ?_ ?_;rotate_left
            ·simp only [putAll,Act.put,s1_,s2_,s3_];rfl
            refine two_ (i:=9) (j:=33) (Ni:=some 22) (Nj:=some 46) #[true,true,true,true,true,true,true,true,true,true,false,true,true,true,false,true,true,true,false,true,true,true,false,true,true,true,false,true,true,true,false,true,true,false,false,true,true,true,false,false,false] #[true,true,true,true,true,true,true,true,true,false,false,true,true,true,false,true,true,true,false,true,true,true,false,true,true,true,false,true,true,true,false,true,true,true,false,true,true,true,false,false,false] rfl rfl rfl rfl (two_of HT_.out (by kernel_rfl)) (by decide) (by decide) (fun K hK => ?_) (fun K hK => ?_)
            ·skip
             refine Kd.R_lit_step (Kd.int .u8) _ 5 ?hg (N:=22) ?hd (xs:=([(a0_0) % 256,(a0_1) % 256,(a0_2) % 256] : List Int)) (inner:=[.int .u8 ((a0_0) % 256),.int .u8 ((a0_1) % 256),.int .u8 ((a0_2) % 256)]) (ok:=fun _ => True) (okp:=fun _ => True) ?hr ?hp (fun _ hk => hk) trivial (Below.refl _ _) (Nat.le_refl _) (by simp) ?_;(case hd => rfl);(case hg => rfl);(case hr => exact gx_);(case hp => exact (Reps.one (show Kd.M (Kd.int .u8) _ _ _ ((a0_0) % 256) [.int .u8 ((a0_0) % 256)] from rfl) (Reps.one (show Kd.M (Kd.int .u8) _ _ _ ((a0_1) % 256) [.int .u8 ((a0_1) % 256)] from rfl) (Reps.one (show Kd.M (Kd.int .u8) _ _ _ ((a0_2) % 256) [.int .u8 ((a0_2) % 256)] from rfl) (Reps.none _ _)))));intro v210 w28 ho29 hb hg_ hnew_;clear hg_ hnew_
             (rw [← Ny209.out] at ho29)
             have HO211:=A_ (rw_ ho29 (bz_ (bq_ HB)));replace BK207:=kB_ BK207 hb;replace HB:=bS_ HB hb;clear hb ho29;refine hK.out _ _ (kJ12_ BK207) (fun hHeld => ?_);clear hK K;refine nX_ (some 22) ?_
             exact norm_ (by (simp only [putAll,Act.put,s1_,s2_,s3_];done)) (hJ9_13_17_21_25_29 (v210) _ ⟨hHeld,(rq_ HO211),(kq_ BK207),(bq_ HB)⟩)
            skip
            refine gs_ Try.func107 #[.bool a0_11] ?_;with_reducible refine (spec_l14Flag.calls a0_11 t217 _ A18.out).mono ?_;rintro e w' ⟨rfl,⟨nd,rfl⟩⟩;refine ⟨_,rfl,?_⟩;have BK207d_:=A_ (kn_ BK207.out nd);have HBd_:=A_ (pn_ HB.out nd);refine hK.out _ _ (kJ12_ BK207d_) (fun hHeld => ?_);clear hK K;refine nX_ (some 46) ?_
            exact norm_ (by (simp only [putAll,Act.put,s1_,s2_,s3_];done)) (hJ13_17_21_25_29_33 () _ ⟨hHeld,(kq_ BK207),(bq_ HB)⟩)
           skip
           rintro v210 w29 ⟨hS_,h0_,h1_,h2_⟩;have n0_ : Aside0 (Kd.R (Kd.int .u8) 5 w29 w.heap.size (fun _ => True) v210 y209):=⟨h0_⟩;have n1_ : Aside0 (j10_1 w29 gb207 a0_0 a0_1 a0_2 a0_3 a0_4 a0_5 a0_6 a0_7 A0_8 l0_8 c0_8 A0_9 l0_9 c0_9 a0_10 a0_11):=⟨h1_⟩;have n2_ : Aside0 (Below w.heap.size w w29):=⟨h2_⟩;clear BK207;clear HB;clear h0_ h1_ h2_;have HO211:=n0_;have BK207:=n1_;have HB:=n2_;have hHeld : j10_0 w29 gb207 a0_0 a0_1 a0_2 a0_3 a0_4 a0_5 a0_6 a0_7 A0_8 l0_8 c0_8 A0_9 l0_9 c0_9 a0_10 a0_11:=hS_;refine norm_ (a':=?_) ?_ ?_;rotate_left
           ·simp only [putAll,Act.put,s1_,s2_,s3_];rfl
           refine two_ (i:=10) (j:=29) (Ni:=some 23) (Nj:=some 42) #[true,true,true,true,true,true,true,true,true,true,true,true,true,true,false,true,true,true,false,true,true,true,false,true,true,true,false,true,true,false,false,true,true,false,false,true,true,true,false,false,false] #[true,true,true,true,true,true,true,true,true,true,false,true,true,true,false,true,true,true,false,true,true,true,false,true,true,true,false,true,true,true,false,true,true,false,false,true,true,true,false,false,false] rfl rfl rfl rfl (two_of HT_.out (by kernel_rfl)) (by decide) (by decide) (fun K hK => ?_) (fun K hK => ?_)
           ·skip
            have hcv30:=own_string (P:=Try.prog) Try.underlying46 Try.underlying5 Try.underlying9 (Kd.own_of_R HO211.out);refine value_ (w1:=?_) (v:=?_) (by rfl) rfl ?_ ?_;rotate_left 2
            ·go_simp
             constructor
             ·rfl
             rfl
            clear hcv30;refine hK.out _ _ (kJ12_ BK207) (fun hHeld => ?_);clear hK K;refine nX_ (some 23) ?_
            refine pU_ 14 (some 27) ?_
            refine pU_ 18 (some 31) ?_
            refine pU_ 22 (some 35) ?_
            refine pU_ 26 (some 39) ?_
            exact norm_ (by (simp only [putAll,Act.put,s1_,s2_,s3_];done)) (hJ9_10_13_17_21_25 (v210) _ ⟨hHeld,(rq_ HO211),(kq_ BK207),(bq_ HB)⟩)
           skip
           refine gs_ Try.func107 #[.bool a0_7] ?_;with_reducible refine (spec_l14Flag.calls a0_7 t216 _ A16.out).mono ?_;rintro e w' ⟨rfl,⟨nd,rfl⟩⟩;refine ⟨_,rfl,?_⟩;have BK207d_:=A_ (kn_ BK207.out nd);have HBd_:=A_ (pn_ HB.out nd);refine hK.out _ _ (kJ12_ BK207d_) (fun hHeld => ?_);clear hK K;refine nX_ (some 42) ?_
           exact norm_ (by (simp only [putAll,Act.put,s1_,s2_,s3_];done)) (hJ9_13_17_21_25_29 (v210) _ ⟨hHeld,(rq_ HO211),(kq_ BK207),(bq_ HB)⟩)
          skip
          rintro v210 w29 ⟨hS_,h0_,h1_,h2_⟩;have n0_ : Aside0 (Kd.R (Kd.int .u8) 5 w29 w.heap.size (fun _ => True) v210 y209):=⟨h0_⟩;have n1_ : Aside0 (j10_1 w29 gb207 a0_0 a0_1 a0_2 a0_3 a0_4 a0_5 a0_6 a0_7 A0_8 l0_8 c0_8 A0_9 l0_9 c0_9 a0_10 a0_11):=⟨h1_⟩;have n2_ : Aside0 (Below w.heap.size w w29):=⟨h2_⟩;clear BK207;clear HB;clear h0_ h1_ h2_;have HO211:=n0_;have BK207:=n1_;have HB:=n2_;have hHeld : j10_0 w29 gb207 a0_0 a0_1 a0_2 a0_3 a0_4 a0_5 a0_6 a0_7 A0_8 l0_8 c0_8 A0_9 l0_9 c0_9 a0_10 a0_11:=hS_;refine norm_ (a':=?_) ?_ ?_;rotate_left
          ·simp only [putAll,Act.put,s1_,s2_,s3_];rfl
          refine oN_ 25 (some 38) (fun K hK => ?_);refine gs_ Try.func54 #[.int .i64 a0_6] ?_;with_reducible refine (spec_l01Var.calls k a0_6 t215 _ A14.out).mono ?_;rintro e w30 ⟨rfl,hb⟩;refine ⟨_,rfl,?_⟩;replace HO211:=rB_ HO211 hb;replace BK207:=kB_ BK207 hb;replace HB:=bS_ HB hb
          (try clear hb)
          refine hK.out _ _ (kJ12_ BK207) (fun hHeld => ?_);clear hK K;refine nX_ (some 38) ?_
          refine pU_ 26 (some 39) ?_
          exact norm_ (by (simp only [putAll,Act.put,s1_,s2_,s3_];done)) (hJ9_10_13_17_21_25 (v210) _ ⟨hHeld,(rq_ HO211),(kq_ BK207),(bq_ HB)⟩)
         skip
         rintro _ w27 ⟨hS_,h0_,h1_⟩;have n0_ : Aside0 (j10_1 w27 gb207 a0_0 a0_1 a0_2 a0_3 a0_4 a0_5 a0_6 a0_7 A0_8 l0_8 c0_8 A0_9 l0_9 c0_9 a0_10 a0_11):=⟨h0_⟩;have n1_ : Aside0 (Below w.heap.size w w27):=⟨h1_⟩;clear BK207;clear HB;clear h0_ h1_;have BK207:=n0_;have HB:=n1_;have hHeld : j10_0 w27 gb207 a0_0 a0_1 a0_2 a0_3 a0_4 a0_5 a0_6 a0_7 A0_8 l0_8 c0_8 A0_9 l0_9 c0_9 a0_10 a0_11:=hS_;refine norm_ (a':=?_) ?_ ?_;rotate_left
         ·simp only [putAll,Act.put,s1_,s2_,s3_];rfl
         refine two_ (i:=9) (j:=38) (Ni:=some 22) (Nj:=some 51) #[true,true,true,true,true,true,true,true,true,true,false,true,true,true,false,true,true,true,false,true,true,true,false,true,true,true,false,true,true,true,false,true,true,true,false,true,true,true,false,false,false] #[true,true,true,true,true,true,true,true,true,false,false,true,true,true,false,true,true,true,false,true,true,true,false,true,true,true,false,true,true,true,false,true,true,true,false,true,true,true,true,false,false] rfl rfl rfl rfl (two_of HT_.out (by kernel_rfl)) (by decide) (by decide) (fun K hK => ?_) (fun K hK => ?_)
         ·skip
          refine Kd.R_lit_step (Kd.int .u8) _ 5 ?hg (N:=22) ?hd (xs:=([(a0_0) % 256,(a0_1) % 256,(a0_2) % 256] : List Int)) (inner:=[.int .u8 ((a0_0) % 256),.int .u8 ((a0_1) % 256),.int .u8 ((a0_2) % 256)]) (ok:=fun _ => True) (okp:=fun _ => True) ?hr ?hp (fun _ hk => hk) trivial (Below.refl _ _) (Nat.le_refl _) (by simp) ?_;(case hd => rfl);(case hg => rfl);(case hr => exact gx_);(case hp => exact (Reps.one (show Kd.M (Kd.int .u8) _ _ _ ((a0_0) % 256) [.int .u8 ((a0_0) % 256)] from rfl) (Reps.one (show Kd.M (Kd.int .u8) _ _ _ ((a0_1) % 256) [.int .u8 ((a0_1) % 256)] from rfl) (Reps.one (show Kd.M (Kd.int .u8) _ _ _ ((a0_2) % 256) [.int .u8 ((a0_2) % 256)] from rfl) (Reps.none _ _)))));intro v210 w28 ho29 hb hg_ hnew_;clear hg_ hnew_
          (rw [← Ny209.out] at ho29)
          have HO211:=A_ (rw_ ho29 (bz_ (bq_ HB)));replace BK207:=kB_ BK207 hb;replace HB:=bS_ HB hb;clear hb ho29;refine hK.out _ _ (kJ12_ BK207) (fun hHeld => ?_);clear hK K;refine nX_ (some 22) ?_
          exact norm_ (by (simp only [putAll,Act.put,s1_,s2_,s3_];done)) (hJ9_13_17_21_25_29_33 (v210) _ ⟨hHeld,(rq_ HO211),(kq_ BK207),(bq_ HB)⟩)
         skip
         refine gs_ Try.func54 #[.int .i64 (l0_8.length : Int)] ?_;with_reducible refine (spec_l01Var.calls k (l0_8.length : Int) t218 _ A20.out).mono ?_;rintro e w28 ⟨rfl,hb⟩;refine ⟨_,rfl,?_⟩;replace BK207:=kB_ BK207 hb;replace HB:=bS_ HB hb
         (try clear hb)
         refine hK.out _ _ (kJ12_ BK207) (fun hHeld => ?_);clear hK K;refine nX_ (some 51) ?_
         exact norm_ (by (simp only [putAll,Act.put,s1_,s2_,s3_];done)) (hJ13_17_21_25_29_33_38 () _ ⟨hHeld,(kq_ BK207),(bq_ HB)⟩)
        skip
        rintro v210 w29 ⟨hS_,h0_,h1_,h2_⟩;have n0_ : Aside0 (Kd.R (Kd.int .u8) 5 w29 w.heap.size (fun _ => True) v210 y209):=⟨h0_⟩;have n1_ : Aside0 (j10_1 w29 gb207 a0_0 a0_1 a0_2 a0_3 a0_4 a0_5 a0_6 a0_7 A0_8 l0_8 c0_8 A0_9 l0_9 c0_9 a0_10 a0_11):=⟨h1_⟩;have n2_ : Aside0 (Below w.heap.size w w29):=⟨h2_⟩;clear BK207;clear HB;clear h0_ h1_ h2_;have HO211:=n0_;have BK207:=n1_;have HB:=n2_;have hHeld : j10_0 w29 gb207 a0_0 a0_1 a0_2 a0_3 a0_4 a0_5 a0_6 a0_7 A0_8 l0_8 c0_8 A0_9 l0_9 c0_9 a0_10 a0_11:=hS_;refine norm_ (a':=?_) ?_ ?_;rotate_left
        ·simp only [putAll,Act.put,s1_,s2_,s3_];rfl
        refine two_ (i:=10) (j:=33) (Ni:=some 23) (Nj:=some 46) #[true,true,true,true,true,true,true,true,true,true,true,true,true,true,false,true,true,true,false,true,true,true,false,true,true,true,false,true,true,true,false,true,true,false,false,true,true,true,false,false,false] #[true,true,true,true,true,true,true,true,true,true,false,true,true,true,false,true,true,true,false,true,true,true,false,true,true,true,false,true,true,true,false,true,true,true,false,true,true,true,false,false,false] rfl rfl rfl rfl (two_of HT_.out (by kernel_rfl)) (by decide) (by decide) (fun K hK => ?_) (fun K hK => ?_)
        ·skip
         have hcv30:=own_string (P:=Try.prog) Try.underlying46 Try.underlying5 Try.underlying9 (Kd.own_of_R HO211.out);refine value_ (w1:=?_) (v:=?_) (by rfl) rfl ?_ ?_;rotate_left 2
         ·go_simp
          constructor
          ·rfl
          rfl
         clear hcv30;refine hK.out _ _ (kJ12_ BK207) (fun hHeld => ?_);clear hK K;refine nX_ (some 23) ?_
         refine pU_ 14 (some 27) ?_
         refine pU_ 18 (some 31) ?_
         refine pU_ 22 (some 35) ?_
         refine pU_ 26 (some 39) ?_
         refine pU_ 30 (some 43) ?_
         exact norm_ (by (simp only [putAll,Act.put,s1_,s2_,s3_];done)) (hJ9_10_13_17_21_25_29 (v210) _ ⟨hHeld,(rq_ HO211),(kq_ BK207),(bq_ HB)⟩)
        skip
        refine gs_ Try.func107 #[.bool a0_11] ?_;with_reducible refine (spec_l14Flag.calls a0_11 t217 _ A18.out).mono ?_;rintro e w' ⟨rfl,⟨nd,rfl⟩⟩;refine ⟨_,rfl,?_⟩;have BK207d_:=A_ (kn_ BK207.out nd);have HBd_:=A_ (pn_ HB.out nd);refine hK.out _ _ (kJ12_ BK207d_) (fun hHeld => ?_);clear hK K;refine nX_ (some 46) ?_
        exact norm_ (by (simp only [putAll,Act.put,s1_,s2_,s3_];done)) (hJ9_13_17_21_25_29_33 (v210) _ ⟨hHeld,(rq_ HO211),(kq_ BK207),(bq_ HB)⟩)
       skip
       rintro v210 w30 ⟨hS_,h0_,h1_,h2_⟩;have n0_ : Aside0 (Kd.R (Kd.int .u8) 5 w30 w.heap.size (fun _ => True) v210 y209):=⟨h0_⟩;have n1_ : Aside0 (j10_1 w30 gb207 a0_0 a0_1 a0_2 a0_3 a0_4 a0_5 a0_6 a0_7 A0_8 l0_8 c0_8 A0_9 l0_9 c0_9 a0_10 a0_11):=⟨h1_⟩;have n2_ : Aside0 (Below w.heap.size w w30):=⟨h2_⟩;clear BK207;clear HB;clear h0_ h1_ h2_;have HO211:=n0_;have BK207:=n1_;have HB:=n2_;have hHeld : j10_0 w30 gb207 a0_0 a0_1 a0_2 a0_3 a0_4 a0_5 a0_6 a0_7 A0_8 l0_8 c0_8 A0_9 l0_9 c0_9 a0_10 a0_11:=hS_;refine norm_ (a':=?_) ?_ ?_;rotate_left
       ·simp only [putAll,Act.put,s1_,s2_,s3_];rfl
       refine oN_ 29 (some 42) (fun K hK => ?_);refine gs_ Try.func107 #[.bool a0_7] ?_;with_reducible refine (spec_l14Flag.calls a0_7 t216 _ A16.out).mono ?_;rintro e w' ⟨rfl,⟨nd,rfl⟩⟩;refine ⟨_,rfl,?_⟩;have BK207d_:=A_ (kn_ BK207.out nd);have HBd_:=A_ (pn_ HB.out nd);refine hK.out _ _ (kJ12_ BK207d_) (fun hHeld => ?_);clear hK K;refine nX_ (some 42) ?_
       refine pU_ 30 (some 43) ?_
       exact norm_ (by (simp only [putAll,Act.put,s1_,s2_,s3_];done)) (hJ9_10_13_17_21_25_29 (v210) _ ⟨hHeld,(rq_ HO211),(kq_ BK207),(bq_ HB)⟩)
      skip
      rintro _ w28 ⟨hS_,h0_,h1_⟩;have n0_ : Aside0 (j10_1 w28 gb207 a0_0 a0_1 a0_2 a0_3 a0_4 a0_5 a0_6 a0_7 A0_8 l0_8 c0_8 A0_9 l0_9 c0_9 a0_10 a0_11):=⟨h0_⟩;have n1_ : Aside0 (Below w.heap.size w w28):=⟨h1_⟩;clear BK207;clear HB;clear h0_ h1_;have BK207:=n0_;have HB:=n1_;have hHeld : j10_0 w28 gb207 a0_0 a0_1 a0_2 a0_3 a0_4 a0_5 a0_6 a0_7 A0_8 l0_8 c0_8 A0_9 l0_9 c0_9 a0_10 a0_11:=hS_;refine norm_ (a':=?_) ?_ ?_;rotate_left
      ·simp only [putAll,Act.put,s1_,s2_,s3_];rfl
      refine oN_ 9 (some 22) (fun K hK => ?_);refine Kd.R_lit_step (Kd.int .u8) _ 5 ?hg (N:=22) ?hd (xs:=([(a0_0) % 256,(a0_1) % 256,(a0_2) % 256] : List Int)) (inner:=[.int .u8 ((a0_0) % 256),.int .u8 ((a0_1) % 256),.int .u8 ((a0_2) % 256)]) (ok:=fun _ => True) (okp:=fun _ => True) ?hr ?hp (fun _ hk => hk) trivial (Below.refl _ _) (Nat.le_refl _) (by simp) ?_;(case hd => rfl);(case hg => rfl);(case hr => exact gx_);(case hp => exact (Reps.one (show Kd.M (Kd.int .u8) _ _ _ ((a0_0) % 256) [.int .u8 ((a0_0) % 256)] from rfl) (Reps.one (show Kd.M (Kd.int .u8) _ _ _ ((a0_1) % 256) [.int .u8 ((a0_1) % 256)] from rfl) (Reps.one (show Kd.M (Kd.int .u8) _ _ _ ((a0_2) % 256) [.int .u8 ((a0_2) % 256)] from rfl) (Reps.none _ _)))));intro v210 w29 ho30 hb hg_ hnew_;clear hg_ hnew_
      (rw [← Ny209.out] at ho30)
      have HO211:=A_ (rw_ ho30 (bz_ (bq_ HB)));replace BK207:=kB_ BK207 hb;replace HB:=bS_ HB hb;clear hb ho30;refine hK.out _ _ (kJ12_ BK207) (fun hHeld => ?_);clear hK K;refine nX_ (some 22) ?_
      exact norm_ (by (simp only [putAll,Act.put,s1_,s2_,s3_];done)) (hJ9_13_17_21_25_29_33_38 (v210) _ ⟨hHeld,(rq_ HO211),(kq_ BK207),(bq_ HB)⟩)
     skip
     rintro v210 w29 ⟨hS_,h0_,h1_,h2_⟩;have n0_ : Aside0 (Kd.R (Kd.int .u8) 5 w29 w.heap.size (fun _ => True) v210 y209):=⟨h0_⟩;have n1_ : Aside0 (j10_1 w29 gb207 a0_0 a0_1 a0_2 a0_3 a0_4 a0_5 a0_6 a0_7 A0_8 l0_8 c0_8 A0_9 l0_9 c0_9 a0_10 a0_11):=⟨h1_⟩;have n2_ : Aside0 (Below w.heap.size w w29):=⟨h2_⟩;clear BK207;clear HB;clear h0_ h1_ h2_;have HO211:=n0_;have BK207:=n1_;have HB:=n2_;have hHeld : j10_0 w29 gb207 a0_0 a0_1 a0_2 a0_3 a0_4 a0_5 a0_6 a0_7 A0_8 l0_8 c0_8 A0_9 l0_9 c0_9 a0_10 a0_11:=hS_;refine norm_ (a':=?_) ?_ ?_;rotate_left
     ·simp only [putAll,Act.put,s1_,s2_,s3_];rfl
     refine two_ (i:=10) (j:=38) (Ni:=some 23) (Nj:=some 51) #[true,true,true,true,true,true,true,true,true,true,true,true,true,true,false,true,true,true,false,true,true,true,false,true,true,true,false,true,true,true,false,true,true,true,false,true,true,true,false,false,false] #[true,true,true,true,true,true,true,true,true,true,false,true,true,true,false,true,true,true,false,true,true,true,false,true,true,true,false,true,true,true,false,true,true,true,false,true,true,true,true,false,false] rfl rfl rfl rfl (two_of HT_.out (by kernel_rfl)) (by decide) (by decide) (fun K hK => ?_) (fun K hK => ?_)
     ·skip
      have hcv30:=own_string (P:=Try.prog) Try.underlying46 Try.underlying5 Try.underlying9 (Kd.own_of_R HO211.out);refine value_ (w1:=?_) (v:=?_) (by rfl) rfl ?_ ?_;rotate_left 2
      ·go_simp
       constructor
       ·rfl
       rfl
      clear hcv30;refine hK.out _ _ (kJ12_ BK207) (fun hHeld => ?_);clear hK K;refine nX_ (some 23) ?_
      refine pU_ 14 (some 27) ?_
      refine pU_ 18 (some 31) ?_
      refine pU_ 22 (some 35) ?_
      refine pU_ 26 (some 39) ?_
      refine pU_ 30 (some 43) ?_
      refine pU_ 34 (some 47) ?_
      exact norm_ (by (simp only [putAll,Act.put,s1_,s2_,s3_];done)) (hJ9_10_13_17_21_25_29_33 (v210) _ ⟨hHeld,(rq_ HO211),(kq_ BK207),(bq_ HB)⟩)
     skip
     refine gs_ Try.func54 #[.int .i64 (l0_8.length : Int)] ?_;with_reducible refine (spec_l01Var.calls k (l0_8.length : Int) t218 _ A20.out).mono ?_;rintro e w30 ⟨rfl,hb⟩;refine ⟨_,rfl,?_⟩;replace HO211:=rB_ HO211 hb;replace BK207:=kB_ BK207 hb;replace HB:=bS_ HB hb
     (try clear hb)
     refine hK.out _ _ (kJ12_ BK207) (fun hHeld => ?_);clear hK K;refine nX_ (some 51) ?_
     exact norm_ (by (simp only [putAll,Act.put,s1_,s2_,s3_];done)) (hJ9_13_17_21_25_29_33_38 (v210) _ ⟨hHeld,(rq_ HO211),(kq_ BK207),(bq_ HB)⟩)
    skip
    rintro v210 w30 ⟨hS_,h0_,h1_,h2_⟩;have n0_ : Aside0 (Kd.R (Kd.int .u8) 5 w30 w.heap.size (fun _ => True) v210 y209):=⟨h0_⟩;have n1_ : Aside0 (j10_1 w30 gb207 a0_0 a0_1 a0_2 a0_3 a0_4 a0_5 a0_6 a0_7 A0_8 l0_8 c0_8 A0_9 l0_9 c0_9 a0_10 a0_11):=⟨h1_⟩;have n2_ : Aside0 (Below w.heap.size w w30):=⟨h2_⟩;clear BK207;clear HB;clear h0_ h1_ h2_;have HO211:=n0_;have BK207:=n1_;have HB:=n2_;have hHeld : j10_0 w30 gb207 a0_0 a0_1 a0_2 a0_3 a0_4 a0_5 a0_6 a0_7 A0_8 l0_8 c0_8 A0_9 l0_9 c0_9 a0_10 a0_11:=hS_;refine norm_ (a':=?_) ?_ ?_;rotate_left
    ·simp only [putAll,Act.put,s1_,s2_,s3_];rfl
    refine oN_ 33 (some 46) (fun K hK => ?_);refine gs_ Try.func107 #[.bool a0_11] ?_;with_reducible refine (spec_l14Flag.calls a0_11 t217 _ A18.out).mono ?_;rintro e w' ⟨rfl,⟨nd,rfl⟩⟩;refine ⟨_,rfl,?_⟩;have BK207d_:=A_ (kn_ BK207.out nd);have HBd_:=A_ (pn_ HB.out nd);refine hK.out _ _ (kJ12_ BK207d_) (fun hHeld => ?_);clear hK K;refine nX_ (some 46) ?_
    refine pU_ 34 (some 47) ?_
    exact norm_ (by (simp only [putAll,Act.put,s1_,s2_,s3_];done)) (hJ9_10_13_17_21_25_29_33 (v210) _ ⟨hHeld,(rq_ HO211),(kq_ BK207),(bq_ HB)⟩)
   skip
   rintro v210 w30 ⟨hS_,h0_,h1_,h2_⟩;have n0_ : Aside0 (Kd.R (Kd.int .u8) 5 w30 w.heap.size (fun _ => True) v210 y209):=⟨h0_⟩;have n1_ : Aside0 (j10_1 w30 gb207 a0_0 a0_1 a0_2 a0_3 a0_4 a0_5 a0_6 a0_7 A0_8 l0_8 c0_8 A0_9 l0_9 c0_9 a0_10 a0_11):=⟨h1_⟩;have n2_ : Aside0 (Below w.heap.size w w30):=⟨h2_⟩;clear BK207;clear HB;clear h0_ h1_ h2_;have HO211:=n0_;have BK207:=n1_;have HB:=n2_;have hHeld : j10_0 w30 gb207 a0_0 a0_1 a0_2 a0_3 a0_4 a0_5 a0_6 a0_7 A0_8 l0_8 c0_8 A0_9 l0_9 c0_9 a0_10 a0_11:=hS_;refine norm_ (a':=?_) ?_ ?_;rotate_left
   ·simp only [putAll,Act.put,s1_,s2_,s3_];rfl
   refine oN_ 10 (some 23) (fun K hK => ?_);have hcv31:=own_string (P:=Try.prog) Try.underlying46 Try.underlying5 Try.underlying9 (Kd.own_of_R HO211.out);refine value_ (w1:=?_) (v:=?_) (by rfl) rfl ?_ ?_;rotate_left 2
   ·go_simp
    constructor
    ·rfl
    rfl
   clear hcv31;refine hK.out _ _ (kJ12_ BK207) (fun hHeld => ?_);clear hK K;refine nX_ (some 23) ?_
   refine pU_ 14 (some 27) ?_
   refine pU_ 18 (some 31) ?_
   refine pU_ 22 (some 35) ?_
   refine pU_ 26 (some 39) ?_
   refine pU_ 30 (some 43) ?_
   refine pU_ 34 (some 47) ?_
   exact norm_ (by (simp only [putAll,Act.put,s1_,s2_,s3_];done)) (hJ9_10_13_17_21_25_29_33_38 (v210) _ ⟨hHeld,(rq_ HO211),(kq_ BK207),(bq_ HB)⟩)
  skip
  rintro v210 w30 ⟨hS_,h0_,h1_,h2_⟩;have n0_ : Aside0 (Kd.R (Kd.int .u8) 5 w30 w.heap.size (fun _ => True) v210 y209):=⟨h0_⟩;have n1_ : Aside0 (j10_1 w30 gb207 a0_0 a0_1 a0_2 a0_3 a0_4 a0_5 a0_6 a0_7 A0_8 l0_8 c0_8 A0_9 l0_9 c0_9 a0_10 a0_11):=⟨h1_⟩;have n2_ : Aside0 (Below w.heap.size w w30):=⟨h2_⟩;clear BK207;clear HB;clear h0_ h1_ h2_;have HO211:=n0_;have BK207:=n1_;have HB:=n2_;have hHeld : j10_0 w30 gb207 a0_0 a0_1 a0_2 a0_3 a0_4 a0_5 a0_6 a0_7 A0_8 l0_8 c0_8 A0_9 l0_9 c0_9 a0_10 a0_11:=hS_;refine norm_ (a':=?_) ?_ ?_;rotate_left
  ·simp only [putAll,Act.put,s1_,s2_,s3_];rfl
  refine oN_ 38 (some 51) (fun K hK => ?_);refine gs_ Try.func54 #[.int .i64 (l0_8.length : Int)] ?_;with_reducible refine (spec_l01Var.calls k (l0_8.length : Int) t218 _ A20.out).mono ?_;rintro e w31 ⟨rfl,hb⟩;refine ⟨_,rfl,?_⟩;replace HO211:=rB_ HO211 hb;replace BK207:=kB_ BK207 hb;replace HB:=bS_ HB hb
  (try clear hb)
  refine hK.out _ _ (kJ12_ BK207) (fun hHeld => ?_);clear hK K;refine nX_ (some 51) ?_
  exact norm_ (by (simp only [putAll,Act.put,s1_,s2_,s3_];done)) (hJ9_10_13_17_21_25_29_33_38 (v210) _ ⟨hHeld,(rq_ HO211),(kq_ BK207),(bq_ HB)⟩)
 rintro v210 w31 ⟨hS_,h0_,h1_,h2_⟩;have n0_ : Aside0 (Kd.R (Kd.int .u8) 5 w31 w.heap.size (fun _ => True) v210 y209):=⟨h0_⟩;have n1_ : Aside0 (j10_1 w31 gb207 a0_0 a0_1 a0_2 a0_3 a0_4 a0_5 a0_6 a0_7 A0_8 l0_8 c0_8 A0_9 l0_9 c0_9 a0_10 a0_11):=⟨h1_⟩;have n2_ : Aside0 (Below w.heap.size w w31):=⟨h2_⟩;clear BK207;clear HB;clear h0_ h1_ h2_;have BK207:=n1_;have HB:=n2_;have hHeld : j10_0 w31 gb207 a0_0 a0_1 a0_2 a0_3 a0_4 a0_5 a0_6 a0_7 A0_8 l0_8 c0_8 A0_9 l0_9 c0_9 a0_10 a0_11:=hS_;refine norm_ (a':=?_) ?_ ?_;rotate_left
 ·simp only [putAll,Act.put,s1_,s2_,s3_];rfl
 refine pU_ 39 (some 52) ?_
 refine pU_ 40 (some 4) ?_
 refine done_ (done_of HT_.out (by kernel_rfl)) ?_
 try go_wp2
 go_loopg [4,5] k (fun kq v4 v5 w' => ∃ (x4_1 : ByteArray) (x5_1 : Int),v4 = .string x4_1 ∧ v5 = .int .i64 x5_1 ∧ Aside0 (spec_Encode.l0 kq x4_1 x5_1 a0_0 a0_1 a0_2 a0_3 a0_4 a0_5 a0_6 a0_7 l0_8 l0_9 a0_10 a0_11 = some (r1,r2)) ∧ Aside0 (kq ≤ k) ∧ Aside0 (w'.heap[gb207]? = some (.cells #[.int .i64 a0_0,.int .i64 a0_1,.int .i64 a0_2,.int .i64 a0_3,.int .i64 a0_4,.int .i64 a0_5,.int .i64 a0_6,.bool a0_7,(.slice A0_8 l0_8.length c0_8),(.slice A0_9 l0_9.length c0_9),.string a0_10,.bool a0_11] 41 (0,0))) ∧ Aside0 (Below w.heap.size w w'))
 case atStart => exact ⟨((((((((strOfNums y209) ++ t212) ++ t213) ++ t214) ++ t215) ++ t216) ++ t217) ++ t218),(0),(by rfl),(by rfl),H',⟨Nat.le_refl _⟩,⟨kq_ BK207⟩,⟨bq_ HB⟩⟩
 case round =>
  clear H'
  (try clear c1);(try clear p2);(try clear hcv3);(try clear c5);(try clear c10);(try clear hcv30);(try clear hcv31)
  obtain ⟨x4_1,x5_1,rfl,rfl,HA,HK1,BK207,HB⟩:=hrel
  cases gk with
  | zero => exact absurd HA.out (by simp [spec_Encode.l0])
  | succ k1 =>
   have H:=HA.out;clear HA;simp only [spec_Encode.l0] at H;have HC32:=A_ H;clear H;obtain ⟨hcz33_0,hcz33_1,hcz33_2,hcz33_3,hcz33_4,hcz33_5,hcz33_6,hcz33_7,hcz33_8,hcz33_9,hcz33_10,hcz33_11,hfz33_0,hfz33_1,hfz33_2,hfz33_3,hfz33_4,hfz33_5,hfz33_6,hfz33_7,hfz33_8,hfz33_9,hfz33_10,hfz33_11⟩:=k12f_ BK207
   go_upto_if 57 with (fail)
   have H:=HC32.out;clear HC32
   by_cases c34 : x5_1 < (l0_8.length : Int)
   ·rw [if_pos c34] at H;have c34b0:=de_ c34;clear c34
    (rw [c34b0])
    by_cases c35 : 0 ≤ x5_1
    ·rw [if_pos c35] at H;have c35b0:=de_ c35;clear c35;obtain ⟨⟨t220,t221⟩,A36,H⟩:=oB_ H;(try dsimp only at H);replace H:=ob_.mp H;obtain ⟨t222,A370,H⟩:=H;have A37:=A_ A370;clear A370
     by_cases c38 : x4_1.size + t222.size ≤ 9223372036854775807
     ·rw [if_pos c38] at H;have c38b0:=eq_true c38;have c38b1:=de_ c38
      try have c38b2 : (9223372036854775807 < x4_1.size + t222.size) = False:=eq_false (Nat.not_lt.2 c38)
      have H':=A_ H;clear H;obtain ⟨hcz39_0,hcz39_1,hcz39_2,hcz39_3,hcz39_4,hcz39_5,hcz39_6,hcz39_7,hcz39_8,hcz39_9,hcz39_10,hcz39_11,hfz39_0,hfz39_1,hfz39_2,hfz39_3,hfz39_4,hfz39_5,hfz39_6,hfz39_7,hfz39_8,hfz39_9,hfz39_10,hfz39_11⟩:=k12f_ BK207;have p219 : 0 ≤ (x5_1 : Int):=oda_;have q219 : x5_1 < (l0_8.length : Int):=oda_;obtain ⟨ad219,e219,hx219_0,hx219_1,hx219_2⟩:=at_T69 HR0_8.out x5_1 p219 q219
      cases e219
      replace hx219_0:=(HB.out.cell (wb_ w _ hx219_0)).trans hx219_0;replace hx219_1:=(HB.out.cell (wb_ w _ hx219_1)).trans hx219_1;replace hx219_2:=(HB.out.cell (wb_ w _ hx219_2)).trans hx219_2;replace p219:=eq_true p219;replace q219:=eq_true q219
      go_wp2_with (first|((with_reducible refine gate_callee (f:=96) rfl ?_);refine gL_ (some 66) Try.func96 #[.int .i64 1,.agg #[.int .i64 ((rd_T69 l0_8 x5_1).f0),.int .i64 ((rd_T69 l0_8 x5_1).f1),.string ((rd_T69 l0_8 x5_1).f2)]] ?_;(with_reducible refine (spec_EntryText.calls k1 1 ((rd_T69 l0_8 x5_1).f0) ((rd_T69 l0_8 x5_1).f1) ((rd_T69 l0_8 x5_1).f2) t220 t221 _ A36.out).mono ?_);rintro e w40 ⟨rfl,hb⟩;refine ⟨_,rfl,?_⟩;replace BK207:=kB_ BK207 hb;replace HB:=bS_ HB hb;(try clear hb))|((with_reducible refine gate_callee (f:=55) rfl ?_);refine gL_ (some 71) Try.func55 #[.string t220] ?_;(with_reducible refine (spec_l05Short.calls k1 t220 t222 _ A37.out).mono ?_);rintro e w41 ⟨rfl,hb⟩;refine ⟨_,rfl,?_⟩;replace BK207:=kB_ BK207 hb;replace HB:=bS_ HB hb;(try clear hb)))
      go_roundg k1
      case measure => have:=HK1.out;omega
      case rel => exact ⟨(x4_1 ++ t222),(wrap64 (x5_1 + 1)),(by rfl),(by rfl),H',⟨by have:=HK1.out;omega⟩,⟨kq_ BK207⟩,⟨bq_ HB⟩⟩
     rw [if_neg c38] at H;exact absurd H (by simp)
    rw [if_neg c35] at H;exact absurd H (by simp)
   rw [if_neg c34] at H;have c34b0:=decide_eq_false c34;clear c34
   (rw [c34b0])
   obtain ⟨⟨t223,t224⟩,A42,H⟩:=oB_ H;(try dsimp only at H);replace H:=ob_.mp H;obtain ⟨t225,A430,H⟩:=H;have A43:=A_ A430;clear A430
   by_cases c44 : x4_1.size + t225.size ≤ 9223372036854775807;rotate_left
   ·rw [if_neg c44] at H;exact absurd H (by simp)
   rw [if_pos c44] at H;have c44b0:=eq_true c44;have c44b1:=de_ c44
   try have c44b2 : (9223372036854775807 < x4_1.size + t225.size) = False:=eq_false (Nat.not_lt.2 c44)
   replace H:=ob_.mp H;obtain ⟨t226,A450,H⟩:=H;have A45:=A_ A450;clear A450
   by_cases c46 : (x4_1 ++ t225).size + t226.size ≤ 9223372036854775807;rotate_left
   ·rw [if_neg c46] at H;exact absurd H (by simp)
   rw [if_pos c46] at H;have c46b0:=eq_true c46;have c46b1:=de_ c46
   try have c46b2 : (9223372036854775807 < (x4_1 ++ t225).size + t226.size) = False:=eq_false (Nat.not_lt.2 c46)
   try have c46b3 : (9223372036854775807 < x4_1.size + t225.size + t226.size) = False:=eq_false (by have h_:=c46;simp only [ByteArray.size_append,show ∀ x_ : UInt8,(⟨#[x_]⟩ : ByteArray).size = 1 from fun _ => rfl] at h_;omega)
   simp only [Option.some.injEq,Prod.mk.injEq] at H;obtain ⟨rfl,rfl⟩:=H;obtain ⟨hcz47_0,hcz47_1,hcz47_2,hcz47_3,hcz47_4,hcz47_5,hcz47_6,hcz47_7,hcz47_8,hcz47_9,hcz47_10,hcz47_11,hfz47_0,hfz47_1,hfz47_2,hfz47_3,hfz47_4,hfz47_5,hfz47_6,hfz47_7,hfz47_8,hfz47_9,hfz47_10,hfz47_11⟩:=k12f_ BK207
   try go_wp2_with (((with_reducible refine gate_callee (f:=108) rfl ?_);refine gL_ (some 76) Try.func108 #[.slice A0_9 l0_9.length c0_9] ?_;(with_reducible refine (spec_ConfText.calls k1 _ _ l0_9 t223 t224 _ ?side1 ?side2 A42.out).mono ?_);(case side1 => repeat (exact (Kd.C_below HR0_9.out HB.out)));(case side2 => exact HC0_9.out);rintro e w48 ⟨rfl,hb⟩;refine ⟨_,rfl,?_⟩;replace BK207:=kB_ BK207 hb;replace HB:=bS_ HB hb;(try clear hb)))
   replace BK207:=A_ (kd_ BK207.out);replace HB:=A_ (pd_ HB.out);refine start_ (n:=10) (S:=fun w' => w'.cell? ⟨gb207,0,none⟩ = some (.int .i64 a0_0) ∧ w'.cell? ⟨gb207,1,none⟩ = some (.int .i64 a0_1) ∧ w'.cell? ⟨gb207,2,none⟩ = some (.int .i64 a0_2) ∧ w'.cell? ⟨gb207,3,none⟩ = some (.int .i64 a0_3) ∧ w'.cell? ⟨gb207,4,none⟩ = some (.int .i64 a0_4) ∧ w'.cell? ⟨gb207,5,none⟩ = some (.int .i64 a0_5) ∧ w'.cell? ⟨gb207,6,none⟩ = some (.int .i64 a0_6) ∧ w'.cell? ⟨gb207,7,none⟩ = some (.bool a0_7) ∧ w'.cell? ⟨gb207,8,none⟩ = some (.slice A0_8 l0_8.length c0_8) ∧ w'.cell? ⟨gb207,9,none⟩ = some (.slice A0_9 l0_9.length c0_9) ∧ w'.cell? ⟨gb207,10,none⟩ = some (.string a0_10) ∧ w'.cell? ⟨gb207,11,none⟩ = some (.bool a0_11)) (ds:=[]) #[false,false,false,false,false,false,false,false,false,false] (by kernel_rfl) rfl rfl (kJ12_ BK207) (fun hHeld => ?_);refine with_tabW spec_Encode.tab10 spec_Encode.bits10 (fun HT_ HW_ => ?_);generalize w48.drew = w49 at BK207 HB hHeld ⊢;refine pU_ 0 (some 79) ?_
   refine pU_ 1 (some 80) ?_
   refine pU_ 4 (some 83) ?_
   refine tK_ 5 (some 84) hHeld ?_
   refine oN_ 2 (some 81) (fun K hK => ?_);refine gs_ Try.func55 #[.string t223] ?_;with_reducible refine (spec_l05Short.calls k1 t223 t225 _ A43.out).mono ?_;rintro e w50 ⟨rfl,hb⟩;refine ⟨_,rfl,?_⟩;replace BK207:=kB_ BK207 hb;replace HB:=bS_ HB hb
   (try clear hb)
   refine hK.out _ _ (kJ12_ BK207) (fun hHeld => ?_);clear hK K;refine nX_ (some 81) ?_
   refine pU_ 3 (some 82) ?_
   refine oN_ 6 (some 85) (fun K hK => ?_);refine gs_ Try.func55 #[.string a0_10] ?_;with_reducible refine (spec_l05Short.calls k1 a0_10 t226 _ A45.out).mono ?_;rintro e w51 ⟨rfl,hb⟩;refine ⟨_,rfl,?_⟩;replace BK207:=kB_ BK207 hb;replace HB:=bS_ HB hb
   (try clear hb)
   refine hK.out _ _ (kJ12_ BK207) (fun hHeld => ?_);clear hK K;refine nX_ (some 85) ?_
   refine pU_ 7 (some 86) ?_
   refine pU_ 8 (some 2) ?_
   refine pU_ 9 (some 3) ?_
   refine done_ (done_of HT_.out (by kernel_rfl)) ?_
   try go_wp2
   go_ret2;exact ⟨ex_,bq_ HB⟩
end Go.Proofs.Ytbcgnncbiblibaa.PFnMessages
