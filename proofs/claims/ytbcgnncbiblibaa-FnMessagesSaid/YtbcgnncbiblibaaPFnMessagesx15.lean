/- The contracts of Go functions that this law reaches: what each call returns, by a plain Lean function of its arguments, under the conditions that each names. By the kit's print.py, run by this repo's wip/gen/pp.py: not to the letter what print.sh prints. -/
import Derived.Test.YtbcgnncbiblibaaPFnMessagesx0
import Derived.Test.YtbcgnncbiblibaaPFnMessagesx13
import Derived.Test.YtbcgnncbiblibaaPFnMessagesx14
namespace Go.Proofs.Ytbcgnncbiblibaa.PFnMessages
open Go.RowKit Go.Proofs.YtbcgnncbiblibaaW.PrintWords Go.Proofs.YtbcgnncbiblibaaW.PrintLast Go.Proofs.YtbcgnncbiblibaaW.PrintMore
attribute [local go_sem] max2_int min2_int max_two min_two max_three min_three max_four min_four
set_option linter.unusedVariables false
set_option linter.unusedSimpArgs false
mutual
def impl_Encode.l0 : Nat → ByteArray → List (S69) → Int → Int → Int → Int → Int → Int → Int → Int → Int → Bool → List (S69) → List Int → ByteArray → Bool → Option (ByteArray × Bool)
 | 0,_,_,_,_,_,_,_,_,_,_,_,_,_,_,_,_ => none
 | k + 1,x8,x69,x70,x71,x343000,x343001,x343002,x343003,x343004,x343005,x343006,x343007,x343008,x343009,x343010,x343011 => if x71 < x70 then (if 0 ≤ x71 then (if x71 < (x69.length : Int) then ((impl_EntryText.f k 1 ((rd_T69 x69 x71).f0) ((rd_T69 x69 x71).f1) ((rd_T69 x69 x71).f2)).bind fun bt358 => ((impl_ShortText.f k bt358.1).bind fun bt360 => (if x8.size + bt360.1.size ≤ 9223372036854775807 then (impl_Encode.l0 k (x8 ++ bt360.1) x69 x70 (wrap64 (x71 + 1)) x343000 x343001 x343002 x343003 x343004 x343005 x343006 x343007 x343008 x343009 x343010 x343011) else (none)))) else (none)) else (none)) else (impl_Encode.l1 k x8 ([] : List Int) x343009 (x343009.length : Int) 0 x343000 x343001 x343002 x343003 x343004 x343005 x343006 x343007 x343008 x343009 x343010 x343011)
def impl_Encode.l1 : Nat → ByteArray → List Int → List Int → Int → Int → Int → Int → Int → Int → Int → Int → Int → Bool → List (S69) → List Int → ByteArray → Bool → Option (ByteArray × Bool)
 | 0,_,_,_,_,_,_,_,_,_,_,_,_,_,_,_,_,_ => none
 | k + 1,x8,x15,x90,x91,x92,x343000,x343001,x343002,x343003,x343004,x343005,x343006,x343007,x343008,x343009,x343010,x343011 => if x92 < x91 then (if 0 ≤ x92 then (if x92 < (x90.length : Int) then (if x15.length < 140737488355328 then (impl_Encode.l1 k x8 (x15 ++ [(rd x90 x92) % 256]) x90 x91 (wrap64 (x92 + 1)) x343000 x343001 x343002 x343003 x343004 x343005 x343006 x343007 x343008 x343009 x343010 x343011) else (none)) else (none)) else (none)) else ((impl_ShortText.f k (strOfNums x15)).bind fun bt366 => ((impl_ShortText.f k x343010).bind fun bt368 => (if x8.size + bt366.1.size ≤ 9223372036854775807 then (if (x8 ++ bt366.1).size + bt368.1.size ≤ 9223372036854775807 then (some ((x8 ++ bt366.1) ++ bt368.1,true)) else (none)) else (none))))
end
def impl_Encode.f (k : Nat) (a0_0 a0_1 a0_2 a0_3 a0_4 a0_5 a0_6 : Int) (a0_7 : Bool) (l0_8 : List (S69)) (l0_9 : List Int) (a0_10 : ByteArray) (a0_11 : Bool) : Option (ByteArray × Bool) := (impl_MessageOk.f k a0_0 a0_1 a0_2 a0_3 a0_4 a0_5 a0_6 a0_7 l0_8 l0_9 a0_10 a0_11).bind fun t343 => (if t343 = true then ((impl_vars.f k (([a0_3, a0_4, a0_5, a0_6] : List Int))).bind fun bt347 => ((impl_VarText.f k (l0_8.length : Int)).bind fun bt349 => ((some (([(a0_0) % 256, (a0_1) % 256, (a0_2) % 256] : List Int) : List Int)).bind fun y351 => (if (strOfNums y351).size + bt347.1.size ≤ 9223372036854775807 then ((impl_flag.f a0_7).bind fun t354 => (if ((strOfNums y351) ++ bt347.1).size + t354.size ≤ 9223372036854775807 then ((impl_flag.f a0_11).bind fun t355 => (if (((strOfNums y351) ++ bt347.1) ++ t354).size + t355.size ≤ 9223372036854775807 then (if ((((strOfNums y351) ++ bt347.1) ++ t354) ++ t355).size + bt349.1.size ≤ 9223372036854775807 then (impl_Encode.l0 k (((((strOfNums y351) ++ bt347.1) ++ t354) ++ t355) ++ bt349.1) l0_8 (l0_8.length : Int) 0 a0_0 a0_1 a0_2 a0_3 a0_4 a0_5 a0_6 a0_7 l0_8 l0_9 a0_10 a0_11) else (none)) else (none))) else (none))) else (none))))) else (some ((⟨#[]⟩ : ByteArray), false)))
theorem impl_Encode.mono_l : ∀ k, (∀ y0 y1 y2 y3 y4 y5 y6 y7 y8 y9 y10 y11 y12 y13 y14 y15, LeO (impl_Encode.l0 k y0 y1 y2 y3 y4 y5 y6 y7 y8 y9 y10 y11 y12 y13 y14 y15) (impl_Encode.l0 (k + 1) y0 y1 y2 y3 y4 y5 y6 y7 y8 y9 y10 y11 y12 y13 y14 y15)) ∧ (∀ y0 y1 y2 y3 y4 y5 y6 y7 y8 y9 y10 y11 y12 y13 y14 y15 y16, LeO (impl_Encode.l1 k y0 y1 y2 y3 y4 y5 y6 y7 y8 y9 y10 y11 y12 y13 y14 y15 y16) (impl_Encode.l1 (k + 1) y0 y1 y2 y3 y4 y5 y6 y7 y8 y9 y10 y11 y12 y13 y14 y15 y16))
 | 0 => ⟨fun _ _ _ _ _ _ _ _ _ _ _ _ _ _ _ _ r h => by simp [impl_Encode.l0] at h,fun _ _ _ _ _ _ _ _ _ _ _ _ _ _ _ _ _ r h => by simp [impl_Encode.l1] at h⟩
 | k + 1 => by
  obtain ⟨ih0,ih1⟩:=impl_Encode.mono_l k;refine ⟨?_,?_⟩
  ·intro y0 y1 y2 y3 y4 y5 y6 y7 y8 y9 y10 y11 y12 y13 y14 y15
   unfold impl_Encode.l0
   repeat' first
   | (with_reducible exact ih0 _ _ _ _ _ _ _ _ _ _ _ _ _ _ _ _)
   | (with_reducible exact ih1 _ _ _ _ _ _ _ _ _ _ _ _ _ _ _ _ _)
   | (with_reducible exact impl_EntryText.mono _ _ _ _ _)
   | (with_reducible exact impl_ShortText.mono _ _)
   | (with_reducible exact LeO.refl _)
   | (with_reducible refine LeO.ite ?_ ?_)
   | (with_reducible refine LeO.bind ?_ (fun _ => ?_))
  intro y0 y1 y2 y3 y4 y5 y6 y7 y8 y9 y10 y11 y12 y13 y14 y15 y16
  unfold impl_Encode.l1
  repeat' first
  | (with_reducible exact ih1 _ _ _ _ _ _ _ _ _ _ _ _ _ _ _ _ _)
  | (with_reducible exact impl_ShortText.mono _ _)
  | (with_reducible exact LeO.refl _)
  | (with_reducible refine LeO.ite ?_ ?_)
  | (with_reducible refine LeO.bind ?_ (fun _ => ?_))
theorem impl_Encode.mono : ∀ a0 a1 a2 a3 a4 a5 a6 a7 a8 a9 a10 a11 k, LeO (impl_Encode.f k a0 a1 a2 a3 a4 a5 a6 a7 a8 a9 a10 a11) (impl_Encode.f (k + 1) a0 a1 a2 a3 a4 a5 a6 a7 a8 a9 a10 a11) := by
 intro a0 a1 a2 a3 a4 a5 a6 a7 a8 a9 a10 a11 k;obtain ⟨ih0,ih1⟩:=impl_Encode.mono_l k
 unfold impl_Encode.f
 repeat' first
   | (with_reducible exact ih0 _ _ _ _ _ _ _ _ _ _ _ _ _ _ _ _)
   | (with_reducible exact impl_MessageOk.mono _ _ _ _ _ _ _ _ _ _ _ _ _)
   | (with_reducible exact impl_VarText.mono _ _)
   | (with_reducible exact impl_vars.mono _ _)
   | (with_reducible exact LeO.refl _)
   | (with_reducible refine LeO.ite ?_ ?_)
   | (with_reducible refine LeO.bind ?_ (fun _ => ?_))
def impl_Encode.T5 : Bool × List (List Nat × List Nat) := (true, [([], []), ([0], [0]), ([1], [1]), ([], []), ([3], [3]), ([4], [4]), ([], []), ([6], [6]), ([7], [7]), ([2, 5, 8], [2, 5, 8]), ([9], [9]), ([], []), ([10, 11], [10, 11]), ([], []), ([13], [13]), ([14], [14]), ([12, 15], [12, 15]), ([], []), ([17], [17]), ([18, 15], [18]), ([16, 19], [16, 19]), ([], []), ([20, 21], [20, 21]), ([22, 19, 0, 1, 2, 3, 4, 5, 6, 7, 8, 9, 10, 11, 12, 13, 14, 15, 16, 17, 18, 19, 20, 21, 22], [22])])
def impl_Encode.B5 : List Nat := [0, 1, 3, 0, 8, 24, 0, 64, 192, 511, 1023, 0, 4095, 0, 8192, 24576, 65535, 0, 131072, 450560, 1048575, 0, 4194303, 8388607]
theorem impl_Encode.tab5 : rtab .any (opsOf Try.f28 5) = impl_Encode.T5 := by kernel_rfl
theorem impl_Encode.bits5 : waitsOk impl_Encode.T5.2 impl_Encode.B5 = true := by kernel_rfl
abbrev j15_0 (w_ : World) (g_ : Nat) (a0_0 a0_1 a0_2 a0_3 a0_4 a0_5 a0_6 : Int) (a0_7 : Bool) (A0_8 : Option Addr) (l0_8 : List (S69)) (c0_8 : Nat) (A0_9 : Option Addr) (l0_9 : List Int) (c0_9 : Nat) (a0_10 : ByteArray) (a0_11 : Bool) : Prop := w_.cell? ⟨g_,0,none⟩ = some (.int .i64 a0_0) ∧ w_.cell? ⟨g_,1,none⟩ = some (.int .i64 a0_1) ∧ w_.cell? ⟨g_,2,none⟩ = some (.int .i64 a0_2) ∧ w_.cell? ⟨g_,3,none⟩ = some (.int .i64 a0_3) ∧ w_.cell? ⟨g_,4,none⟩ = some (.int .i64 a0_4) ∧ w_.cell? ⟨g_,5,none⟩ = some (.int .i64 a0_5) ∧ w_.cell? ⟨g_,6,none⟩ = some (.int .i64 a0_6) ∧ w_.cell? ⟨g_,7,none⟩ = some (.bool a0_7) ∧ w_.cell? ⟨g_,8,none⟩ = some (.slice A0_8 l0_8.length c0_8) ∧ w_.cell? ⟨g_,9,none⟩ = some (.slice A0_9 l0_9.length c0_9) ∧ w_.cell? ⟨g_,10,none⟩ = some (.string a0_10) ∧ w_.cell? ⟨g_,11,none⟩ = some (.bool a0_11)
abbrev j15_1 (w_ : World) (g_ : Nat) (a0_0 a0_1 a0_2 a0_3 a0_4 a0_5 a0_6 : Int) (a0_7 : Bool) (A0_8 : Option Addr) (l0_8 : List (S69)) (c0_8 : Nat) (A0_9 : Option Addr) (l0_9 : List Int) (c0_9 : Nat) (a0_10 : ByteArray) (a0_11 : Bool) : Prop := w_.heap[g_]? = some (.cells #[.int .i64 a0_0,.int .i64 a0_1,.int .i64 a0_2,.int .i64 a0_3,.int .i64 a0_4,.int .i64 a0_5,.int .i64 a0_6,.bool a0_7,.slice A0_8 l0_8.length c0_8,.slice A0_9 l0_9.length c0_9,.string a0_10,.bool a0_11] 41 (0,0))
set_option maxHeartbeats 8000000 in
set_option maxRecDepth 100000 in
theorem impl_Encode.calls (k : Nat) (a0_0 a0_1 a0_2 a0_3 a0_4 a0_5 a0_6 : Int) (a0_7 : Bool) (A0_8 : Option Addr) (c0_8 : Nat) (l0_8 : List (S69)) (A0_9 : Option Addr) (c0_9 : Nat) (l0_9 : List Int) (a0_10 : ByteArray) (a0_11 : Bool) (r1 : ByteArray) (r2 : Bool) (w : World) (hr0_8 : Kd.C k69 w A0_8 l0_8.length l0_8) (hc0_8 : l0_8.length ≤ c0_8) (hr0_9 : Kd.C (Kd.int .i64) w A0_9 l0_9.length l0_9) (hc0_9 : l0_9.length ≤ c0_9) (h : impl_Encode.f k a0_0 a0_1 a0_2 a0_3 a0_4 a0_5 a0_6 a0_7 l0_8 l0_9 a0_10 a0_11 = some (r1, r2)) :
  Calls Try.prog 28 #[.agg #[.int .i64 a0_0,.int .i64 a0_1,.int .i64 a0_2,.int .i64 a0_3,.int .i64 a0_4,.int .i64 a0_5,.int .i64 a0_6,.bool a0_7,.slice A0_8 l0_8.length c0_8,.slice A0_9 l0_9.length c0_9,.string a0_10,.bool a0_11]] w fun e w' => e = .returned (.tuple #[.string r1,.bool r2]) ∧ Below w.heap.size w w':=by
 have hu41:=Try.underlying41;have hu69:=Try.underlying69;have HR0_8:=A_ hr0_8;have HC0_8:=A_ hc0_8;clear hr0_8 hc0_8;have HR0_9:=A_ hr0_9;have HC0_9:=A_ hc0_9;clear hr0_9 hc0_9;have HB:=A_ (Below.refl w.heap.size w);unfold impl_Encode.f at h;have H:=h;clear h;replace H:=ob_.mp H;obtain ⟨t343,A20,H⟩:=H;have A2:=A_ A20;clear A20;have HC3:=A_ H;clear H;go_enter Try.func28,Try.ntmps28
 go_upto_if 24 with (first|((with_reducible refine gate_dst (N:=1) rfl ?_);refine bE_ 1 #[.int .i64 a0_0,.int .i64 a0_1,.int .i64 a0_2,.int .i64 a0_3,.int .i64 a0_4,.int .i64 a0_5,.int .i64 a0_6,.bool a0_7,.slice A0_8 l0_8.length c0_8,.slice A0_9 l0_9.length c0_9,.string a0_10,.bool a0_11] 41 ?_;intro gb342 hg w4 hbox hb;have n0_:=bS_ HB hb;have n1_:=A_ hbox;have n3_:=gE_ hg HB;clear HB;have HB:=n0_;have BK342:=n1_;have GE342:=n3_;clear n0_ n1_ n3_;clear hb hbox hg;obtain ⟨hcz5_0,hcz5_1,hcz5_2,hcz5_3,hcz5_4,hcz5_5,hcz5_6,hcz5_7,hcz5_8,hcz5_9,hcz5_10,hcz5_11,hfz5_0,hfz5_1,hfz5_2,hfz5_3,hfz5_4,hfz5_5,hfz5_6,hfz5_7,hfz5_8,hfz5_9,hfz5_10,hfz5_11⟩:=k12f_ BK342)|((with_reducible refine gate_callee (f:=75) rfl ?_);refine gL_ (some 23) Try.func75 #[.agg #[.int .i64 a0_0,.int .i64 a0_1,.int .i64 a0_2,.int .i64 a0_3,.int .i64 a0_4,.int .i64 a0_5,.int .i64 a0_6,.bool a0_7,.slice A0_8 l0_8.length c0_8,.slice A0_9 l0_9.length c0_9,.string a0_10,.bool a0_11]] ?_;(with_reducible refine (impl_MessageOk.calls k a0_0 a0_1 a0_2 a0_3 a0_4 a0_5 a0_6 a0_7 _ _ l0_8 _ _ l0_9 a0_10 a0_11 t343 _ ?side1 ?side2 ?side3 ?side4 A2.out).mono ?_);(case side1 => repeat (exact (Kd.C_below HR0_8.out HB.out)));(case side2 => exact HC0_8.out);(case side3 => repeat (exact (Kd.C_below HR0_9.out HB.out)));(case side4 => exact HC0_9.out);rintro e w6 ⟨rfl,hb⟩;refine ⟨_,rfl,?_⟩;replace BK342:=kB_ BK342 hb;replace HB:=bS_ HB hb;(try clear hb)))
 have H:=HC3.out;clear HC3
 by_cases c7 : t343 = true;rotate_left
 ·replace c7:=Bool.eq_false_iff.mpr c7;subst c7
  have H1 : (some ((⟨#[]⟩ : ByteArray),false)) = some (r1,r2):=by rw [if_neg (show ¬ (false = true) by decide)] at H;exact H
  clear H;have H:=H1;clear H1;simp only [Option.some.injEq,Prod.mk.injEq] at H;obtain ⟨rfl,rfl⟩:=H;go_wp2;go_ret2;exact ⟨ex_,bq_ HB⟩
 subst c7
 rw [if_pos rfl] at H;obtain ⟨y344,hy344⟩ : ∃ y_ : List Int,y_ = (([a0_3,a0_4,a0_5,a0_6] : List Int)):=⟨_,rfl⟩
 replace H : ((impl_vars.f k y344).bind fun bt347 => ((impl_VarText.f k (l0_8.length : Int)).bind fun bt349 => ((some (([(a0_0) % 256,(a0_1) % 256,(a0_2) % 256] : List Int) : List Int)).bind fun y351 => (if (strOfNums y351).size + bt347.1.size ≤ 9223372036854775807 then ((impl_flag.f a0_7).bind fun t354 => (if ((strOfNums y351) ++ bt347.1).size + t354.size ≤ 9223372036854775807 then ((impl_flag.f a0_11).bind fun t355 => (if (((strOfNums y351) ++ bt347.1) ++ t354).size + t355.size ≤ 9223372036854775807 then (if ((((strOfNums y351) ++ bt347.1) ++ t354) ++ t355).size + bt349.1.size ≤ 9223372036854775807 then (impl_Encode.l0 k (((((strOfNums y351) ++ bt347.1) ++ t354) ++ t355) ++ bt349.1) l0_8 (l0_8.length : Int) 0 a0_0 a0_1 a0_2 a0_3 a0_4 a0_5 a0_6 a0_7 l0_8 l0_9 a0_10 a0_11) else (none)) else (none))) else (none))) else (none))))) = some (r1,r2):=by (rw [hy344];with_reducible exact H)
 have Ny344:=A_ hy344;clear hy344;obtain ⟨⟨t347,t348⟩,A8,H⟩:=oB_ H;(try dsimp only at H);obtain ⟨⟨t349,t350⟩,A9,H⟩:=oB_ H;(try dsimp only at H);obtain ⟨y351,hy351⟩ : ∃ y_ : List Int,y_ = (([(a0_0) % 256,(a0_1) % 256,(a0_2) % 256] : List Int)):=⟨_,rfl⟩
 replace H : (if (strOfNums y351).size + t347.size ≤ 9223372036854775807 then ((impl_flag.f a0_7).bind fun t354 => (if ((strOfNums y351) ++ t347).size + t354.size ≤ 9223372036854775807 then ((impl_flag.f a0_11).bind fun t355 => (if (((strOfNums y351) ++ t347) ++ t354).size + t355.size ≤ 9223372036854775807 then (if ((((strOfNums y351) ++ t347) ++ t354) ++ t355).size + t349.size ≤ 9223372036854775807 then (impl_Encode.l0 k (((((strOfNums y351) ++ t347) ++ t354) ++ t355) ++ t349) l0_8 (l0_8.length : Int) 0 a0_0 a0_1 a0_2 a0_3 a0_4 a0_5 a0_6 a0_7 l0_8 l0_9 a0_10 a0_11) else (none)) else (none))) else (none))) else (none)) = some (r1,r2):=by (have H2_:=(Option.bind_some _ _).symm.trans H;rw [hy351];with_reducible exact H2_)
 have Ny351:=A_ hy351;clear hy351
 by_cases c10 : (strOfNums y351).size + t347.size ≤ 9223372036854775807;rotate_left
 ·rw [if_neg c10] at H;exact absurd H (by simp)
 rw [if_pos c10] at H;have c10b0:=eq_true c10;have c10b1:=de_ c10
 try have c10b2 : (9223372036854775807 < (strOfNums y351).size + t347.size) = False:=eq_false (Nat.not_lt.2 c10)
 replace H:=ob_.mp H;obtain ⟨t354,A110,H⟩:=H;have A11:=A_ A110;clear A110
 by_cases c12 : ((strOfNums y351) ++ t347).size + t354.size ≤ 9223372036854775807;rotate_left
 ·rw [if_neg c12] at H;exact absurd H (by simp)
 rw [if_pos c12] at H;have c12b0:=eq_true c12;have c12b1:=de_ c12
 try have c12b2 : (9223372036854775807 < ((strOfNums y351) ++ t347).size + t354.size) = False:=eq_false (Nat.not_lt.2 c12)
 try have c12b3 : (9223372036854775807 < (strOfNums y351).size + t347.size + t354.size) = False:=eq_false (by have h_:=c12;simp only [ByteArray.size_append,show ∀ x_ : UInt8,(⟨#[x_]⟩ : ByteArray).size = 1 from fun _ => rfl] at h_;omega)
 replace H:=ob_.mp H;obtain ⟨t355,A130,H⟩:=H;have A13:=A_ A130;clear A130
 by_cases c14 : (((strOfNums y351) ++ t347) ++ t354).size + t355.size ≤ 9223372036854775807;rotate_left
 ·rw [if_neg c14] at H;exact absurd H (by simp)
 rw [if_pos c14] at H;have c14b0:=eq_true c14;have c14b1:=de_ c14
 try have c14b2 : (9223372036854775807 < (((strOfNums y351) ++ t347) ++ t354).size + t355.size) = False:=eq_false (Nat.not_lt.2 c14)
 try have c14b3 : (9223372036854775807 < (strOfNums y351).size + t347.size + t354.size + t355.size) = False:=eq_false (by have h_:=c14;simp only [ByteArray.size_append,show ∀ x_ : UInt8,(⟨#[x_]⟩ : ByteArray).size = 1 from fun _ => rfl] at h_;omega)
 by_cases c15 : ((((strOfNums y351) ++ t347) ++ t354) ++ t355).size + t349.size ≤ 9223372036854775807;rotate_left
 ·rw [if_neg c15] at H;exact absurd H (by simp)
 rw [if_pos c15] at H;have c15b0:=eq_true c15;have c15b1:=de_ c15
 try have c15b2 : (9223372036854775807 < ((((strOfNums y351) ++ t347) ++ t354) ++ t355).size + t349.size) = False:=eq_false (Nat.not_lt.2 c15)
 try have c15b3 : (9223372036854775807 < (strOfNums y351).size + t347.size + t354.size + t355.size + t349.size) = False:=eq_false (by have h_:=c15;simp only [ByteArray.size_append,show ∀ x_ : UInt8,(⟨#[x_]⟩ : ByteArray).size = 1 from fun _ => rfl] at h_;omega)
 have H':=A_ H;clear H;obtain ⟨hcz16_0,hcz16_1,hcz16_2,hcz16_3,hcz16_4,hcz16_5,hcz16_6,hcz16_7,hcz16_8,hcz16_9,hcz16_10,hcz16_11,hfz16_0,hfz16_1,hfz16_2,hfz16_3,hfz16_4,hfz16_5,hfz16_6,hfz16_7,hfz16_8,hfz16_9,hfz16_10,hfz16_11⟩:=k12f_ BK342
 try go_wp2_with (first|((with_reducible refine gate_dst (N:=34) rfl ?_);refine rX_ (d:=(Kd.int .i64)) (e:=3) (xs:=([a0_3,a0_4,a0_5,a0_6] : List Int)) (inner:=[.int .i64 a0_3,.int .i64 a0_4,.int .i64 a0_5,.int .i64 a0_6]) (ok:=fun _ => True) (okp:=fun _ => True) 34 (Reps.one (show Kd.M (Kd.int .i64) _ _ _ a0_3 [.int .i64 a0_3] from rfl) (Reps.one (show Kd.M (Kd.int .i64) _ _ _ a0_4 [.int .i64 a0_4] from rfl) (Reps.one (show Kd.M (Kd.int .i64) _ _ _ a0_5 [.int .i64 a0_5] from rfl) (Reps.one (show Kd.M (Kd.int .i64) _ _ _ a0_6 [.int .i64 a0_6] from rfl) (Reps.none _ _))))) ?_;intro v345 w17 ho18 hb hg_ hnew_;clear hg_ hnew_;(rw [← Ny344.out] at ho18);have HO346:=A_ (rw_ ho18 (bz_ (bq_ HB)));replace BK342:=kB_ BK342 hb;replace HB:=bS_ HB hb;clear hb ho18;obtain ⟨Ao19,co19,eo19⟩:=Kd.R_slice HO346.out;subst eo19)|((with_reducible refine gate_callee (f:=76) rfl ?_);refine gL_ (some 35) Try.func76 #[.slice Ao19 y344.length co19] ?_;(with_reducible refine (impl_vars.calls k _ _ y344 t347 t348 _ ?side1 ?side2 A8.out).mono ?_);(case side1 => repeat (exact (Kd.R_reads' HO346.out).2.2));(case side2 => exact (Kd.R_reads' HO346.out).2.1);rintro e w20 ⟨rfl,hb⟩;refine ⟨_,rfl,?_⟩;replace HO346:=rB_ HO346 hb;replace BK342:=kB_ BK342 hb;replace HB:=bS_ HB hb;(try clear hb);obtain ⟨hcz21_0,hcz21_1,hcz21_2,hcz21_3,hcz21_4,hcz21_5,hcz21_6,hcz21_7,hcz21_8,hcz21_9,hcz21_10,hcz21_11,hfz21_0,hfz21_1,hfz21_2,hfz21_3,hfz21_4,hfz21_5,hfz21_6,hfz21_7,hfz21_8,hfz21_9,hfz21_10,hfz21_11⟩:=k12f_ BK342)|((with_reducible refine gate_callee (f:=77) rfl ?_);refine gL_ (some 42) Try.func77 #[.int .i64 (l0_8.length : Int)] ?_;(with_reducible refine (impl_VarText.calls k (l0_8.length : Int) t349 t350 _ A9.out).mono ?_);rintro e w22 ⟨rfl,hb⟩;refine ⟨_,rfl,?_⟩;replace HO346:=rB_ HO346 hb;replace BK342:=kB_ BK342 hb;replace HB:=bS_ HB hb;(try clear hb)))
 replace HO346:=A_ (Rd_ HO346.out);replace BK342:=A_ (kd_ BK342.out);replace HB:=A_ (pd_ HB.out);refine start_ (n:=24) (S:=fun w' => w'.cell? ⟨gb342,0,none⟩ = some (.int .i64 a0_0) ∧ w'.cell? ⟨gb342,1,none⟩ = some (.int .i64 a0_1) ∧ w'.cell? ⟨gb342,2,none⟩ = some (.int .i64 a0_2) ∧ w'.cell? ⟨gb342,3,none⟩ = some (.int .i64 a0_3) ∧ w'.cell? ⟨gb342,4,none⟩ = some (.int .i64 a0_4) ∧ w'.cell? ⟨gb342,5,none⟩ = some (.int .i64 a0_5) ∧ w'.cell? ⟨gb342,6,none⟩ = some (.int .i64 a0_6) ∧ w'.cell? ⟨gb342,7,none⟩ = some (.bool a0_7) ∧ w'.cell? ⟨gb342,8,none⟩ = some (.slice A0_8 l0_8.length c0_8) ∧ w'.cell? ⟨gb342,9,none⟩ = some (.slice A0_9 l0_9.length c0_9) ∧ w'.cell? ⟨gb342,10,none⟩ = some (.string a0_10) ∧ w'.cell? ⟨gb342,11,none⟩ = some (.bool a0_11)) (ds:=[]) #[false,false,false,false,false,false,false,false,false,false,false,false,false,false,false,false,false,false,false,false,false,false,false,false] (by kernel_rfl) rfl rfl (kJ12_ BK342) (fun hHeld => ?_);refine with_tabW impl_Encode.tab5 impl_Encode.bits5 (fun HT_ HW_ => ?_);generalize w22.drew = w23 at HO346 BK342 HB hHeld ⊢;refine pU_ 0 (some 45) ?_
 refine pU_ 3 (some 48) ?_
 refine pU_ 6 (some 51) ?_
 refine pU_ 11 (some 56) ?_
 refine pU_ 13 (some 58) ?_
 refine pU_ 17 (some 62) ?_
 refine pU_ 21 (some 66) ?_
 refine tK_ 1 (some 46) hHeld ?_
 refine pU_ 2 (some 47) ?_
 refine tK_ 4 (some 49) hHeld ?_
 refine pU_ 5 (some 50) ?_
 refine tK_ 7 (some 52) hHeld ?_
 refine pU_ 8 (some 53) ?_
 refine tK_ 14 (some 59) hHeld ?_
 refine tK_ 18 (some 63) hHeld ?_
 refine join_ (σ:=Value) 3 #[true,true,true,true,true,true,true,true,true,true,true,true,true,true,true,true,true,true,true,true,false,true,false,false] (fun s_ => [(54,s_),(55,.string (strOfNums y351)),(60,.string t354),(64,.string t355),(57,.string ((strOfNums y351) ++ t347)),(61,.string (((strOfNums y351) ++ t347) ++ t354))]) (fun s_ w' => (j15_0 w' gb342 a0_0 a0_1 a0_2 a0_3 a0_4 a0_5 a0_6 a0_7 A0_8 l0_8 c0_8 A0_9 l0_9 c0_9 a0_10 a0_11) ∧ (Kd.R (Kd.int .i64) 3 w' w.heap.size (fun _ => True) (.slice Ao19 y344.length co19) y344) ∧ (Kd.R (Kd.int .u8) 5 w' w.heap.size (fun _ => True) s_ y351) ∧ (j15_1 w' gb342 a0_0 a0_1 a0_2 a0_3 a0_4 a0_5 a0_6 a0_7 A0_8 l0_8 c0_8 A0_9 l0_9 c0_9 a0_10 a0_11) ∧ (Below w.heap.size w w')) ?_ ?_;rotate_left
 ·intro hJ9_10_15_19;refine join_ (σ:=Value) 4 #[true,true,true,true,true,true,true,true,true,true,true,true,true,true,true,true,true,true,true,false,false,true,false,false] (fun s_ => [(54,s_),(55,.string (strOfNums y351)),(60,.string t354),(57,.string ((strOfNums y351) ++ t347)),(61,.string (((strOfNums y351) ++ t347) ++ t354))]) (fun s_ w' => (j15_0 w' gb342 a0_0 a0_1 a0_2 a0_3 a0_4 a0_5 a0_6 a0_7 A0_8 l0_8 c0_8 A0_9 l0_9 c0_9 a0_10 a0_11) ∧ (Kd.R (Kd.int .i64) 3 w' w.heap.size (fun _ => True) (.slice Ao19 y344.length co19) y344) ∧ (Kd.R (Kd.int .u8) 5 w' w.heap.size (fun _ => True) s_ y351) ∧ (j15_1 w' gb342 a0_0 a0_1 a0_2 a0_3 a0_4 a0_5 a0_6 a0_7 A0_8 l0_8 c0_8 A0_9 l0_9 c0_9 a0_10 a0_11) ∧ (Below w.heap.size w w')) ?_ ?_;rotate_left
  ·intro hJ9_10_15;refine join_ (σ:=Value) 6 #[true,true,true,true,true,true,true,true,true,true,false,true,false,true,true,true,false,true,true,true,false,true,false,false] (fun s_ => [(54,s_),(60,.string t354),(64,.string t355)]) (fun s_ w' => (j15_0 w' gb342 a0_0 a0_1 a0_2 a0_3 a0_4 a0_5 a0_6 a0_7 A0_8 l0_8 c0_8 A0_9 l0_9 c0_9 a0_10 a0_11) ∧ (Kd.R (Kd.int .i64) 3 w' w.heap.size (fun _ => True) (.slice Ao19 y344.length co19) y344) ∧ (Kd.R (Kd.int .u8) 5 w' w.heap.size (fun _ => True) s_ y351) ∧ (j15_1 w' gb342 a0_0 a0_1 a0_2 a0_3 a0_4 a0_5 a0_6 a0_7 A0_8 l0_8 c0_8 A0_9 l0_9 c0_9 a0_10 a0_11) ∧ (Below w.heap.size w w')) ?_ ?_;rotate_left
   ·intro hJ9_15_19;refine join_ (σ:=Value) 6 #[true,true,true,true,true,true,true,true,true,true,true,true,true,true,true,false,false,true,true,false,false,true,false,false] (fun s_ => [(54,s_),(55,.string (strOfNums y351)),(57,.string ((strOfNums y351) ++ t347))]) (fun s_ w' => (j15_0 w' gb342 a0_0 a0_1 a0_2 a0_3 a0_4 a0_5 a0_6 a0_7 A0_8 l0_8 c0_8 A0_9 l0_9 c0_9 a0_10 a0_11) ∧ (Kd.R (Kd.int .i64) 3 w' w.heap.size (fun _ => True) (.slice Ao19 y344.length co19) y344) ∧ (Kd.R (Kd.int .u8) 5 w' w.heap.size (fun _ => True) s_ y351) ∧ (j15_1 w' gb342 a0_0 a0_1 a0_2 a0_3 a0_4 a0_5 a0_6 a0_7 A0_8 l0_8 c0_8 A0_9 l0_9 c0_9 a0_10 a0_11) ∧ (Below w.heap.size w w')) ?_ ?_;rotate_left
    ·intro hJ9_10;refine join_ (σ:=Value) 7 #[true,true,true,true,true,true,true,true,true,true,false,true,false,true,true,true,false,true,true,false,false,true,false,false] (fun s_ => [(54,s_),(60,.string t354)]) (fun s_ w' => (j15_0 w' gb342 a0_0 a0_1 a0_2 a0_3 a0_4 a0_5 a0_6 a0_7 A0_8 l0_8 c0_8 A0_9 l0_9 c0_9 a0_10 a0_11) ∧ (Kd.R (Kd.int .i64) 3 w' w.heap.size (fun _ => True) (.slice Ao19 y344.length co19) y344) ∧ (Kd.R (Kd.int .u8) 5 w' w.heap.size (fun _ => True) s_ y351) ∧ (j15_1 w' gb342 a0_0 a0_1 a0_2 a0_3 a0_4 a0_5 a0_6 a0_7 A0_8 l0_8 c0_8 A0_9 l0_9 c0_9 a0_10 a0_11) ∧ (Below w.heap.size w w')) ?_ ?_;rotate_left
     ·intro hJ9_15;refine join_ (σ:=Unit) 7 #[true,true,true,true,true,true,true,true,true,false,false,true,false,true,true,true,false,true,true,true,false,true,false,false] (fun s_ => [(60,.string t354),(64,.string t355)]) (fun s_ w' => (j15_0 w' gb342 a0_0 a0_1 a0_2 a0_3 a0_4 a0_5 a0_6 a0_7 A0_8 l0_8 c0_8 A0_9 l0_9 c0_9 a0_10 a0_11) ∧ (Kd.R (Kd.int .i64) 3 w' w.heap.size (fun _ => True) (.slice Ao19 y344.length co19) y344) ∧ (j15_1 w' gb342 a0_0 a0_1 a0_2 a0_3 a0_4 a0_5 a0_6 a0_7 A0_8 l0_8 c0_8 A0_9 l0_9 c0_9 a0_10 a0_11) ∧ (Below w.heap.size w w')) ?_ ?_;rotate_left
      ·intro hJ15_19;refine join_ (σ:=Value) 8 #[true,true,true,true,true,true,true,true,true,true,false,true,false,true,true,false,false,true,true,false,false,true,false,false] (fun s_ => [(54,s_)]) (fun s_ w' => (j15_0 w' gb342 a0_0 a0_1 a0_2 a0_3 a0_4 a0_5 a0_6 a0_7 A0_8 l0_8 c0_8 A0_9 l0_9 c0_9 a0_10 a0_11) ∧ (Kd.R (Kd.int .i64) 3 w' w.heap.size (fun _ => True) (.slice Ao19 y344.length co19) y344) ∧ (Kd.R (Kd.int .u8) 5 w' w.heap.size (fun _ => True) s_ y351) ∧ (j15_1 w' gb342 a0_0 a0_1 a0_2 a0_3 a0_4 a0_5 a0_6 a0_7 A0_8 l0_8 c0_8 A0_9 l0_9 c0_9 a0_10 a0_11) ∧ (Below w.heap.size w w')) ?_ ?_;rotate_left
       ·intro hJ9;refine join_ (σ:=Unit) 8 #[true,true,true,true,true,true,true,true,true,false,false,true,false,true,true,true,false,true,true,false,false,true,false,false] (fun s_ => [(60,.string t354)]) (fun s_ w' => (j15_0 w' gb342 a0_0 a0_1 a0_2 a0_3 a0_4 a0_5 a0_6 a0_7 A0_8 l0_8 c0_8 A0_9 l0_9 c0_9 a0_10 a0_11) ∧ (Kd.R (Kd.int .i64) 3 w' w.heap.size (fun _ => True) (.slice Ao19 y344.length co19) y344) ∧ (j15_1 w' gb342 a0_0 a0_1 a0_2 a0_3 a0_4 a0_5 a0_6 a0_7 A0_8 l0_8 c0_8 A0_9 l0_9 c0_9 a0_10 a0_11) ∧ (Below w.heap.size w w')) ?_ ?_;rotate_left
        ·intro hJ15;refine two_ (i:=9) (j:=15) (Ni:=some 54) (Nj:=some 60) #[true,true,true,true,true,true,true,true,true,true,false,true,false,true,true,false,false,true,true,false,false,true,false,false] #[true,true,true,true,true,true,true,true,true,false,false,true,false,true,true,true,false,true,true,false,false,true,false,false] rfl rfl rfl rfl (two_of HT_.out (by kernel_rfl)) (by decide) (by decide) (fun K hK => ?_) (fun K hK => ?_)
         ·skip
          refine Kd.R_lit_step (Kd.int .u8) _ 5 ?hg (N:=54) ?hd (xs:=([(a0_0) % 256,(a0_1) % 256,(a0_2) % 256] : List Int)) (inner:=[.int .u8 ((a0_0) % 256),.int .u8 ((a0_1) % 256),.int .u8 ((a0_2) % 256)]) (ok:=fun _ => True) (okp:=fun _ => True) ?hr ?hp (fun _ hk => hk) trivial (Below.refl _ _) (Nat.le_refl _) (by simp) ?_;(case hd => rfl);(case hg => rfl);(case hr => exact gx_);(case hp => exact (Reps.one (show Kd.M (Kd.int .u8) _ _ _ ((a0_0) % 256) [.int .u8 ((a0_0) % 256)] from rfl) (Reps.one (show Kd.M (Kd.int .u8) _ _ _ ((a0_1) % 256) [.int .u8 ((a0_1) % 256)] from rfl) (Reps.one (show Kd.M (Kd.int .u8) _ _ _ ((a0_2) % 256) [.int .u8 ((a0_2) % 256)] from rfl) (Reps.none _ _)))));intro v352 w24 ho25 hb hg_ hnew_;clear hg_ hnew_
          (rw [← Ny351.out] at ho25)
          replace HO346:=rB_ HO346 hb;have HO353:=A_ (rw_ ho25 (bz_ (bq_ HB)));replace BK342:=kB_ BK342 hb;replace HB:=bS_ HB hb;clear hb ho25;refine hK.out _ _ (kJ12_ BK342) (fun hHeld => ?_);clear hK K;refine nX_ (some 54) ?_
          exact norm_ (by (simp only [putAll,Act.put,s1_,s2_,s3_];done)) (hJ9 (v352) _ ⟨hHeld,(rq_ HO346),(rq_ HO353),(kq_ BK342),(bq_ HB)⟩)
         skip
         refine gs_ Try.func78 #[.bool a0_7] ?_;with_reducible refine (impl_flag.calls a0_7 t354 _ A11.out).mono ?_;rintro e w' ⟨rfl,⟨nd,rfl⟩⟩;refine ⟨_,rfl,?_⟩;have BK342d_:=A_ (kn_ BK342.out nd);have HBd_:=A_ (pn_ HB.out nd);refine hK.out _ _ (kJ12_ BK342d_) (fun hHeld => ?_);clear hK K;refine nX_ (some 60) ?_
         exact norm_ (by (simp only [putAll,Act.put,s1_,s2_,s3_];done)) (hJ15 () _ ⟨hHeld,(rq_ HO346),(kq_ BK342),(bq_ HB)⟩)
        skip
        rintro _ w24 ⟨hS_,h0_,h1_,h2_⟩;have n0_ : Aside0 (Kd.R (Kd.int .i64) 3 w24 w.heap.size (fun _ => True) (.slice Ao19 y344.length co19) y344):=⟨h0_⟩;have n1_ : Aside0 (j15_1 w24 gb342 a0_0 a0_1 a0_2 a0_3 a0_4 a0_5 a0_6 a0_7 A0_8 l0_8 c0_8 A0_9 l0_9 c0_9 a0_10 a0_11):=⟨h1_⟩;have n2_ : Aside0 (Below w.heap.size w w24):=⟨h2_⟩;clear HO346;clear BK342;clear HB;clear h0_ h1_ h2_;have HO346:=n0_;have BK342:=n1_;have HB:=n2_;have hHeld : j15_0 w24 gb342 a0_0 a0_1 a0_2 a0_3 a0_4 a0_5 a0_6 a0_7 A0_8 l0_8 c0_8 A0_9 l0_9 c0_9 a0_10 a0_11:=hS_;refine norm_ (a':=?_) ?_ ?_;rotate_left
        ·simp only [putAll,Act.put,s1_,s2_,s3_];rfl
        refine two_ (i:=9) (j:=19) (Ni:=some 54) (Nj:=some 64) #[true,true,true,true,true,true,true,true,true,true,false,true,false,true,true,true,false,true,true,false,false,true,false,false] #[true,true,true,true,true,true,true,true,true,false,false,true,false,true,true,true,false,true,true,true,false,true,false,false] rfl rfl rfl rfl (two_of HT_.out (by kernel_rfl)) (by decide) (by decide) (fun K hK => ?_) (fun K hK => ?_)
        ·skip
         refine Kd.R_lit_step (Kd.int .u8) _ 5 ?hg (N:=54) ?hd (xs:=([(a0_0) % 256,(a0_1) % 256,(a0_2) % 256] : List Int)) (inner:=[.int .u8 ((a0_0) % 256),.int .u8 ((a0_1) % 256),.int .u8 ((a0_2) % 256)]) (ok:=fun _ => True) (okp:=fun _ => True) ?hr ?hp (fun _ hk => hk) trivial (Below.refl _ _) (Nat.le_refl _) (by simp) ?_;(case hd => rfl);(case hg => rfl);(case hr => exact gx_);(case hp => exact (Reps.one (show Kd.M (Kd.int .u8) _ _ _ ((a0_0) % 256) [.int .u8 ((a0_0) % 256)] from rfl) (Reps.one (show Kd.M (Kd.int .u8) _ _ _ ((a0_1) % 256) [.int .u8 ((a0_1) % 256)] from rfl) (Reps.one (show Kd.M (Kd.int .u8) _ _ _ ((a0_2) % 256) [.int .u8 ((a0_2) % 256)] from rfl) (Reps.none _ _)))));intro v352 w25 ho26 hb hg_ hnew_;clear hg_ hnew_
         (rw [← Ny351.out] at ho26)
         replace HO346:=rB_ HO346 hb;have HO353:=A_ (rw_ ho26 (bz_ (bq_ HB)));replace BK342:=kB_ BK342 hb;replace HB:=bS_ HB hb;clear hb ho26;refine hK.out _ _ (kJ12_ BK342) (fun hHeld => ?_);clear hK K;refine nX_ (some 54) ?_
         exact norm_ (by (simp only [putAll,Act.put,s1_,s2_,s3_];done)) (hJ9_15 (v352) _ ⟨hHeld,(rq_ HO346),(rq_ HO353),(kq_ BK342),(bq_ HB)⟩)
        skip
        refine gs_ Try.func78 #[.bool a0_11] ?_;with_reducible refine (impl_flag.calls a0_11 t355 _ A13.out).mono ?_;rintro e w' ⟨rfl,⟨nd,rfl⟩⟩;refine ⟨_,rfl,?_⟩;have BK342d_:=A_ (kn_ BK342.out nd);have HBd_:=A_ (pn_ HB.out nd);refine hK.out _ _ (kJ12_ BK342d_) (fun hHeld => ?_);clear hK K;refine nX_ (some 64) ?_
        exact norm_ (by (simp only [putAll,Act.put,s1_,s2_,s3_];done)) (hJ15_19 () _ ⟨hHeld,(rq_ HO346),(kq_ BK342),(bq_ HB)⟩)
       skip
       rintro v352 w26 ⟨hS_,h0_,h1_,h2_,h3_⟩;have n0_ : Aside0 (Kd.R (Kd.int .i64) 3 w26 w.heap.size (fun _ => True) (.slice Ao19 y344.length co19) y344):=⟨h0_⟩;have n1_ : Aside0 (Kd.R (Kd.int .u8) 5 w26 w.heap.size (fun _ => True) v352 y351):=⟨h1_⟩;have n2_ : Aside0 (j15_1 w26 gb342 a0_0 a0_1 a0_2 a0_3 a0_4 a0_5 a0_6 a0_7 A0_8 l0_8 c0_8 A0_9 l0_9 c0_9 a0_10 a0_11):=⟨h2_⟩;have n3_ : Aside0 (Below w.heap.size w w26):=⟨h3_⟩;clear HO346;clear BK342;clear HB;clear h0_ h1_ h2_ h3_;have HO346:=n0_;have HO353:=n1_;have BK342:=n2_;have HB:=n3_;have hHeld : j15_0 w26 gb342 a0_0 a0_1 a0_2 a0_3 a0_4 a0_5 a0_6 a0_7 A0_8 l0_8 c0_8 A0_9 l0_9 c0_9 a0_10 a0_11:=hS_;refine norm_ (a':=?_) ?_ ?_;rotate_left
       ·simp only [putAll,Act.put,s1_,s2_,s3_];rfl
       refine two_ (i:=10) (j:=15) (Ni:=some 55) (Nj:=some 60) #[true,true,true,true,true,true,true,true,true,true,true,true,false,true,true,false,false,true,true,false,false,true,false,false] #[true,true,true,true,true,true,true,true,true,true,false,true,false,true,true,true,false,true,true,false,false,true,false,false] rfl rfl rfl rfl (two_of HT_.out (by kernel_rfl)) (by decide) (by decide) (fun K hK => ?_) (fun K hK => ?_)
       ·skip
        have hcv27:=own_string (P:=Try.prog) Try.underlying46 Try.underlying5 Try.underlying9 (Kd.own_of_R HO353.out);refine value_ (w1:=?_) (v:=?_) (by rfl) rfl ?_ ?_;rotate_left 2
        ·go_simp
         constructor
         ·rfl
         rfl
        clear hcv27;refine hK.out _ _ (kJ12_ BK342) (fun hHeld => ?_);clear hK K;refine nX_ (some 55) ?_
        refine pU_ 12 (some 57) ?_
        exact norm_ (by (simp only [putAll,Act.put,s1_,s2_,s3_];done)) (hJ9_10 (v352) _ ⟨hHeld,(rq_ HO346),(rq_ HO353),(kq_ BK342),(bq_ HB)⟩)
       skip
       refine gs_ Try.func78 #[.bool a0_7] ?_;with_reducible refine (impl_flag.calls a0_7 t354 _ A11.out).mono ?_;rintro e w' ⟨rfl,⟨nd,rfl⟩⟩;refine ⟨_,rfl,?_⟩;have BK342d_:=A_ (kn_ BK342.out nd);have HBd_:=A_ (pn_ HB.out nd);refine hK.out _ _ (kJ12_ BK342d_) (fun hHeld => ?_);clear hK K;refine nX_ (some 60) ?_
       exact norm_ (by (simp only [putAll,Act.put,s1_,s2_,s3_];done)) (hJ9_15 (v352) _ ⟨hHeld,(rq_ HO346),(rq_ HO353),(kq_ BK342),(bq_ HB)⟩)
      skip
      rintro _ w24 ⟨hS_,h0_,h1_,h2_⟩;have n0_ : Aside0 (Kd.R (Kd.int .i64) 3 w24 w.heap.size (fun _ => True) (.slice Ao19 y344.length co19) y344):=⟨h0_⟩;have n1_ : Aside0 (j15_1 w24 gb342 a0_0 a0_1 a0_2 a0_3 a0_4 a0_5 a0_6 a0_7 A0_8 l0_8 c0_8 A0_9 l0_9 c0_9 a0_10 a0_11):=⟨h1_⟩;have n2_ : Aside0 (Below w.heap.size w w24):=⟨h2_⟩;clear HO346;clear BK342;clear HB;clear h0_ h1_ h2_;have HO346:=n0_;have BK342:=n1_;have HB:=n2_;have hHeld : j15_0 w24 gb342 a0_0 a0_1 a0_2 a0_3 a0_4 a0_5 a0_6 a0_7 A0_8 l0_8 c0_8 A0_9 l0_9 c0_9 a0_10 a0_11:=hS_;refine norm_ (a':=?_) ?_ ?_;rotate_left
      ·simp only [putAll,Act.put,s1_,s2_,s3_];rfl
      refine oN_ 9 (some 54) (fun K hK => ?_);refine Kd.R_lit_step (Kd.int .u8) _ 5 ?hg (N:=54) ?hd (xs:=([(a0_0) % 256,(a0_1) % 256,(a0_2) % 256] : List Int)) (inner:=[.int .u8 ((a0_0) % 256),.int .u8 ((a0_1) % 256),.int .u8 ((a0_2) % 256)]) (ok:=fun _ => True) (okp:=fun _ => True) ?hr ?hp (fun _ hk => hk) trivial (Below.refl _ _) (Nat.le_refl _) (by simp) ?_;(case hd => rfl);(case hg => rfl);(case hr => exact gx_);(case hp => exact (Reps.one (show Kd.M (Kd.int .u8) _ _ _ ((a0_0) % 256) [.int .u8 ((a0_0) % 256)] from rfl) (Reps.one (show Kd.M (Kd.int .u8) _ _ _ ((a0_1) % 256) [.int .u8 ((a0_1) % 256)] from rfl) (Reps.one (show Kd.M (Kd.int .u8) _ _ _ ((a0_2) % 256) [.int .u8 ((a0_2) % 256)] from rfl) (Reps.none _ _)))));intro v352 w25 ho26 hb hg_ hnew_;clear hg_ hnew_
      (rw [← Ny351.out] at ho26)
      replace HO346:=rB_ HO346 hb;have HO353:=A_ (rw_ ho26 (bz_ (bq_ HB)));replace BK342:=kB_ BK342 hb;replace HB:=bS_ HB hb;clear hb ho26;refine hK.out _ _ (kJ12_ BK342) (fun hHeld => ?_);clear hK K;refine nX_ (some 54) ?_
      exact norm_ (by (simp only [putAll,Act.put,s1_,s2_,s3_];done)) (hJ9_15_19 (v352) _ ⟨hHeld,(rq_ HO346),(rq_ HO353),(kq_ BK342),(bq_ HB)⟩)
     skip
     rintro v352 w26 ⟨hS_,h0_,h1_,h2_,h3_⟩;have n0_ : Aside0 (Kd.R (Kd.int .i64) 3 w26 w.heap.size (fun _ => True) (.slice Ao19 y344.length co19) y344):=⟨h0_⟩;have n1_ : Aside0 (Kd.R (Kd.int .u8) 5 w26 w.heap.size (fun _ => True) v352 y351):=⟨h1_⟩;have n2_ : Aside0 (j15_1 w26 gb342 a0_0 a0_1 a0_2 a0_3 a0_4 a0_5 a0_6 a0_7 A0_8 l0_8 c0_8 A0_9 l0_9 c0_9 a0_10 a0_11):=⟨h2_⟩;have n3_ : Aside0 (Below w.heap.size w w26):=⟨h3_⟩;clear HO346;clear BK342;clear HB;clear h0_ h1_ h2_ h3_;have HO346:=n0_;have HO353:=n1_;have BK342:=n2_;have HB:=n3_;have hHeld : j15_0 w26 gb342 a0_0 a0_1 a0_2 a0_3 a0_4 a0_5 a0_6 a0_7 A0_8 l0_8 c0_8 A0_9 l0_9 c0_9 a0_10 a0_11:=hS_;refine norm_ (a':=?_) ?_ ?_;rotate_left
     ·simp only [putAll,Act.put,s1_,s2_,s3_];rfl
     refine two_ (i:=10) (j:=19) (Ni:=some 55) (Nj:=some 64) #[true,true,true,true,true,true,true,true,true,true,true,true,false,true,true,true,false,true,true,false,false,true,false,false] #[true,true,true,true,true,true,true,true,true,true,false,true,false,true,true,true,false,true,true,true,false,true,false,false] rfl rfl rfl rfl (two_of HT_.out (by kernel_rfl)) (by decide) (by decide) (fun K hK => ?_) (fun K hK => ?_)
     ·skip
      have hcv27:=own_string (P:=Try.prog) Try.underlying46 Try.underlying5 Try.underlying9 (Kd.own_of_R HO353.out);refine value_ (w1:=?_) (v:=?_) (by rfl) rfl ?_ ?_;rotate_left 2
      ·go_simp
       constructor
       ·rfl
       rfl
      clear hcv27;refine hK.out _ _ (kJ12_ BK342) (fun hHeld => ?_);clear hK K;refine nX_ (some 55) ?_
      refine pU_ 12 (some 57) ?_
      refine pU_ 16 (some 61) ?_
      exact norm_ (by (simp only [putAll,Act.put,s1_,s2_,s3_];done)) (hJ9_10_15 (v352) _ ⟨hHeld,(rq_ HO346),(rq_ HO353),(kq_ BK342),(bq_ HB)⟩)
     skip
     refine gs_ Try.func78 #[.bool a0_11] ?_;with_reducible refine (impl_flag.calls a0_11 t355 _ A13.out).mono ?_;rintro e w' ⟨rfl,⟨nd,rfl⟩⟩;refine ⟨_,rfl,?_⟩;have BK342d_:=A_ (kn_ BK342.out nd);have HBd_:=A_ (pn_ HB.out nd);refine hK.out _ _ (kJ12_ BK342d_) (fun hHeld => ?_);clear hK K;refine nX_ (some 64) ?_
     exact norm_ (by (simp only [putAll,Act.put,s1_,s2_,s3_];done)) (hJ9_15_19 (v352) _ ⟨hHeld,(rq_ HO346),(rq_ HO353),(kq_ BK342),(bq_ HB)⟩)
    skip
    rintro v352 w27 ⟨hS_,h0_,h1_,h2_,h3_⟩;have n0_ : Aside0 (Kd.R (Kd.int .i64) 3 w27 w.heap.size (fun _ => True) (.slice Ao19 y344.length co19) y344):=⟨h0_⟩;have n1_ : Aside0 (Kd.R (Kd.int .u8) 5 w27 w.heap.size (fun _ => True) v352 y351):=⟨h1_⟩;have n2_ : Aside0 (j15_1 w27 gb342 a0_0 a0_1 a0_2 a0_3 a0_4 a0_5 a0_6 a0_7 A0_8 l0_8 c0_8 A0_9 l0_9 c0_9 a0_10 a0_11):=⟨h2_⟩;have n3_ : Aside0 (Below w.heap.size w w27):=⟨h3_⟩;clear HO346;clear BK342;clear HB;clear h0_ h1_ h2_ h3_;have HO346:=n0_;have HO353:=n1_;have BK342:=n2_;have HB:=n3_;have hHeld : j15_0 w27 gb342 a0_0 a0_1 a0_2 a0_3 a0_4 a0_5 a0_6 a0_7 A0_8 l0_8 c0_8 A0_9 l0_9 c0_9 a0_10 a0_11:=hS_;refine norm_ (a':=?_) ?_ ?_;rotate_left
    ·simp only [putAll,Act.put,s1_,s2_,s3_];rfl
    refine oN_ 15 (some 60) (fun K hK => ?_);refine gs_ Try.func78 #[.bool a0_7] ?_;with_reducible refine (impl_flag.calls a0_7 t354 _ A11.out).mono ?_;rintro e w' ⟨rfl,⟨nd,rfl⟩⟩;refine ⟨_,rfl,?_⟩;have BK342d_:=A_ (kn_ BK342.out nd);have HBd_:=A_ (pn_ HB.out nd);refine hK.out _ _ (kJ12_ BK342d_) (fun hHeld => ?_);clear hK K;refine nX_ (some 60) ?_
    refine pU_ 16 (some 61) ?_
    exact norm_ (by (simp only [putAll,Act.put,s1_,s2_,s3_];done)) (hJ9_10_15 (v352) _ ⟨hHeld,(rq_ HO346),(rq_ HO353),(kq_ BK342),(bq_ HB)⟩)
   skip
   rintro v352 w26 ⟨hS_,h0_,h1_,h2_,h3_⟩;have n0_ : Aside0 (Kd.R (Kd.int .i64) 3 w26 w.heap.size (fun _ => True) (.slice Ao19 y344.length co19) y344):=⟨h0_⟩;have n1_ : Aside0 (Kd.R (Kd.int .u8) 5 w26 w.heap.size (fun _ => True) v352 y351):=⟨h1_⟩;have n2_ : Aside0 (j15_1 w26 gb342 a0_0 a0_1 a0_2 a0_3 a0_4 a0_5 a0_6 a0_7 A0_8 l0_8 c0_8 A0_9 l0_9 c0_9 a0_10 a0_11):=⟨h2_⟩;have n3_ : Aside0 (Below w.heap.size w w26):=⟨h3_⟩;clear HO346;clear BK342;clear HB;clear h0_ h1_ h2_ h3_;have HO346:=n0_;have HO353:=n1_;have BK342:=n2_;have HB:=n3_;have hHeld : j15_0 w26 gb342 a0_0 a0_1 a0_2 a0_3 a0_4 a0_5 a0_6 a0_7 A0_8 l0_8 c0_8 A0_9 l0_9 c0_9 a0_10 a0_11:=hS_;refine norm_ (a':=?_) ?_ ?_;rotate_left
   ·simp only [putAll,Act.put,s1_,s2_,s3_];rfl
   refine oN_ 10 (some 55) (fun K hK => ?_);have hcv27:=own_string (P:=Try.prog) Try.underlying46 Try.underlying5 Try.underlying9 (Kd.own_of_R HO353.out);refine value_ (w1:=?_) (v:=?_) (by rfl) rfl ?_ ?_;rotate_left 2
   ·go_simp
    constructor
    ·rfl
    rfl
   clear hcv27;refine hK.out _ _ (kJ12_ BK342) (fun hHeld => ?_);clear hK K;refine nX_ (some 55) ?_
   refine pU_ 12 (some 57) ?_
   refine pU_ 16 (some 61) ?_
   exact norm_ (by (simp only [putAll,Act.put,s1_,s2_,s3_];done)) (hJ9_10_15_19 (v352) _ ⟨hHeld,(rq_ HO346),(rq_ HO353),(kq_ BK342),(bq_ HB)⟩)
  skip
  rintro v352 w27 ⟨hS_,h0_,h1_,h2_,h3_⟩;have n0_ : Aside0 (Kd.R (Kd.int .i64) 3 w27 w.heap.size (fun _ => True) (.slice Ao19 y344.length co19) y344):=⟨h0_⟩;have n1_ : Aside0 (Kd.R (Kd.int .u8) 5 w27 w.heap.size (fun _ => True) v352 y351):=⟨h1_⟩;have n2_ : Aside0 (j15_1 w27 gb342 a0_0 a0_1 a0_2 a0_3 a0_4 a0_5 a0_6 a0_7 A0_8 l0_8 c0_8 A0_9 l0_9 c0_9 a0_10 a0_11):=⟨h2_⟩;have n3_ : Aside0 (Below w.heap.size w w27):=⟨h3_⟩;clear HO346;clear BK342;clear HB;clear h0_ h1_ h2_ h3_;have HO346:=n0_;have HO353:=n1_;have BK342:=n2_;have HB:=n3_;have hHeld : j15_0 w27 gb342 a0_0 a0_1 a0_2 a0_3 a0_4 a0_5 a0_6 a0_7 A0_8 l0_8 c0_8 A0_9 l0_9 c0_9 a0_10 a0_11:=hS_;refine norm_ (a':=?_) ?_ ?_;rotate_left
  ·simp only [putAll,Act.put,s1_,s2_,s3_];rfl
  refine oN_ 19 (some 64) (fun K hK => ?_);refine gs_ Try.func78 #[.bool a0_11] ?_;with_reducible refine (impl_flag.calls a0_11 t355 _ A13.out).mono ?_;rintro e w' ⟨rfl,⟨nd,rfl⟩⟩;refine ⟨_,rfl,?_⟩;have BK342d_:=A_ (kn_ BK342.out nd);have HBd_:=A_ (pn_ HB.out nd);refine hK.out _ _ (kJ12_ BK342d_) (fun hHeld => ?_);clear hK K;refine nX_ (some 64) ?_
  exact norm_ (by (simp only [putAll,Act.put,s1_,s2_,s3_];done)) (hJ9_10_15_19 (v352) _ ⟨hHeld,(rq_ HO346),(rq_ HO353),(kq_ BK342),(bq_ HB)⟩)
 rintro v352 w27 ⟨hS_,h0_,h1_,h2_,h3_⟩;have n0_ : Aside0 (Kd.R (Kd.int .i64) 3 w27 w.heap.size (fun _ => True) (.slice Ao19 y344.length co19) y344):=⟨h0_⟩;have n1_ : Aside0 (Kd.R (Kd.int .u8) 5 w27 w.heap.size (fun _ => True) v352 y351):=⟨h1_⟩;have n2_ : Aside0 (j15_1 w27 gb342 a0_0 a0_1 a0_2 a0_3 a0_4 a0_5 a0_6 a0_7 A0_8 l0_8 c0_8 A0_9 l0_9 c0_9 a0_10 a0_11):=⟨h2_⟩;have n3_ : Aside0 (Below w.heap.size w w27):=⟨h3_⟩;clear HO346;clear BK342;clear HB;clear h0_ h1_ h2_ h3_;have BK342:=n2_;have HB:=n3_;have hHeld : j15_0 w27 gb342 a0_0 a0_1 a0_2 a0_3 a0_4 a0_5 a0_6 a0_7 A0_8 l0_8 c0_8 A0_9 l0_9 c0_9 a0_10 a0_11:=hS_;refine norm_ (a':=?_) ?_ ?_;rotate_left
 ·simp only [putAll,Act.put,s1_,s2_,s3_];rfl
 refine pU_ 20 (some 65) ?_
 refine pU_ 22 (some 67) ?_
 refine pU_ 23 (some 8) ?_
 refine done_ (done_of HT_.out (by kernel_rfl)) ?_;obtain ⟨hcz28_0,hcz28_1,hcz28_2,hcz28_3,hcz28_4,hcz28_5,hcz28_6,hcz28_7,hcz28_8,hcz28_9,hcz28_10,hcz28_11,hfz28_0,hfz28_1,hfz28_2,hfz28_3,hfz28_4,hfz28_5,hfz28_6,hfz28_7,hfz28_8,hfz28_9,hfz28_10,hfz28_11⟩:=k12f_ BK342
 try go_wp2
 go_loopg [8,71] k (fun kq v8 v71 w' => ∃ (x8_1 : ByteArray) (x71_1 : Int),v8 = .string x8_1 ∧ v71 = .int .i64 x71_1 ∧ Aside0 (impl_Encode.l0 kq x8_1 l0_8 (l0_8.length : Int) x71_1 a0_0 a0_1 a0_2 a0_3 a0_4 a0_5 a0_6 a0_7 l0_8 l0_9 a0_10 a0_11 = some (r1,r2)) ∧ Aside0 (kq ≤ k) ∧ Aside0 (w'.heap[gb342]? = some (.cells #[.int .i64 a0_0,.int .i64 a0_1,.int .i64 a0_2,.int .i64 a0_3,.int .i64 a0_4,.int .i64 a0_5,.int .i64 a0_6,.bool a0_7,(.slice A0_8 l0_8.length c0_8),(.slice A0_9 l0_9.length c0_9),.string a0_10,.bool a0_11] 41 (0,0))) ∧ Aside0 (Below w.heap.size w w'))
 case atStart => exact ⟨(((((strOfNums y351) ++ t347) ++ t354) ++ t355) ++ t349),(0),(by rfl),(by rfl),H',⟨Nat.le_refl _⟩,⟨kq_ BK342⟩,⟨bq_ HB⟩⟩
 case round =>
  clear H'
  (try clear p2);(try clear hcv2);(try clear c7);(try clear hcv27);(try clear hcz28_0);(try clear hcz28_1);(try clear hcz28_10);(try clear hcz28_11);(try clear hcz28_2);(try clear hcz28_3);(try clear hcz28_4);(try clear hcz28_5);(try clear hcz28_6);(try clear hcz28_7);(try clear hcz28_8);(try clear hcz28_9);(try clear hfz28_0);(try clear hfz28_1);(try clear hfz28_10);(try clear hfz28_11);(try clear hfz28_2);(try clear hfz28_3);(try clear hfz28_4);(try clear hfz28_5);(try clear hfz28_6);(try clear hfz28_7);(try clear hfz28_8);(try clear hfz28_9)
  obtain ⟨x8_1,x71_1,rfl,rfl,HA,HK1,BK342,HB⟩:=hrel
  cases gk with
  | zero => exact absurd HA.out (by simp [impl_Encode.l0])
  | succ k1 =>
   have H:=HA.out;clear HA;simp only [impl_Encode.l0] at H
   by_cases c29 : x71_1 < (l0_8.length : Int);rotate_left
   ·rw [if_neg c29] at H;have c29b0:=decide_eq_false c29;clear c29
    (skip)
    have H':=A_ H;clear H;obtain ⟨hcz40_0,hcz40_1,hcz40_2,hcz40_3,hcz40_4,hcz40_5,hcz40_6,hcz40_7,hcz40_8,hcz40_9,hcz40_10,hcz40_11,hfz40_0,hfz40_1,hfz40_2,hfz40_3,hfz40_4,hfz40_5,hfz40_6,hfz40_7,hfz40_8,hfz40_9,hfz40_10,hfz40_11⟩:=k12f_ BK342;go_wp2
    go_loopg [15,92] k1 (fun kq v15 v92 w' => ∃ (x15_2 : List Int) (x92_2 : Int),v92 = .int .i64 x92_2 ∧ Aside0 (impl_Encode.l1 kq x8_1 x15_2 l0_9 (l0_9.length : Int) x92_2 a0_0 a0_1 a0_2 a0_3 a0_4 a0_5 a0_6 a0_7 l0_8 l0_9 a0_10 a0_11 = some (r1,r2)) ∧ Aside0 (kq ≤ k1) ∧ Aside0 (Kd.R (Kd.int .u8) 5 w' w.heap.size (fun _ => True) v15 x15_2) ∧ Aside0 (w'.heap[gb342]? = some (.cells #[.int .i64 a0_0,.int .i64 a0_1,.int .i64 a0_2,.int .i64 a0_3,.int .i64 a0_4,.int .i64 a0_5,.int .i64 a0_6,.bool a0_7,(.slice A0_8 l0_8.length c0_8),(.slice A0_9 l0_9.length c0_9),.string a0_10,.bool a0_11] 41 (0,0))) ∧ Aside0 (Below w.heap.size w w'))
    case atStart => exact ⟨(([] : List Int)),(0),(by rfl),H',⟨Nat.le_refl _⟩,⟨by exact Kd.R_nil _ _ _ _ _⟩,⟨kq_ BK342⟩,⟨bq_ HB⟩⟩
    case round =>
     clear H'
     (try clear c2);(try clear p2);(try clear hcv2);(try clear c3);(try clear p3);(try clear q3);(try clear hx3);(try clear p6);(try clear c7);(try clear c8);(try clear hcv27);(try clear c29);(try clear c29b0);(try clear c30);(try clear c30b0);(try clear c31);(try clear c31b0);(try clear c34);(try clear c34b0);(try clear c34b1);(try clear c34b2);(try clear p35);(try clear q35);(try clear hx35);(try clear c36);(try clear hcz28_0);(try clear hcz28_1);(try clear hcz28_10);(try clear hcz28_11);(try clear hcz28_2);(try clear hcz28_3);(try clear hcz28_4);(try clear hcz28_5);(try clear hcz28_6);(try clear hcz28_7);(try clear hcz28_8);(try clear hcz28_9);(try clear hcz37_0);(try clear hcz37_1);(try clear hcz37_2);(try clear hcz40_0);(try clear hcz40_1);(try clear hcz40_10);(try clear hcz40_11);(try clear hcz40_2);(try clear hcz40_3);(try clear hcz40_4);(try clear hcz40_5);(try clear hcz40_6);(try clear hcz40_7);(try clear hcz40_8);(try clear hcz40_9);(try clear hfz28_0);(try clear hfz28_1);(try clear hfz28_10);(try clear hfz28_11);(try clear hfz28_2);(try clear hfz28_3);(try clear hfz28_4);(try clear hfz28_5);(try clear hfz28_6);(try clear hfz28_7);(try clear hfz28_8);(try clear hfz28_9);(try clear hfz37_0);(try clear hfz37_1);(try clear hfz37_2);(try clear hfz40_0);(try clear hfz40_1);(try clear hfz40_10);(try clear hfz40_11);(try clear hfz40_2);(try clear hfz40_3);(try clear hfz40_4);(try clear hfz40_5);(try clear hfz40_6);(try clear hfz40_7);(try clear hfz40_8);(try clear hfz40_9);(try clear hx356_0);(try clear hx356_1);(try clear hx356_2);(try clear p2);(try clear p356);(try clear q356)
     obtain ⟨x15_2,x92_2,rfl,HA,HK2,HO_15,BK342,HB⟩:=hrel
     cases gk with
     | zero => exact absurd HA.out (by simp [impl_Encode.l1])
     | succ k2 =>
      have H:=HA.out;clear HA;simp only [impl_Encode.l1] at H
      by_cases c41 : x92_2 < (l0_9.length : Int);rotate_left
      ·rw [if_neg c41] at H;have c41b0:=decide_eq_false c41;clear c41;obtain ⟨⟨t366,t367⟩,A46,H⟩:=oB_ H;(try dsimp only at H);obtain ⟨⟨t368,t369⟩,A47,H⟩:=oB_ H;(try dsimp only at H)
       by_cases c48 : x8_1.size + t366.size ≤ 9223372036854775807
       ·rw [if_pos c48] at H;have c48b0:=eq_true c48;have c48b1:=de_ c48
        try have c48b2 : (9223372036854775807 < x8_1.size + t366.size) = False:=eq_false (Nat.not_lt.2 c48)
        by_cases c49 : (x8_1 ++ t366).size + t368.size ≤ 9223372036854775807
        ·rw [if_pos c49] at H;have c49b0:=eq_true c49;have c49b1:=de_ c49
         try have c49b2 : (9223372036854775807 < (x8_1 ++ t366).size + t368.size) = False:=eq_false (Nat.not_lt.2 c49)
         try have c49b3 : (9223372036854775807 < x8_1.size + t366.size + t368.size) = False:=eq_false (by have h_:=c49;simp only [ByteArray.size_append,show ∀ x_ : UInt8,(⟨#[x_]⟩ : ByteArray).size = 1 from fun _ => rfl] at h_;omega)
         simp only [Option.some.injEq,Prod.mk.injEq] at H;obtain ⟨rfl,rfl⟩:=H;have hcv50:=own_string (P:=Try.prog) Try.underlying46 Try.underlying5 Try.underlying9 (Kd.own_of_R HO_15.out)
         go_wp2_with (first|((with_reducible refine gate_callee (f:=80) rfl ?_);refine gL_ (some 105) Try.func80 #[.string (strOfNums x15_2)] ?_;(with_reducible refine (impl_ShortText.calls k2 (strOfNums x15_2) t366 t367 _ A46.out).mono ?_);rintro e w51 ⟨rfl,hb⟩;refine ⟨_,rfl,?_⟩;have n1_:=kB_ BK342 hb;have n2_:=bS_ HB hb;clear HO_15;clear BK342;clear HB;have BK342:=n1_;have HB:=n2_;clear n1_ n2_;(try clear hb);obtain ⟨hcz52_0,hcz52_1,hcz52_2,hcz52_3,hcz52_4,hcz52_5,hcz52_6,hcz52_7,hcz52_8,hcz52_9,hcz52_10,hcz52_11,hfz52_0,hfz52_1,hfz52_2,hfz52_3,hfz52_4,hfz52_5,hfz52_6,hfz52_7,hfz52_8,hfz52_9,hfz52_10,hfz52_11⟩:=k12f_ BK342)|((with_reducible refine gate_callee (f:=80) rfl ?_);refine gL_ (some 111) Try.func80 #[.string a0_10] ?_;(with_reducible refine (impl_ShortText.calls k2 a0_10 t368 t369 _ A47.out).mono ?_);rintro e w53 ⟨rfl,hb⟩;refine ⟨_,rfl,?_⟩;have n2_:=bS_ HB hb;clear BK342;clear HB;have HB:=n2_;clear n2_;(try clear hb)))
         go_ret2;exact ⟨ex_,bq_ HB⟩
        rw [if_neg c49] at H;exact absurd H (by simp)
       rw [if_neg c48] at H;exact absurd H (by simp)
      rw [if_pos c41] at H;have c41b0:=de_ c41;clear c41
      by_cases c42 : 0 ≤ x92_2
      ·rw [if_pos c42] at H;have c42b0:=de_ c42;clear c42
       by_cases c43 : x92_2 < (l0_9.length : Int)
       ·rw [if_pos c43] at H;have c43b0:=de_ c43;clear c43
        by_cases c44 : x15_2.length < 140737488355328
        ·rw [if_pos c44] at H;have LMc44:=A_ c44;clear c44;obtain ⟨y363,hy363⟩ : ∃ y_ : List Int,y_ = (x15_2 ++ [(rd l0_9 x92_2) % 256]):=⟨_,rfl⟩
         replace H : (impl_Encode.l1 k2 x8_1 y363 l0_9 (l0_9.length : Int) (wrap64 (x92_2 + 1)) a0_0 a0_1 a0_2 a0_3 a0_4 a0_5 a0_6 a0_7 l0_8 l0_9 a0_10 a0_11) = some (r1,r2):=by (rw [hy363];with_reducible exact H)
         have Ny363:=A_ hy363;clear hy363;have H':=A_ H;clear H;have p362 : 0 ≤ (x92_2 : Int):=oda_;have q362 : x92_2 < (l0_9.length : Int):=oda_;obtain ⟨ad362,e362,hx362_0⟩:=Kd.at_int HR0_9.out x92_2 p362 q362
         cases e362
         replace hx362_0:=(HB.out.cell (wb_ w _ hx362_0)).trans hx362_0;replace p362:=eq_true p362;replace q362:=eq_true q362
         go_wp2_with (((with_reducible refine gate_builtin (b:=.append) (xs:=#[.tmp 96,.tmp 99]) rfl ?_);at_builtin;refine Kd.R_append (Kd.int .u8) (w0:=w) w.heap.size rfl (.tmp 96) (.tmp 99) 46 5 (.int .u8 0) 1 rfl Try.underlying46 info5 rfl (by decide) (by omega) u15 x15_2 ((rd l0_9 x92_2) % 256) [.int .u8 ((rd l0_9 x92_2) % 256)] (fun _ => True) (fun _ => False) rfl rfl ?aP (fun _ hk => hk.elim) ?aF ?aO ?aB ?aS ?aL ?_;(case aP => exact rfl);(case aB => exact (bq_ HB));(case aF => exact (fun _ _ => trivial));(case aO => exact (rq_ HO_15));(case aS => exact (bz_ (bq_ HB)));(case aL => have:=LMc44.out;omega);intro v364 w45 ho hb hg hat;rw [← Ny363.out] at ho;replace BK342:=kG_ BK342 hg HO_15;replace HB:=A_ hb;have HO365:=A_ ho;clear HO_15;clear ho hb hg hat))
         go_roundg k2
         case measure => have:=HK1.out;have:=HK2.out;omega
         case rel => exact ⟨(y363),(wrap64 (x92_2 + 1)),(by rfl),H',⟨by have:=HK1.out;have:=HK2.out;omega⟩,⟨HO365.out⟩,⟨kq_ BK342⟩,⟨bq_ HB⟩⟩
        rw [if_neg c44] at H;exact absurd H (by simp)
       rw [if_neg c43] at H;exact absurd H (by simp)
      rw [if_neg c42] at H;exact absurd H (by simp)
   rw [if_pos c29] at H;have c29b0:=de_ c29;clear c29
   (skip)
   by_cases c30 : 0 ≤ x71_1
   ·rw [if_pos c30] at H;have c30b0:=de_ c30;clear c30
    by_cases c31 : x71_1 < (l0_8.length : Int)
    ·rw [if_pos c31] at H;have c31b0:=de_ c31;clear c31;obtain ⟨⟨t358,t359⟩,A32,H⟩:=oB_ H;(try dsimp only at H);obtain ⟨⟨t360,t361⟩,A33,H⟩:=oB_ H;(try dsimp only at H)
     by_cases c34 : x8_1.size + t360.size ≤ 9223372036854775807
     ·rw [if_pos c34] at H;have c34b0:=eq_true c34;have c34b1:=de_ c34
      try have c34b2 : (9223372036854775807 < x8_1.size + t360.size) = False:=eq_false (Nat.not_lt.2 c34)
      have H':=A_ H;clear H;have p356 : 0 ≤ (x71_1 : Int):=oda_;have q356 : x71_1 < (l0_8.length : Int):=oda_;obtain ⟨ad356,e356,hx356_0,hx356_1,hx356_2⟩:=at_T69 HR0_8.out x71_1 p356 q356
      cases e356
      replace hx356_0:=(HB.out.cell (wb_ w _ hx356_0)).trans hx356_0;replace hx356_1:=(HB.out.cell (wb_ w _ hx356_1)).trans hx356_1;replace hx356_2:=(HB.out.cell (wb_ w _ hx356_2)).trans hx356_2;replace p356:=eq_true p356;replace q356:=eq_true q356
      go_wp2_with (first|((with_reducible refine gate_dst (N:=10) rfl ?_);refine bE_ 10 #[.int .i64 0,.int .i64 0,.string (⟨#[]⟩ : ByteArray)] 69 ?_;intro gb357 hg w35 hbox hb;have n0_:=kB_ BK342 hb;have n1_:=bS_ HB hb;have n2_:=A_ hbox;have n4_:=gE_ hg HB;have n5_:=nB_ hg BK342;have n6_:=nC_ hg BK342;clear BK342;clear HB;have BK342:=n0_;have HB:=n1_;have BK357:=n2_;have GE357:=n4_;have NB342_357:=n5_;have NB357_342:=n6_;clear n0_ n1_ n2_ n4_ n5_ n6_;clear hb hbox hg;have hnb36:=NB357_342.out;have hnc36:=NB342_357.out;obtain ⟨hcz37_0,hcz37_1,hcz37_2,hfz37_0,hfz37_1,hfz37_2⟩:=k3f_ BK357)|((with_reducible refine gate_callee (f:=79) rfl ?_);refine gL_ (some 77) Try.func79 #[.int .i64 1,.agg #[.int .i64 ((rd_T69 l0_8 x71_1).f0),.int .i64 ((rd_T69 l0_8 x71_1).f1),.string ((rd_T69 l0_8 x71_1).f2)]] ?_;(with_reducible refine (impl_EntryText.calls k1 1 ((rd_T69 l0_8 x71_1).f0) ((rd_T69 l0_8 x71_1).f1) ((rd_T69 l0_8 x71_1).f2) t358 t359 _ A32.out).mono ?_);rintro e w38 ⟨rfl,hb⟩;refine ⟨_,rfl,?_⟩;have n0_:=A_ (kb_ (g:=gb342) (o:=.cells #[.int .i64 a0_0,.int .i64 a0_1,.int .i64 a0_2,.int .i64 a0_3,.int .i64 a0_4,.int .i64 a0_5,.int .i64 a0_6,.bool a0_7,.slice (some ad356) l0_8.length c0_8,.slice A0_9 l0_9.length c0_9,.string a0_10,.bool a0_11] 41 (0,0)) (kz_ BK342) hb);have n2_:=bS_ HB hb;clear BK342;clear BK357;clear HB;have BK342:=n0_;have HB:=n2_;clear n0_ n2_;(try clear hb))|((with_reducible refine gate_callee (f:=80) rfl ?_);refine gL_ (some 82) Try.func80 #[.string t358] ?_;(with_reducible refine (impl_ShortText.calls k1 t358 t360 t361 _ A33.out).mono ?_);rintro e w39 ⟨rfl,hb⟩;refine ⟨_,rfl,?_⟩;have n0_:=kB_ BK342 hb;have n2_:=bS_ HB hb;clear BK342;clear HB;have BK342:=n0_;have HB:=n2_;clear n0_ n2_;(try clear hb)))
      go_roundg k1
      case measure => have:=HK1.out;omega
      case rel => exact ⟨(x8_1 ++ t360),(wrap64 (x71_1 + 1)),(by rfl),(by rfl),H',⟨by have:=HK1.out;omega⟩,⟨kq_ BK342⟩,⟨bq_ HB⟩⟩
     rw [if_neg c34] at H;exact absurd H (by simp)
    rw [if_neg c31] at H;exact absurd H (by simp)
   rw [if_neg c30] at H;exact absurd H (by simp)
end Go.Proofs.Ytbcgnncbiblibaa.PFnMessages
