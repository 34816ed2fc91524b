/- The contracts of the Go functions that this law reaches: what each call returns, by a plain Lean function of its arguments. No conditions but those each contract names. By the kit's print.py, run by this session's wip/gen/pp.py with facts and hand proofs beside it: not to the letter what print.sh prints. -/
import Derived.Test.YtbcgnncbiblibaaPFnExactDecodex0
import Derived.Test.YtbcgnncbiblibaaPFnExactDecodex11
import Derived.Test.YtbcgnncbiblibaaPFnExactDecodex12
namespace Go.Proofs.Ytbcgnncbiblibaa.PFnExactDecode
open Go.RowKit Go.Proofs.YtbcgnncbiblibaaW.PrintWords Go.Proofs.YtbcgnncbiblibaaW.PrintLast Go.Proofs.YtbcgnncbiblibaaW.PrintMore
attribute [local go_sem] max2_int min2_int max_two min_two max_three min_three max_four min_four
set_option linter.unusedVariables false
set_option linter.unusedSimpArgs false
mutual
def impl_Encode.l0 : Nat → ByteArray → List (S69) → Int → Int → Int → Int → Int → Int → Int → Int → Int → Bool → List (S69) → List Int → ByteArray → Bool → Option (ByteArray × Bool)
 | 0,_,_,_,_,_,_,_,_,_,_,_,_,_,_,_,_ => none
 | k + 1,x8,x69,x70,x71,x343000,x343001,x343002,x343003,x343004,x343005,x343006,x343007,x343008,x343009,x343010,x343011 => if x71 < x70 then (if 0 ≤ x71 then (if x71 < (x69.length : Int) then ((impl_EntryText.f k 1 ((rd_T69 x69 x71).f0) ((rd_T69 x69 x71).f1) ((rd_T69 x69 x71).f2)).bind fun bt358 => ((impl_ShortText.f k bt358.1).bind fun bt360 => (if x8.size + bt360.1.size ≤ 9223372036854775807 then (impl_Encode.l0 k (x8 ++ bt360.1) x69 x70 (wrap64 (x71 + 1)) x343000 x343001 x343002 x343003 x343004 x343005 x343006 x343007 x343008 x343009 x343010 x343011) else (none)))) else (none)) else (none)) else (impl_Encode.l1 k x8 ([] : List Int) x343009 (x343009.length : Int) 0 x343000 x343001 x343002 x343003 x343004 x343005 x343006 x343007 x343008 x343009 x343010 x343011)
def impl_Encode.l1 : Nat → ByteArray → List Int → List Int → Int → Int → Int → Int → Int → Int → Int → Int → Int → Bool → List (S69) → List Int → ByteArray → Bool → Option (ByteArray × Bool)
 | 0,_,_,_,_,_,_,_,_,_,_,_,_,_,_,_,_,_ => none
 | k + 1,x8,x15,x90,x91,x92,x343000,x343001,x343002,x343003,x343004,x343005,x343006,x343007,x343008,x343009,x343010,x343011 => if x92 < x91 then (if 0 ≤ x92 then (if x92 < (x90.length : Int) then (if x15.length < 140737488355328 then (impl_Encode.l1 k x8 (x15 ++ [(rd x90 x92) % 256]) x90 x91 (wrap64 (x92 + 1)) x343000 x343001 x343002 x343003 x343004 x343005 x343006 x343007 x343008 x343009 x343010 x343011) else (none)) else (none)) else (none)) else ((impl_ShortText.f k (strOfNums x15)).bind fun bt366 => ((impl_ShortText.f k x343010).bind fun bt368 => (if x8.size + bt366.1.size ≤ 9223372036854775807 then (if (x8 ++ bt366.1).size + bt368.1.size ≤ 9223372036854775807 then (some ((x8 ++ bt366.1) ++ bt368.1,true)) else (none)) else (none))))
end
def impl_Encode.f (k : Nat) (a0_0 : Int) (a0_1 : Int) (a0_2 : Int) (a0_3 : Int) (a0_4 : Int) (a0_5 : Int) (a0_6 : Int) (a0_7 : Bool) (l0_8 : List (S69)) (l0_9 : List Int) (a0_10 : ByteArray) (a0_11 : Bool) : Option (ByteArray × Bool) := (impl_MessageOk.f k a0_0 a0_1 a0_2 a0_3 a0_4 a0_5 a0_6 a0_7 l0_8 l0_9 a0_10 a0_11).bind fun t343 => (if t343 = true then ((impl_vars.f k (([a0_3, a0_4, a0_5, a0_6] : List Int))).bind fun bt347 => ((impl_VarText.f k (l0_8.length : Int)).bind fun bt349 => ((some (([(a0_0) % 256, (a0_1) % 256, (a0_2) % 256] : List Int) : List Int)).bind fun y351 => (if (strOfNums y351).size + bt347.1.size ≤ 9223372036854775807 then ((impl_flag.f a0_7).bind fun t354 => (if ((strOfNums y351) ++ bt347.1).size + t354.size ≤ 9223372036854775807 then ((impl_flag.f a0_11).bind fun t355 => (if (((strOfNums y351) ++ bt347.1) ++ t354).size + t355.size ≤ 9223372036854775807 then (if ((((strOfNums y351) ++ bt347.1) ++ t354) ++ t355).size + bt349.1.size ≤ 9223372036854775807 then (impl_Encode.l0 k (((((strOfNums y351) ++ bt347.1) ++ t354) ++ t355) ++ bt349.1) l0_8 (l0_8.length : Int) 0 a0_0 a0_1 a0_2 a0_3 a0_4 a0_5 a0_6 a0_7 l0_8 l0_9 a0_10 a0_11) else (none)) else (none))) else (none))) else (none))))) else (some ((⟨#[]⟩ : ByteArray), false)))
theorem impl_Encode.mono_l : ∀ k, (∀ y0 y1 y2 y3 y4 y5 y6 y7 y8 y9 y10 y11 y12 y13 y14 y15, LeO (impl_Encode.l0 k y0 y1 y2 y3 y4 y5 y6 y7 y8 y9 y10 y11 y12 y13 y14 y15) (impl_Encode.l0 (k + 1) y0 y1 y2 y3 y4 y5 y6 y7 y8 y9 y10 y11 y12 y13 y14 y15)) ∧ (∀ y0 y1 y2 y3 y4 y5 y6 y7 y8 y9 y10 y11 y12 y13 y14 y15 y16, LeO (impl_Encode.l1 k y0 y1 y2 y3 y4 y5 y6 y7 y8 y9 y10 y11 y12 y13 y14 y15 y16) (impl_Encode.l1 (k + 1) y0 y1 y2 y3 y4 y5 y6 y7 y8 y9 y10 y11 y12 y13 y14 y15 y16))
 | 0 => ⟨fun _ _ _ _ _ _ _ _ _ _ _ _ _ _ _ _ r h => by simp [impl_Encode.l0] at h,fun _ _ _ _ _ _ _ _ _ _ _ _ _ _ _ _ _ r h => by simp [impl_Encode.l1] at h⟩
 | k + 1 => by
  obtain ⟨ih0,ih1⟩:=impl_Encode.mono_l k;refine ⟨?_,?_⟩
  ·intro y0 y1 y2 y3 y4 y5 y6 y7 y8 y9 y10 y11 y12 y13 y14 y15
   unfold impl_Encode.l0
   repeat' first
   | (with_reducible exact ih0 _ _ _ _ _ _ _ _ _ _ _ _ _ _ _ _)
   | (with_reducible exact ih1 _ _ _ _ _ _ _ _ _ _ _ _ _ _ _ _ _)
   | (with_reducible exact impl_EntryText.mono _ _ _ _ _)
   | (with_reducible exact impl_MessageOk.mono _ _ _ _ _ _ _ _ _ _ _ _ _)
   | (with_reducible exact impl_ShortText.mono _ _)
   | (with_reducible exact impl_VarText.mono _ _)
   | (with_reducible exact impl_vars.mono _ _)
   | (with_reducible exact LeO.refl _)
   | (with_reducible exact LeO.none _)
   | (with_reducible refine LeO.ite ?_ ?_)
   | (with_reducible refine LeO.bind ?_ (fun _ => ?_))
  ·intro y0 y1 y2 y3 y4 y5 y6 y7 y8 y9 y10 y11 y12 y13 y14 y15 y16
   unfold impl_Encode.l1
   repeat' first
   | (with_reducible exact ih0 _ _ _ _ _ _ _ _ _ _ _ _ _ _ _ _)
   | (with_reducible exact ih1 _ _ _ _ _ _ _ _ _ _ _ _ _ _ _ _ _)
   | (with_reducible exact impl_EntryText.mono _ _ _ _ _)
   | (with_reducible exact impl_MessageOk.mono _ _ _ _ _ _ _ _ _ _ _ _ _)
   | (with_reducible exact impl_ShortText.mono _ _)
   | (with_reducible exact impl_VarText.mono _ _)
   | (with_reducible exact impl_vars.mono _ _)
   | (with_reducible exact LeO.refl _)
   | (with_reducible exact LeO.none _)
   | (with_reducible refine LeO.ite ?_ ?_)
   | (with_reducible refine LeO.bind ?_ (fun _ => ?_))
theorem impl_Encode.mono : ∀ a0 a1 a2 a3 a4 a5 a6 a7 a8 a9 a10 a11 k, LeO (impl_Encode.f k a0 a1 a2 a3 a4 a5 a6 a7 a8 a9 a10 a11) (impl_Encode.f (k + 1) a0 a1 a2 a3 a4 a5 a6 a7 a8 a9 a10 a11) := by
 intro a0 a1 a2 a3 a4 a5 a6 a7 a8 a9 a10 a11 k;obtain ⟨ih0,ih1⟩:=impl_Encode.mono_l k
 unfold impl_Encode.f
 repeat' first
   | (with_reducible exact ih0 _ _ _ _ _ _ _ _ _ _ _ _ _ _ _ _)
   | (with_reducible exact ih1 _ _ _ _ _ _ _ _ _ _ _ _ _ _ _ _ _)
   | (with_reducible exact impl_EntryText.mono _ _ _ _ _)
   | (with_reducible exact impl_MessageOk.mono _ _ _ _ _ _ _ _ _ _ _ _ _)
   | (with_reducible exact impl_ShortText.mono _ _)
   | (with_reducible exact impl_VarText.mono _ _)
   | (with_reducible exact impl_vars.mono _ _)
   | (with_reducible exact LeO.refl _)
   | (with_reducible exact LeO.none _)
   | (with_reducible refine LeO.ite ?_ ?_)
   | (with_reducible refine LeO.bind ?_ (fun _ => ?_))
def impl_Encode.T5 : Bool × List (List Nat × List Nat) := (true, [([], []), ([0], [0]), ([1], [1]), ([], []), ([3], [3]), ([4], [4]), ([], []), ([6], [6]), ([7], [7]), ([2, 5, 8], [2, 5, 8]), ([9], [9]), ([], []), ([10, 11], [10, 11]), ([], []), ([13], [13]), ([14], [14]), ([12, 15], [12, 15]), ([], []), ([17], [17]), ([18, 15], [18]), ([16, 19], [16, 19]), ([], []), ([20, 21], [20, 21]), ([22, 19, 0, 1, 2, 3, 4, 5, 6, 7, 8, 9, 10, 11, 12, 13, 14, 15, 16, 17, 18, 19, 20, 21, 22], [22])])
def impl_Encode.B5 : List Nat := [0, 1, 3, 0, 8, 24, 0, 64, 192, 511, 1023, 0, 4095, 0, 8192, 24576, 65535, 0, 131072, 450560, 1048575, 0, 4194303, 8388607]
theorem impl_Encode.tab5 : rtab .any (opsOf Try.f28 5) = impl_Encode.T5 := by kernel_rfl
theorem impl_Encode.bits5 : waitsOk impl_Encode.T5.2 impl_Encode.B5 = true := by kernel_rfl
set_option maxHeartbeats 8000000 in
set_option maxRecDepth 100000 in
theorem impl_Encode.calls (k : Nat) (a0_0 : Int) (a0_1 : Int) (a0_2 : Int) (a0_3 : Int) (a0_4 : Int) (a0_5 : Int) (a0_6 : Int) (a0_7 : Bool) (A0_8 : Option Addr) (c0_8 : Nat) (l0_8 : List (S69)) (A0_9 : Option Addr) (c0_9 : Nat) (l0_9 : List Int) (a0_10 : ByteArray) (a0_11 : Bool) (r1 : ByteArray) (r2 : Bool) (w : World) (hr0_8 : Kd.C k69 w A0_8 l0_8.length l0_8) (hc0_8 : l0_8.length ≤ c0_8) (hr0_9 : Kd.C (Kd.int .i64) w A0_9 l0_9.length l0_9) (hc0_9 : l0_9.length ≤ c0_9) (h : impl_Encode.f k a0_0 a0_1 a0_2 a0_3 a0_4 a0_5 a0_6 a0_7 l0_8 l0_9 a0_10 a0_11 = some (r1, r2)) :
  Calls Try.prog 28 #[.agg #[.int .i64 a0_0,.int .i64 a0_1,.int .i64 a0_2,.int .i64 a0_3,.int .i64 a0_4,.int .i64 a0_5,.int .i64 a0_6,.bool a0_7,.slice A0_8 l0_8.length c0_8,.slice A0_9 l0_9.length c0_9,.string a0_10,.bool a0_11]] w fun e w' => e = .returned (.tuple #[.string r1,.bool r2]) ∧ Below w.heap.size w w':=by
 have hu41:=Try.underlying41;have hu69:=Try.underlying69;have HR0_8:=A_ hr0_8;have HC0_8:=A_ hc0_8;clear hr0_8 hc0_8;have HR0_9:=A_ hr0_9;have HC0_9:=A_ hc0_9;clear hr0_9 hc0_9;have HB:=A_ (Below.refl w.heap.size w);unfold impl_Encode.f at h;have H:=h;clear h;replace H:=ob_.mp H;obtain ⟨t343,A20,H⟩:=H;(try dsimp only at H);have A2:=A_ A20;clear A20
 by_cases c3 : t343 = true
 ·subst c3
  rw [if_pos rfl] at H;obtain ⟨y344,hy344⟩ : ∃ y_ : List Int,y_ = (([a0_3,a0_4,a0_5,a0_6] : List Int)):=⟨_,rfl⟩
  replace H : ((impl_vars.f k y344).bind fun bt347 => ((impl_VarText.f k (l0_8.length : Int)).bind fun bt349 => ((some (([(a0_0) % 256,(a0_1) % 256,(a0_2) % 256] : List Int) : List Int)).bind fun y351 => (if (strOfNums y351).size + bt347.1.size ≤ 9223372036854775807 then ((impl_flag.f a0_7).bind fun t354 => (if ((strOfNums y351) ++ bt347.1).size + t354.size ≤ 9223372036854775807 then ((impl_flag.f a0_11).bind fun t355 => (if (((strOfNums y351) ++ bt347.1) ++ t354).size + t355.size ≤ 9223372036854775807 then (if ((((strOfNums y351) ++ bt347.1) ++ t354) ++ t355).size + bt349.1.size ≤ 9223372036854775807 then (impl_Encode.l0 k (((((strOfNums y351) ++ bt347.1) ++ t354) ++ t355) ++ bt349.1) l0_8 (l0_8.length : Int) 0 a0_0 a0_1 a0_2 a0_3 a0_4 a0_5 a0_6 a0_7 l0_8 l0_9 a0_10 a0_11) else (none)) else (none))) else (none))) else (none))))) = some (r1,r2):=by first|(rw [hy344];with_reducible exact H)|(have H2_:=(Option.bind_some _ _).symm.trans H;rw [hy344];with_reducible exact H2_)|(have H2_:=(Option.bind_some _ _).symm.trans H;with_reducible exact H2_)|with_reducible exact H|(rw [hy344];exact H)|exact H
  have Ny344:=A_ hy344;clear hy344;replace H:=ob_.mp H;obtain ⟨⟨t347,t348⟩,A40,H⟩:=H;(try dsimp only at H);have A4:=A_ A40;clear A40;replace H:=ob_.mp H;obtain ⟨⟨t349,t350⟩,A50,H⟩:=H;(try dsimp only at H);have A5:=A_ A50;clear A50;obtain ⟨y351,hy351⟩ : ∃ y_ : List Int,y_ = (([(a0_0) % 256,(a0_1) % 256,(a0_2) % 256] : List Int)):=⟨_,rfl⟩
  replace H : (if (strOfNums y351).size + t347.size ≤ 9223372036854775807 then ((impl_flag.f a0_7).bind fun t354 => (if ((strOfNums y351) ++ t347).size + t354.size ≤ 9223372036854775807 then ((impl_flag.f a0_11).bind fun t355 => (if (((strOfNums y351) ++ t347) ++ t354).size + t355.size ≤ 9223372036854775807 then (if ((((strOfNums y351) ++ t347) ++ t354) ++ t355).size + t349.size ≤ 9223372036854775807 then (impl_Encode.l0 k (((((strOfNums y351) ++ t347) ++ t354) ++ t355) ++ t349) l0_8 (l0_8.length : Int) 0 a0_0 a0_1 a0_2 a0_3 a0_4 a0_5 a0_6 a0_7 l0_8 l0_9 a0_10 a0_11) else (none)) else (none))) else (none))) else (none)) = some (r1,r2):=by first|(rw [hy351];with_reducible exact H)|(have H2_:=(Option.bind_some _ _).symm.trans H;rw [hy351];with_reducible exact H2_)|(have H2_:=(Option.bind_some _ _).symm.trans H;with_reducible exact H2_)|with_reducible exact H|(rw [hy351];exact H)|exact H
  have Ny351:=A_ hy351;clear hy351
  by_cases c6 : (strOfNums y351).size + t347.size ≤ 9223372036854775807
  ·rw [if_pos c6] at H;have c6b0:=eq_true c6;have c6b1 : decide ((strOfNums y351).size + t347.size ≤ 9223372036854775807) = true:=de_ c6
   try have c6b2 : (9223372036854775807 < (strOfNums y351).size + t347.size) = False:=eq_false (Nat.not_lt.2 c6)
   replace H:=ob_.mp H;obtain ⟨t354,A70,H⟩:=H;(try dsimp only at H);have A7:=A_ A70;clear A70
   by_cases c8 : ((strOfNums y351) ++ t347).size + t354.size ≤ 9223372036854775807
   ·rw [if_pos c8] at H;have c8b0:=eq_true c8;have c8b1 : decide (((strOfNums y351) ++ t347).size + t354.size ≤ 9223372036854775807) = true:=de_ c8
    try have c8b2 : (9223372036854775807 < ((strOfNums y351) ++ t347).size + t354.size) = False:=eq_false (Nat.not_lt.2 c8)
    try have c8b3 : (9223372036854775807 < (strOfNums y351).size + t347.size + t354.size) = False:=eq_false (by have h_:=c8;simp only [ByteArray.size_append,show ∀ x_ : UInt8,(⟨#[x_]⟩ : ByteArray).size = 1 from fun _ => rfl] at h_;omega)
    replace H:=ob_.mp H;obtain ⟨t355,A90,H⟩:=H;(try dsimp only at H);have A9:=A_ A90;clear A90
    by_cases c10 : (((strOfNums y351) ++ t347) ++ t354).size + t355.size ≤ 9223372036854775807
    ·rw [if_pos c10] at H;have c10b0:=eq_true c10;have c10b1 : decide ((((strOfNums y351) ++ t347) ++ t354).size + t355.size ≤ 9223372036854775807) = true:=de_ c10
     try have c10b2 : (9223372036854775807 < (((strOfNums y351) ++ t347) ++ t354).size + t355.size) = False:=eq_false (Nat.not_lt.2 c10)
     try have c10b3 : (9223372036854775807 < (strOfNums y351).size + t347.size + t354.size + t355.size) = False:=eq_false (by have h_:=c10;simp only [ByteArray.size_append,show ∀ x_ : UInt8,(⟨#[x_]⟩ : ByteArray).size = 1 from fun _ => rfl] at h_;omega)
     by_cases c11 : ((((strOfNums y351) ++ t347) ++ t354) ++ t355).size + t349.size ≤ 9223372036854775807
     ·rw [if_pos c11] at H;have c11b0:=eq_true c11;have c11b1 : decide (((((strOfNums y351) ++ t347) ++ t354) ++ t355).size + t349.size ≤ 9223372036854775807) = true:=de_ c11
      try have c11b2 : (9223372036854775807 < ((((strOfNums y351) ++ t347) ++ t354) ++ t355).size + t349.size) = False:=eq_false (Nat.not_lt.2 c11)
      try have c11b3 : (9223372036854775807 < (strOfNums y351).size + t347.size + t354.size + t355.size + t349.size) = False:=eq_false (by have h_:=c11;simp only [ByteArray.size_append,show ∀ x_ : UInt8,(⟨#[x_]⟩ : ByteArray).size = 1 from fun _ => rfl] at h_;omega)
      have H':=A_ H;clear H;go_enter Try.func28,Try.ntmps28
      try go_wp2_with (first|((with_reducible refine gate_dst (N:=1) rfl ?_);refine bE_ 1 #[.int .i64 a0_0,.int .i64 a0_1,.int .i64 a0_2,.int .i64 a0_3,.int .i64 a0_4,.int .i64 a0_5,.int .i64 a0_6,.bool a0_7,.slice A0_8 l0_8.length c0_8,.slice A0_9 l0_9.length c0_9,.string a0_10,.bool a0_11] 41 ?_;intro gb342 hg w12 hbox hb;have BK342:=A_ (hbox);have GW342:=gE_ hg HB;have GE342:=gE_ hg HB;replace HB:=bS_ HB hb;clear hb hbox hg;obtain ⟨hcz13_0,hcz13_1,hcz13_2,hcz13_3,hcz13_4,hcz13_5,hcz13_6,hcz13_7,hcz13_8,hcz13_9,hcz13_10,hcz13_11,hfz13_0,hfz13_1,hfz13_2,hfz13_3,hfz13_4,hfz13_5,hfz13_6,hfz13_7,hfz13_8,hfz13_9,hfz13_10,hfz13_11⟩:=k12f_ BK342)|((with_reducible refine gate_callee (f:=75) rfl ?_);refine gL_ (some 23) Try.func75 #[.agg #[.int .i64 a0_0,.int .i64 a0_1,.int .i64 a0_2,.int .i64 a0_3,.int .i64 a0_4,.int .i64 a0_5,.int .i64 a0_6,.bool a0_7,.slice A0_8 l0_8.length c0_8,.slice A0_9 l0_9.length c0_9,.string a0_10,.bool a0_11]] ?_;(with_reducible refine (impl_MessageOk.calls k a0_0 a0_1 a0_2 a0_3 a0_4 a0_5 a0_6 a0_7 _ _ l0_8 _ _ l0_9 a0_10 a0_11 true _ ?side1 ?side2 ?side3 ?side4 A2.out).mono ?_);(case side1 => repeat (first|exact (Kd.C_below HR0_8.out HB.out)|(with_reducible refine Kd.C_alloc ?_ _)|(with_reducible refine Kd.C_drewN ?_ _)|(with_reducible refine Kd.C_drew ?_)));(case side2 => exact HC0_8.out);(case side3 => repeat (first|exact (Kd.C_below HR0_9.out HB.out)|(with_reducible refine Kd.C_alloc ?_ _)|(with_reducible refine Kd.C_drewN ?_ _)|(with_reducible refine Kd.C_drew ?_)));(case side4 => exact HC0_9.out);rintro e w14 ⟨rfl,hb⟩;refine ⟨_,rfl,?_⟩;replace BK342:=kB_ BK342 hb;replace HB:=bS_ HB hb;(try clear hb);obtain ⟨hcz15_0,hcz15_1,hcz15_2,hcz15_3,hcz15_4,hcz15_5,hcz15_6,hcz15_7,hcz15_8,hcz15_9,hcz15_10,hcz15_11,hfz15_0,hfz15_1,hfz15_2,hfz15_3,hfz15_4,hfz15_5,hfz15_6,hfz15_7,hfz15_8,hfz15_9,hfz15_10,hfz15_11⟩:=k12f_ BK342)|((with_reducible refine gate_dst (N:=34) rfl ?_);refine rX_ (d:=(Kd.int .i64)) (e:=3) (xs:=([a0_3,a0_4,a0_5,a0_6] : List Int)) (inner:=[.int .i64 a0_3,.int .i64 a0_4,.int .i64 a0_5,.int .i64 a0_6]) (ok:=fun _ => True) (okp:=fun _ => True) 34 (Reps.one (show Kd.M (Kd.int .i64) _ _ _ a0_3 [.int .i64 a0_3] from rfl) (Reps.one (show Kd.M (Kd.int .i64) _ _ _ a0_4 [.int .i64 a0_4] from rfl) (Reps.one (show Kd.M (Kd.int .i64) _ _ _ a0_5 [.int .i64 a0_5] from rfl) (Reps.one (show Kd.M (Kd.int .i64) _ _ _ a0_6 [.int .i64 a0_6] from rfl) (Reps.none _ _))))) ?_;intro v345 w16 ho17 hb hg_ hnew_;clear hg_ hnew_;(first|rw [← Ny344.out] at ho17|(simp only [Int.reduceToNat] at ho17;rw [← Ny344.out] at ho17));have HO346:=A_ (rw_ ho17 (bz_ (bq_ HB)));replace BK342:=kB_ BK342 hb;replace HB:=bS_ HB hb;clear hb ho17;obtain ⟨Ao18,co18,eo18⟩:=Kd.R_slice HO346.out;subst eo18)|((with_reducible refine gate_callee (f:=76) rfl ?_);refine gL_ (some 35) Try.func76 #[.slice Ao18 y344.length co18] ?_;(with_reducible refine (impl_vars.calls k _ _ y344 t347 t348 _ ?side1 ?side2 A4.out).mono ?_);(case side1 => repeat (first|exact (Kd.R_reads' HO346.out).2.2|(with_reducible refine Kd.C_alloc ?_ _)|(with_reducible refine Kd.C_drewN ?_ _)|(with_reducible refine Kd.C_drew ?_)));(case side2 => exact (Kd.R_reads' HO346.out).2.1);rintro e w19 ⟨rfl,hb⟩;refine ⟨_,rfl,?_⟩;replace HO346:=rB_ HO346 hb;replace BK342:=kB_ BK342 hb;replace HB:=bS_ HB hb;(try clear hb);obtain ⟨hcz20_0,hcz20_1,hcz20_2,hcz20_3,hcz20_4,hcz20_5,hcz20_6,hcz20_7,hcz20_8,hcz20_9,hcz20_10,hcz20_11,hfz20_0,hfz20_1,hfz20_2,hfz20_3,hfz20_4,hfz20_5,hfz20_6,hfz20_7,hfz20_8,hfz20_9,hfz20_10,hfz20_11⟩:=k12f_ BK342)|((with_reducible refine gate_callee (f:=77) rfl ?_);refine gL_ (some 42) Try.func77 #[.int .i64 (l0_8.length : Int)] ?_;(with_reducible refine (impl_VarText.calls k (l0_8.length : Int) t349 t350 _ A5.out).mono ?_);rintro e w21 ⟨rfl,hb⟩;refine ⟨_,rfl,?_⟩;replace HO346:=rB_ HO346 hb;replace BK342:=kB_ BK342 hb;replace HB:=bS_ HB hb;(try clear hb)))
      replace HO346:=A_ (Rd_ HO346.out);replace BK342:=A_ (kd_ BK342.out);replace HB:=A_ (pd_ HB.out);refine start_ (n:=24) (S:=fun w' => w'.cell? ⟨gb342,0,none⟩ = some (.int .i64 a0_0) ∧ w'.cell? ⟨gb342,1,none⟩ = some (.int .i64 a0_1) ∧ w'.cell? ⟨gb342,2,none⟩ = some (.int .i64 a0_2) ∧ w'.cell? ⟨gb342,3,none⟩ = some (.int .i64 a0_3) ∧ w'.cell? ⟨gb342,4,none⟩ = some (.int .i64 a0_4) ∧ w'.cell? ⟨gb342,5,none⟩ = some (.int .i64 a0_5) ∧ w'.cell? ⟨gb342,6,none⟩ = some (.int .i64 a0_6) ∧ w'.cell? ⟨gb342,7,none⟩ = some (.bool a0_7) ∧ w'.cell? ⟨gb342,8,none⟩ = some (.slice A0_8 l0_8.length c0_8) ∧ w'.cell? ⟨gb342,9,none⟩ = some (.slice A0_9 l0_9.length c0_9) ∧ w'.cell? ⟨gb342,10,none⟩ = some (.string a0_10) ∧ w'.cell? ⟨gb342,11,none⟩ = some (.bool a0_11)) (ds:=[]) #[false,false,false,false,false,false,false,false,false,false,false,false,false,false,false,false,false,false,false,false,false,false,false,false] (by kernel_rfl) rfl rfl ⟨kC_ BK342 0,kC_ BK342 1,kC_ BK342 2,kC_ BK342 3,kC_ BK342 4,kC_ BK342 5,kC_ BK342 6,kC_ BK342 7,kC_ BK342 8,kC_ BK342 9,kC_ BK342 10,kC_ BK342 11⟩ (fun hHeld => ?_);refine with_tabW impl_Encode.tab5 impl_Encode.bits5 (fun HT_ HW_ => ?_);generalize w21.drew = w22 at HO346 BK342 HB hHeld ⊢;refine pU_ 0 (some 45) ?_
      refine pU_ 3 (some 48) ?_
      refine pU_ 6 (some 51) ?_
      refine pU_ 11 (some 56) ?_
      refine pU_ 13 (some 58) ?_
      refine pU_ 17 (some 62) ?_
      refine pU_ 21 (some 66) ?_
      refine tK_ 1 (some 46) hHeld ?_
      refine pU_ 2 (some 47) ?_
      refine tK_ 4 (some 49) hHeld ?_
      refine pU_ 5 (some 50) ?_
      refine tK_ 7 (some 52) hHeld ?_
      refine pU_ 8 (some 53) ?_
      refine tK_ 14 (some 59) hHeld ?_
      refine tK_ 18 (some 63) hHeld ?_
      refine join_ (σ:=Value) 3 #[true,true,true,true,true,true,true,true,true,true,true,true,true,true,true,true,true,true,true,true,false,true,false,false] (fun s_ => [(54,s_),(55,.string (strOfNums y351)),(60,.string t354),(64,.string t355),(57,.string ((strOfNums y351) ++ t347)),(61,.string (((strOfNums y351) ++ t347) ++ t354))]) (fun s_ w' => (w'.cell? ⟨gb342,0,none⟩ = some (.int .i64 a0_0) ∧ w'.cell? ⟨gb342,1,none⟩ = some (.int .i64 a0_1) ∧ w'.cell? ⟨gb342,2,none⟩ = some (.int .i64 a0_2) ∧ w'.cell? ⟨gb342,3,none⟩ = some (.int .i64 a0_3) ∧ w'.cell? ⟨gb342,4,none⟩ = some (.int .i64 a0_4) ∧ w'.cell? ⟨gb342,5,none⟩ = some (.int .i64 a0_5) ∧ w'.cell? ⟨gb342,6,none⟩ = some (.int .i64 a0_6) ∧ w'.cell? ⟨gb342,7,none⟩ = some (.bool a0_7) ∧ w'.cell? ⟨gb342,8,none⟩ = some (.slice A0_8 l0_8.length c0_8) ∧ w'.cell? ⟨gb342,9,none⟩ = some (.slice A0_9 l0_9.length c0_9) ∧ w'.cell? ⟨gb342,10,none⟩ = some (.string a0_10) ∧ w'.cell? ⟨gb342,11,none⟩ = some (.bool a0_11)) ∧ (Kd.R (Kd.int .i64) 3 w' w.heap.size (fun _ => True) (.slice Ao18 y344.length co18) y344) ∧ (Kd.R (Kd.int .u8) 5 w' w.heap.size (fun _ => True) s_ y351) ∧ (w'.heap[gb342]? = some (.cells #[.int .i64 a0_0,.int .i64 a0_1,.int .i64 a0_2,.int .i64 a0_3,.int .i64 a0_4,.int .i64 a0_5,.int .i64 a0_6,.bool a0_7,.slice A0_8 l0_8.length c0_8,.slice A0_9 l0_9.length c0_9,.string a0_10,.bool a0_11] 41 (0,0))) ∧ (Below w.heap.size w w')) ?_ ?_;rotate_left
      ·intro hJ9_10_15_19;refine join_ (σ:=Value) 4 #[true,true,true,true,true,true,true,true,true,true,true,true,true,true,true,true,true,true,true,false,false,true,false,false] (fun s_ => [(54,s_),(55,.string (strOfNums y351)),(60,.string t354),(57,.string ((strOfNums y351) ++ t347)),(61,.string (((strOfNums y351) ++ t347) ++ t354))]) (fun s_ w' => (w'.cell? ⟨gb342,0,none⟩ = some (.int .i64 a0_0) ∧ w'.cell? ⟨gb342,1,none⟩ = some (.int .i64 a0_1) ∧ w'.cell? ⟨gb342,2,none⟩ = some (.int .i64 a0_2) ∧ w'.cell? ⟨gb342,3,none⟩ = some (.int .i64 a0_3) ∧ w'.cell? ⟨gb342,4,none⟩ = some (.int .i64 a0_4) ∧ w'.cell? ⟨gb342,5,none⟩ = some (.int .i64 a0_5) ∧ w'.cell? ⟨gb342,6,none⟩ = some (.int .i64 a0_6) ∧ w'.cell? ⟨gb342,7,none⟩ = some (.bool a0_7) ∧ w'.cell? ⟨gb342,8,none⟩ = some (.slice A0_8 l0_8.length c0_8) ∧ w'.cell? ⟨gb342,9,none⟩ = some (.slice A0_9 l0_9.length c0_9) ∧ w'.cell? ⟨gb342,10,none⟩ = some (.string a0_10) ∧ w'.cell? ⟨gb342,11,none⟩ = some (.bool a0_11)) ∧ (Kd.R (Kd.int .i64) 3 w' w.heap.size (fun _ => True) (.slice Ao18 y344.length co18) y344) ∧ (Kd.R (Kd.int .u8) 5 w' w.heap.size (fun _ => True) s_ y351) ∧ (w'.heap[gb342]? = some (.cells #[.int .i64 a0_0,.int .i64 a0_1,.int .i64 a0_2,.int .i64 a0_3,.int .i64 a0_4,.int .i64 a0_5,.int .i64 a0_6,.bool a0_7,.slice A0_8 l0_8.length c0_8,.slice A0_9 l0_9.length c0_9,.string a0_10,.bool a0_11] 41 (0,0))) ∧ (Below w.heap.size w w')) ?_ ?_;rotate_left
       ·intro hJ9_10_15;refine join_ (σ:=Value) 6 #[true,true,true,true,true,true,true,true,true,true,false,true,false,true,true,true,false,true,true,true,false,true,false,false] (fun s_ => [(54,s_),(60,.string t354),(64,.string t355)]) (fun s_ w' => (w'.cell? ⟨gb342,0,none⟩ = some (.int .i64 a0_0) ∧ w'.cell? ⟨gb342,1,none⟩ = some (.int .i64 a0_1) ∧ w'.cell? ⟨gb342,2,none⟩ = some (.int .i64 a0_2) ∧ w'.cell? ⟨gb342,3,none⟩ = some (.int .i64 a0_3) ∧ w'.cell? ⟨gb342,4,none⟩ = some (.int .i64 a0_4) ∧ w'.cell? ⟨gb342,5,none⟩ = some (.int .i64 a0_5) ∧ w'.cell? ⟨gb342,6,none⟩ = some (.int .i64 a0_6) ∧ w'.cell? ⟨gb342,7,none⟩ = some (.bool a0_7) ∧ w'.cell? ⟨gb342,8,none⟩ = some (.slice A0_8 l0_8.length c0_8) ∧ w'.cell? ⟨gb342,9,none⟩ = some (.slice A0_9 l0_9.length c0_9) ∧ w'.cell? ⟨gb342,10,none⟩ = some (.string a0_10) ∧ w'.cell? ⟨gb342,11,none⟩ = some (.bool a0_11)) ∧ (Kd.R (Kd.int .i64) 3 w' w.heap.size (fun _ => True) (.slice Ao18 y344.length co18) y344) ∧ (Kd.R (Kd.int .u8) 5 w' w.heap.size (fun _ => True) s_ y351) ∧ (w'.heap[gb342]? = some (.cells #[.int .i64 a0_0,.int .i64 a0_1,.int .i64 a0_2,.int .i64 a0_3,.int .i64 a0_4,.int .i64 a0_5,.int .i64 a0_6,.bool a0_7,.slice A0_8 l0_8.length c0_8,.slice A0_9 l0_9.length c0_9,.string a0_10,.bool a0_11] 41 (0,0))) ∧ (Below w.heap.size w w')) ?_ ?_;rotate_left
        ·intro hJ9_15_19;refine join_ (σ:=Value) 6 #[true,true,true,true,true,true,true,true,true,true,true,true,true,true,true,false,false,true,true,false,false,true,false,false] (fun s_ => [(54,s_),(55,.string (strOfNums y351)),(57,.string ((strOfNums y351) ++ t347))]) (fun s_ w' => (w'.cell? ⟨gb342,0,none⟩ = some (.int .i64 a0_0) ∧ w'.cell? ⟨gb342,1,none⟩ = some (.int .i64 a0_1) ∧ w'.cell? ⟨gb342,2,none⟩ = some (.int .i64 a0_2) ∧ w'.cell? ⟨gb342,3,none⟩ = some (.int .i64 a0_3) ∧ w'.cell? ⟨gb342,4,none⟩ = some (.int .i64 a0_4) ∧ w'.cell? ⟨gb342,5,none⟩ = some (.int .i64 a0_5) ∧ w'.cell? ⟨gb342,6,none⟩ = some (.int .i64 a0_6) ∧ w'.cell? ⟨gb342,7,none⟩ = some (.bool a0_7) ∧ w'.cell? ⟨gb342,8,none⟩ = some (.slice A0_8 l0_8.length c0_8) ∧ w'.cell? ⟨gb342,9,none⟩ = some (.slice A0_9 l0_9.length c0_9) ∧ w'.cell? ⟨gb342,10,none⟩ = some (.string a0_10) ∧ w'.cell? ⟨gb342,11,none⟩ = some (.bool a0_11)) ∧ (Kd.R (Kd.int .i64) 3 w' w.heap.size (fun _ => True) (.slice Ao18 y344.length co18) y344) ∧ (Kd.R (Kd.int .u8) 5 w' w.heap.size (fun _ => True) s_ y351) ∧ (w'.heap[gb342]? = some (.cells #[.int .i64 a0_0,.int .i64 a0_1,.int .i64 a0_2,.int .i64 a0_3,.int .i64 a0_4,.int .i64 a0_5,.int .i64 a0_6,.bool a0_7,.slice A0_8 l0_8.length c0_8,.slice A0_9 l0_9.length c0_9,.string a0_10,.bool a0_11] 41 (0,0))) ∧ (Below w.heap.size w w')) ?_ ?_;rotate_left
         ·intro hJ9_10;refine join_ (σ:=Value) 7 #[true,true,true,true,true,true,true,true,true,true,false,true,false,true,true,true,false,true,true,false,false,true,false,false] (fun s_ => [(54,s_),(60,.string t354)]) (fun s_ w' => (w'.cell? ⟨gb342,0,none⟩ = some (.int .i64 a0_0) ∧ w'.cell? ⟨gb342,1,none⟩ = some (.int .i64 a0_1) ∧ w'.cell? ⟨gb342,2,none⟩ = some (.int .i64 a0_2) ∧ w'.cell? ⟨gb342,3,none⟩ = some (.int .i64 a0_3) ∧ w'.cell? ⟨gb342,4,none⟩ = some (.int .i64 a0_4) ∧ w'.cell? ⟨gb342,5,none⟩ = some (.int .i64 a0_5) ∧ w'.cell? ⟨gb342,6,none⟩ = some (.int .i64 a0_6) ∧ w'.cell? ⟨gb342,7,none⟩ = some (.bool a0_7) ∧ w'.cell? ⟨gb342,8,none⟩ = some (.slice A0_8 l0_8.length c0_8) ∧ w'.cell? ⟨gb342,9,none⟩ = some (.slice A0_9 l0_9.length c0_9) ∧ w'.cell? ⟨gb342,10,none⟩ = some (.string a0_10) ∧ w'.cell? ⟨gb342,11,none⟩ = some (.bool a0_11)) ∧ (Kd.R (Kd.int .i64) 3 w' w.heap.size (fun _ => True) (.slice Ao18 y344.length co18) y344) ∧ (Kd.R (Kd.int .u8) 5 w' w.heap.size (fun _ => True) s_ y351) ∧ (w'.heap[gb342]? = some (.cells #[.int .i64 a0_0,.int .i64 a0_1,.int .i64 a0_2,.int .i64 a0_3,.int .i64 a0_4,.int .i64 a0_5,.int .i64 a0_6,.bool a0_7,.slice A0_8 l0_8.length c0_8,.slice A0_9 l0_9.length c0_9,.string a0_10,.bool a0_11] 41 (0,0))) ∧ (Below w.heap.size w w')) ?_ ?_;rotate_left
          ·intro hJ9_15;refine join_ (σ:=Unit) 7 #[true,true,true,true,true,true,true,true,true,false,false,true,false,true,true,true,false,true,true,true,false,true,false,false] (fun s_ => [(60,.string t354),(64,.string t355)]) (fun s_ w' => (w'.cell? ⟨gb342,0,none⟩ = some (.int .i64 a0_0) ∧ w'.cell? ⟨gb342,1,none⟩ = some (.int .i64 a0_1) ∧ w'.cell? ⟨gb342,2,none⟩ = some (.int .i64 a0_2) ∧ w'.cell? ⟨gb342,3,none⟩ = some (.int .i64 a0_3) ∧ w'.cell? ⟨gb342,4,none⟩ = some (.int .i64 a0_4) ∧ w'.cell? ⟨gb342,5,none⟩ = some (.int .i64 a0_5) ∧ w'.cell? ⟨gb342,6,none⟩ = some (.int .i64 a0_6) ∧ w'.cell? ⟨gb342,7,none⟩ = some (.bool a0_7) ∧ w'.cell? ⟨gb342,8,none⟩ = some (.slice A0_8 l0_8.length c0_8) ∧ w'.cell? ⟨gb342,9,none⟩ = some (.slice A0_9 l0_9.length c0_9) ∧ w'.cell? ⟨gb342,10,none⟩ = some (.string a0_10) ∧ w'.cell? ⟨gb342,11,none⟩ = some (.bool a0_11)) ∧ (Kd.R (Kd.int .i64) 3 w' w.heap.size (fun _ => True) (.slice Ao18 y344.length co18) y344) ∧ (w'.heap[gb342]? = some (.cells #[.int .i64 a0_0,.int .i64 a0_1,.int .i64 a0_2,.int .i64 a0_3,.int .i64 a0_4,.int .i64 a0_5,.int .i64 a0_6,.bool a0_7,.slice A0_8 l0_8.length c0_8,.slice A0_9 l0_9.length c0_9,.string a0_10,.bool a0_11] 41 (0,0))) ∧ (Below w.heap.size w w')) ?_ ?_;rotate_left
           ·intro hJ15_19;refine join_ (σ:=Value) 8 #[true,true,true,true,true,true,true,true,true,true,false,true,false,true,true,false,false,true,true,false,false,true,false,false] (fun s_ => [(54,s_)]) (fun s_ w' => (w'.cell? ⟨gb342,0,none⟩ = some (.int .i64 a0_0) ∧ w'.cell? ⟨gb342,1,none⟩ = some (.int .i64 a0_1) ∧ w'.cell? ⟨gb342,2,none⟩ = some (.int .i64 a0_2) ∧ w'.cell? ⟨gb342,3,none⟩ = some (.int .i64 a0_3) ∧ w'.cell? ⟨gb342,4,none⟩ = some (.int .i64 a0_4) ∧ w'.cell? ⟨gb342,5,none⟩ = some (.int .i64 a0_5) ∧ w'.cell? ⟨gb342,6,none⟩ = some (.int .i64 a0_6) ∧ w'.cell? ⟨gb342,7,none⟩ = some (.bool a0_7) ∧ w'.cell? ⟨gb342,8,none⟩ = some (.slice A0_8 l0_8.length c0_8) ∧ w'.cell? ⟨gb342,9,none⟩ = some (.slice A0_9 l0_9.length c0_9) ∧ w'.cell? ⟨gb342,10,none⟩ = some (.string a0_10) ∧ w'.cell? ⟨gb342,11,none⟩ = some (.bool a0_11)) ∧ (Kd.R (Kd.int .i64) 3 w' w.heap.size (fun _ => True) (.slice Ao18 y344.length co18) y344) ∧ (Kd.R (Kd.int .u8) 5 w' w.heap.size (fun _ => True) s_ y351) ∧ (w'.heap[gb342]? = some (.cells #[.int .i64 a0_0,.int .i64 a0_1,.int .i64 a0_2,.int .i64 a0_3,.int .i64 a0_4,.int .i64 a0_5,.int .i64 a0_6,.bool a0_7,.slice A0_8 l0_8.length c0_8,.slice A0_9 l0_9.length c0_9,.string a0_10,.bool a0_11] 41 (0,0))) ∧ (Below w.heap.size w w')) ?_ ?_;rotate_left
            ·intro hJ9;refine join_ (σ:=Unit) 8 #[true,true,true,true,true,true,true,true,true,false,false,true,false,true,true,true,false,true,true,false,false,true,false,false] (fun s_ => [(60,.string t354)]) (fun s_ w' => (w'.cell? ⟨gb342,0,none⟩ = some (.int .i64 a0_0) ∧ w'.cell? ⟨gb342,1,none⟩ = some (.int .i64 a0_1) ∧ w'.cell? ⟨gb342,2,none⟩ = some (.int .i64 a0_2) ∧ w'.cell? ⟨gb342,3,none⟩ = some (.int .i64 a0_3) ∧ w'.cell? ⟨gb342,4,none⟩ = some (.int .i64 a0_4) ∧ w'.cell? ⟨gb342,5,none⟩ = some (.int .i64 a0_5) ∧ w'.cell? ⟨gb342,6,none⟩ = some (.int .i64 a0_6) ∧ w'.cell? ⟨gb342,7,none⟩ = some (.bool a0_7) ∧ w'.cell? ⟨gb342,8,none⟩ = some (.slice A0_8 l0_8.length c0_8) ∧ w'.cell? ⟨gb342,9,none⟩ = some (.slice A0_9 l0_9.length c0_9) ∧ w'.cell? ⟨gb342,10,none⟩ = some (.string a0_10) ∧ w'.cell? ⟨gb342,11,none⟩ = some (.bool a0_11)) ∧ (Kd.R (Kd.int .i64) 3 w' w.heap.size (fun _ => True) (.slice Ao18 y344.length co18) y344) ∧ (w'.heap[gb342]? = some (.cells #[.int .i64 a0_0,.int .i64 a0_1,.int .i64 a0_2,.int .i64 a0_3,.int .i64 a0_4,.int .i64 a0_5,.int .i64 a0_6,.bool a0_7,.slice A0_8 l0_8.length c0_8,.slice A0_9 l0_9.length c0_9,.string a0_10,.bool a0_11] 41 (0,0))) ∧ (Below w.heap.size w w')) ?_ ?_;rotate_left
             ·intro hJ15;refine two_ (i:=9) (j:=15) (Ni:=some 54) (Nj:=some 60) #[true,true,true,true,true,true,true,true,true,true,false,true,false,true,true,false,false,true,true,false,false,true,false,false] #[true,true,true,true,true,true,true,true,true,false,false,true,false,true,true,true,false,true,true,false,false,true,false,false] rfl rfl rfl rfl (two_of HT_.out (by kernel_rfl)) (by decide) (by decide) (fun K hK => ?_) (fun K hK => ?_)
              ·skip
               refine Kd.R_lit_step (Kd.int .u8) _ 5 ?hg (N:=54) ?hd (xs:=([(a0_0) % 256,(a0_1) % 256,(a0_2) % 256] : List Int)) (inner:=[.int .u8 ((a0_0) % 256),.int .u8 ((a0_1) % 256),.int .u8 ((a0_2) % 256)]) (ok:=fun _ => True) (okp:=fun _ => True) ?hr ?hp (fun _ hk => hk) trivial (Below.refl _ _) (Nat.le_refl _) (by simp) ?_;(case hd => rfl);(case hg => rfl);(case hr => exact gx_);(case hp => exact (Reps.one (show Kd.M (Kd.int .u8) _ _ _ ((a0_0) % 256) [.int .u8 ((a0_0) % 256)] from rfl) (Reps.one (show Kd.M (Kd.int .u8) _ _ _ ((a0_1) % 256) [.int .u8 ((a0_1) % 256)] from rfl) (Reps.one (show Kd.M (Kd.int .u8) _ _ _ ((a0_2) % 256) [.int .u8 ((a0_2) % 256)] from rfl) (Reps.none _ _)))));intro v352 w23 ho24 hb hg_ hnew_;clear hg_ hnew_
               (first|rw [← Ny351.out] at ho24|(simp only [Int.reduceToNat] at ho24;rw [← Ny351.out] at ho24))
               replace HO346:=rB_ HO346 hb;have HO353:=A_ (rw_ ho24 (bz_ (bq_ HB)));replace BK342:=kB_ BK342 hb;replace HB:=bS_ HB hb;clear hb ho24;refine hK.out _ _ ⟨kC_ BK342 0,kC_ BK342 1,kC_ BK342 2,kC_ BK342 3,kC_ BK342 4,kC_ BK342 5,kC_ BK342 6,kC_ BK342 7,kC_ BK342 8,kC_ BK342 9,kC_ BK342 10,kC_ BK342 11⟩ (fun hHeld => ?_);clear hK K;refine nX_ (some 54) ?_
               exact norm_ (by first|(simp only [putAll,Act.put,s1_,s2_,s3_];done)|(simp only [putAll,Act.put,s1_,s2_,s3_];rfl)) (hJ9 (v352) _ ⟨hHeld,(rq_ HO346),(rq_ HO353),(kq_ BK342),(bq_ HB)⟩)
              ·skip
               refine gs_ Try.func78 #[.bool a0_7] ?_;with_reducible refine (impl_flag.calls a0_7 t354 _ A7.out).mono ?_;rintro e w' ⟨rfl,⟨nd,rfl⟩⟩;refine ⟨_,rfl,?_⟩;have BK342d_:=A_ (kn_ BK342.out nd);have HBd_:=A_ (pn_ HB.out nd);refine hK.out _ _ ⟨kC_ BK342d_ 0,kC_ BK342d_ 1,kC_ BK342d_ 2,kC_ BK342d_ 3,kC_ BK342d_ 4,kC_ BK342d_ 5,kC_ BK342d_ 6,kC_ BK342d_ 7,kC_ BK342d_ 8,kC_ BK342d_ 9,kC_ BK342d_ 10,kC_ BK342d_ 11⟩ (fun hHeld => ?_);clear hK K;refine nX_ (some 60) ?_
               exact norm_ (by first|(simp only [putAll,Act.put,s1_,s2_,s3_];done)|(simp only [putAll,Act.put,s1_,s2_,s3_];rfl)) (hJ15 () _ ⟨hHeld,(rq_ HO346),(kq_ BK342),(bq_ HB)⟩)
             ·skip
              rintro _ w23 ⟨hS_,h0_,h1_,h2_⟩;have n0_ : Aside0 (Kd.R (Kd.int .i64) 3 w23 w.heap.size (fun _ => True) (.slice Ao18 y344.length co18) y344):=⟨h0_⟩;have n1_ : Aside0 (w23.heap[gb342]? = some (.cells #[.int .i64 a0_0,.int .i64 a0_1,.int .i64 a0_2,.int .i64 a0_3,.int .i64 a0_4,.int .i64 a0_5,.int .i64 a0_6,.bool a0_7,.slice A0_8 l0_8.length c0_8,.slice A0_9 l0_9.length c0_9,.string a0_10,.bool a0_11] 41 (0,0))):=⟨h1_⟩;have n2_ : Aside0 (Below w.heap.size w w23):=⟨h2_⟩;clear HO346;clear BK342;clear HB;clear h0_ h1_ h2_;have HO346:=n0_;have BK342:=n1_;have HB:=n2_;clear n0_ n1_ n2_;have hHeld : w23.cell? ⟨gb342,0,none⟩ = some (.int .i64 a0_0) ∧ w23.cell? ⟨gb342,1,none⟩ = some (.int .i64 a0_1) ∧ w23.cell? ⟨gb342,2,none⟩ = some (.int .i64 a0_2) ∧ w23.cell? ⟨gb342,3,none⟩ = some (.int .i64 a0_3) ∧ w23.cell? ⟨gb342,4,none⟩ = some (.int .i64 a0_4) ∧ w23.cell? ⟨gb342,5,none⟩ = some (.int .i64 a0_5) ∧ w23.cell? ⟨gb342,6,none⟩ = some (.int .i64 a0_6) ∧ w23.cell? ⟨gb342,7,none⟩ = some (.bool a0_7) ∧ w23.cell? ⟨gb342,8,none⟩ = some (.slice A0_8 l0_8.length c0_8) ∧ w23.cell? ⟨gb342,9,none⟩ = some (.slice A0_9 l0_9.length c0_9) ∧ w23.cell? ⟨gb342,10,none⟩ = some (.string a0_10) ∧ w23.cell? ⟨gb342,11,none⟩ = some (.bool a0_11):=hS_;refine norm_ (a':=?_) ?_ ?_;rotate_left
              ·simp only [putAll,Act.put,s1_,s2_,s3_];rfl
              refine two_ (i:=9) (j:=19) (Ni:=some 54) (Nj:=some 64) #[true,true,true,true,true,true,true,true,true,true,false,true,false,true,true,true,false,true,true,false,false,true,false,false] #[true,true,true,true,true,true,true,true,true,false,false,true,false,true,true,true,false,true,true,true,false,true,false,false] rfl rfl rfl rfl (two_of HT_.out (by kernel_rfl)) (by decide) (by decide) (fun K hK => ?_) (fun K hK => ?_)
              ·skip
               refine Kd.R_lit_step (Kd.int .u8) _ 5 ?hg (N:=54) ?hd (xs:=([(a0_0) % 256,(a0_1) % 256,(a0_2) % 256] : List Int)) (inner:=[.int .u8 ((a0_0) % 256),.int .u8 ((a0_1) % 256),.int .u8 ((a0_2) % 256)]) (ok:=fun _ => True) (okp:=fun _ => True) ?hr ?hp (fun _ hk => hk) trivial (Below.refl _ _) (Nat.le_refl _) (by simp) ?_;(case hd => rfl);(case hg => rfl);(case hr => exact gx_);(case hp => exact (Reps.one (show Kd.M (Kd.int .u8) _ _ _ ((a0_0) % 256) [.int .u8 ((a0_0) % 256)] from rfl) (Reps.one (show Kd.M (Kd.int .u8) _ _ _ ((a0_1) % 256) [.int .u8 ((a0_1) % 256)] from rfl) (Reps.one (show Kd.M (Kd.int .u8) _ _ _ ((a0_2) % 256) [.int .u8 ((a0_2) % 256)] from rfl) (Reps.none _ _)))));intro v352 w24 ho25 hb hg_ hnew_;clear hg_ hnew_
               (first|rw [← Ny351.out] at ho25|(simp only [Int.reduceToNat] at ho25;rw [← Ny351.out] at ho25))
               replace HO346:=rB_ HO346 hb;have HO353:=A_ (rw_ ho25 (bz_ (bq_ HB)));replace BK342:=kB_ BK342 hb;replace HB:=bS_ HB hb;clear hb ho25;refine hK.out _ _ ⟨kC_ BK342 0,kC_ BK342 1,kC_ BK342 2,kC_ BK342 3,kC_ BK342 4,kC_ BK342 5,kC_ BK342 6,kC_ BK342 7,kC_ BK342 8,kC_ BK342 9,kC_ BK342 10,kC_ BK342 11⟩ (fun hHeld => ?_);clear hK K;refine nX_ (some 54) ?_
               exact norm_ (by first|(simp only [putAll,Act.put,s1_,s2_,s3_];done)|(simp only [putAll,Act.put,s1_,s2_,s3_];rfl)) (hJ9_15 (v352) _ ⟨hHeld,(rq_ HO346),(rq_ HO353),(kq_ BK342),(bq_ HB)⟩)
              ·skip
               refine gs_ Try.func78 #[.bool a0_11] ?_;with_reducible refine (impl_flag.calls a0_11 t355 _ A9.out).mono ?_;rintro e w' ⟨rfl,⟨nd,rfl⟩⟩;refine ⟨_,rfl,?_⟩;have BK342d_:=A_ (kn_ BK342.out nd);have HBd_:=A_ (pn_ HB.out nd);refine hK.out _ _ ⟨kC_ BK342d_ 0,kC_ BK342d_ 1,kC_ BK342d_ 2,kC_ BK342d_ 3,kC_ BK342d_ 4,kC_ BK342d_ 5,kC_ BK342d_ 6,kC_ BK342d_ 7,kC_ BK342d_ 8,kC_ BK342d_ 9,kC_ BK342d_ 10,kC_ BK342d_ 11⟩ (fun hHeld => ?_);clear hK K;refine nX_ (some 64) ?_
               exact norm_ (by first|(simp only [putAll,Act.put,s1_,s2_,s3_];done)|(simp only [putAll,Act.put,s1_,s2_,s3_];rfl)) (hJ15_19 () _ ⟨hHeld,(rq_ HO346),(kq_ BK342),(bq_ HB)⟩)
            ·skip
             rintro v352 w25 ⟨hS_,h0_,h1_,h2_,h3_⟩;have n0_ : Aside0 (Kd.R (Kd.int .i64) 3 w25 w.heap.size (fun _ => True) (.slice Ao18 y344.length co18) y344):=⟨h0_⟩;have n1_ : Aside0 (Kd.R (Kd.int .u8) 5 w25 w.heap.size (fun _ => True) v352 y351):=⟨h1_⟩;have n2_ : Aside0 (w25.heap[gb342]? = some (.cells #[.int .i64 a0_0,.int .i64 a0_1,.int .i64 a0_2,.int .i64 a0_3,.int .i64 a0_4,.int .i64 a0_5,.int .i64 a0_6,.bool a0_7,.slice A0_8 l0_8.length c0_8,.slice A0_9 l0_9.length c0_9,.string a0_10,.bool a0_11] 41 (0,0))):=⟨h2_⟩;have n3_ : Aside0 (Below w.heap.size w w25):=⟨h3_⟩;clear HO346;clear BK342;clear HB;clear h0_ h1_ h2_ h3_;have HO346:=n0_;have HO353:=n1_;have BK342:=n2_;have HB:=n3_;clear n0_ n1_ n2_ n3_;have hHeld : w25.cell? ⟨gb342,0,none⟩ = some (.int .i64 a0_0) ∧ w25.cell? ⟨gb342,1,none⟩ = some (.int .i64 a0_1) ∧ w25.cell? ⟨gb342,2,none⟩ = some (.int .i64 a0_2) ∧ w25.cell? ⟨gb342,3,none⟩ = some (.int .i64 a0_3) ∧ w25.cell? ⟨gb342,4,none⟩ = some (.int .i64 a0_4) ∧ w25.cell? ⟨gb342,5,none⟩ = some (.int .i64 a0_5) ∧ w25.cell? ⟨gb342,6,none⟩ = some (.int .i64 a0_6) ∧ w25.cell? ⟨gb342,7,none⟩ = some (.bool a0_7) ∧ w25.cell? ⟨gb342,8,none⟩ = some (.slice A0_8 l0_8.length c0_8) ∧ w25.cell? ⟨gb342,9,none⟩ = some (.slice A0_9 l0_9.length c0_9) ∧ w25.cell? ⟨gb342,10,none⟩ = some (.string a0_10) ∧ w25.cell? ⟨gb342,11,none⟩ = some (.bool a0_11):=hS_;refine norm_ (a':=?_) ?_ ?_;rotate_left
             ·simp only [putAll,Act.put,s1_,s2_,s3_];rfl
             refine two_ (i:=10) (j:=15) (Ni:=some 55) (Nj:=some 60) #[true,true,true,true,true,true,true,true,true,true,true,true,false,true,true,false,false,true,true,false,false,true,false,false] #[true,true,true,true,true,true,true,true,true,true,false,true,false,true,true,true,false,true,true,false,false,true,false,false] rfl rfl rfl rfl (two_of HT_.out (by kernel_rfl)) (by decide) (by decide) (fun K hK => ?_) (fun K hK => ?_)
             ·skip
              have hcv26:=own_string (P:=Try.prog) Try.underlying46 Try.underlying5 Try.underlying9 (Kd.own_of_R HO353.out);refine value_ (w1:=?_) (v:=?_) (by rfl) rfl ?_ ?_;rotate_left 2
              ·go_simp
               constructor
               ·rfl
               ·rfl
              clear hcv26;refine hK.out _ _ ⟨kC_ BK342 0,kC_ BK342 1,kC_ BK342 2,kC_ BK342 3,kC_ BK342 4,kC_ BK342 5,kC_ BK342 6,kC_ BK342 7,kC_ BK342 8,kC_ BK342 9,kC_ BK342 10,kC_ BK342 11⟩ (fun hHeld => ?_);clear hK K;refine nX_ (some 55) ?_
              refine pU_ 12 (some 57) ?_
              exact norm_ (by first|(simp only [putAll,Act.put,s1_,s2_,s3_];done)|(simp only [putAll,Act.put,s1_,s2_,s3_];rfl)) (hJ9_10 (v352) _ ⟨hHeld,(rq_ HO346),(rq_ HO353),(kq_ BK342),(bq_ HB)⟩)
             ·skip
              refine gs_ Try.func78 #[.bool a0_7] ?_;with_reducible refine (impl_flag.calls a0_7 t354 _ A7.out).mono ?_;rintro e w' ⟨rfl,⟨nd,rfl⟩⟩;refine ⟨_,rfl,?_⟩;have BK342d_:=A_ (kn_ BK342.out nd);have HBd_:=A_ (pn_ HB.out nd);refine hK.out _ _ ⟨kC_ BK342d_ 0,kC_ BK342d_ 1,kC_ BK342d_ 2,kC_ BK342d_ 3,kC_ BK342d_ 4,kC_ BK342d_ 5,kC_ BK342d_ 6,kC_ BK342d_ 7,kC_ BK342d_ 8,kC_ BK342d_ 9,kC_ BK342d_ 10,kC_ BK342d_ 11⟩ (fun hHeld => ?_);clear hK K;refine nX_ (some 60) ?_
              exact norm_ (by first|(simp only [putAll,Act.put,s1_,s2_,s3_];done)|(simp only [putAll,Act.put,s1_,s2_,s3_];rfl)) (hJ9_15 (v352) _ ⟨hHeld,(rq_ HO346),(rq_ HO353),(kq_ BK342),(bq_ HB)⟩)
           ·skip
            rintro _ w23 ⟨hS_,h0_,h1_,h2_⟩;have n0_ : Aside0 (Kd.R (Kd.int .i64) 3 w23 w.heap.size (fun _ => True) (.slice Ao18 y344.length co18) y344):=⟨h0_⟩;have n1_ : Aside0 (w23.heap[gb342]? = some (.cells #[.int .i64 a0_0,.int .i64 a0_1,.int .i64 a0_2,.int .i64 a0_3,.int .i64 a0_4,.int .i64 a0_5,.int .i64 a0_6,.bool a0_7,.slice A0_8 l0_8.length c0_8,.slice A0_9 l0_9.length c0_9,.string a0_10,.bool a0_11] 41 (0,0))):=⟨h1_⟩;have n2_ : Aside0 (Below w.heap.size w w23):=⟨h2_⟩;clear HO346;clear BK342;clear HB;clear h0_ h1_ h2_;have HO346:=n0_;have BK342:=n1_;have HB:=n2_;clear n0_ n1_ n2_;have hHeld : w23.cell? ⟨gb342,0,none⟩ = some (.int .i64 a0_0) ∧ w23.cell? ⟨gb342,1,none⟩ = some (.int .i64 a0_1) ∧ w23.cell? ⟨gb342,2,none⟩ = some (.int .i64 a0_2) ∧ w23.cell? ⟨gb342,3,none⟩ = some (.int .i64 a0_3) ∧ w23.cell? ⟨gb342,4,none⟩ = some (.int .i64 a0_4) ∧ w23.cell? ⟨gb342,5,none⟩ = some (.int .i64 a0_5) ∧ w23.cell? ⟨gb342,6,none⟩ = some (.int .i64 a0_6) ∧ w23.cell? ⟨gb342,7,none⟩ = some (.bool a0_7) ∧ w23.cell? ⟨gb342,8,none⟩ = some (.slice A0_8 l0_8.length c0_8) ∧ w23.cell? ⟨gb342,9,none⟩ = some (.slice A0_9 l0_9.length c0_9) ∧ w23.cell? ⟨gb342,10,none⟩ = some (.string a0_10) ∧ w23.cell? ⟨gb342,11,none⟩ = some (.bool a0_11):=hS_;refine norm_ (a':=?_) ?_ ?_;rotate_left
            ·simp only [putAll,Act.put,s1_,s2_,s3_];rfl
            refine oN_ 9 (some 54) (fun K hK => ?_);refine Kd.R_lit_step (Kd.int .u8) _ 5 ?hg (N:=54) ?hd (xs:=([(a0_0) % 256,(a0_1) % 256,(a0_2) % 256] : List Int)) (inner:=[.int .u8 ((a0_0) % 256),.int .u8 ((a0_1) % 256),.int .u8 ((a0_2) % 256)]) (ok:=fun _ => True) (okp:=fun _ => True) ?hr ?hp (fun _ hk => hk) trivial (Below.refl _ _) (Nat.le_refl _) (by simp) ?_;(case hd => rfl);(case hg => rfl);(case hr => exact gx_);(case hp => exact (Reps.one (show Kd.M (Kd.int .u8) _ _ _ ((a0_0) % 256) [.int .u8 ((a0_0) % 256)] from rfl) (Reps.one (show Kd.M (Kd.int .u8) _ _ _ ((a0_1) % 256) [.int .u8 ((a0_1) % 256)] from rfl) (Reps.one (show Kd.M (Kd.int .u8) _ _ _ ((a0_2) % 256) [.int .u8 ((a0_2) % 256)] from rfl) (Reps.none _ _)))));intro v352 w24 ho25 hb hg_ hnew_;clear hg_ hnew_
            (first|rw [← Ny351.out] at ho25|(simp only [Int.reduceToNat] at ho25;rw [← Ny351.out] at ho25))
            replace HO346:=rB_ HO346 hb;have HO353:=A_ (rw_ ho25 (bz_ (bq_ HB)));replace BK342:=kB_ BK342 hb;replace HB:=bS_ HB hb;clear hb ho25;refine hK.out _ _ ⟨kC_ BK342 0,kC_ BK342 1,kC_ BK342 2,kC_ BK342 3,kC_ BK342 4,kC_ BK342 5,kC_ BK342 6,kC_ BK342 7,kC_ BK342 8,kC_ BK342 9,kC_ BK342 10,kC_ BK342 11⟩ (fun hHeld => ?_);clear hK K;refine nX_ (some 54) ?_
            exact norm_ (by first|(simp only [putAll,Act.put,s1_,s2_,s3_];done)|(simp only [putAll,Act.put,s1_,s2_,s3_];rfl)) (hJ9_15_19 (v352) _ ⟨hHeld,(rq_ HO346),(rq_ HO353),(kq_ BK342),(bq_ HB)⟩)
          ·skip
           rintro v352 w25 ⟨hS_,h0_,h1_,h2_,h3_⟩;have n0_ : Aside0 (Kd.R (Kd.int .i64) 3 w25 w.heap.size (fun _ => True) (.slice Ao18 y344.length co18) y344):=⟨h0_⟩;have n1_ : Aside0 (Kd.R (Kd.int .u8) 5 w25 w.heap.size (fun _ => True) v352 y351):=⟨h1_⟩;have n2_ : Aside0 (w25.heap[gb342]? = some (.cells #[.int .i64 a0_0,.int .i64 a0_1,.int .i64 a0_2,.int .i64 a0_3,.int .i64 a0_4,.int .i64 a0_5,.int .i64 a0_6,.bool a0_7,.slice A0_8 l0_8.length c0_8,.slice A0_9 l0_9.length c0_9,.string a0_10,.bool a0_11] 41 (0,0))):=⟨h2_⟩;have n3_ : Aside0 (Below w.heap.size w w25):=⟨h3_⟩;clear HO346;clear BK342;clear HB;clear h0_ h1_ h2_ h3_;have HO346:=n0_;have HO353:=n1_;have BK342:=n2_;have HB:=n3_;clear n0_ n1_ n2_ n3_;have hHeld : w25.cell? ⟨gb342,0,none⟩ = some (.int .i64 a0_0) ∧ w25.cell? ⟨gb342,1,none⟩ = some (.int .i64 a0_1) ∧ w25.cell? ⟨gb342,2,none⟩ = some (.int .i64 a0_2) ∧ w25.cell? ⟨gb342,3,none⟩ = some (.int .i64 a0_3) ∧ w25.cell? ⟨gb342,4,none⟩ = some (.int .i64 a0_4) ∧ w25.cell? ⟨gb342,5,none⟩ = some (.int .i64 a0_5) ∧ w25.cell? ⟨gb342,6,none⟩ = some (.int .i64 a0_6) ∧ w25.cell? ⟨gb342,7,none⟩ = some (.bool a0_7) ∧ w25.cell? ⟨gb342,8,none⟩ = some (.slice A0_8 l0_8.length c0_8) ∧ w25.cell? ⟨gb342,9,none⟩ = some (.slice A0_9 l0_9.length c0_9) ∧ w25.cell? ⟨gb342,10,none⟩ = some (.string a0_10) ∧ w25.cell? ⟨gb342,11,none⟩ = some (.bool a0_11):=hS_;refine norm_ (a':=?_) ?_ ?_;rotate_left
           ·simp only [putAll,Act.put,s1_,s2_,s3_];rfl
           refine two_ (i:=10) (j:=19) (Ni:=some 55) (Nj:=some 64) #[true,true,true,true,true,true,true,true,true,true,true,true,false,true,true,true,false,true,true,false,false,true,false,false] #[true,true,true,true,true,true,true,true,true,true,false,true,false,true,true,true,false,true,true,true,false,true,false,false] rfl rfl rfl rfl (two_of HT_.out (by kernel_rfl)) (by decide) (by decide) (fun K hK => ?_) (fun K hK => ?_)
           ·skip
            have hcv26:=own_string (P:=Try.prog) Try.underlying46 Try.underlying5 Try.underlying9 (Kd.own_of_R HO353.out);refine value_ (w1:=?_) (v:=?_) (by rfl) rfl ?_ ?_;rotate_left 2
            ·go_simp
             constructor
             ·rfl
             ·rfl
            clear hcv26;refine hK.out _ _ ⟨kC_ BK342 0,kC_ BK342 1,kC_ BK342 2,kC_ BK342 3,kC_ BK342 4,kC_ BK342 5,kC_ BK342 6,kC_ BK342 7,kC_ BK342 8,kC_ BK342 9,kC_ BK342 10,kC_ BK342 11⟩ (fun hHeld => ?_);clear hK K;refine nX_ (some 55) ?_
            refine pU_ 12 (some 57) ?_
            refine pU_ 16 (some 61) ?_
            exact norm_ (by first|(simp only [putAll,Act.put,s1_,s2_,s3_];done)|(simp only [putAll,Act.put,s1_,s2_,s3_];rfl)) (hJ9_10_15 (v352) _ ⟨hHeld,(rq_ HO346),(rq_ HO353),(kq_ BK342),(bq_ HB)⟩)
           ·skip
            refine gs_ Try.func78 #[.bool a0_11] ?_;with_reducible refine (impl_flag.calls a0_11 t355 _ A9.out).mono ?_;rintro e w' ⟨rfl,⟨nd,rfl⟩⟩;refine ⟨_,rfl,?_⟩;have BK342d_:=A_ (kn_ BK342.out nd);have HBd_:=A_ (pn_ HB.out nd);refine hK.out _ _ ⟨kC_ BK342d_ 0,kC_ BK342d_ 1,kC_ BK342d_ 2,kC_ BK342d_ 3,kC_ BK342d_ 4,kC_ BK342d_ 5,kC_ BK342d_ 6,kC_ BK342d_ 7,kC_ BK342d_ 8,kC_ BK342d_ 9,kC_ BK342d_ 10,kC_ BK342d_ 11⟩ (fun hHeld => ?_);clear hK K;refine nX_ (some 64) ?_
            exact norm_ (by first|(simp only [putAll,Act.put,s1_,s2_,s3_];done)|(simp only [putAll,Act.put,s1_,s2_,s3_];rfl)) (hJ9_15_19 (v352) _ ⟨hHeld,(rq_ HO346),(rq_ HO353),(kq_ BK342),(bq_ HB)⟩)
         ·skip
          rintro v352 w26 ⟨hS_,h0_,h1_,h2_,h3_⟩;have n0_ : Aside0 (Kd.R (Kd.int .i64) 3 w26 w.heap.size (fun _ => True) (.slice Ao18 y344.length co18) y344):=⟨h0_⟩;have n1_ : Aside0 (Kd.R (Kd.int .u8) 5 w26 w.heap.size (fun _ => True) v352 y351):=⟨h1_⟩;have n2_ : Aside0 (w26.heap[gb342]? = some (.cells #[.int .i64 a0_0,.int .i64 a0_1,.int .i64 a0_2,.int .i64 a0_3,.int .i64 a0_4,.int .i64 a0_5,.int .i64 a0_6,.bool a0_7,.slice A0_8 l0_8.length c0_8,.slice A0_9 l0_9.length c0_9,.string a0_10,.bool a0_11] 41 (0,0))):=⟨h2_⟩;have n3_ : Aside0 (Below w.heap.size w w26):=⟨h3_⟩;clear HO346;clear BK342;clear HB;clear h0_ h1_ h2_ h3_;have HO346:=n0_;have HO353:=n1_;have BK342:=n2_;have HB:=n3_;clear n0_ n1_ n2_ n3_;have hHeld : w26.cell? ⟨gb342,0,none⟩ = some (.int .i64 a0_0) ∧ w26.cell? ⟨gb342,1,none⟩ = some (.int .i64 a0_1) ∧ w26.cell? ⟨gb342,2,none⟩ = some (.int .i64 a0_2) ∧ w26.cell? ⟨gb342,3,none⟩ = some (.int .i64 a0_3) ∧ w26.cell? ⟨gb342,4,none⟩ = some (.int .i64 a0_4) ∧ w26.cell? ⟨gb342,5,none⟩ = some (.int .i64 a0_5) ∧ w26.cell? ⟨gb342,6,none⟩ = some (.int .i64 a0_6) ∧ w26.cell? ⟨gb342,7,none⟩ = some (.bool a0_7) ∧ w26.cell? ⟨gb342,8,none⟩ = some (.slice A0_8 l0_8.length c0_8) ∧ w26.cell? ⟨gb342,9,none⟩ = some (.slice A0_9 l0_9.length c0_9) ∧ w26.cell? ⟨gb342,10,none⟩ = some (.string a0_10) ∧ w26.cell? ⟨gb342,11,none⟩ = some (.bool a0_11):=hS_;refine norm_ (a':=?_) ?_ ?_;rotate_left
          ·simp only [putAll,Act.put,s1_,s2_,s3_];rfl
          refine oN_ 15 (some 60) (fun K hK => ?_);refine gs_ Try.func78 #[.bool a0_7] ?_;with_reducible refine (impl_flag.calls a0_7 t354 _ A7.out).mono ?_;rintro e w' ⟨rfl,⟨nd,rfl⟩⟩;refine ⟨_,rfl,?_⟩;have BK342d_:=A_ (kn_ BK342.out nd);have HBd_:=A_ (pn_ HB.out nd);refine hK.out _ _ ⟨kC_ BK342d_ 0,kC_ BK342d_ 1,kC_ BK342d_ 2,kC_ BK342d_ 3,kC_ BK342d_ 4,kC_ BK342d_ 5,kC_ BK342d_ 6,kC_ BK342d_ 7,kC_ BK342d_ 8,kC_ BK342d_ 9,kC_ BK342d_ 10,kC_ BK342d_ 11⟩ (fun hHeld => ?_);clear hK K;refine nX_ (some 60) ?_
          refine pU_ 16 (some 61) ?_
          exact norm_ (by first|(simp only [putAll,Act.put,s1_,s2_,s3_];done)|(simp only [putAll,Act.put,s1_,s2_,s3_];rfl)) (hJ9_10_15 (v352) _ ⟨hHeld,(rq_ HO346),(rq_ HO353),(kq_ BK342),(bq_ HB)⟩)
        ·skip
         rintro v352 w25 ⟨hS_,h0_,h1_,h2_,h3_⟩;have n0_ : Aside0 (Kd.R (Kd.int .i64) 3 w25 w.heap.size (fun _ => True) (.slice Ao18 y344.length co18) y344):=⟨h0_⟩;have n1_ : Aside0 (Kd.R (Kd.int .u8) 5 w25 w.heap.size (fun _ => True) v352 y351):=⟨h1_⟩;have n2_ : Aside0 (w25.heap[gb342]? = some (.cells #[.int .i64 a0_0,.int .i64 a0_1,.int .i64 a0_2,.int .i64 a0_3,.int .i64 a0_4,.int .i64 a0_5,.int .i64 a0_6,.bool a0_7,.slice A0_8 l0_8.length c0_8,.slice A0_9 l0_9.length c0_9,.string a0_10,.bool a0_11] 41 (0,0))):=⟨h2_⟩;have n3_ : Aside0 (Below w.heap.size w w25):=⟨h3_⟩;clear HO346;clear BK342;clear HB;clear h0_ h1_ h2_ h3_;have HO346:=n0_;have HO353:=n1_;have BK342:=n2_;have HB:=n3_;clear n0_ n1_ n2_ n3_;have hHeld : w25.cell? ⟨gb342,0,none⟩ = some (.int .i64 a0_0) ∧ w25.cell? ⟨gb342,1,none⟩ = some (.int .i64 a0_1) ∧ w25.cell? ⟨gb342,2,none⟩ = some (.int .i64 a0_2) ∧ w25.cell? ⟨gb342,3,none⟩ = some (.int .i64 a0_3) ∧ w25.cell? ⟨gb342,4,none⟩ = some (.int .i64 a0_4) ∧ w25.cell? ⟨gb342,5,none⟩ = some (.int .i64 a0_5) ∧ w25.cell? ⟨gb342,6,none⟩ = some (.int .i64 a0_6) ∧ w25.cell? ⟨gb342,7,none⟩ = some (.bool a0_7) ∧ w25.cell? ⟨gb342,8,none⟩ = some (.slice A0_8 l0_8.length c0_8) ∧ w25.cell? ⟨gb342,9,none⟩ = some (.slice A0_9 l0_9.length c0_9) ∧ w25.cell? ⟨gb342,10,none⟩ = some (.string a0_10) ∧ w25.cell? ⟨gb342,11,none⟩ = some (.bool a0_11):=hS_;refine norm_ (a':=?_) ?_ ?_;rotate_left
         ·simp only [putAll,Act.put,s1_,s2_,s3_];rfl
         refine oN_ 10 (some 55) (fun K hK => ?_);have hcv26:=own_string (P:=Try.prog) Try.underlying46 Try.underlying5 Try.underlying9 (Kd.own_of_R HO353.out);refine value_ (w1:=?_) (v:=?_) (by rfl) rfl ?_ ?_;rotate_left 2
         ·go_simp
          constructor
          ·rfl
          ·rfl
         clear hcv26;refine hK.out _ _ ⟨kC_ BK342 0,kC_ BK342 1,kC_ BK342 2,kC_ BK342 3,kC_ BK342 4,kC_ BK342 5,kC_ BK342 6,kC_ BK342 7,kC_ BK342 8,kC_ BK342 9,kC_ BK342 10,kC_ BK342 11⟩ (fun hHeld => ?_);clear hK K;refine nX_ (some 55) ?_
         refine pU_ 12 (some 57) ?_
         refine pU_ 16 (some 61) ?_
         exact norm_ (by first|(simp only [putAll,Act.put,s1_,s2_,s3_];done)|(simp only [putAll,Act.put,s1_,s2_,s3_];rfl)) (hJ9_10_15_19 (v352) _ ⟨hHeld,(rq_ HO346),(rq_ HO353),(kq_ BK342),(bq_ HB)⟩)
       ·skip
        rintro v352 w26 ⟨hS_,h0_,h1_,h2_,h3_⟩;have n0_ : Aside0 (Kd.R (Kd.int .i64) 3 w26 w.heap.size (fun _ => True) (.slice Ao18 y344.length co18) y344):=⟨h0_⟩;have n1_ : Aside0 (Kd.R (Kd.int .u8) 5 w26 w.heap.size (fun _ => True) v352 y351):=⟨h1_⟩;have n2_ : Aside0 (w26.heap[gb342]? = some (.cells #[.int .i64 a0_0,.int .i64 a0_1,.int .i64 a0_2,.int .i64 a0_3,.int .i64 a0_4,.int .i64 a0_5,.int .i64 a0_6,.bool a0_7,.slice A0_8 l0_8.length c0_8,.slice A0_9 l0_9.length c0_9,.string a0_10,.bool a0_11] 41 (0,0))):=⟨h2_⟩;have n3_ : Aside0 (Below w.heap.size w w26):=⟨h3_⟩;clear HO346;clear BK342;clear HB;clear h0_ h1_ h2_ h3_;have HO346:=n0_;have HO353:=n1_;have BK342:=n2_;have HB:=n3_;clear n0_ n1_ n2_ n3_;have hHeld : w26.cell? ⟨gb342,0,none⟩ = some (.int .i64 a0_0) ∧ w26.cell? ⟨gb342,1,none⟩ = some (.int .i64 a0_1) ∧ w26.cell? ⟨gb342,2,none⟩ = some (.int .i64 a0_2) ∧ w26.cell? ⟨gb342,3,none⟩ = some (.int .i64 a0_3) ∧ w26.cell? ⟨gb342,4,none⟩ = some (.int .i64 a0_4) ∧ w26.cell? ⟨gb342,5,none⟩ = some (.int .i64 a0_5) ∧ w26.cell? ⟨gb342,6,none⟩ = some (.int .i64 a0_6) ∧ w26.cell? ⟨gb342,7,none⟩ = some (.bool a0_7) ∧ w26.cell? ⟨gb342,8,none⟩ = some (.slice A0_8 l0_8.length c0_8) ∧ w26.cell? ⟨gb342,9,none⟩ = some (.slice A0_9 l0_9.length c0_9) ∧ w26.cell? ⟨gb342,10,none⟩ = some (.string a0_10) ∧ w26.cell? ⟨gb342,11,none⟩ = some (.bool a0_11):=hS_;refine norm_ (a':=?_) ?_ ?_;rotate_left
        ·simp only [putAll,Act.put,s1_,s2_,s3_];rfl
        refine oN_ 19 (some 64) (fun K hK => ?_);refine gs_ Try.func78 #[.bool a0_11] ?_;with_reducible refine (impl_flag.calls a0_11 t355 _ A9.out).mono ?_;rintro e w' ⟨rfl,⟨nd,rfl⟩⟩;refine ⟨_,rfl,?_⟩;have BK342d_:=A_ (kn_ BK342.out nd);have HBd_:=A_ (pn_ HB.out nd);refine hK.out _ _ ⟨kC_ BK342d_ 0,kC_ BK342d_ 1,kC_ BK342d_ 2,kC_ BK342d_ 3,kC_ BK342d_ 4,kC_ BK342d_ 5,kC_ BK342d_ 6,kC_ BK342d_ 7,kC_ BK342d_ 8,kC_ BK342d_ 9,kC_ BK342d_ 10,kC_ BK342d_ 11⟩ (fun hHeld => ?_);clear hK K;refine nX_ (some 64) ?_
        exact norm_ (by first|(simp only [putAll,Act.put,s1_,s2_,s3_];done)|(simp only [putAll,Act.put,s1_,s2_,s3_];rfl)) (hJ9_10_15_19 (v352) _ ⟨hHeld,(rq_ HO346),(rq_ HO353),(kq_ BK342),(bq_ HB)⟩)
      rintro v352 w26 ⟨hS_,h0_,h1_,h2_,h3_⟩;have n0_ : Aside0 (Kd.R (Kd.int .i64) 3 w26 w.heap.size (fun _ => True) (.slice Ao18 y344.length co18) y344):=⟨h0_⟩;have n1_ : Aside0 (Kd.R (Kd.int .u8) 5 w26 w.heap.size (fun _ => True) v352 y351):=⟨h1_⟩;have n2_ : Aside0 (w26.heap[gb342]? = some (.cells #[.int .i64 a0_0,.int .i64 a0_1,.int .i64 a0_2,.int .i64 a0_3,.int .i64 a0_4,.int .i64 a0_5,.int .i64 a0_6,.bool a0_7,.slice A0_8 l0_8.length c0_8,.slice A0_9 l0_9.length c0_9,.string a0_10,.bool a0_11] 41 (0,0))):=⟨h2_⟩;have n3_ : Aside0 (Below w.heap.size w w26):=⟨h3_⟩;clear HO346;clear BK342;clear HB;clear h0_ h1_ h2_ h3_;have HO346:=n0_;have HO353:=n1_;have BK342:=n2_;have HB:=n3_;clear n0_ n1_ n2_ n3_;have hHeld : w26.cell? ⟨gb342,0,none⟩ = some (.int .i64 a0_0) ∧ w26.cell? ⟨gb342,1,none⟩ = some (.int .i64 a0_1) ∧ w26.cell? ⟨gb342,2,none⟩ = some (.int .i64 a0_2) ∧ w26.cell? ⟨gb342,3,none⟩ = some (.int .i64 a0_3) ∧ w26.cell? ⟨gb342,4,none⟩ = some (.int .i64 a0_4) ∧ w26.cell? ⟨gb342,5,none⟩ = some (.int .i64 a0_5) ∧ w26.cell? ⟨gb342,6,none⟩ = some (.int .i64 a0_6) ∧ w26.cell? ⟨gb342,7,none⟩ = some (.bool a0_7) ∧ w26.cell? ⟨gb342,8,none⟩ = some (.slice A0_8 l0_8.length c0_8) ∧ w26.cell? ⟨gb342,9,none⟩ = some (.slice A0_9 l0_9.length c0_9) ∧ w26.cell? ⟨gb342,10,none⟩ = some (.string a0_10) ∧ w26.cell? ⟨gb342,11,none⟩ = some (.bool a0_11):=hS_;refine norm_ (a':=?_) ?_ ?_;rotate_left
      ·simp only [putAll,Act.put,s1_,s2_,s3_];rfl
      refine pU_ 20 (some 65) ?_
      refine pU_ 22 (some 67) ?_
      refine pU_ 23 (some 8) ?_
      refine done_ (done_of HT_.out (by kernel_rfl)) ?_;obtain ⟨hcz27_0,hcz27_1,hcz27_2,hcz27_3,hcz27_4,hcz27_5,hcz27_6,hcz27_7,hcz27_8,hcz27_9,hcz27_10,hcz27_11,hfz27_0,hfz27_1,hfz27_2,hfz27_3,hfz27_4,hfz27_5,hfz27_6,hfz27_7,hfz27_8,hfz27_9,hfz27_10,hfz27_11⟩:=k12f_ BK342
      try go_wp2
      go_loopg [8,71] k (fun kq v8 v71 w' => ∃ (x8_1 : ByteArray) (x71_1 : Int),v8 = .string x8_1 ∧ v71 = .int .i64 x71_1 ∧ Aside0 (impl_Encode.l0 kq x8_1 l0_8 (l0_8.length : Int) x71_1 a0_0 a0_1 a0_2 a0_3 a0_4 a0_5 a0_6 a0_7 l0_8 l0_9 a0_10 a0_11 = some (r1,r2)) ∧ Aside0 (kq ≤ k) ∧ Aside0 (w'.heap[gb342]? = some (.cells #[.int .i64 a0_0,.int .i64 a0_1,.int .i64 a0_2,.int .i64 a0_3,.int .i64 a0_4,.int .i64 a0_5,.int .i64 a0_6,.bool a0_7,(.slice A0_8 l0_8.length c0_8),(.slice A0_9 l0_9.length c0_9),.string a0_10,.bool a0_11] 41 (0,0))) ∧ Aside0 (Below w.heap.size w w'))
      case atStart => exact ⟨(((((strOfNums y351) ++ t347) ++ t354) ++ t355) ++ t349),(0),(by first|rfl|(simp;done)|(simp [*];done)),(by first|rfl|(simp;done)|(simp [*];done)),H',⟨Nat.le_refl _⟩,⟨kq_ BK342⟩,⟨bq_ HB⟩⟩
      case round =>
       clear H'
       try clear p2
       try clear hcv2
       try clear c7
       try clear hcv26
       try clear hcz27_0
       try clear hcz27_1
       try clear hcz27_10
       try clear hcz27_11
       try clear hcz27_2
       try clear hcz27_3
       try clear hcz27_4
       try clear hcz27_5
       try clear hcz27_6
       try clear hcz27_7
       try clear hcz27_8
       try clear hcz27_9
       try clear hfz27_0
       try clear hfz27_1
       try clear hfz27_10
       try clear hfz27_11
       try clear hfz27_2
       try clear hfz27_3
       try clear hfz27_4
       try clear hfz27_5
       try clear hfz27_6
       try clear hfz27_7
       try clear hfz27_8
       try clear hfz27_9
       obtain ⟨x8_1,x71_1,rfl,rfl,HA,HK1,BK342,HB⟩:=hrel
       cases gk with
       | zero => exact absurd HA.out (by simp [impl_Encode.l0])
       | succ k1 =>
        have H:=HA.out;clear HA;simp only [impl_Encode.l0] at H
        by_cases c28 : x71_1 < (l0_8.length : Int)
        ·rw [if_pos c28] at H;have c28b0 : decide (x71_1 < (l0_8.length : Int)) = true:=de_ c28;clear c28
         by_cases c29 : 0 ≤ x71_1
         ·rw [if_pos c29] at H;have c29b0 : decide (0 ≤ x71_1) = true:=de_ c29;clear c29
          by_cases c30 : x71_1 < (l0_8.length : Int)
          ·rw [if_pos c30] at H;have c30b0 : decide (x71_1 < (l0_8.length : Int)) = true:=de_ c30;clear c30;replace H:=ob_.mp H;obtain ⟨⟨t358,t359⟩,A310,H⟩:=H;(try dsimp only at H);have A31:=A_ A310;clear A310;replace H:=ob_.mp H;obtain ⟨⟨t360,t361⟩,A320,H⟩:=H;(try dsimp only at H);have A32:=A_ A320;clear A320
           by_cases c33 : x8_1.size + t360.size ≤ 9223372036854775807
           ·rw [if_pos c33] at H;have c33b0:=eq_true c33;have c33b1 : decide (x8_1.size + t360.size ≤ 9223372036854775807) = true:=de_ c33
            try have c33b2 : (9223372036854775807 < x8_1.size + t360.size) = False:=eq_false (Nat.not_lt.2 c33)
            have H':=A_ H;clear H;have p356 : 0 ≤ (x71_1 : Int):=oda_;have q356 : x71_1 < (l0_8.length : Int):=oda_;obtain ⟨ad356,e356,hx356_0,hx356_1,hx356_2⟩:=at_T69 HR0_8.out x71_1 p356 q356
            cases e356
            replace hx356_0:=(HB.out.cell (wb_ w _ hx356_0)).trans hx356_0;replace hx356_1:=(HB.out.cell (wb_ w _ hx356_1)).trans hx356_1;replace hx356_2:=(HB.out.cell (wb_ w _ hx356_2)).trans hx356_2;replace p356:=eq_true p356;replace q356:=eq_true q356
            go_wp2_with (first|((with_reducible refine gate_dst (N:=10) rfl ?_);refine bE_ 10 #[.int .i64 0,.int .i64 0,.string (⟨#[]⟩ : ByteArray)] 69 ?_;intro gb357 hg w34 hbox hb;have BK357:=A_ (hbox);have GW357:=gE_ hg HB;have GE357:=gE_ hg HB;replace HB:=bS_ HB hb;have NB342_357:=nB_ hg BK342;have NB357_342:=nC_ hg BK342;replace BK342:=kB_ BK342 hb;clear hb hbox hg;have hnb35:=NB357_342.out;have hnc35:=NB342_357.out;obtain ⟨hcz36_0,hcz36_1,hcz36_2,hfz36_0,hfz36_1,hfz36_2⟩:=k3f_ BK357)|((with_reducible refine gate_callee (f:=79) rfl ?_);refine gL_ (some 77) Try.func79 #[.int .i64 1,.agg #[.int .i64 ((rd_T69 l0_8 x71_1).f0),.int .i64 ((rd_T69 l0_8 x71_1).f1),.string ((rd_T69 l0_8 x71_1).f2)]] ?_;(with_reducible refine (impl_EntryText.calls k1 1 ((rd_T69 l0_8 x71_1).f0) ((rd_T69 l0_8 x71_1).f1) ((rd_T69 l0_8 x71_1).f2) t358 t359 _ A31.out).mono ?_);rintro e w37 ⟨rfl,hb⟩;refine ⟨_,rfl,?_⟩;replace BK342:=A_ (kb_ (g:=gb342) (o:=.cells #[.int .i64 a0_0,.int .i64 a0_1,.int .i64 a0_2,.int .i64 a0_3,.int .i64 a0_4,.int .i64 a0_5,.int .i64 a0_6,.bool a0_7,.slice (some ad356) l0_8.length c0_8,.slice A0_9 l0_9.length c0_9,.string a0_10,.bool a0_11] 41 (0,0)) (kz_ BK342) hb);replace BK357:=A_ (kb_ (g:=gb357) (o:=.cells #[.int .i64 ((rd_T69 l0_8 x71_1).f0),.int .i64 ((rd_T69 l0_8 x71_1).f1),.string ((rd_T69 l0_8 x71_1).f2)] 69 (0,0)) (kz_ BK357) hb);replace HB:=bS_ HB hb;(try clear hb))|((with_reducible refine gate_callee (f:=80) rfl ?_);refine gL_ (some 82) Try.func80 #[.string t358] ?_;(with_reducible refine (impl_ShortText.calls k1 t358 t360 t361 _ A32.out).mono ?_);rintro e w38 ⟨rfl,hb⟩;refine ⟨_,rfl,?_⟩;replace BK342:=kB_ BK342 hb;replace BK357:=kB_ BK357 hb;replace HB:=bS_ HB hb;(try clear hb)))
            go_roundg k1
            case measure => have:=HK1.out;omega
            case rel => exact ⟨(x8_1 ++ t360),(wrap64 (x71_1 + 1)),(by first|rfl|(simp;done)|(simp [*];done)),(by first|rfl|(simp;done)|(simp [*];done)),H',⟨by have:=HK1.out;omega⟩,⟨kq_ BK342⟩,⟨bq_ HB⟩⟩
           ·rw [if_neg c33] at H;exact absurd H (by simp)
          ·rw [if_neg c30] at H;exact absurd H (by simp)
         ·rw [if_neg c29] at H;exact absurd H (by simp)
        ·rw [if_neg c28] at H;have c28b0 : decide (x71_1 < (l0_8.length : Int)) = false:=decide_eq_false c28;clear c28;have H':=A_ H;clear H;obtain ⟨hcz39_0,hcz39_1,hcz39_2,hcz39_3,hcz39_4,hcz39_5,hcz39_6,hcz39_7,hcz39_8,hcz39_9,hcz39_10,hcz39_11,hfz39_0,hfz39_1,hfz39_2,hfz39_3,hfz39_4,hfz39_5,hfz39_6,hfz39_7,hfz39_8,hfz39_9,hfz39_10,hfz39_11⟩:=k12f_ BK342;go_wp2
         go_loopg [15,92] k1 (fun kq v15 v92 w' => ∃ (x15_2 : List Int) (x92_2 : Int),v92 = .int .i64 x92_2 ∧ Aside0 (impl_Encode.l1 kq x8_1 x15_2 l0_9 (l0_9.length : Int) x92_2 a0_0 a0_1 a0_2 a0_3 a0_4 a0_5 a0_6 a0_7 l0_8 l0_9 a0_10 a0_11 = some (r1,r2)) ∧ Aside0 (kq ≤ k1) ∧ Aside0 (Kd.R (Kd.int .u8) 5 w' w.heap.size (fun _ => True) v15 x15_2) ∧ Aside0 (w'.heap[gb342]? = some (.cells #[.int .i64 a0_0,.int .i64 a0_1,.int .i64 a0_2,.int .i64 a0_3,.int .i64 a0_4,.int .i64 a0_5,.int .i64 a0_6,.bool a0_7,(.slice A0_8 l0_8.length c0_8),(.slice A0_9 l0_9.length c0_9),.string a0_10,.bool a0_11] 41 (0,0))) ∧ Aside0 (Below w.heap.size w w'))
         case atStart => exact ⟨(([] : List Int)),(0),(by first|rfl|(simp;done)|(simp [*];done)),H',⟨Nat.le_refl _⟩,⟨by first|exact Kd.R_nil _ _ _ _ _|exact Kd.N_nil _ _ _ _ _|exact Kd.V_nil _ _ _ _ _|exact Kd.Q_nil _ _ _ _ _|exact Kd.S_nil _ _ _ _ _⟩,⟨kq_ BK342⟩,⟨bq_ HB⟩⟩
         case round =>
          clear H'
          try clear c2
          try clear p2
          try clear hcv2
          try clear c3
          try clear p3
          try clear q3
          try clear hx3
          try clear p6
          try clear c7
          try clear c8
          try clear hcv26
          try clear c28
          try clear c28b0
          try clear c29
          try clear c29b0
          try clear c30
          try clear c30b0
          try clear c33
          try clear c33b0
          try clear c33b1
          try clear c33b2
          try clear c35
          try clear p35
          try clear q35
          try clear hx35
          try clear hcz27_0
          try clear hcz27_1
          try clear hcz27_10
          try clear hcz27_11
          try clear hcz27_2
          try clear hcz27_3
          try clear hcz27_4
          try clear hcz27_5
          try clear hcz27_6
          try clear hcz27_7
          try clear hcz27_8
          try clear hcz27_9
          try clear hcz36_0
          try clear hcz36_1
          try clear hcz36_2
          try clear hcz39_0
          try clear hcz39_1
          try clear hcz39_10
          try clear hcz39_11
          try clear hcz39_2
          try clear hcz39_3
          try clear hcz39_4
          try clear hcz39_5
          try clear hcz39_6
          try clear hcz39_7
          try clear hcz39_8
          try clear hcz39_9
          try clear hfz27_0
          try clear hfz27_1
          try clear hfz27_10
          try clear hfz27_11
          try clear hfz27_2
          try clear hfz27_3
          try clear hfz27_4
          try clear hfz27_5
          try clear hfz27_6
          try clear hfz27_7
          try clear hfz27_8
          try clear hfz27_9
          try clear hfz36_0
          try clear hfz36_1
          try clear hfz36_2
          try clear hfz39_0
          try clear hfz39_1
          try clear hfz39_10
          try clear hfz39_11
          try clear hfz39_2
          try clear hfz39_3
          try clear hfz39_4
          try clear hfz39_5
          try clear hfz39_6
          try clear hfz39_7
          try clear hfz39_8
          try clear hfz39_9
          try clear hx356_0
          try clear hx356_1
          try clear hx356_2
          try clear p2
          try clear p356
          try clear q356
          obtain ⟨x15_2,x92_2,rfl,HA,HK2,HO_15,BK342,HB⟩:=hrel
          cases gk with
          | zero => exact absurd HA.out (by simp [impl_Encode.l1])
          | succ k2 =>
           have H:=HA.out;clear HA;simp only [impl_Encode.l1] at H
           by_cases c40 : x92_2 < (l0_9.length : Int)
           ·rw [if_pos c40] at H;have c40b0 : decide (x92_2 < (l0_9.length : Int)) = true:=de_ c40;clear c40
            by_cases c41 : 0 ≤ x92_2
            ·rw [if_pos c41] at H;have c41b0 : decide (0 ≤ x92_2) = true:=de_ c41;clear c41
             by_cases c42 : x92_2 < (l0_9.length : Int)
             ·rw [if_pos c42] at H;have c42b0 : decide (x92_2 < (l0_9.length : Int)) = true:=de_ c42;clear c42
              by_cases c43 : x15_2.length < 140737488355328
              ·rw [if_pos c43] at H;have LMc43:=A_ c43;clear c43;obtain ⟨y363,hy363⟩ : ∃ y_ : List Int,y_ = (x15_2 ++ [(rd l0_9 x92_2) % 256]):=⟨_,rfl⟩
               replace H : (impl_Encode.l1 k2 x8_1 y363 l0_9 (l0_9.length : Int) (wrap64 (x92_2 + 1)) a0_0 a0_1 a0_2 a0_3 a0_4 a0_5 a0_6 a0_7 l0_8 l0_9 a0_10 a0_11) = some (r1,r2):=by first|(rw [hy363];with_reducible exact H)|(have H2_:=(Option.bind_some _ _).symm.trans H;rw [hy363];with_reducible exact H2_)|(have H2_:=(Option.bind_some _ _).symm.trans H;with_reducible exact H2_)|with_reducible exact H|(rw [hy363];exact H)|exact H
               have Ny363:=A_ hy363;clear hy363;have H':=A_ H;clear H;have p362 : 0 ≤ (x92_2 : Int):=oda_;have q362 : x92_2 < (l0_9.length : Int):=oda_;obtain ⟨ad362,e362,hx362_0⟩:=Kd.at_int HR0_9.out x92_2 p362 q362
               cases e362
               replace hx362_0:=(HB.out.cell (wb_ w _ hx362_0)).trans hx362_0;replace p362:=eq_true p362;replace q362:=eq_true q362
               go_wp2_with (first|((with_reducible refine gate_builtin (b:=.append) (xs:=#[.tmp 96,.tmp 99]) rfl ?_);at_builtin;refine Kd.R_append (Kd.int .u8) (w0:=w) w.heap.size rfl (.tmp 96) (.tmp 99) 46 5 (.int .u8 0) 1 rfl Try.underlying46 info5 rfl (by decide) (by omega) u15 x15_2 ((rd l0_9 x92_2) % 256) [.int .u8 ((rd l0_9 x92_2) % 256)] (fun _ => True) (fun _ => False) rfl rfl ?aP (fun _ hk => hk.elim) ?aF ?aO ?aB ?aS ?aL ?_;(case aP => exact rfl);(case aB => exact (bq_ HB));(case aF => exact (fun _ _ => trivial));(case aO => exact (rq_ HO_15));(case aS => exact (bz_ (bq_ HB)));(case aL => have:=LMc43.out;omega);intro v364 w44 ho hb hg hat;rw [← Ny363.out] at ho;replace BK342:=kG_ BK342 hg HO_15;replace HB:=A_ (hb);have HO365:=A_ (ho);clear HO_15;clear ho hb hg hat))
               go_roundg k2
               case measure => have:=HK1.out;have:=HK2.out;omega
               case rel => exact ⟨(y363),(wrap64 (x92_2 + 1)),(by first|rfl|(simp;done)|(simp [*];done)),H',⟨by have:=HK1.out;have:=HK2.out;omega⟩,⟨by (with_reducible repeat (first|apply ra_|apply rn_|apply Rd_));exact HO365.out⟩,⟨kq_ BK342⟩,⟨bq_ HB⟩⟩
              ·rw [if_neg c43] at H;exact absurd H (by simp)
             ·rw [if_neg c42] at H;exact absurd H (by simp)
            ·rw [if_neg c41] at H;exact absurd H (by simp)
           ·rw [if_neg c40] at H;have c40b0 : decide (x92_2 < (l0_9.length : Int)) = false:=decide_eq_false c40;clear c40;replace H:=ob_.mp H;obtain ⟨⟨t366,t367⟩,A450,H⟩:=H;(try dsimp only at H);have A45:=A_ A450;clear A450;replace H:=ob_.mp H;obtain ⟨⟨t368,t369⟩,A460,H⟩:=H;(try dsimp only at H);have A46:=A_ A460;clear A460
            by_cases c47 : x8_1.size + t366.size ≤ 9223372036854775807
            ·rw [if_pos c47] at H;have c47b0:=eq_true c47;have c47b1 : decide (x8_1.size + t366.size ≤ 9223372036854775807) = true:=de_ c47
             try have c47b2 : (9223372036854775807 < x8_1.size + t366.size) = False:=eq_false (Nat.not_lt.2 c47)
             by_cases c48 : (x8_1 ++ t366).size + t368.size ≤ 9223372036854775807
             ·rw [if_pos c48] at H;have c48b0:=eq_true c48;have c48b1 : decide ((x8_1 ++ t366).size + t368.size ≤ 9223372036854775807) = true:=de_ c48
              try have c48b2 : (9223372036854775807 < (x8_1 ++ t366).size + t368.size) = False:=eq_false (Nat.not_lt.2 c48)
              try have c48b3 : (9223372036854775807 < x8_1.size + t366.size + t368.size) = False:=eq_false (by have h_:=c48;simp only [ByteArray.size_append,show ∀ x_ : UInt8,(⟨#[x_]⟩ : ByteArray).size = 1 from fun _ => rfl] at h_;omega)
              simp only [Option.some.injEq,Prod.mk.injEq] at H;obtain ⟨rfl,rfl⟩:=H;have hcv49:=own_string (P:=Try.prog) Try.underlying46 Try.underlying5 Try.underlying9 (Kd.own_of_R HO_15.out)
              go_wp2_with (first|((with_reducible refine gate_callee (f:=80) rfl ?_);refine gL_ (some 105) Try.func80 #[.string (strOfNums x15_2)] ?_;(with_reducible refine (impl_ShortText.calls k2 (strOfNums x15_2) t366 t367 _ A45.out).mono ?_);rintro e w50 ⟨rfl,hb⟩;refine ⟨_,rfl,?_⟩;replace HO_15:=rB_ HO_15 hb;replace BK342:=kB_ BK342 hb;replace HB:=bS_ HB hb;(try clear hb);obtain ⟨hcz51_0,hcz51_1,hcz51_2,hcz51_3,hcz51_4,hcz51_5,hcz51_6,hcz51_7,hcz51_8,hcz51_9,hcz51_10,hcz51_11,hfz51_0,hfz51_1,hfz51_2,hfz51_3,hfz51_4,hfz51_5,hfz51_6,hfz51_7,hfz51_8,hfz51_9,hfz51_10,hfz51_11⟩:=k12f_ BK342)|((with_reducible refine gate_callee (f:=80) rfl ?_);refine gL_ (some 111) Try.func80 #[.string a0_10] ?_;(with_reducible refine (impl_ShortText.calls k2 a0_10 t368 t369 _ A46.out).mono ?_);rintro e w52 ⟨rfl,hb⟩;refine ⟨_,rfl,?_⟩;replace HO_15:=rB_ HO_15 hb;replace BK342:=kB_ BK342 hb;replace HB:=bS_ HB hb;(try clear hb)))
              go_ret2;exact ⟨ex_,bq_ HB⟩
             ·rw [if_neg c48] at H;exact absurd H (by simp)
            ·rw [if_neg c47] at H;exact absurd H (by simp)
     ·rw [if_neg c11] at H;exact absurd H (by simp)
    ·rw [if_neg c10] at H;exact absurd H (by simp)
   ·rw [if_neg c8] at H;exact absurd H (by simp)
  ·rw [if_neg c6] at H;exact absurd H (by simp)
 ·replace c3:=Bool.eq_false_iff.mpr c3;subst c3
  have H1 : (some ((⟨#[]⟩ : ByteArray),false)) = some (r1,r2):=by rw [if_neg (show ¬ (false = true) by decide)] at H;exact H
  clear H;have H:=H1;clear H1;simp only [Option.some.injEq,Prod.mk.injEq] at H;obtain ⟨rfl,rfl⟩:=H;go_enter Try.func28,Try.ntmps28
  go_wp2_with (first|((with_reducible refine gate_dst (N:=1) rfl ?_);refine bE_ 1 #[.int .i64 a0_0,.int .i64 a0_1,.int .i64 a0_2,.int .i64 a0_3,.int .i64 a0_4,.int .i64 a0_5,.int .i64 a0_6,.bool a0_7,.slice A0_8 l0_8.length c0_8,.slice A0_9 l0_9.length c0_9,.string a0_10,.bool a0_11] 41 ?_;intro gb342 hg w53 hbox hb;have BK342:=A_ (hbox);have GW342:=gE_ hg HB;have GE342:=gE_ hg HB;replace HB:=bS_ HB hb;clear hb hbox hg;obtain ⟨hcz54_0,hcz54_1,hcz54_2,hcz54_3,hcz54_4,hcz54_5,hcz54_6,hcz54_7,hcz54_8,hcz54_9,hcz54_10,hcz54_11,hfz54_0,hfz54_1,hfz54_2,hfz54_3,hfz54_4,hfz54_5,hfz54_6,hfz54_7,hfz54_8,hfz54_9,hfz54_10,hfz54_11⟩:=k12f_ BK342)|((with_reducible refine gate_callee (f:=75) rfl ?_);refine gL_ (some 23) Try.func75 #[.agg #[.int .i64 a0_0,.int .i64 a0_1,.int .i64 a0_2,.int .i64 a0_3,.int .i64 a0_4,.int .i64 a0_5,.int .i64 a0_6,.bool a0_7,.slice A0_8 l0_8.length c0_8,.slice A0_9 l0_9.length c0_9,.string a0_10,.bool a0_11]] ?_;(with_reducible refine (impl_MessageOk.calls k a0_0 a0_1 a0_2 a0_3 a0_4 a0_5 a0_6 a0_7 _ _ l0_8 _ _ l0_9 a0_10 a0_11 false _ ?side1 ?side2 ?side3 ?side4 A2.out).mono ?_);(case side1 => repeat (first|exact (Kd.C_below HR0_8.out HB.out)|(with_reducible refine Kd.C_alloc ?_ _)|(with_reducible refine Kd.C_drewN ?_ _)|(with_reducible refine Kd.C_drew ?_)));(case side2 => exact HC0_8.out);(case side3 => repeat (first|exact (Kd.C_below HR0_9.out HB.out)|(with_reducible refine Kd.C_alloc ?_ _)|(with_reducible refine Kd.C_drewN ?_ _)|(with_reducible refine Kd.C_drew ?_)));(case side4 => exact HC0_9.out);rintro e w55 ⟨rfl,hb⟩;refine ⟨_,rfl,?_⟩;replace BK342:=kB_ BK342 hb;replace HB:=bS_ HB hb;(try clear hb)))
  go_ret2;exact ⟨ex_,bq_ HB⟩
end Go.Proofs.Ytbcgnncbiblibaa.PFnExactDecode
