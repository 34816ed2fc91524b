/- The contracts of the Go functions that this law reaches: what each call returns, by a plain Lean function of its arguments. No conditions but those each contract names. By the kit's print.py, run by this session's wip/gen/pp.py with facts and hand proofs beside it: not to the letter what print.sh prints. -/
import Derived.Test.YtbcgnncbiblibaaPFnExactDecodex0
import Derived.Test.YtbcgnncbiblibaaPFnExactDecodex1
import Derived.Test.YtbcgnncbiblibaaPFnExactDecodex2
import Derived.Test.YtbcgnncbiblibaaPFnExactDecodex3
namespace Go.Proofs.Ytbcgnncbiblibaa.PFnExactDecode
open Go.RowKit Go.Proofs.YtbcgnncbiblibaaW.PrintWords Go.Proofs.YtbcgnncbiblibaaW.PrintLast Go.Proofs.YtbcgnncbiblibaaW.PrintMore
attribute [local go_sem] max2_int min2_int max_two min_two max_three min_three max_four min_four
set_option linter.unusedVariables false
set_option linter.unusedSimpArgs false
mutual
def spec_MessageOk.j0 : Nat → Bool → Int → Int → Int → Int → Int → Int → Int → Bool → List (S69) → List Int → ByteArray → Bool → Option (Bool)
 | 0,_,_,_,_,_,_,_,_,_,_,_,_,_ => none
 | k + 1,x27,x185000,x185001,x185002,x185003,x185004,x185005,x185006,x185007,x185008,x185009,x185010,x185011 => if x27 = true then (some false) else ((spec_l01In.f x185003 0 100000).bind fun t188 => (if t188 = true then ((spec_l01In.f x185005 0 100000).bind fun t189 => (if t189 = true then ((spec_l01In.f x185004 0 100000).bind fun t190 => (if t190 = true then ((spec_l01In.f x185006 0 100000).bind fun t191 => (spec_MessageOk.j1 k (!t191) x185000 x185001 x185002 x185003 x185004 x185005 x185006 x185007 x185008 x185009 x185010 x185011)) else (spec_MessageOk.j1 k true x185000 x185001 x185002 x185003 x185004 x185005 x185006 x185007 x185008 x185009 x185010 x185011))) else (spec_MessageOk.j1 k true x185000 x185001 x185002 x185003 x185004 x185005 x185006 x185007 x185008 x185009 x185010 x185011))) else (spec_MessageOk.j1 k true x185000 x185001 x185002 x185003 x185004 x185005 x185006 x185007 x185008 x185009 x185010 x185011)))
def spec_MessageOk.j1 : Nat → Bool → Int → Int → Int → Int → Int → Int → Int → Bool → List (S69) → List Int → ByteArray → Bool → Option (Bool)
 | 0,_,_,_,_,_,_,_,_,_,_,_,_,_ => none
 | k + 1,x49,x185000,x185001,x185002,x185003,x185004,x185005,x185006,x185007,x185008,x185009,x185010,x185011 => if x49 = true then (some false) else (if (x185008.length : Int) > 4 then (spec_MessageOk.j2 k true x185000 x185001 x185002 x185003 x185004 x185005 x185006 x185007 x185008 x185009 x185010 x185011) else (if (x185008.length : Int) > 0 then (spec_MessageOk.j2 k (x185000 != 3) x185000 x185001 x185002 x185003 x185004 x185005 x185006 x185007 x185008 x185009 x185010 x185011) else (spec_MessageOk.j2 k false x185000 x185001 x185002 x185003 x185004 x185005 x185006 x185007 x185008 x185009 x185010 x185011)))
def spec_MessageOk.j2 : Nat → Bool → Int → Int → Int → Int → Int → Int → Int → Bool → List (S69) → List Int → ByteArray → Bool → Option (Bool)
 | 0,_,_,_,_,_,_,_,_,_,_,_,_,_ => none
 | k + 1,x64,x185000,x185001,x185002,x185003,x185004,x185005,x185006,x185007,x185008,x185009,x185010,x185011 => if x64 = true then (some false) else (spec_MessageOk.l0 k x185005 0 x185000 x185001 x185002 x185003 x185004 x185005 x185006 x185007 x185008 x185009 x185010 x185011)
def spec_MessageOk.l0 : Nat → Int → Int → Int → Int → Int → Int → Int → Int → Int → Bool → List (S69) → List Int → ByteArray → Bool → Option (Bool)
 | 0,_,_,_,_,_,_,_,_,_,_,_,_,_,_ => none
 | k + 1,x3,x4,x185000,x185001,x185002,x185003,x185004,x185005,x185006,x185007,x185008,x185009,x185010,x185011 => if x4 < (x185008.length : Int) then (if 0 ≤ x4 then ((spec_EntryOk.f k ((rd_T69 x185008 x4).f0) ((rd_T69 x185008 x4).f1) ((rd_T69 x185008 x4).f2)).bind fun t193 => (if t193 = true then (if ((rd_T69 x185008 x4).f0) < x3 then (some false) else (if ((rd_T69 x185008 x4).f0) > x185003 then (some false) else (spec_MessageOk.l0 k ((rd_T69 x185008 x4).f0) (wrap64 (x4 + 1)) x185000 x185001 x185002 x185003 x185004 x185005 x185006 x185007 x185008 x185009 x185010 x185011))) else (some false))) else (none)) else (if x185000 = 5 then ((spec_ConfOk.f k x185009).bind fun t197 => (if t197 = true then (some (decide ((x185010.size : Int) ≤ 60))) else (some false))) else (if (x185009.length : Int) = 0 then (if x185010.toList = ([] : List UInt8) then (some (!x185011)) else (some false)) else (some false)))
end
def spec_MessageOk.f (k : Nat) (a0_0 : Int) (a0_1 : Int) (a0_2 : Int) (a0_3 : Int) (a0_4 : Int) (a0_5 : Int) (a0_6 : Int) (a0_7 : Bool) (l0_8 : List (S69)) (l0_9 : List Int) (a0_10 : ByteArray) (a0_11 : Bool) : Option (Bool) := (spec_l01In.f a0_0 1 6).bind fun t185 => (if t185 = true then ((spec_l01In.f a0_1 1 4).bind fun t186 => (if t186 = true then ((spec_l01In.f a0_2 1 4).bind fun t187 => (if t187 = true then (spec_MessageOk.j0 k (a0_1 == a0_2) a0_0 a0_1 a0_2 a0_3 a0_4 a0_5 a0_6 a0_7 l0_8 l0_9 a0_10 a0_11) else (spec_MessageOk.j0 k true a0_0 a0_1 a0_2 a0_3 a0_4 a0_5 a0_6 a0_7 l0_8 l0_9 a0_10 a0_11))) else (spec_MessageOk.j0 k true a0_0 a0_1 a0_2 a0_3 a0_4 a0_5 a0_6 a0_7 l0_8 l0_9 a0_10 a0_11))) else (spec_MessageOk.j0 k true a0_0 a0_1 a0_2 a0_3 a0_4 a0_5 a0_6 a0_7 l0_8 l0_9 a0_10 a0_11))
theorem spec_MessageOk.mono_l : ∀ k, (∀ y0 y1 y2 y3 y4 y5 y6 y7 y8 y9 y10 y11 y12, LeO (spec_MessageOk.j0 k y0 y1 y2 y3 y4 y5 y6 y7 y8 y9 y10 y11 y12) (spec_MessageOk.j0 (k + 1) y0 y1 y2 y3 y4 y5 y6 y7 y8 y9 y10 y11 y12)) ∧ (∀ y0 y1 y2 y3 y4 y5 y6 y7 y8 y9 y10 y11 y12, LeO (spec_MessageOk.j1 k y0 y1 y2 y3 y4 y5 y6 y7 y8 y9 y10 y11 y12) (spec_MessageOk.j1 (k + 1) y0 y1 y2 y3 y4 y5 y6 y7 y8 y9 y10 y11 y12)) ∧ (∀ y0 y1 y2 y3 y4 y5 y6 y7 y8 y9 y10 y11 y12, LeO (spec_MessageOk.j2 k y0 y1 y2 y3 y4 y5 y6 y7 y8 y9 y10 y11 y12) (spec_MessageOk.j2 (k + 1) y0 y1 y2 y3 y4 y5 y6 y7 y8 y9 y10 y11 y12)) ∧ (∀ y0 y1 y2 y3 y4 y5 y6 y7 y8 y9 y10 y11 y12 y13, LeO (spec_MessageOk.l0 k y0 y1 y2 y3 y4 y5 y6 y7 y8 y9 y10 y11 y12 y13) (spec_MessageOk.l0 (k + 1) y0 y1 y2 y3 y4 y5 y6 y7 y8 y9 y10 y11 y12 y13))
 | 0 => ⟨fun _ _ _ _ _ _ _ _ _ _ _ _ _ r h => by simp [spec_MessageOk.j0] at h,fun _ _ _ _ _ _ _ _ _ _ _ _ _ r h => by simp [spec_MessageOk.j1] at h,fun _ _ _ _ _ _ _ _ _ _ _ _ _ r h => by simp [spec_MessageOk.j2] at h,fun _ _ _ _ _ _ _ _ _ _ _ _ _ _ r h => by simp [spec_MessageOk.l0] at h⟩
 | k + 1 => by
  obtain ⟨ih0,ih1,ih2,ih3⟩:=spec_MessageOk.mono_l k;refine ⟨?_,?_,?_,?_⟩
  ·intro y0 y1 y2 y3 y4 y5 y6 y7 y8 y9 y10 y11 y12
   unfold spec_MessageOk.j0
   repeat' first
   | (with_reducible exact ih0 _ _ _ _ _ _ _ _ _ _ _ _ _)
   | (with_reducible exact ih1 _ _ _ _ _ _ _ _ _ _ _ _ _)
   | (with_reducible exact ih2 _ _ _ _ _ _ _ _ _ _ _ _ _)
   | (with_reducible exact ih3 _ _ _ _ _ _ _ _ _ _ _ _ _ _)
   | (with_reducible exact spec_ConfOk.mono _ _)
   | (with_reducible exact spec_EntryOk.mono _ _ _ _)
   | (with_reducible exact LeO.refl _)
   | (with_reducible exact LeO.none _)
   | (with_reducible refine LeO.ite ?_ ?_)
   | (with_reducible refine LeO.bind ?_ (fun _ => ?_))
  ·intro y0 y1 y2 y3 y4 y5 y6 y7 y8 y9 y10 y11 y12
   unfold spec_MessageOk.j1
   repeat' first
   | (with_reducible exact ih0 _ _ _ _ _ _ _ _ _ _ _ _ _)
   | (with_reducible exact ih1 _ _ _ _ _ _ _ _ _ _ _ _ _)
   | (with_reducible exact ih2 _ _ _ _ _ _ _ _ _ _ _ _ _)
   | (with_reducible exact ih3 _ _ _ _ _ _ _ _ _ _ _ _ _ _)
   | (with_reducible exact spec_ConfOk.mono _ _)
   | (with_reducible exact spec_EntryOk.mono _ _ _ _)
   | (with_reducible exact LeO.refl _)
   | (with_reducible exact LeO.none _)
   | (with_reducible refine LeO.ite ?_ ?_)
   | (with_reducible refine LeO.bind ?_ (fun _ => ?_))
  ·intro y0 y1 y2 y3 y4 y5 y6 y7 y8 y9 y10 y11 y12
   unfold spec_MessageOk.j2
   repeat' first
   | (with_reducible exact ih0 _ _ _ _ _ _ _ _ _ _ _ _ _)
   | (with_reducible exact ih1 _ _ _ _ _ _ _ _ _ _ _ _ _)
   | (with_reducible exact ih2 _ _ _ _ _ _ _ _ _ _ _ _ _)
   | (with_reducible exact ih3 _ _ _ _ _ _ _ _ _ _ _ _ _ _)
   | (with_reducible exact spec_ConfOk.mono _ _)
   | (with_reducible exact spec_EntryOk.mono _ _ _ _)
   | (with_reducible exact LeO.refl _)
   | (with_reducible exact LeO.none _)
   | (with_reducible refine LeO.ite ?_ ?_)
   | (with_reducible refine LeO.bind ?_ (fun _ => ?_))
  ·intro y0 y1 y2 y3 y4 y5 y6 y7 y8 y9 y10 y11 y12 y13
   unfold spec_MessageOk.l0
   repeat' first
   | (with_reducible exact ih0 _ _ _ _ _ _ _ _ _ _ _ _ _)
   | (with_reducible exact ih1 _ _ _ _ _ _ _ _ _ _ _ _ _)
   | (with_reducible exact ih2 _ _ _ _ _ _ _ _ _ _ _ _ _)
   | (with_reducible exact ih3 _ _ _ _ _ _ _ _ _ _ _ _ _ _)
   | (with_reducible exact spec_ConfOk.mono _ _)
   | (with_reducible exact spec_EntryOk.mono _ _ _ _)
   | (with_reducible exact LeO.refl _)
   | (with_reducible exact LeO.none _)
   | (with_reducible refine LeO.ite ?_ ?_)
   | (with_reducible refine LeO.bind ?_ (fun _ => ?_))
theorem spec_MessageOk.mono : ∀ a0 a1 a2 a3 a4 a5 a6 a7 a8 a9 a10 a11 k, LeO (spec_MessageOk.f k a0 a1 a2 a3 a4 a5 a6 a7 a8 a9 a10 a11) (spec_MessageOk.f (k + 1) a0 a1 a2 a3 a4 a5 a6 a7 a8 a9 a10 a11) := by
 intro a0 a1 a2 a3 a4 a5 a6 a7 a8 a9 a10 a11 k;obtain ⟨ih0,ih1,ih2,ih3⟩:=spec_MessageOk.mono_l k
 unfold spec_MessageOk.f
 repeat' first
   | (with_reducible exact ih0 _ _ _ _ _ _ _ _ _ _ _ _ _)
   | (with_reducible exact ih1 _ _ _ _ _ _ _ _ _ _ _ _ _)
   | (with_reducible exact ih2 _ _ _ _ _ _ _ _ _ _ _ _ _)
   | (with_reducible exact ih3 _ _ _ _ _ _ _ _ _ _ _ _ _ _)
   | (with_reducible exact spec_ConfOk.mono _ _)
   | (with_reducible exact spec_EntryOk.mono _ _ _ _)
   | (with_reducible exact LeO.refl _)
   | (with_reducible exact LeO.none _)
   | (with_reducible refine LeO.ite ?_ ?_)
   | (with_reducible refine LeO.bind ?_ (fun _ => ?_))
def spec_MessageOk.T11 : Bool × List (List Nat × List Nat) := (true, [([], []), ([0], [0]), ([], []), ([1, 2], [1, 2]), ([3], [3]), ([4], [4]), ([5], [5]), ([6, 5], [6]), ([7], [7]), ([8, 7], [7, 8]), ([7], [7]), ([9, 10, 7], [7, 9, 10]), ([11, 7], [7, 11]), ([12, 7], [7, 12]), ([7], [7]), ([13, 14, 7], [7, 13, 14]), ([7, 15], [7, 15]), ([16, 7], [16]), ([17], [17]), ([18, 17], [17, 18]), ([17], [17]), ([19, 20, 17], [17, 19, 20]), ([21, 17], [17, 21]), ([22, 17], [17, 22]), ([17], [17]), ([24, 17], [17, 24]), ([23, 25, 17], [17, 23, 25]), ([17, 26], [17, 26])])
def spec_MessageOk.B11 : List Nat := [0, 1, 0, 7, 15, 31, 63, 127, 255, 511, 255, 2047, 4095, 8191, 255, 32767, 65535, 131071, 262143, 524287, 262143, 2097151, 4194303, 8388607, 262143, 17039359, 67108863, 134217727]
theorem spec_MessageOk.tab11 : rtab .any (opsOf Try.f29 11) = spec_MessageOk.T11 := by kernel_rfl
theorem spec_MessageOk.bits11 : waitsOk spec_MessageOk.T11.2 spec_MessageOk.B11 = true := by kernel_rfl
set_option maxHeartbeats 8000000 in
set_option maxRecDepth 100000 in
theorem spec_MessageOk.calls (k : Nat) (a0_0 : Int) (a0_1 : Int) (a0_2 : Int) (a0_3 : Int) (a0_4 : Int) (a0_5 : Int) (a0_6 : Int) (a0_7 : Bool) (A0_8 : Option Addr) (c0_8 : Nat) (l0_8 : List (S69)) (A0_9 : Option Addr) (c0_9 : Nat) (l0_9 : List Int) (a0_10 : ByteArray) (a0_11 : Bool) (r : Bool) (w : World) (hr0_8 : Kd.C k69 w A0_8 l0_8.length l0_8) (hc0_8 : l0_8.length ≤ c0_8) (hr0_9 : Kd.C (Kd.int .i64) w A0_9 l0_9.length l0_9) (hc0_9 : l0_9.length ≤ c0_9) (h : spec_MessageOk.f k a0_0 a0_1 a0_2 a0_3 a0_4 a0_5 a0_6 a0_7 l0_8 l0_9 a0_10 a0_11 = some r) :
  Calls Try.prog 29 #[.agg #[.int .i64 a0_0,.int .i64 a0_1,.int .i64 a0_2,.int .i64 a0_3,.int .i64 a0_4,.int .i64 a0_5,.int .i64 a0_6,.bool a0_7,.slice A0_8 l0_8.length c0_8,.slice A0_9 l0_9.length c0_9,.string a0_10,.bool a0_11]] w fun e w' => e = .returned (.bool r) ∧ Below w.heap.size w w':=by
 have hu41:=Try.underlying41;have hu69:=Try.underlying69;have HR0_8:=A_ hr0_8;have HC0_8:=A_ hc0_8;clear hr0_8 hc0_8;have HR0_9:=A_ hr0_9;have HC0_9:=A_ hc0_9;clear hr0_9 hc0_9;have HB:=A_ (Below.refl w.heap.size w);unfold spec_MessageOk.f at h;have H:=h;clear h;have HC2:=A_ H;clear H;go_enter Try.func29,Try.ntmps29
 go_upto_region 1 with (first|((with_reducible refine gate_dst (N:=1) rfl ?_);(try (refine gate_guard (by rfl) ?_;dsimp only));refine bE_ 1 #[.int .i64 a0_0,.int .i64 a0_1,.int .i64 a0_2,.int .i64 a0_3,.int .i64 a0_4,.int .i64 a0_5,.int .i64 a0_6,.bool a0_7,.slice A0_8 l0_8.length c0_8,.slice A0_9 l0_9.length c0_9,.string a0_10,.bool a0_11] 41 ?_;intro gb184 hg w3 hbox hb;have BK184:=A_ (hbox);have GW184:=gE_ hg HB;have GE184:=gE_ hg HB;replace HB:=bS_ HB hb;clear hb hbox hg))
 (try simp only [Act.put,s1_,s2_,s3_])
 go_cut [27] (fun v27 wc => ∃ (kq : Nat) (x27_1 : Bool),v27 = .bool x27_1 ∧ Aside0 (spec_MessageOk.j0 kq x27_1 a0_0 a0_1 a0_2 a0_3 a0_4 a0_5 a0_6 a0_7 l0_8 l0_9 a0_10 a0_11 = some r) ∧ Aside0 (kq ≤ k) ∧ Aside0 (wc.heap[gb184]? = some (.cells #[.int .i64 a0_0,.int .i64 a0_1,.int .i64 a0_2,.int .i64 a0_3,.int .i64 a0_4,.int .i64 a0_5,.int .i64 a0_6,.bool a0_7,(.slice A0_8 l0_8.length c0_8),(.slice A0_9 l0_9.length c0_9),.string a0_10,.bool a0_11] 41 (0,0))) ∧ Aside0 (Below w.heap.size w wc))
 case first =>
  have H:=HC2.out;clear HC2;replace H:=ob_.mp H;obtain ⟨t185,A40,H⟩:=H;(try dsimp only at H);have A4:=A_ A40;clear A40
  by_cases c5 : t185 = true
  ·subst c5
   rw [if_pos rfl] at H;replace H:=ob_.mp H;obtain ⟨t186,A60,H⟩:=H;(try dsimp only at H);have A6:=A_ A60;clear A60
   by_cases c7 : t186 = true
   ·subst c7
    rw [if_pos rfl] at H;replace H:=ob_.mp H;obtain ⟨t187,A80,H⟩:=H;(try dsimp only at H);have A8:=A_ A80;clear A80
    by_cases c9 : t187 = true
    ·subst c9
     rw [if_pos rfl] at H;have H':=A_ H;clear H;obtain ⟨hcz10_0,hcz10_1,hcz10_2,hcz10_3,hcz10_4,hcz10_5,hcz10_6,hcz10_7,hcz10_8,hcz10_9,hcz10_10,hcz10_11,hfz10_0,hfz10_1,hfz10_2,hfz10_3,hfz10_4,hfz10_5,hfz10_6,hfz10_7,hfz10_8,hfz10_9,hfz10_10,hfz10_11⟩:=k12f_ BK184
     go_wp2_with (first|((with_reducible refine gate_callee (f:=81) rfl ?_);refine gL_ (some 7) Try.func81 #[.int .i64 a0_0,.int .i64 1,.int .i64 6] ?_;(with_reducible refine (spec_l01In.calls a0_0 1 6 true _ A4.out).mono ?_);rintro e w' ⟨rfl,⟨nd,rfl⟩⟩;refine ⟨_,rfl,?_⟩)|(go_at_call 81;(with_reducible refine (spec_l01In.calls a0_1 1 4 true _ A6.out).mono ?_);rintro e w' ⟨rfl,⟨nd,rfl⟩⟩)|(go_at_call 81;(with_reducible refine (spec_l01In.calls a0_2 1 4 true _ A8.out).mono ?_);rintro e w' ⟨rfl,⟨nd,rfl⟩⟩))
     go_meet
     case rel => exact ⟨_,((a0_1 == a0_2)),(by first|rfl|(simp;done)|(simp [*];done)),H',⟨by first|omega|exact Nat.le_refl _⟩,⟨kq_ BK184⟩,⟨bq_ HB⟩⟩
    ·replace c9:=Bool.eq_false_iff.mpr c9;subst c9
     have H1 : (spec_MessageOk.j0 k true a0_0 a0_1 a0_2 a0_3 a0_4 a0_5 a0_6 a0_7 l0_8 l0_9 a0_10 a0_11) = some r:=by rw [if_neg (show ¬ (false = true) by decide)] at H;exact H
     clear H;have H:=H1;clear H1;have H':=A_ H;clear H;obtain ⟨hcz11_0,hcz11_1,hcz11_2,hcz11_3,hcz11_4,hcz11_5,hcz11_6,hcz11_7,hcz11_8,hcz11_9,hcz11_10,hcz11_11,hfz11_0,hfz11_1,hfz11_2,hfz11_3,hfz11_4,hfz11_5,hfz11_6,hfz11_7,hfz11_8,hfz11_9,hfz11_10,hfz11_11⟩:=k12f_ BK184
     go_wp2_with (first|((with_reducible refine gate_callee (f:=81) rfl ?_);refine gL_ (some 7) Try.func81 #[.int .i64 a0_0,.int .i64 1,.int .i64 6] ?_;(with_reducible refine (spec_l01In.calls a0_0 1 6 true _ A4.out).mono ?_);rintro e w' ⟨rfl,⟨nd,rfl⟩⟩;refine ⟨_,rfl,?_⟩)|(go_at_call 81;(with_reducible refine (spec_l01In.calls a0_1 1 4 true _ A6.out).mono ?_);rintro e w' ⟨rfl,⟨nd,rfl⟩⟩)|(go_at_call 81;(with_reducible refine (spec_l01In.calls a0_2 1 4 false _ A8.out).mono ?_);rintro e w' ⟨rfl,⟨nd,rfl⟩⟩))
     go_meet
     case rel => exact ⟨_,(true),(by first|rfl|(simp;done)|(simp [*];done)),H',⟨by first|omega|exact Nat.le_refl _⟩,⟨kq_ BK184⟩,⟨bq_ HB⟩⟩
   ·replace c7:=Bool.eq_false_iff.mpr c7;subst c7
    have H1 : (spec_MessageOk.j0 k true a0_0 a0_1 a0_2 a0_3 a0_4 a0_5 a0_6 a0_7 l0_8 l0_9 a0_10 a0_11) = some r:=by rw [if_neg (show ¬ (false = true) by decide)] at H;exact H
    clear H;have H:=H1;clear H1;have H':=A_ H;clear H;obtain ⟨hcz12_0,hcz12_1,hcz12_2,hcz12_3,hcz12_4,hcz12_5,hcz12_6,hcz12_7,hcz12_8,hcz12_9,hcz12_10,hcz12_11,hfz12_0,hfz12_1,hfz12_2,hfz12_3,hfz12_4,hfz12_5,hfz12_6,hfz12_7,hfz12_8,hfz12_9,hfz12_10,hfz12_11⟩:=k12f_ BK184
    go_wp2_with (first|((with_reducible refine gate_callee (f:=81) rfl ?_);refine gL_ (some 7) Try.func81 #[.int .i64 a0_0,.int .i64 1,.int .i64 6] ?_;(with_reducible refine (spec_l01In.calls a0_0 1 6 true _ A4.out).mono ?_);rintro e w' ⟨rfl,⟨nd,rfl⟩⟩;refine ⟨_,rfl,?_⟩)|(go_at_call 81;(with_reducible refine (spec_l01In.calls a0_1 1 4 false _ A6.out).mono ?_);rintro e w' ⟨rfl,⟨nd,rfl⟩⟩))
    go_meet
    case rel => exact ⟨_,(true),(by first|rfl|(simp;done)|(simp [*];done)),H',⟨by first|omega|exact Nat.le_refl _⟩,⟨kq_ BK184⟩,⟨bq_ HB⟩⟩
  ·replace c5:=Bool.eq_false_iff.mpr c5;subst c5
   have H1 : (spec_MessageOk.j0 k true a0_0 a0_1 a0_2 a0_3 a0_4 a0_5 a0_6 a0_7 l0_8 l0_9 a0_10 a0_11) = some r:=by rw [if_neg (show ¬ (false = true) by decide)] at H;exact H
   clear H;have H:=H1;clear H1;have H':=A_ H;clear H;obtain ⟨hcz13_0,hcz13_1,hcz13_2,hcz13_3,hcz13_4,hcz13_5,hcz13_6,hcz13_7,hcz13_8,hcz13_9,hcz13_10,hcz13_11,hfz13_0,hfz13_1,hfz13_2,hfz13_3,hfz13_4,hfz13_5,hfz13_6,hfz13_7,hfz13_8,hfz13_9,hfz13_10,hfz13_11⟩:=k12f_ BK184
   go_wp2_with (first|((with_reducible refine gate_callee (f:=81) rfl ?_);refine gL_ (some 7) Try.func81 #[.int .i64 a0_0,.int .i64 1,.int .i64 6] ?_;(with_reducible refine (spec_l01In.calls a0_0 1 6 false _ A4.out).mono ?_);rintro e w' ⟨rfl,⟨nd,rfl⟩⟩;refine ⟨_,rfl,?_⟩))
   go_meet
   case rel => exact ⟨_,(true),(by first|rfl|(simp;done)|(simp [*];done)),H',⟨by first|omega|exact Nat.le_refl _⟩,⟨kq_ BK184⟩,⟨bq_ HB⟩⟩
 case rest =>
  clear HC2
  try clear c2
  try clear p2
  try clear c5
  try clear c7
  try clear c8
  try clear c9
  try clear hcz10_0
  try clear hcz10_1
  try clear hcz10_10
  try clear hcz10_11
  try clear hcz10_2
  try clear hcz10_3
  try clear hcz10_4
  try clear hcz10_5
  try clear hcz10_6
  try clear hcz10_7
  try clear hcz10_8
  try clear hcz10_9
  try clear hcz11_0
  try clear hcz11_1
  try clear hcz11_10
  try clear hcz11_11
  try clear hcz11_2
  try clear hcz11_3
  try clear hcz11_4
  try clear hcz11_5
  try clear hcz11_6
  try clear hcz11_7
  try clear hcz11_8
  try clear hcz11_9
  try clear hcz12_0
  try clear hcz12_1
  try clear hcz12_10
  try clear hcz12_11
  try clear hcz12_2
  try clear hcz12_3
  try clear hcz12_4
  try clear hcz12_5
  try clear hcz12_6
  try clear hcz12_7
  try clear hcz12_8
  try clear hcz12_9
  try clear hcz13_0
  try clear hcz13_1
  try clear hcz13_10
  try clear hcz13_11
  try clear hcz13_2
  try clear hcz13_3
  try clear hcz13_4
  try clear hcz13_5
  try clear hcz13_6
  try clear hcz13_7
  try clear hcz13_8
  try clear hcz13_9
  try clear hfz10_0
  try clear hfz10_1
  try clear hfz10_10
  try clear hfz10_11
  try clear hfz10_2
  try clear hfz10_3
  try clear hfz10_4
  try clear hfz10_5
  try clear hfz10_6
  try clear hfz10_7
  try clear hfz10_8
  try clear hfz10_9
  try clear hfz11_0
  try clear hfz11_1
  try clear hfz11_10
  try clear hfz11_11
  try clear hfz11_2
  try clear hfz11_3
  try clear hfz11_4
  try clear hfz11_5
  try clear hfz11_6
  try clear hfz11_7
  try clear hfz11_8
  try clear hfz11_9
  try clear hfz12_0
  try clear hfz12_1
  try clear hfz12_10
  try clear hfz12_11
  try clear hfz12_2
  try clear hfz12_3
  try clear hfz12_4
  try clear hfz12_5
  try clear hfz12_6
  try clear hfz12_7
  try clear hfz12_8
  try clear hfz12_9
  try clear hfz13_0
  try clear hfz13_1
  try clear hfz13_10
  try clear hfz13_11
  try clear hfz13_2
  try clear hfz13_3
  try clear hfz13_4
  try clear hfz13_5
  try clear hfz13_6
  try clear hfz13_7
  try clear hfz13_8
  try clear hfz13_9
  obtain ⟨kq,x27_1,rfl,HA,HJ1,BK184,HB⟩:=hcut
  cases kq with
  | zero => exact absurd HA.out (by simp [spec_MessageOk.j0])
  | succ kj1 =>
   have H:=HA.out;clear HA;simp only [spec_MessageOk.j0] at H
   by_cases c14 : x27_1 = true
   ·subst c14
    rw [if_pos rfl] at H;obtain rfl:=Option.some.inj H;go_wp2;go_ret;exact ⟨ex_,bq_ HB⟩
   ·replace c14:=Bool.eq_false_iff.mpr c14;subst c14
    have H1 : ((spec_l01In.f a0_3 0 100000).bind fun t188 => (if t188 = true then ((spec_l01In.f a0_5 0 100000).bind fun t189 => (if t189 = true then ((spec_l01In.f a0_4 0 100000).bind fun t190 => (if t190 = true then ((spec_l01In.f a0_6 0 100000).bind fun t191 => (spec_MessageOk.j1 kj1 (!t191) a0_0 a0_1 a0_2 a0_3 a0_4 a0_5 a0_6 a0_7 l0_8 l0_9 a0_10 a0_11)) else (spec_MessageOk.j1 kj1 true a0_0 a0_1 a0_2 a0_3 a0_4 a0_5 a0_6 a0_7 l0_8 l0_9 a0_10 a0_11))) else (spec_MessageOk.j1 kj1 true a0_0 a0_1 a0_2 a0_3 a0_4 a0_5 a0_6 a0_7 l0_8 l0_9 a0_10 a0_11))) else (spec_MessageOk.j1 kj1 true a0_0 a0_1 a0_2 a0_3 a0_4 a0_5 a0_6 a0_7 l0_8 l0_9 a0_10 a0_11))) = some r:=by rw [if_neg (show ¬ (false = true) by decide)] at H;exact H
    clear H;have H:=H1;clear H1;have HC15:=A_ H;clear H
    go_upto_region 3 with (fail)
    go_cut [49] (fun v49 wc => ∃ (kq : Nat) (x49_14 : Bool),v49 = .bool x49_14 ∧ Aside0 (spec_MessageOk.j1 kq x49_14 a0_0 a0_1 a0_2 a0_3 a0_4 a0_5 a0_6 a0_7 l0_8 l0_9 a0_10 a0_11 = some r) ∧ Aside0 (kq ≤ kj1) ∧ Aside0 (wc.heap[gb184]? = some (.cells #[.int .i64 a0_0,.int .i64 a0_1,.int .i64 a0_2,.int .i64 a0_3,.int .i64 a0_4,.int .i64 a0_5,.int .i64 a0_6,.bool a0_7,(.slice A0_8 l0_8.length c0_8),(.slice A0_9 l0_9.length c0_9),.string a0_10,.bool a0_11] 41 (0,0))) ∧ Aside0 (Below w.heap.size w wc))
    case first =>
     have H:=HC15.out;clear HC15;replace H:=ob_.mp H;obtain ⟨t188,A160,H⟩:=H;(try dsimp only at H);have A16:=A_ A160;clear A160
     by_cases c17 : t188 = true
     ·subst c17
      rw [if_pos rfl] at H;replace H:=ob_.mp H;obtain ⟨t189,A180,H⟩:=H;(try dsimp only at H);have A18:=A_ A180;clear A180
      by_cases c19 : t189 = true
      ·subst c19
       rw [if_pos rfl] at H;replace H:=ob_.mp H;obtain ⟨t190,A200,H⟩:=H;(try dsimp only at H);have A20:=A_ A200;clear A200
       by_cases c21 : t190 = true
       ·subst c21
        rw [if_pos rfl] at H;replace H:=ob_.mp H;obtain ⟨t191,A220,H⟩:=H;(try dsimp only at H);have A22:=A_ A220;clear A220;have H':=A_ H;clear H;obtain ⟨hcz23_0,hcz23_1,hcz23_2,hcz23_3,hcz23_4,hcz23_5,hcz23_6,hcz23_7,hcz23_8,hcz23_9,hcz23_10,hcz23_11,hfz23_0,hfz23_1,hfz23_2,hfz23_3,hfz23_4,hfz23_5,hfz23_6,hfz23_7,hfz23_8,hfz23_9,hfz23_10,hfz23_11⟩:=k12f_ BK184
        go_wp2_with (first|((with_reducible refine gate_callee (f:=81) rfl ?_);refine gL_ (some 30) Try.func81 #[.int .i64 a0_3,.int .i64 0,.int .i64 100000] ?_;(with_reducible refine (spec_l01In.calls a0_3 0 100000 true _ A16.out).mono ?_);rintro e w' ⟨rfl,⟨nd,rfl⟩⟩;refine ⟨_,rfl,?_⟩)|(go_at_call 81;(with_reducible refine (spec_l01In.calls a0_5 0 100000 true _ A18.out).mono ?_);rintro e w' ⟨rfl,⟨nd,rfl⟩⟩)|(go_at_call 81;(with_reducible refine (spec_l01In.calls a0_4 0 100000 true _ A20.out).mono ?_);rintro e w' ⟨rfl,⟨nd,rfl⟩⟩)|(go_at_call 81;(with_reducible refine (spec_l01In.calls a0_6 0 100000 t191 _ A22.out).mono ?_);rintro e w' ⟨rfl,⟨nd,rfl⟩⟩))
        go_meet
        case rel => exact ⟨_,(!t191),(by first|rfl|(simp;done)|(simp [*];done)),H',⟨by have:=HJ1.out;first|omega|exact Nat.le_refl _⟩,⟨kq_ BK184⟩,⟨bq_ HB⟩⟩
       ·replace c21:=Bool.eq_false_iff.mpr c21;subst c21
        have H1 : (spec_MessageOk.j1 kj1 true a0_0 a0_1 a0_2 a0_3 a0_4 a0_5 a0_6 a0_7 l0_8 l0_9 a0_10 a0_11) = some r:=by rw [if_neg (show ¬ (false = true) by decide)] at H;exact H
        clear H;have H:=H1;clear H1;have H':=A_ H;clear H;obtain ⟨hcz24_0,hcz24_1,hcz24_2,hcz24_3,hcz24_4,hcz24_5,hcz24_6,hcz24_7,hcz24_8,hcz24_9,hcz24_10,hcz24_11,hfz24_0,hfz24_1,hfz24_2,hfz24_3,hfz24_4,hfz24_5,hfz24_6,hfz24_7,hfz24_8,hfz24_9,hfz24_10,hfz24_11⟩:=k12f_ BK184
        go_wp2_with (first|((with_reducible refine gate_callee (f:=81) rfl ?_);refine gL_ (some 30) Try.func81 #[.int .i64 a0_3,.int .i64 0,.int .i64 100000] ?_;(with_reducible refine (spec_l01In.calls a0_3 0 100000 true _ A16.out).mono ?_);rintro e w' ⟨rfl,⟨nd,rfl⟩⟩;refine ⟨_,rfl,?_⟩)|(go_at_call 81;(with_reducible refine (spec_l01In.calls a0_5 0 100000 true _ A18.out).mono ?_);rintro e w' ⟨rfl,⟨nd,rfl⟩⟩)|(go_at_call 81;(with_reducible refine (spec_l01In.calls a0_4 0 100000 false _ A20.out).mono ?_);rintro e w' ⟨rfl,⟨nd,rfl⟩⟩))
        go_meet
        case rel => exact ⟨_,(true),(by first|rfl|(simp;done)|(simp [*];done)),H',⟨by have:=HJ1.out;first|omega|exact Nat.le_refl _⟩,⟨kq_ BK184⟩,⟨bq_ HB⟩⟩
      ·replace c19:=Bool.eq_false_iff.mpr c19;subst c19
       have H1 : (spec_MessageOk.j1 kj1 true a0_0 a0_1 a0_2 a0_3 a0_4 a0_5 a0_6 a0_7 l0_8 l0_9 a0_10 a0_11) = some r:=by rw [if_neg (show ¬ (false = true) by decide)] at H;exact H
       clear H;have H:=H1;clear H1;have H':=A_ H;clear H;obtain ⟨hcz25_0,hcz25_1,hcz25_2,hcz25_3,hcz25_4,hcz25_5,hcz25_6,hcz25_7,hcz25_8,hcz25_9,hcz25_10,hcz25_11,hfz25_0,hfz25_1,hfz25_2,hfz25_3,hfz25_4,hfz25_5,hfz25_6,hfz25_7,hfz25_8,hfz25_9,hfz25_10,hfz25_11⟩:=k12f_ BK184
       go_wp2_with (first|((with_reducible refine gate_callee (f:=81) rfl ?_);refine gL_ (some 30) Try.func81 #[.int .i64 a0_3,.int .i64 0,.int .i64 100000] ?_;(with_reducible refine (spec_l01In.calls a0_3 0 100000 true _ A16.out).mono ?_);rintro e w' ⟨rfl,⟨nd,rfl⟩⟩;refine ⟨_,rfl,?_⟩)|(go_at_call 81;(with_reducible refine (spec_l01In.calls a0_5 0 100000 false _ A18.out).mono ?_);rintro e w' ⟨rfl,⟨nd,rfl⟩⟩))
       go_meet
       case rel => exact ⟨_,(true),(by first|rfl|(simp;done)|(simp [*];done)),H',⟨by have:=HJ1.out;first|omega|exact Nat.le_refl _⟩,⟨kq_ BK184⟩,⟨bq_ HB⟩⟩
     ·replace c17:=Bool.eq_false_iff.mpr c17;subst c17
      have H1 : (spec_MessageOk.j1 kj1 true a0_0 a0_1 a0_2 a0_3 a0_4 a0_5 a0_6 a0_7 l0_8 l0_9 a0_10 a0_11) = some r:=by rw [if_neg (show ¬ (false = true) by decide)] at H;exact H
      clear H;have H:=H1;clear H1;have H':=A_ H;clear H;obtain ⟨hcz26_0,hcz26_1,hcz26_2,hcz26_3,hcz26_4,hcz26_5,hcz26_6,hcz26_7,hcz26_8,hcz26_9,hcz26_10,hcz26_11,hfz26_0,hfz26_1,hfz26_2,hfz26_3,hfz26_4,hfz26_5,hfz26_6,hfz26_7,hfz26_8,hfz26_9,hfz26_10,hfz26_11⟩:=k12f_ BK184
      go_wp2_with (first|((with_reducible refine gate_callee (f:=81) rfl ?_);refine gL_ (some 30) Try.func81 #[.int .i64 a0_3,.int .i64 0,.int .i64 100000] ?_;(with_reducible refine (spec_l01In.calls a0_3 0 100000 false _ A16.out).mono ?_);rintro e w' ⟨rfl,⟨nd,rfl⟩⟩;refine ⟨_,rfl,?_⟩))
      go_meet
      case rel => exact ⟨_,(true),(by first|rfl|(simp;done)|(simp [*];done)),H',⟨by have:=HJ1.out;first|omega|exact Nat.le_refl _⟩,⟨kq_ BK184⟩,⟨bq_ HB⟩⟩
    case rest =>
     clear HC15
     try clear c1
     try clear c2
     try clear p2
     try clear c5
     try clear c7
     try clear c8
     try clear c9
     try clear c14
     try clear c17
     try clear c19
     try clear c21
     try clear hcz10_0
     try clear hcz10_1
     try clear hcz10_10
     try clear hcz10_11
     try clear hcz10_2
     try clear hcz10_3
     try clear hcz10_4
     try clear hcz10_5
     try clear hcz10_6
     try clear hcz10_7
     try clear hcz10_8
     try clear hcz10_9
     try clear hcz11_0
     try clear hcz11_1
     try clear hcz11_10
     try clear hcz11_11
     try clear hcz11_2
     try clear hcz11_3
     try clear hcz11_4
     try clear hcz11_5
     try clear hcz11_6
     try clear hcz11_7
     try clear hcz11_8
     try clear hcz11_9
     try clear hcz12_0
     try clear hcz12_1
     try clear hcz12_10
     try clear hcz12_11
     try clear hcz12_2
     try clear hcz12_3
     try clear hcz12_4
     try clear hcz12_5
     try clear hcz12_6
     try clear hcz12_7
     try clear hcz12_8
     try clear hcz12_9
     try clear hcz13_0
     try clear hcz13_1
     try clear hcz13_10
     try clear hcz13_11
     try clear hcz13_2
     try clear hcz13_3
     try clear hcz13_4
     try clear hcz13_5
     try clear hcz13_6
     try clear hcz13_7
     try clear hcz13_8
     try clear hcz13_9
     try clear hcz23_0
     try clear hcz23_1
     try clear hcz23_10
     try clear hcz23_11
     try clear hcz23_2
     try clear hcz23_3
     try clear hcz23_4
     try clear hcz23_5
     try clear hcz23_6
     try clear hcz23_7
     try clear hcz23_8
     try clear hcz23_9
     try clear hcz24_0
     try clear hcz24_1
     try clear hcz24_10
     try clear hcz24_11
     try clear hcz24_2
     try clear hcz24_3
     try clear hcz24_4
     try clear hcz24_5
     try clear hcz24_6
     try clear hcz24_7
     try clear hcz24_8
     try clear hcz24_9
     try clear hcz25_0
     try clear hcz25_1
     try clear hcz25_10
     try clear hcz25_11
     try clear hcz25_2
     try clear hcz25_3
     try clear hcz25_4
     try clear hcz25_5
     try clear hcz25_6
     try clear hcz25_7
     try clear hcz25_8
     try clear hcz25_9
     try clear hcz26_0
     try clear hcz26_1
     try clear hcz26_10
     try clear hcz26_11
     try clear hcz26_2
     try clear hcz26_3
     try clear hcz26_4
     try clear hcz26_5
     try clear hcz26_6
     try clear hcz26_7
     try clear hcz26_8
     try clear hcz26_9
     try clear hfz10_0
     try clear hfz10_1
     try clear hfz10_10
     try clear hfz10_11
     try clear hfz10_2
     try clear hfz10_3
     try clear hfz10_4
     try clear hfz10_5
     try clear hfz10_6
     try clear hfz10_7
     try clear hfz10_8
     try clear hfz10_9
     try clear hfz11_0
     try clear hfz11_1
     try clear hfz11_10
     try clear hfz11_11
     try clear hfz11_2
     try clear hfz11_3
     try clear hfz11_4
     try clear hfz11_5
     try clear hfz11_6
     try clear hfz11_7
     try clear hfz11_8
     try clear hfz11_9
     try clear hfz12_0
     try clear hfz12_1
     try clear hfz12_10
     try clear hfz12_11
     try clear hfz12_2
     try clear hfz12_3
     try clear hfz12_4
     try clear hfz12_5
     try clear hfz12_6
     try clear hfz12_7
     try clear hfz12_8
     try clear hfz12_9
     try clear hfz13_0
     try clear hfz13_1
     try clear hfz13_10
     try clear hfz13_11
     try clear hfz13_2
     try clear hfz13_3
     try clear hfz13_4
     try clear hfz13_5
     try clear hfz13_6
     try clear hfz13_7
     try clear hfz13_8
     try clear hfz13_9
     try clear hfz23_0
     try clear hfz23_1
     try clear hfz23_10
     try clear hfz23_11
     try clear hfz23_2
     try clear hfz23_3
     try clear hfz23_4
     try clear hfz23_5
     try clear hfz23_6
     try clear hfz23_7
     try clear hfz23_8
     try clear hfz23_9
     try clear hfz24_0
     try clear hfz24_1
     try clear hfz24_10
     try clear hfz24_11
     try clear hfz24_2
     try clear hfz24_3
     try clear hfz24_4
     try clear hfz24_5
     try clear hfz24_6
     try clear hfz24_7
     try clear hfz24_8
     try clear hfz24_9
     try clear hfz25_0
     try clear hfz25_1
     try clear hfz25_10
     try clear hfz25_11
     try clear hfz25_2
     try clear hfz25_3
     try clear hfz25_4
     try clear hfz25_5
     try clear hfz25_6
     try clear hfz25_7
     try clear hfz25_8
     try clear hfz25_9
     try clear hfz26_0
     try clear hfz26_1
     try clear hfz26_10
     try clear hfz26_11
     try clear hfz26_2
     try clear hfz26_3
     try clear hfz26_4
     try clear hfz26_5
     try clear hfz26_6
     try clear hfz26_7
     try clear hfz26_8
     try clear hfz26_9
     try clear p2
     obtain ⟨kq,x49_14,rfl,HA,HJ14,BK184,HB⟩:=hcut
     cases kq with
     | zero => exact absurd HA.out (by simp [spec_MessageOk.j1])
     | succ kj14 =>
      have H:=HA.out;clear HA;simp only [spec_MessageOk.j1] at H
      by_cases c27 : x49_14 = true
      ·subst c27
       rw [if_pos rfl] at H;obtain rfl:=Option.some.inj H;go_wp2;go_ret;exact ⟨ex_,bq_ HB⟩
      ·replace c27:=Bool.eq_false_iff.mpr c27;subst c27
       have H1 : (if (l0_8.length : Int) > 4 then (spec_MessageOk.j2 kj14 true a0_0 a0_1 a0_2 a0_3 a0_4 a0_5 a0_6 a0_7 l0_8 l0_9 a0_10 a0_11) else (if (l0_8.length : Int) > 0 then (spec_MessageOk.j2 kj14 (a0_0 != 3) a0_0 a0_1 a0_2 a0_3 a0_4 a0_5 a0_6 a0_7 l0_8 l0_9 a0_10 a0_11) else (spec_MessageOk.j2 kj14 false a0_0 a0_1 a0_2 a0_3 a0_4 a0_5 a0_6 a0_7 l0_8 l0_9 a0_10 a0_11))) = some r:=by rw [if_neg (show ¬ (false = true) by decide)] at H;exact H
       clear H;have H:=H1;clear H1;have HC28:=A_ H;clear H
       go_upto_region 5 with (fail)
       go_cut [64] (fun v64 wc => ∃ (kq : Nat) (x64_27 : Bool),v64 = .bool x64_27 ∧ Aside0 (spec_MessageOk.j2 kq x64_27 a0_0 a0_1 a0_2 a0_3 a0_4 a0_5 a0_6 a0_7 l0_8 l0_9 a0_10 a0_11 = some r) ∧ Aside0 (kq ≤ kj14) ∧ Aside0 (wc.heap[gb184]? = some (.cells #[.int .i64 a0_0,.int .i64 a0_1,.int .i64 a0_2,.int .i64 a0_3,.int .i64 a0_4,.int .i64 a0_5,.int .i64 a0_6,.bool a0_7,(.slice A0_8 l0_8.length c0_8),(.slice A0_9 l0_9.length c0_9),.string a0_10,.bool a0_11] 41 (0,0))) ∧ Aside0 (Below w.heap.size w wc))
       case first =>
        have H:=HC28.out;clear HC28
        by_cases c29 : (l0_8.length : Int) > 4
        ·rw [if_pos c29] at H;have c29b0 : decide (4 < (l0_8.length : Int)) = true:=de_ c29;have c29b1 : decide (4 < l0_8.length) = true:=de_ (by omega);clear c29
         (first|rw [c29b0]|(simp only [i64_w,i32_w];rw [c29b0])|skip)
         have H':=A_ H;clear H;obtain ⟨hcz30_0,hcz30_1,hcz30_2,hcz30_3,hcz30_4,hcz30_5,hcz30_6,hcz30_7,hcz30_8,hcz30_9,hcz30_10,hcz30_11,hfz30_0,hfz30_1,hfz30_2,hfz30_3,hfz30_4,hfz30_5,hfz30_6,hfz30_7,hfz30_8,hfz30_9,hfz30_10,hfz30_11⟩:=k12f_ BK184;go_wp2
         go_meet
         case rel => exact ⟨_,(true),(by first|rfl|(simp;done)|(simp [*];done)),H',⟨by have:=HJ1.out;have:=HJ14.out;first|omega|exact Nat.le_refl _⟩,⟨kq_ BK184⟩,⟨bq_ HB⟩⟩
        ·rw [if_neg c29] at H;have c29b0 : decide (4 < (l0_8.length : Int)) = false:=decide_eq_false c29;have c29b1 : decide (4 < l0_8.length) = false:=decide_eq_false (by omega);clear c29
         (first|rw [c29b0]|(simp only [i64_w,i32_w];rw [c29b0])|skip)
         by_cases c31 : (l0_8.length : Int) > 0
         ·rw [if_pos c31] at H;have c31b0 : decide (0 < (l0_8.length : Int)) = true:=de_ c31;have c31b1 : decide (0 < l0_8.length) = true:=de_ (by omega);clear c31;have H':=A_ H;clear H;obtain ⟨hcz32_0,hcz32_1,hcz32_2,hcz32_3,hcz32_4,hcz32_5,hcz32_6,hcz32_7,hcz32_8,hcz32_9,hcz32_10,hcz32_11,hfz32_0,hfz32_1,hfz32_2,hfz32_3,hfz32_4,hfz32_5,hfz32_6,hfz32_7,hfz32_8,hfz32_9,hfz32_10,hfz32_11⟩:=k12f_ BK184;go_wp2
          go_meet
          case rel => exact ⟨_,((a0_0 != 3)),(by first|rfl|(simp;done)|(simp [*];done)),H',⟨by have:=HJ1.out;have:=HJ14.out;first|omega|exact Nat.le_refl _⟩,⟨kq_ BK184⟩,⟨bq_ HB⟩⟩
         ·rw [if_neg c31] at H;have c31b0 : decide (0 < (l0_8.length : Int)) = false:=decide_eq_false c31;have c31b1 : decide (0 < l0_8.length) = false:=decide_eq_false (by omega);clear c31;have H':=A_ H;clear H;obtain ⟨hcz33_0,hcz33_1,hcz33_2,hcz33_3,hcz33_4,hcz33_5,hcz33_6,hcz33_7,hcz33_8,hcz33_9,hcz33_10,hcz33_11,hfz33_0,hfz33_1,hfz33_2,hfz33_3,hfz33_4,hfz33_5,hfz33_6,hfz33_7,hfz33_8,hfz33_9,hfz33_10,hfz33_11⟩:=k12f_ BK184;go_wp2
          go_meet
          case rel => exact ⟨_,(false),(by first|rfl|(simp;done)|(simp [*];done)),H',⟨by have:=HJ1.out;have:=HJ14.out;first|omega|exact Nat.le_refl _⟩,⟨kq_ BK184⟩,⟨bq_ HB⟩⟩
       case rest =>
        clear HC28
        try clear c1
        try clear c2
        try clear p2
        try clear c3
        try clear c5
        try clear c7
        try clear c8
        try clear c9
        try clear c14
        try clear c17
        try clear c19
        try clear c21
        try clear c27
        try clear c29
        try clear c29b0
        try clear c29b1
        try clear c31
        try clear c31b0
        try clear c31b1
        try clear hcz10_0
        try clear hcz10_1
        try clear hcz10_10
        try clear hcz10_11
        try clear hcz10_2
        try clear hcz10_3
        try clear hcz10_4
        try clear hcz10_5
        try clear hcz10_6
        try clear hcz10_7
        try clear hcz10_8
        try clear hcz10_9
        try clear hcz11_0
        try clear hcz11_1
        try clear hcz11_10
        try clear hcz11_11
        try clear hcz11_2
        try clear hcz11_3
        try clear hcz11_4
        try clear hcz11_5
        try clear hcz11_6
        try clear hcz11_7
        try clear hcz11_8
        try clear hcz11_9
        try clear hcz12_0
        try clear hcz12_1
        try clear hcz12_10
        try clear hcz12_11
        try clear hcz12_2
        try clear hcz12_3
        try clear hcz12_4
        try clear hcz12_5
        try clear hcz12_6
        try clear hcz12_7
        try clear hcz12_8
        try clear hcz12_9
        try clear hcz13_0
        try clear hcz13_1
        try clear hcz13_10
        try clear hcz13_11
        try clear hcz13_2
        try clear hcz13_3
        try clear hcz13_4
        try clear hcz13_5
        try clear hcz13_6
        try clear hcz13_7
        try clear hcz13_8
        try clear hcz13_9
        try clear hcz23_0
        try clear hcz23_1
        try clear hcz23_10
        try clear hcz23_11
        try clear hcz23_2
        try clear hcz23_3
        try clear hcz23_4
        try clear hcz23_5
        try clear hcz23_6
        try clear hcz23_7
        try clear hcz23_8
        try clear hcz23_9
        try clear hcz24_0
        try clear hcz24_1
        try clear hcz24_10
        try clear hcz24_11
        try clear hcz24_2
        try clear hcz24_3
        try clear hcz24_4
        try clear hcz24_5
        try clear hcz24_6
        try clear hcz24_7
        try clear hcz24_8
        try clear hcz24_9
        try clear hcz25_0
        try clear hcz25_1
        try clear hcz25_10
        try clear hcz25_11
        try clear hcz25_2
        try clear hcz25_3
        try clear hcz25_4
        try clear hcz25_5
        try clear hcz25_6
        try clear hcz25_7
        try clear hcz25_8
        try clear hcz25_9
        try clear hcz26_0
        try clear hcz26_1
        try clear hcz26_10
        try clear hcz26_11
        try clear hcz26_2
        try clear hcz26_3
        try clear hcz26_4
        try clear hcz26_5
        try clear hcz26_6
        try clear hcz26_7
        try clear hcz26_8
        try clear hcz26_9
        try clear hcz30_0
        try clear hcz30_1
        try clear hcz30_10
        try clear hcz30_11
        try clear hcz30_2
        try clear hcz30_3
        try clear hcz30_4
        try clear hcz30_5
        try clear hcz30_6
        try clear hcz30_7
        try clear hcz30_8
        try clear hcz30_9
        try clear hcz32_0
        try clear hcz32_1
        try clear hcz32_10
        try clear hcz32_11
        try clear hcz32_2
        try clear hcz32_3
        try clear hcz32_4
        try clear hcz32_5
        try clear hcz32_6
        try clear hcz32_7
        try clear hcz32_8
        try clear hcz32_9
        try clear hcz33_0
        try clear hcz33_1
        try clear hcz33_10
        try clear hcz33_11
        try clear hcz33_2
        try clear hcz33_3
        try clear hcz33_4
        try clear hcz33_5
        try clear hcz33_6
        try clear hcz33_7
        try clear hcz33_8
        try clear hcz33_9
        try clear hfz10_0
        try clear hfz10_1
        try clear hfz10_10
        try clear hfz10_11
        try clear hfz10_2
        try clear hfz10_3
        try clear hfz10_4
        try clear hfz10_5
        try clear hfz10_6
        try clear hfz10_7
        try clear hfz10_8
        try clear hfz10_9
        try clear hfz11_0
        try clear hfz11_1
        try clear hfz11_10
        try clear hfz11_11
        try clear hfz11_2
        try clear hfz11_3
        try clear hfz11_4
        try clear hfz11_5
        try clear hfz11_6
        try clear hfz11_7
        try clear hfz11_8
        try clear hfz11_9
        try clear hfz12_0
        try clear hfz12_1
        try clear hfz12_10
        try clear hfz12_11
        try clear hfz12_2
        try clear hfz12_3
        try clear hfz12_4
        try clear hfz12_5
        try clear hfz12_6
        try clear hfz12_7
        try clear hfz12_8
        try clear hfz12_9
        try clear hfz13_0
        try clear hfz13_1
        try clear hfz13_10
        try clear hfz13_11
        try clear hfz13_2
        try clear hfz13_3
        try clear hfz13_4
        try clear hfz13_5
        try clear hfz13_6
        try clear hfz13_7
        try clear hfz13_8
        try clear hfz13_9
        try clear hfz23_0
        try clear hfz23_1
        try clear hfz23_10
        try clear hfz23_11
        try clear hfz23_2
        try clear hfz23_3
        try clear hfz23_4
        try clear hfz23_5
        try clear hfz23_6
        try clear hfz23_7
        try clear hfz23_8
        try clear hfz23_9
        try clear hfz24_0
        try clear hfz24_1
        try clear hfz24_10
        try clear hfz24_11
        try clear hfz24_2
        try clear hfz24_3
        try clear hfz24_4
        try clear hfz24_5
        try clear hfz24_6
        try clear hfz24_7
        try clear hfz24_8
        try clear hfz24_9
        try clear hfz25_0
        try clear hfz25_1
        try clear hfz25_10
        try clear hfz25_11
        try clear hfz25_2
        try clear hfz25_3
        try clear hfz25_4
        try clear hfz25_5
        try clear hfz25_6
        try clear hfz25_7
        try clear hfz25_8
        try clear hfz25_9
        try clear hfz26_0
        try clear hfz26_1
        try clear hfz26_10
        try clear hfz26_11
        try clear hfz26_2
        try clear hfz26_3
        try clear hfz26_4
        try clear hfz26_5
        try clear hfz26_6
        try clear hfz26_7
        try clear hfz26_8
        try clear hfz26_9
        try clear hfz30_0
        try clear hfz30_1
        try clear hfz30_10
        try clear hfz30_11
        try clear hfz30_2
        try clear hfz30_3
        try clear hfz30_4
        try clear hfz30_5
        try clear hfz30_6
        try clear hfz30_7
        try clear hfz30_8
        try clear hfz30_9
        try clear hfz32_0
        try clear hfz32_1
        try clear hfz32_10
        try clear hfz32_11
        try clear hfz32_2
        try clear hfz32_3
        try clear hfz32_4
        try clear hfz32_5
        try clear hfz32_6
        try clear hfz32_7
        try clear hfz32_8
        try clear hfz32_9
        try clear hfz33_0
        try clear hfz33_1
        try clear hfz33_10
        try clear hfz33_11
        try clear hfz33_2
        try clear hfz33_3
        try clear hfz33_4
        try clear hfz33_5
        try clear hfz33_6
        try clear hfz33_7
        try clear hfz33_8
        try clear hfz33_9
        try clear p2
        obtain ⟨kq,x64_27,rfl,HA,HJ27,BK184,HB⟩:=hcut
        cases kq with
        | zero => exact absurd HA.out (by simp [spec_MessageOk.j2])
        | succ kj27 =>
         have H:=HA.out;clear HA;simp only [spec_MessageOk.j2] at H
         by_cases c34 : x64_27 = true
         ·subst c34
          rw [if_pos rfl] at H;obtain rfl:=Option.some.inj H;go_wp2;go_ret;exact ⟨ex_,bq_ HB⟩
         ·replace c34:=Bool.eq_false_iff.mpr c34;subst c34
          have H1 : (spec_MessageOk.l0 kj27 a0_5 0 a0_0 a0_1 a0_2 a0_3 a0_4 a0_5 a0_6 a0_7 l0_8 l0_9 a0_10 a0_11) = some r:=by rw [if_neg (show ¬ (false = true) by decide)] at H;exact H
          clear H;have H:=H1;clear H1;have H':=A_ H;clear H;obtain ⟨hcz35_0,hcz35_1,hcz35_2,hcz35_3,hcz35_4,hcz35_5,hcz35_6,hcz35_7,hcz35_8,hcz35_9,hcz35_10,hcz35_11,hfz35_0,hfz35_1,hfz35_2,hfz35_3,hfz35_4,hfz35_5,hfz35_6,hfz35_7,hfz35_8,hfz35_9,hfz35_10,hfz35_11⟩:=k12f_ BK184;go_wp2
          go_loopg [3,4] kj27 (fun kq v3 v4 w' => ∃ (x3_4 : Int) (x4_4 : Int),v3 = .int .i64 x3_4 ∧ v4 = .int .i64 x4_4 ∧ Aside0 (spec_MessageOk.l0 kq x3_4 x4_4 a0_0 a0_1 a0_2 a0_3 a0_4 a0_5 a0_6 a0_7 l0_8 l0_9 a0_10 a0_11 = some r) ∧ Aside0 (kq ≤ kj27) ∧ Aside0 (w'.heap[gb184]? = some (.cells #[.int .i64 a0_0,.int .i64 a0_1,.int .i64 a0_2,.int .i64 a0_3,.int .i64 a0_4,.int .i64 a0_5,.int .i64 a0_6,.bool a0_7,(.slice A0_8 l0_8.length c0_8),(.slice A0_9 l0_9.length c0_9),.string a0_10,.bool a0_11] 41 (0,0))) ∧ Aside0 (Below w.heap.size w w'))
          case atStart => exact ⟨(a0_5),(0),(by first|rfl|(simp;done)|(simp [*];done)),(by first|rfl|(simp;done)|(simp [*];done)),H',⟨Nat.le_refl _⟩,⟨kq_ BK184⟩,⟨bq_ HB⟩⟩
          case round =>
           clear H'
           try clear c1
           try clear c2
           try clear p2
           try clear c3
           try clear c5
           try clear c7
           try clear c8
           try clear c9
           try clear c14
           try clear c17
           try clear c19
           try clear c21
           try clear c27
           try clear c29
           try clear c29b0
           try clear c29b1
           try clear c31
           try clear c31b0
           try clear c31b1
           try clear c34
           try clear hcz10_0
           try clear hcz10_1
           try clear hcz10_10
           try clear hcz10_11
           try clear hcz10_2
           try clear hcz10_3
           try clear hcz10_4
           try clear hcz10_5
           try clear hcz10_6
           try clear hcz10_7
           try clear hcz10_8
           try clear hcz10_9
           try clear hcz11_0
           try clear hcz11_1
           try clear hcz11_10
           try clear hcz11_11
           try clear hcz11_2
           try clear hcz11_3
           try clear hcz11_4
           try clear hcz11_5
           try clear hcz11_6
           try clear hcz11_7
           try clear hcz11_8
           try clear hcz11_9
           try clear hcz12_0
           try clear hcz12_1
           try clear hcz12_10
           try clear hcz12_11
           try clear hcz12_2
           try clear hcz12_3
           try clear hcz12_4
           try clear hcz12_5
           try clear hcz12_6
           try clear hcz12_7
           try clear hcz12_8
           try clear hcz12_9
           try clear hcz13_0
           try clear hcz13_1
           try clear hcz13_10
           try clear hcz13_11
           try clear hcz13_2
           try clear hcz13_3
           try clear hcz13_4
           try clear hcz13_5
           try clear hcz13_6
           try clear hcz13_7
           try clear hcz13_8
           try clear hcz13_9
           try clear hcz23_0
           try clear hcz23_1
           try clear hcz23_10
           try clear hcz23_11
           try clear hcz23_2
           try clear hcz23_3
           try clear hcz23_4
           try clear hcz23_5
           try clear hcz23_6
           try clear hcz23_7
           try clear hcz23_8
           try clear hcz23_9
           try clear hcz24_0
           try clear hcz24_1
           try clear hcz24_10
           try clear hcz24_11
           try clear hcz24_2
           try clear hcz24_3
           try clear hcz24_4
           try clear hcz24_5
           try clear hcz24_6
           try clear hcz24_7
           try clear hcz24_8
           try clear hcz24_9
           try clear hcz25_0
           try clear hcz25_1
           try clear hcz25_10
           try clear hcz25_11
           try clear hcz25_2
           try clear hcz25_3
           try clear hcz25_4
           try clear hcz25_5
           try clear hcz25_6
           try clear hcz25_7
           try clear hcz25_8
           try clear hcz25_9
           try clear hcz26_0
           try clear hcz26_1
           try clear hcz26_10
           try clear hcz26_11
           try clear hcz26_2
           try clear hcz26_3
           try clear hcz26_4
           try clear hcz26_5
           try clear hcz26_6
           try clear hcz26_7
           try clear hcz26_8
           try clear hcz26_9
           try clear hcz30_0
           try clear hcz30_1
           try clear hcz30_10
           try clear hcz30_11
           try clear hcz30_2
           try clear hcz30_3
           try clear hcz30_4
           try clear hcz30_5
           try clear hcz30_6
           try clear hcz30_7
           try clear hcz30_8
           try clear hcz30_9
           try clear hcz32_0
           try clear hcz32_1
           try clear hcz32_10
           try clear hcz32_11
           try clear hcz32_2
           try clear hcz32_3
           try clear hcz32_4
           try clear hcz32_5
           try clear hcz32_6
           try clear hcz32_7
           try clear hcz32_8
           try clear hcz32_9
           try clear hcz33_0
           try clear hcz33_1
           try clear hcz33_10
           try clear hcz33_11
           try clear hcz33_2
           try clear hcz33_3
           try clear hcz33_4
           try clear hcz33_5
           try clear hcz33_6
           try clear hcz33_7
           try clear hcz33_8
           try clear hcz33_9
           try clear hcz35_0
           try clear hcz35_1
           try clear hcz35_10
           try clear hcz35_11
           try clear hcz35_2
           try clear hcz35_3
           try clear hcz35_4
           try clear hcz35_5
           try clear hcz35_6
           try clear hcz35_7
           try clear hcz35_8
           try clear hcz35_9
           try clear hfz10_0
           try clear hfz10_1
           try clear hfz10_10
           try clear hfz10_11
           try clear hfz10_2
           try clear hfz10_3
           try clear hfz10_4
           try clear hfz10_5
           try clear hfz10_6
           try clear hfz10_7
           try clear hfz10_8
           try clear hfz10_9
           try clear hfz11_0
           try clear hfz11_1
           try clear hfz11_10
           try clear hfz11_11
           try clear hfz11_2
           try clear hfz11_3
           try clear hfz11_4
           try clear hfz11_5
           try clear hfz11_6
           try clear hfz11_7
           try clear hfz11_8
           try clear hfz11_9
           try clear hfz12_0
           try clear hfz12_1
           try clear hfz12_10
           try clear hfz12_11
           try clear hfz12_2
           try clear hfz12_3
           try clear hfz12_4
           try clear hfz12_5
           try clear hfz12_6
           try clear hfz12_7
           try clear hfz12_8
           try clear hfz12_9
           try clear hfz13_0
           try clear hfz13_1
           try clear hfz13_10
           try clear hfz13_11
           try clear hfz13_2
           try clear hfz13_3
           try clear hfz13_4
           try clear hfz13_5
           try clear hfz13_6
           try clear hfz13_7
           try clear hfz13_8
           try clear hfz13_9
           try clear hfz23_0
           try clear hfz23_1
           try clear hfz23_10
           try clear hfz23_11
           try clear hfz23_2
           try clear hfz23_3
           try clear hfz23_4
           try clear hfz23_5
           try clear hfz23_6
           try clear hfz23_7
           try clear hfz23_8
           try clear hfz23_9
           try clear hfz24_0
           try clear hfz24_1
           try clear hfz24_10
           try clear hfz24_11
           try clear hfz24_2
           try clear hfz24_3
           try clear hfz24_4
           try clear hfz24_5
           try clear hfz24_6
           try clear hfz24_7
           try clear hfz24_8
           try clear hfz24_9
           try clear hfz25_0
           try clear hfz25_1
           try clear hfz25_10
           try clear hfz25_11
           try clear hfz25_2
           try clear hfz25_3
           try clear hfz25_4
           try clear hfz25_5
           try clear hfz25_6
           try clear hfz25_7
           try clear hfz25_8
           try clear hfz25_9
           try clear hfz26_0
           try clear hfz26_1
           try clear hfz26_10
           try clear hfz26_11
           try clear hfz26_2
           try clear hfz26_3
           try clear hfz26_4
           try clear hfz26_5
           try clear hfz26_6
           try clear hfz26_7
           try clear hfz26_8
           try clear hfz26_9
           try clear hfz30_0
           try clear hfz30_1
           try clear hfz30_10
           try clear hfz30_11
           try clear hfz30_2
           try clear hfz30_3
           try clear hfz30_4
           try clear hfz30_5
           try clear hfz30_6
           try clear hfz30_7
           try clear hfz30_8
           try clear hfz30_9
           try clear hfz32_0
           try clear hfz32_1
           try clear hfz32_10
           try clear hfz32_11
           try clear hfz32_2
           try clear hfz32_3
           try clear hfz32_4
           try clear hfz32_5
           try clear hfz32_6
           try clear hfz32_7
           try clear hfz32_8
           try clear hfz32_9
           try clear hfz33_0
           try clear hfz33_1
           try clear hfz33_10
           try clear hfz33_11
           try clear hfz33_2
           try clear hfz33_3
           try clear hfz33_4
           try clear hfz33_5
           try clear hfz33_6
           try clear hfz33_7
           try clear hfz33_8
           try clear hfz33_9
           try clear hfz35_0
           try clear hfz35_1
           try clear hfz35_10
           try clear hfz35_11
           try clear hfz35_2
           try clear hfz35_3
           try clear hfz35_4
           try clear hfz35_5
           try clear hfz35_6
           try clear hfz35_7
           try clear hfz35_8
           try clear hfz35_9
           try clear p2
           obtain ⟨x3_4,x4_4,rfl,rfl,HA,HK4,BK184,HB⟩:=hrel
           cases gk with
           | zero => exact absurd HA.out (by simp [spec_MessageOk.l0])
           | succ k4 =>
            have H:=HA.out;clear HA;simp only [spec_MessageOk.l0] at H
            by_cases c36 : x4_4 < (l0_8.length : Int)
            ·rw [if_pos c36] at H;have c36b0 : decide (x4_4 < (l0_8.length : Int)) = true:=de_ c36;clear c36
             by_cases c37 : 0 ≤ x4_4
             ·rw [if_pos c37] at H;have c37b0 : decide (0 ≤ x4_4) = true:=de_ c37;clear c37;replace H:=ob_.mp H;obtain ⟨t193,A380,H⟩:=H;(try dsimp only at H);have A38:=A_ A380;clear A380
              by_cases c39 : t193 = true
              ·subst c39
               rw [if_pos rfl] at H
               by_cases c40 : ((rd_T69 l0_8 x4_4).f0) < x3_4
               ·rw [if_pos c40] at H;have c40b0 : decide (((rd_T69 l0_8 x4_4).f0) < x3_4) = true:=de_ c40;clear c40;obtain rfl:=Option.some.inj H;obtain ⟨hcz41_0,hcz41_1,hcz41_2,hcz41_3,hcz41_4,hcz41_5,hcz41_6,hcz41_7,hcz41_8,hcz41_9,hcz41_10,hcz41_11,hfz41_0,hfz41_1,hfz41_2,hfz41_3,hfz41_4,hfz41_5,hfz41_6,hfz41_7,hfz41_8,hfz41_9,hfz41_10,hfz41_11⟩:=k12f_ BK184
                try go_wp2
                replace BK184:=A_ (kd_ BK184.out);replace HB:=A_ (pd_ HB.out);have p192 : 0 ≤ (x4_4 : Int):=oda_;have q192 : x4_4 < (l0_8.length : Int):=oda_;obtain ⟨ad192,e192,hx192_0,hx192_1,hx192_2⟩:=at_T69 HR0_8.out x4_4 p192 q192;have hw192_2:=hx192_2;have hw192_1:=hx192_1;have hw192_0:=hx192_0
                cases e192
                replace hx192_0:=(HB.out.cell (wb_ w _ hx192_0)).trans hx192_0;replace hx192_1:=(HB.out.cell (wb_ w _ hx192_1)).trans hx192_1;replace hx192_2:=(HB.out.cell (wb_ w _ hx192_2)).trans hx192_2;replace p192:=eq_true p192;replace q192:=eq_true q192;have p194 : 0 ≤ (x4_4 : Int):=oda_;have q194 : x4_4 < (l0_8.length : Int):=oda_;obtain ⟨ad194,e194,hx194_0,hx194_1,hx194_2⟩:=at_T69 HR0_8.out x4_4 p194 q194;have hw194_2:=hx194_2;have hw194_1:=hx194_1;have hw194_0:=hx194_0;obtain rfl : ad192 = ad194:=(by injection e194);replace hx194_0:=(HB.out.cell (wb_ w _ hx194_0)).trans hx194_0;replace hx194_1:=(HB.out.cell (wb_ w _ hx194_1)).trans hx194_1;replace hx194_2:=(HB.out.cell (wb_ w _ hx194_2)).trans hx194_2;replace p194:=eq_true p194;replace q194:=eq_true q194;refine start_ (n:=28) (S:=fun w' => w'.cell? ⟨gb184,0,none⟩ = some (.int .i64 a0_0) ∧ w'.cell? ⟨gb184,1,none⟩ = some (.int .i64 a0_1) ∧ w'.cell? ⟨gb184,2,none⟩ = some (.int .i64 a0_2) ∧ w'.cell? ⟨gb184,3,none⟩ = some (.int .i64 a0_3) ∧ w'.cell? ⟨gb184,4,none⟩ = some (.int .i64 a0_4) ∧ w'.cell? ⟨gb184,5,none⟩ = some (.int .i64 a0_5) ∧ w'.cell? ⟨gb184,6,none⟩ = some (.int .i64 a0_6) ∧ w'.cell? ⟨gb184,7,none⟩ = some (.bool a0_7) ∧ w'.cell? ⟨gb184,8,none⟩ = some (.slice (some ad192) l0_8.length c0_8) ∧ w'.cell? ⟨gb184,9,none⟩ = some (.slice A0_9 l0_9.length c0_9) ∧ w'.cell? ⟨gb184,10,none⟩ = some (.string a0_10) ∧ w'.cell? ⟨gb184,11,none⟩ = some (.bool a0_11) ∧ w'.cell? (ad192.add ((x4_4).toNat * 3)) = some (.int .i64 ((rd_T69 l0_8 x4_4).f0)) ∧ w'.cell? ⟨(ad192.add ((x4_4).toNat * 3)).block,(ad192.add ((x4_4).toNat * 3)).off + 1,none⟩ = some (.int .i64 ((rd_T69 l0_8 x4_4).f1)) ∧ w'.cell? ⟨(ad192.add ((x4_4).toNat * 3)).block,(ad192.add ((x4_4).toNat * 3)).off + 2,none⟩ = some (.string ((rd_T69 l0_8 x4_4).f2)) ∧ w'.cell? (ad192.add ((x4_4).toNat * 3)) = some (.int .i64 ((rd_T69 l0_8 x4_4).f0)) ∧ w'.cell? ⟨(ad192.add ((x4_4).toNat * 3)).block,(ad192.add ((x4_4).toNat * 3)).off + 1,none⟩ = some (.int .i64 ((rd_T69 l0_8 x4_4).f1)) ∧ w'.cell? ⟨(ad192.add ((x4_4).toNat * 3)).block,(ad192.add ((x4_4).toNat * 3)).off + 2,none⟩ = some (.string ((rd_T69 l0_8 x4_4).f2))) (ds:=[]) #[false,false,false,false,false,false,false,false,false,false,false,false,false,false,false,false,false,false,false,false,false,false,false,false,false,false,false,false] (by kernel_rfl) rfl rfl ⟨kC_ BK184 0,kC_ BK184 1,kC_ BK184 2,kC_ BK184 3,kC_ BK184 4,kC_ BK184 5,kC_ BK184 6,kC_ BK184 7,kC_ BK184 8,kC_ BK184 9,kC_ BK184 10,kC_ BK184 11,((HB.out.cell (wb_ w _ hw192_0)).trans hw192_0),((HB.out.cell (wb_ w _ hw192_1)).trans hw192_1),((HB.out.cell (wb_ w _ hw192_2)).trans hw192_2),((HB.out.cell (wb_ w _ hw194_0)).trans hw194_0),((HB.out.cell (wb_ w _ hw194_1)).trans hw194_1),((HB.out.cell (wb_ w _ hw194_2)).trans hw194_2)⟩ (fun hHeld => ?_);refine with_tabW spec_MessageOk.tab11 spec_MessageOk.bits11 (fun HT_ HW_ => ?_);generalize wr.drew = w42 at BK184 HB hx192_0 hx192_1 hx192_2 hx194_0 hx194_1 hx194_2 hHeld ⊢;refine pU_ 0 (some 74) ?_
                refine pU_ 2 (some 76) ?_
                refine tK_ 1 (some 75) hHeld ?_
                refine pU_ 3 (some 77) ?_
                refine tK_ 4 (some 78) hHeld ?_
                refine oN_ 5 (some 79) (fun K hK => ?_);refine gs_ Try.func82 #[.agg #[.int .i64 ((rd_T69 l0_8 x4_4).f0),.int .i64 ((rd_T69 l0_8 x4_4).f1),.string ((rd_T69 l0_8 x4_4).f2)]] ?_;with_reducible refine (spec_EntryOk.calls k4 ((rd_T69 l0_8 x4_4).f0) ((rd_T69 l0_8 x4_4).f1) ((rd_T69 l0_8 x4_4).f2) true _ A38.out).mono ?_;rintro e w43 ⟨rfl,hb⟩;refine ⟨_,rfl,?_⟩;replace BK184:=kB_ BK184 hb;replace HB:=bS_ HB hb
                (try clear hb)
                refine hK.out _ _ ⟨kC_ BK184 0,kC_ BK184 1,kC_ BK184 2,kC_ BK184 3,kC_ BK184 4,kC_ BK184 5,kC_ BK184 6,kC_ BK184 7,kC_ BK184 8,kC_ BK184 9,kC_ BK184 10,kC_ BK184 11,((HB.out.cell (wb_ w _ hw192_0)).trans hw192_0),((HB.out.cell (wb_ w _ hw192_1)).trans hw192_1),((HB.out.cell (wb_ w _ hw192_2)).trans hw192_2),((HB.out.cell (wb_ w _ hw194_0)).trans hw194_0),((HB.out.cell (wb_ w _ hw194_1)).trans hw194_1),((HB.out.cell (wb_ w _ hw194_2)).trans hw194_2)⟩ (fun hHeld => ?_);clear hK K;refine nX_ (some 79) ?_
                refine pU_ 6 (some 80) ?_
                refine pU_ 7 (some 81) ?_
                refine pU_ 8 (some 82) ?_
                refine pU_ 10 (some 84) ?_
                refine pU_ 14 (some 88) ?_
                refine tK_ 9 (some 83) hHeld ?_
                refine pU_ 11 (some 85) ?_
                refine pU_ 12 (some 86) ?_
                refine tK_ 13 (some 87) hHeld ?_
                refine pU_ 15 (some 89) ?_
                refine pU_ 16 (some 90) ?_
                refine pU_ 17 (some 91) ?_
                refine pure_ (i:=18) (N:=some 92) (v:=undef) (a':=?_) #[true,true,true,true,true,true,true,true,true,true,true,true,true,true,true,true,true,true,true,false,false,false,false,false,false,false,false,false] rfl rfl (any_of HT_.out (by kernel_rfl)) (fun _ _ _ h => h) (Or.inr ⟨by rfl,rfl⟩) ?_ ?_;rotate_left
                ·exact ux_
                refine pure_ (i:=19) (N:=some 93) (v:=undef) (a':=?_) #[true,true,true,true,true,true,true,true,true,true,true,true,true,true,true,true,true,true,true,true,false,false,false,false,false,false,false,false] rfl rfl (any_of HT_.out (by kernel_rfl)) (fun _ _ _ h => h) (Or.inr ⟨by rfl,rfl⟩) ?_ ?_;rotate_left
                ·exact ux_
                refine pure_ (i:=20) (N:=some 94) (v:=undef) (a':=?_) #[true,true,true,true,true,true,true,true,true,true,true,true,true,true,true,true,true,true,true,true,true,false,false,false,false,false,false,false] rfl rfl (any_of HT_.out (by kernel_rfl)) (fun _ _ _ h => h) (Or.inr ⟨by rfl,rfl⟩) ?_ ?_;rotate_left
                ·exact ux_
                refine pure_ (i:=21) (N:=some 95) (v:=undef) (a':=?_) #[true,true,true,true,true,true,true,true,true,true,true,true,true,true,true,true,true,true,true,true,true,true,false,false,false,false,false,false] rfl rfl (any_of HT_.out (by kernel_rfl)) (fun _ _ _ h => h) (Or.inr ⟨by rfl,rfl⟩) ?_ ?_;rotate_left
                ·exact ux_
                refine pure_ (i:=22) (N:=some 96) (v:=undef) (a':=?_) #[true,true,true,true,true,true,true,true,true,true,true,true,true,true,true,true,true,true,true,true,true,true,true,false,false,false,false,false] rfl rfl (any_of HT_.out (by kernel_rfl)) (fun _ _ _ h => h) (Or.inr ⟨by rfl,rfl⟩) ?_ ?_;rotate_left
                ·exact ux_
                refine pure_ (i:=23) (N:=some 97) (v:=undef) (a':=?_) #[true,true,true,true,true,true,true,true,true,true,true,true,true,true,true,true,true,true,true,true,true,true,true,true,false,false,false,false] rfl rfl (any_of HT_.out (by kernel_rfl)) (fun _ _ _ h => h) (Or.inr ⟨by rfl,rfl⟩) ?_ ?_;rotate_left
                ·exact ux_
                refine pure_ (i:=24) (N:=some 98) (v:=undef) (a':=?_) #[true,true,true,true,true,true,true,true,true,true,true,true,true,true,true,true,true,true,true,true,true,true,true,true,true,false,false,false] rfl rfl (any_of HT_.out (by kernel_rfl)) (fun _ _ _ h => h) (Or.inr ⟨by rfl,rfl⟩) ?_ ?_;rotate_left
                ·exact ux_
                refine pure_ (i:=25) (N:=some 99) (v:=undef) (a':=?_) #[true,true,true,true,true,true,true,true,true,true,true,true,true,true,true,true,true,true,true,true,true,true,true,true,true,true,false,false] rfl rfl (any_of HT_.out (by kernel_rfl)) (fun _ _ _ h => h) (Or.inr ⟨by rfl,rfl⟩) ?_ ?_;rotate_left
                ·exact ux_
                refine pure_ (i:=26) (N:=some 100) (v:=undef) (a':=?_) #[true,true,true,true,true,true,true,true,true,true,true,true,true,true,true,true,true,true,true,true,true,true,true,true,true,true,true,false] rfl rfl (any_of HT_.out (by kernel_rfl)) (fun _ _ _ h => h) (Or.inr ⟨by rfl,rfl⟩) ?_ ?_;rotate_left
                ·exact ux_
                refine pU_ 27 (some 101) ?_
                refine done_ (done_of HT_.out (by kernel_rfl)) ?_
                try go_wp2
                go_ret;exact ⟨ex_,bq_ HB⟩
               ·rw [if_neg c40] at H;have c40b0 : decide (((rd_T69 l0_8 x4_4).f0) < x3_4) = false:=decide_eq_false c40;clear c40
                by_cases c44 : ((rd_T69 l0_8 x4_4).f0) > a0_3
                ·rw [if_pos c44] at H;have c44b0 : decide (a0_3 < ((rd_T69 l0_8 x4_4).f0)) = true:=de_ c44;clear c44;obtain rfl:=Option.some.inj H;obtain ⟨hcz45_0,hcz45_1,hcz45_2,hcz45_3,hcz45_4,hcz45_5,hcz45_6,hcz45_7,hcz45_8,hcz45_9,hcz45_10,hcz45_11,hfz45_0,hfz45_1,hfz45_2,hfz45_3,hfz45_4,hfz45_5,hfz45_6,hfz45_7,hfz45_8,hfz45_9,hfz45_10,hfz45_11⟩:=k12f_ BK184
                 try go_wp2
                 replace BK184:=A_ (kd_ BK184.out);replace HB:=A_ (pd_ HB.out);have p192 : 0 ≤ (x4_4 : Int):=oda_;have q192 : x4_4 < (l0_8.length : Int):=oda_;obtain ⟨ad192,e192,hx192_0,hx192_1,hx192_2⟩:=at_T69 HR0_8.out x4_4 p192 q192;have hw192_2:=hx192_2;have hw192_1:=hx192_1;have hw192_0:=hx192_0
                 cases e192
                 replace hx192_0:=(HB.out.cell (wb_ w _ hx192_0)).trans hx192_0;replace hx192_1:=(HB.out.cell (wb_ w _ hx192_1)).trans hx192_1;replace hx192_2:=(HB.out.cell (wb_ w _ hx192_2)).trans hx192_2;replace p192:=eq_true p192;replace q192:=eq_true q192;have p194 : 0 ≤ (x4_4 : Int):=oda_;have q194 : x4_4 < (l0_8.length : Int):=oda_;obtain ⟨ad194,e194,hx194_0,hx194_1,hx194_2⟩:=at_T69 HR0_8.out x4_4 p194 q194;have hw194_2:=hx194_2;have hw194_1:=hx194_1;have hw194_0:=hx194_0;obtain rfl : ad192 = ad194:=(by injection e194);replace hx194_0:=(HB.out.cell (wb_ w _ hx194_0)).trans hx194_0;replace hx194_1:=(HB.out.cell (wb_ w _ hx194_1)).trans hx194_1;replace hx194_2:=(HB.out.cell (wb_ w _ hx194_2)).trans hx194_2;replace p194:=eq_true p194;replace q194:=eq_true q194;have p195 : 0 ≤ (x4_4 : Int):=oda_;have q195 : x4_4 < (l0_8.length : Int):=oda_;obtain ⟨ad195,e195,hx195_0,hx195_1,hx195_2⟩:=at_T69 HR0_8.out x4_4 p195 q195;have hw195_2:=hx195_2;have hw195_1:=hx195_1;have hw195_0:=hx195_0;obtain rfl : ad192 = ad195:=(by injection e195);replace hx195_0:=(HB.out.cell (wb_ w _ hx195_0)).trans hx195_0;replace hx195_1:=(HB.out.cell (wb_ w _ hx195_1)).trans hx195_1;replace hx195_2:=(HB.out.cell (wb_ w _ hx195_2)).trans hx195_2;replace p195:=eq_true p195;replace q195:=eq_true q195;refine start_ (n:=28) (S:=fun w' => w'.cell? ⟨gb184,0,none⟩ = some (.int .i64 a0_0) ∧ w'.cell? ⟨gb184,1,none⟩ = some (.int .i64 a0_1) ∧ w'.cell? ⟨gb184,2,none⟩ = some (.int .i64 a0_2) ∧ w'.cell? ⟨gb184,3,none⟩ = some (.int .i64 a0_3) ∧ w'.cell? ⟨gb184,4,none⟩ = some (.int .i64 a0_4) ∧ w'.cell? ⟨gb184,5,none⟩ = some (.int .i64 a0_5) ∧ w'.cell? ⟨gb184,6,none⟩ = some (.int .i64 a0_6) ∧ w'.cell? ⟨gb184,7,none⟩ = some (.bool a0_7) ∧ w'.cell? ⟨gb184,8,none⟩ = some (.slice (some ad192) l0_8.length c0_8) ∧ w'.cell? ⟨gb184,9,none⟩ = some (.slice A0_9 l0_9.length c0_9) ∧ w'.cell? ⟨gb184,10,none⟩ = some (.string a0_10) ∧ w'.cell? ⟨gb184,11,none⟩ = some (.bool a0_11) ∧ w'.cell? (ad192.add ((x4_4).toNat * 3)) = some (.int .i64 ((rd_T69 l0_8 x4_4).f0)) ∧ w'.cell? ⟨(ad192.add ((x4_4).toNat * 3)).block,(ad192.add ((x4_4).toNat * 3)).off + 1,none⟩ = some (.int .i64 ((rd_T69 l0_8 x4_4).f1)) ∧ w'.cell? ⟨(ad192.add ((x4_4).toNat * 3)).block,(ad192.add ((x4_4).toNat * 3)).off + 2,none⟩ = some (.string ((rd_T69 l0_8 x4_4).f2)) ∧ w'.cell? (ad192.add ((x4_4).toNat * 3)) = some (.int .i64 ((rd_T69 l0_8 x4_4).f0)) ∧ w'.cell? ⟨(ad192.add ((x4_4).toNat * 3)).block,(ad192.add ((x4_4).toNat * 3)).off + 1,none⟩ = some (.int .i64 ((rd_T69 l0_8 x4_4).f1)) ∧ w'.cell? ⟨(ad192.add ((x4_4).toNat * 3)).block,(ad192.add ((x4_4).toNat * 3)).off + 2,none⟩ = some (.string ((rd_T69 l0_8 x4_4).f2)) ∧ w'.cell? (ad192.add ((x4_4).toNat * 3)) = some (.int .i64 ((rd_T69 l0_8 x4_4).f0)) ∧ w'.cell? ⟨(ad192.add ((x4_4).toNat * 3)).block,(ad192.add ((x4_4).toNat * 3)).off + 1,none⟩ = some (.int .i64 ((rd_T69 l0_8 x4_4).f1)) ∧ w'.cell? ⟨(ad192.add ((x4_4).toNat * 3)).block,(ad192.add ((x4_4).toNat * 3)).off + 2,none⟩ = some (.string ((rd_T69 l0_8 x4_4).f2))) (ds:=[]) #[false,false,false,false,false,false,false,false,false,false,false,false,false,false,false,false,false,false,false,false,false,false,false,false,false,false,false,false] (by kernel_rfl) rfl rfl ⟨kC_ BK184 0,kC_ BK184 1,kC_ BK184 2,kC_ BK184 3,kC_ BK184 4,kC_ BK184 5,kC_ BK184 6,kC_ BK184 7,kC_ BK184 8,kC_ BK184 9,kC_ BK184 10,kC_ BK184 11,((HB.out.cell (wb_ w _ hw192_0)).trans hw192_0),((HB.out.cell (wb_ w _ hw192_1)).trans hw192_1),((HB.out.cell (wb_ w _ hw192_2)).trans hw192_2),((HB.out.cell (wb_ w _ hw194_0)).trans hw194_0),((HB.out.cell (wb_ w _ hw194_1)).trans hw194_1),((HB.out.cell (wb_ w _ hw194_2)).trans hw194_2),((HB.out.cell (wb_ w _ hw195_0)).trans hw195_0),((HB.out.cell (wb_ w _ hw195_1)).trans hw195_1),((HB.out.cell (wb_ w _ hw195_2)).trans hw195_2)⟩ (fun hHeld => ?_);refine with_tabW spec_MessageOk.tab11 spec_MessageOk.bits11 (fun HT_ HW_ => ?_);generalize wr.drew = w46 at BK184 HB hx192_0 hx192_1 hx192_2 hx194_0 hx194_1 hx194_2 hx195_0 hx195_1 hx195_2 hHeld ⊢;refine pU_ 0 (some 74) ?_
                 refine pU_ 2 (some 76) ?_
                 refine tK_ 1 (some 75) hHeld ?_
                 refine pU_ 3 (some 77) ?_
                 refine tK_ 4 (some 78) hHeld ?_
                 refine oN_ 5 (some 79) (fun K hK => ?_);refine gs_ Try.func82 #[.agg #[.int .i64 ((rd_T69 l0_8 x4_4).f0),.int .i64 ((rd_T69 l0_8 x4_4).f1),.string ((rd_T69 l0_8 x4_4).f2)]] ?_;with_reducible refine (spec_EntryOk.calls k4 ((rd_T69 l0_8 x4_4).f0) ((rd_T69 l0_8 x4_4).f1) ((rd_T69 l0_8 x4_4).f2) true _ A38.out).mono ?_;rintro e w47 ⟨rfl,hb⟩;refine ⟨_,rfl,?_⟩;replace BK184:=kB_ BK184 hb;replace HB:=bS_ HB hb
                 (try clear hb)
                 refine hK.out _ _ ⟨kC_ BK184 0,kC_ BK184 1,kC_ BK184 2,kC_ BK184 3,kC_ BK184 4,kC_ BK184 5,kC_ BK184 6,kC_ BK184 7,kC_ BK184 8,kC_ BK184 9,kC_ BK184 10,kC_ BK184 11,((HB.out.cell (wb_ w _ hw192_0)).trans hw192_0),((HB.out.cell (wb_ w _ hw192_1)).trans hw192_1),((HB.out.cell (wb_ w _ hw192_2)).trans hw192_2),((HB.out.cell (wb_ w _ hw194_0)).trans hw194_0),((HB.out.cell (wb_ w _ hw194_1)).trans hw194_1),((HB.out.cell (wb_ w _ hw194_2)).trans hw194_2),((HB.out.cell (wb_ w _ hw195_0)).trans hw195_0),((HB.out.cell (wb_ w _ hw195_1)).trans hw195_1),((HB.out.cell (wb_ w _ hw195_2)).trans hw195_2)⟩ (fun hHeld => ?_);clear hK K;refine nX_ (some 79) ?_
                 refine pU_ 6 (some 80) ?_
                 refine pU_ 7 (some 81) ?_
                 refine pU_ 8 (some 82) ?_
                 refine pU_ 10 (some 84) ?_
                 refine pU_ 14 (some 88) ?_
                 refine tK_ 9 (some 83) hHeld ?_
                 refine pU_ 11 (some 85) ?_
                 refine pU_ 12 (some 86) ?_
                 refine tK_ 13 (some 87) hHeld ?_
                 refine pU_ 15 (some 89) ?_
                 refine pU_ 16 (some 90) ?_
                 refine pU_ 17 (some 91) ?_
                 refine pU_ 18 (some 92) ?_
                 refine pU_ 20 (some 94) ?_
                 refine pU_ 24 (some 98) ?_
                 refine tK_ 19 (some 93) hHeld ?_
                 refine pU_ 21 (some 95) ?_
                 refine pU_ 22 (some 96) ?_
                 refine tK_ 23 (some 97) hHeld ?_
                 refine tK_ 25 (some 99) hHeld ?_
                 refine pU_ 26 (some 100) ?_
                 refine pU_ 27 (some 101) ?_
                 refine done_ (done_of HT_.out (by kernel_rfl)) ?_
                 try go_wp2
                 go_ret;exact ⟨ex_,bq_ HB⟩
                ·rw [if_neg c44] at H;have c44b0 : decide (a0_3 < ((rd_T69 l0_8 x4_4).f0)) = false:=decide_eq_false c44;clear c44;have H':=A_ H;clear H;obtain ⟨hcz48_0,hcz48_1,hcz48_2,hcz48_3,hcz48_4,hcz48_5,hcz48_6,hcz48_7,hcz48_8,hcz48_9,hcz48_10,hcz48_11,hfz48_0,hfz48_1,hfz48_2,hfz48_3,hfz48_4,hfz48_5,hfz48_6,hfz48_7,hfz48_8,hfz48_9,hfz48_10,hfz48_11⟩:=k12f_ BK184
                 try go_wp2
                 replace BK184:=A_ (kd_ BK184.out);replace HB:=A_ (pd_ HB.out);have p192 : 0 ≤ (x4_4 : Int):=oda_;have q192 : x4_4 < (l0_8.length : Int):=oda_;obtain ⟨ad192,e192,hx192_0,hx192_1,hx192_2⟩:=at_T69 HR0_8.out x4_4 p192 q192;have hw192_2:=hx192_2;have hw192_1:=hx192_1;have hw192_0:=hx192_0
                 cases e192
                 replace hx192_0:=(HB.out.cell (wb_ w _ hx192_0)).trans hx192_0;replace hx192_1:=(HB.out.cell (wb_ w _ hx192_1)).trans hx192_1;replace hx192_2:=(HB.out.cell (wb_ w _ hx192_2)).trans hx192_2;replace p192:=eq_true p192;replace q192:=eq_true q192;have p194 : 0 ≤ (x4_4 : Int):=oda_;have q194 : x4_4 < (l0_8.length : Int):=oda_;obtain ⟨ad194,e194,hx194_0,hx194_1,hx194_2⟩:=at_T69 HR0_8.out x4_4 p194 q194;have hw194_2:=hx194_2;have hw194_1:=hx194_1;have hw194_0:=hx194_0;obtain rfl : ad192 = ad194:=(by injection e194);replace hx194_0:=(HB.out.cell (wb_ w _ hx194_0)).trans hx194_0;replace hx194_1:=(HB.out.cell (wb_ w _ hx194_1)).trans hx194_1;replace hx194_2:=(HB.out.cell (wb_ w _ hx194_2)).trans hx194_2;replace p194:=eq_true p194;replace q194:=eq_true q194;have p195 : 0 ≤ (x4_4 : Int):=oda_;have q195 : x4_4 < (l0_8.length : Int):=oda_;obtain ⟨ad195,e195,hx195_0,hx195_1,hx195_2⟩:=at_T69 HR0_8.out x4_4 p195 q195;have hw195_2:=hx195_2;have hw195_1:=hx195_1;have hw195_0:=hx195_0;obtain rfl : ad192 = ad195:=(by injection e195);replace hx195_0:=(HB.out.cell (wb_ w _ hx195_0)).trans hx195_0;replace hx195_1:=(HB.out.cell (wb_ w _ hx195_1)).trans hx195_1;replace hx195_2:=(HB.out.cell (wb_ w _ hx195_2)).trans hx195_2;replace p195:=eq_true p195;replace q195:=eq_true q195;refine start_ (n:=28) (S:=fun w' => w'.cell? ⟨gb184,0,none⟩ = some (.int .i64 a0_0) ∧ w'.cell? ⟨gb184,1,none⟩ = some (.int .i64 a0_1) ∧ w'.cell? ⟨gb184,2,none⟩ = some (.int .i64 a0_2) ∧ w'.cell? ⟨gb184,3,none⟩ = some (.int .i64 a0_3) ∧ w'.cell? ⟨gb184,4,none⟩ = some (.int .i64 a0_4) ∧ w'.cell? ⟨gb184,5,none⟩ = some (.int .i64 a0_5) ∧ w'.cell? ⟨gb184,6,none⟩ = some (.int .i64 a0_6) ∧ w'.cell? ⟨gb184,7,none⟩ = some (.bool a0_7) ∧ w'.cell? ⟨gb184,8,none⟩ = some (.slice (some ad192) l0_8.length c0_8) ∧ w'.cell? ⟨gb184,9,none⟩ = some (.slice A0_9 l0_9.length c0_9) ∧ w'.cell? ⟨gb184,10,none⟩ = some (.string a0_10) ∧ w'.cell? ⟨gb184,11,none⟩ = some (.bool a0_11) ∧ w'.cell? (ad192.add ((x4_4).toNat * 3)) = some (.int .i64 ((rd_T69 l0_8 x4_4).f0)) ∧ w'.cell? ⟨(ad192.add ((x4_4).toNat * 3)).block,(ad192.add ((x4_4).toNat * 3)).off + 1,none⟩ = some (.int .i64 ((rd_T69 l0_8 x4_4).f1)) ∧ w'.cell? ⟨(ad192.add ((x4_4).toNat * 3)).block,(ad192.add ((x4_4).toNat * 3)).off + 2,none⟩ = some (.string ((rd_T69 l0_8 x4_4).f2)) ∧ w'.cell? (ad192.add ((x4_4).toNat * 3)) = some (.int .i64 ((rd_T69 l0_8 x4_4).f0)) ∧ w'.cell? ⟨(ad192.add ((x4_4).toNat * 3)).block,(ad192.add ((x4_4).toNat * 3)).off + 1,none⟩ = some (.int .i64 ((rd_T69 l0_8 x4_4).f1)) ∧ w'.cell? ⟨(ad192.add ((x4_4).toNat * 3)).block,(ad192.add ((x4_4).toNat * 3)).off + 2,none⟩ = some (.string ((rd_T69 l0_8 x4_4).f2)) ∧ w'.cell? (ad192.add ((x4_4).toNat * 3)) = some (.int .i64 ((rd_T69 l0_8 x4_4).f0)) ∧ w'.cell? ⟨(ad192.add ((x4_4).toNat * 3)).block,(ad192.add ((x4_4).toNat * 3)).off + 1,none⟩ = some (.int .i64 ((rd_T69 l0_8 x4_4).f1)) ∧ w'.cell? ⟨(ad192.add ((x4_4).toNat * 3)).block,(ad192.add ((x4_4).toNat * 3)).off + 2,none⟩ = some (.string ((rd_T69 l0_8 x4_4).f2))) (ds:=[]) #[false,false,false,false,false,false,false,false,false,false,false,false,false,false,false,false,false,false,false,false,false,false,false,false,false,false,false,false] (by kernel_rfl) rfl rfl ⟨kC_ BK184 0,kC_ BK184 1,kC_ BK184 2,kC_ BK184 3,kC_ BK184 4,kC_ BK184 5,kC_ BK184 6,kC_ BK184 7,kC_ BK184 8,kC_ BK184 9,kC_ BK184 10,kC_ BK184 11,((HB.out.cell (wb_ w _ hw192_0)).trans hw192_0),((HB.out.cell (wb_ w _ hw192_1)).trans hw192_1),((HB.out.cell (wb_ w _ hw192_2)).trans hw192_2),((HB.out.cell (wb_ w _ hw194_0)).trans hw194_0),((HB.out.cell (wb_ w _ hw194_1)).trans hw194_1),((HB.out.cell (wb_ w _ hw194_2)).trans hw194_2),((HB.out.cell (wb_ w _ hw195_0)).trans hw195_0),((HB.out.cell (wb_ w _ hw195_1)).trans hw195_1),((HB.out.cell (wb_ w _ hw195_2)).trans hw195_2)⟩ (fun hHeld => ?_);refine with_tabW spec_MessageOk.tab11 spec_MessageOk.bits11 (fun HT_ HW_ => ?_);generalize wr.drew = w49 at BK184 HB hx192_0 hx192_1 hx192_2 hx194_0 hx194_1 hx194_2 hx195_0 hx195_1 hx195_2 hHeld ⊢;refine pU_ 0 (some 74) ?_
                 refine pU_ 2 (some 76) ?_
                 refine tK_ 1 (some 75) hHeld ?_
                 refine pU_ 3 (some 77) ?_
                 refine tK_ 4 (some 78) hHeld ?_
                 refine oN_ 5 (some 79) (fun K hK => ?_);refine gs_ Try.func82 #[.agg #[.int .i64 ((rd_T69 l0_8 x4_4).f0),.int .i64 ((rd_T69 l0_8 x4_4).f1),.string ((rd_T69 l0_8 x4_4).f2)]] ?_;with_reducible refine (spec_EntryOk.calls k4 ((rd_T69 l0_8 x4_4).f0) ((rd_T69 l0_8 x4_4).f1) ((rd_T69 l0_8 x4_4).f2) true _ A38.out).mono ?_;rintro e w50 ⟨rfl,hb⟩;refine ⟨_,rfl,?_⟩;replace BK184:=kB_ BK184 hb;replace HB:=bS_ HB hb
                 (try clear hb)
                 refine hK.out _ _ ⟨kC_ BK184 0,kC_ BK184 1,kC_ BK184 2,kC_ BK184 3,kC_ BK184 4,kC_ BK184 5,kC_ BK184 6,kC_ BK184 7,kC_ BK184 8,kC_ BK184 9,kC_ BK184 10,kC_ BK184 11,((HB.out.cell (wb_ w _ hw192_0)).trans hw192_0),((HB.out.cell (wb_ w _ hw192_1)).trans hw192_1),((HB.out.cell (wb_ w _ hw192_2)).trans hw192_2),((HB.out.cell (wb_ w _ hw194_0)).trans hw194_0),((HB.out.cell (wb_ w _ hw194_1)).trans hw194_1),((HB.out.cell (wb_ w _ hw194_2)).trans hw194_2),((HB.out.cell (wb_ w _ hw195_0)).trans hw195_0),((HB.out.cell (wb_ w _ hw195_1)).trans hw195_1),((HB.out.cell (wb_ w _ hw195_2)).trans hw195_2)⟩ (fun hHeld => ?_);clear hK K;refine nX_ (some 79) ?_
                 refine pU_ 6 (some 80) ?_
                 refine pU_ 7 (some 81) ?_
                 refine pU_ 8 (some 82) ?_
                 refine pU_ 10 (some 84) ?_
                 refine pU_ 14 (some 88) ?_
                 refine tK_ 9 (some 83) hHeld ?_
                 refine pU_ 11 (some 85) ?_
                 refine pU_ 12 (some 86) ?_
                 refine tK_ 13 (some 87) hHeld ?_
                 refine pU_ 15 (some 89) ?_
                 refine pU_ 16 (some 90) ?_
                 refine pU_ 17 (some 91) ?_
                 refine pU_ 18 (some 92) ?_
                 refine pU_ 20 (some 94) ?_
                 refine pU_ 24 (some 98) ?_
                 refine tK_ 19 (some 93) hHeld ?_
                 refine pU_ 21 (some 95) ?_
                 refine pU_ 22 (some 96) ?_
                 refine tK_ 23 (some 97) hHeld ?_
                 refine tK_ 25 (some 99) hHeld ?_
                 refine pU_ 26 (some 100) ?_
                 refine pU_ 27 (some 101) ?_
                 refine done_ (done_of HT_.out (by kernel_rfl)) ?_;obtain ⟨hcz51_0,hcz51_1,hcz51_2,hcz51_3,hcz51_4,hcz51_5,hcz51_6,hcz51_7,hcz51_8,hcz51_9,hcz51_10,hcz51_11,hfz51_0,hfz51_1,hfz51_2,hfz51_3,hfz51_4,hfz51_5,hfz51_6,hfz51_7,hfz51_8,hfz51_9,hfz51_10,hfz51_11⟩:=k12f_ BK184;have p196 : 0 ≤ (x4_4 : Int):=oda_;have q196 : x4_4 < (l0_8.length : Int):=oda_;obtain ⟨ad196,e196,hx196_0,hx196_1,hx196_2⟩:=at_T69 HR0_8.out x4_4 p196 q196;obtain rfl : ad192 = ad196:=(by injection e196);replace hx196_0:=(HB.out.cell (wb_ w _ hx196_0)).trans hx196_0;replace hx196_1:=(HB.out.cell (wb_ w _ hx196_1)).trans hx196_1;replace hx196_2:=(HB.out.cell (wb_ w _ hx196_2)).trans hx196_2;replace p196:=eq_true p196;replace q196:=eq_true q196
                 try go_wp2
                 go_roundg k4
                 case measure => have:=HJ1.out;have:=HJ14.out;have:=HJ27.out;have:=HK4.out;omega
                 case rel => exact ⟨((rd_T69 l0_8 x4_4).f0),(wrap64 (x4_4 + 1)),(by first|rfl|(simp;done)|(simp [*];done)),(by first|rfl|(simp;done)|(simp [*];done)),H',⟨by have:=HJ1.out;have:=HJ14.out;have:=HJ27.out;have:=HK4.out;omega⟩,⟨kq_ BK184⟩,⟨bq_ HB⟩⟩
              ·replace c39:=Bool.eq_false_iff.mpr c39;subst c39
               have H1 : (some false) = some r:=by rw [if_neg (show ¬ (false = true) by decide)] at H;exact H
               clear H;have H:=H1;clear H1;obtain rfl:=Option.some.inj H;obtain ⟨hcz52_0,hcz52_1,hcz52_2,hcz52_3,hcz52_4,hcz52_5,hcz52_6,hcz52_7,hcz52_8,hcz52_9,hcz52_10,hcz52_11,hfz52_0,hfz52_1,hfz52_2,hfz52_3,hfz52_4,hfz52_5,hfz52_6,hfz52_7,hfz52_8,hfz52_9,hfz52_10,hfz52_11⟩:=k12f_ BK184
               try go_wp2
               replace BK184:=A_ (kd_ BK184.out);replace HB:=A_ (pd_ HB.out);have p192 : 0 ≤ (x4_4 : Int):=oda_;have q192 : x4_4 < (l0_8.length : Int):=oda_;obtain ⟨ad192,e192,hx192_0,hx192_1,hx192_2⟩:=at_T69 HR0_8.out x4_4 p192 q192;have hw192_2:=hx192_2;have hw192_1:=hx192_1;have hw192_0:=hx192_0
               cases e192
               replace hx192_0:=(HB.out.cell (wb_ w _ hx192_0)).trans hx192_0;replace hx192_1:=(HB.out.cell (wb_ w _ hx192_1)).trans hx192_1;replace hx192_2:=(HB.out.cell (wb_ w _ hx192_2)).trans hx192_2;replace p192:=eq_true p192;replace q192:=eq_true q192;refine start_ (n:=28) (S:=fun w' => w'.cell? ⟨gb184,0,none⟩ = some (.int .i64 a0_0) ∧ w'.cell? ⟨gb184,1,none⟩ = some (.int .i64 a0_1) ∧ w'.cell? ⟨gb184,2,none⟩ = some (.int .i64 a0_2) ∧ w'.cell? ⟨gb184,3,none⟩ = some (.int .i64 a0_3) ∧ w'.cell? ⟨gb184,4,none⟩ = some (.int .i64 a0_4) ∧ w'.cell? ⟨gb184,5,none⟩ = some (.int .i64 a0_5) ∧ w'.cell? ⟨gb184,6,none⟩ = some (.int .i64 a0_6) ∧ w'.cell? ⟨gb184,7,none⟩ = some (.bool a0_7) ∧ w'.cell? ⟨gb184,8,none⟩ = some (.slice (some ad192) l0_8.length c0_8) ∧ w'.cell? ⟨gb184,9,none⟩ = some (.slice A0_9 l0_9.length c0_9) ∧ w'.cell? ⟨gb184,10,none⟩ = some (.string a0_10) ∧ w'.cell? ⟨gb184,11,none⟩ = some (.bool a0_11) ∧ w'.cell? (ad192.add ((x4_4).toNat * 3)) = some (.int .i64 ((rd_T69 l0_8 x4_4).f0)) ∧ w'.cell? ⟨(ad192.add ((x4_4).toNat * 3)).block,(ad192.add ((x4_4).toNat * 3)).off + 1,none⟩ = some (.int .i64 ((rd_T69 l0_8 x4_4).f1)) ∧ w'.cell? ⟨(ad192.add ((x4_4).toNat * 3)).block,(ad192.add ((x4_4).toNat * 3)).off + 2,none⟩ = some (.string ((rd_T69 l0_8 x4_4).f2))) (ds:=[]) #[false,false,false,false,false,false,false,false,false,false,false,false,false,false,false,false,false,false,false,false,false,false,false,false,false,false,false,false] (by kernel_rfl) rfl rfl ⟨kC_ BK184 0,kC_ BK184 1,kC_ BK184 2,kC_ BK184 3,kC_ BK184 4,kC_ BK184 5,kC_ BK184 6,kC_ BK184 7,kC_ BK184 8,kC_ BK184 9,kC_ BK184 10,kC_ BK184 11,((HB.out.cell (wb_ w _ hw192_0)).trans hw192_0),((HB.out.cell (wb_ w _ hw192_1)).trans hw192_1),((HB.out.cell (wb_ w _ hw192_2)).trans hw192_2)⟩ (fun hHeld => ?_);refine with_tabW spec_MessageOk.tab11 spec_MessageOk.bits11 (fun HT_ HW_ => ?_);generalize wr.drew = w53 at BK184 HB hx192_0 hx192_1 hx192_2 hHeld ⊢;refine pU_ 0 (some 74) ?_
               refine pU_ 2 (some 76) ?_
               refine tK_ 1 (some 75) hHeld ?_
               refine pU_ 3 (some 77) ?_
               refine tK_ 4 (some 78) hHeld ?_
               refine oN_ 5 (some 79) (fun K hK => ?_);refine gs_ Try.func82 #[.agg #[.int .i64 ((rd_T69 l0_8 x4_4).f0),.int .i64 ((rd_T69 l0_8 x4_4).f1),.string ((rd_T69 l0_8 x4_4).f2)]] ?_;with_reducible refine (spec_EntryOk.calls k4 ((rd_T69 l0_8 x4_4).f0) ((rd_T69 l0_8 x4_4).f1) ((rd_T69 l0_8 x4_4).f2) false _ A38.out).mono ?_;rintro e w54 ⟨rfl,hb⟩;refine ⟨_,rfl,?_⟩;replace BK184:=kB_ BK184 hb;replace HB:=bS_ HB hb
               (try clear hb)
               refine hK.out _ _ ⟨kC_ BK184 0,kC_ BK184 1,kC_ BK184 2,kC_ BK184 3,kC_ BK184 4,kC_ BK184 5,kC_ BK184 6,kC_ BK184 7,kC_ BK184 8,kC_ BK184 9,kC_ BK184 10,kC_ BK184 11,((HB.out.cell (wb_ w _ hw192_0)).trans hw192_0),((HB.out.cell (wb_ w _ hw192_1)).trans hw192_1),((HB.out.cell (wb_ w _ hw192_2)).trans hw192_2)⟩ (fun hHeld => ?_);clear hK K;refine nX_ (some 79) ?_
               refine pU_ 6 (some 80) ?_
               refine pU_ 7 (some 81) ?_
               refine pure_ (i:=8) (N:=some 82) (v:=undef) (a':=?_) #[true,true,true,true,true,true,true,true,true,false,false,false,false,false,false,false,false,false,false,false,false,false,false,false,false,false,false,false] rfl rfl (any_of HT_.out (by kernel_rfl)) (fun _ _ _ h => h) (Or.inr ⟨by rfl,rfl⟩) ?_ ?_;rotate_left
               ·exact ux_
               refine pure_ (i:=9) (N:=some 83) (v:=undef) (a':=?_) #[true,true,true,true,true,true,true,true,true,true,false,false,false,false,false,false,false,false,false,false,false,false,false,false,false,false,false,false] rfl rfl (any_of HT_.out (by kernel_rfl)) (fun _ _ _ h => h) (Or.inr ⟨by rfl,rfl⟩) ?_ ?_;rotate_left
               ·exact ux_
               refine pure_ (i:=10) (N:=some 84) (v:=undef) (a':=?_) #[true,true,true,true,true,true,true,true,true,true,true,false,false,false,false,false,false,false,false,false,false,false,false,false,false,false,false,false] rfl rfl (any_of HT_.out (by kernel_rfl)) (fun _ _ _ h => h) (Or.inr ⟨by rfl,rfl⟩) ?_ ?_;rotate_left
               ·exact ux_
               refine pure_ (i:=11) (N:=some 85) (v:=undef) (a':=?_) #[true,true,true,true,true,true,true,true,true,true,true,true,false,false,false,false,false,false,false,false,false,false,false,false,false,false,false,false] rfl rfl (any_of HT_.out (by kernel_rfl)) (fun _ _ _ h => h) (Or.inr ⟨by rfl,rfl⟩) ?_ ?_;rotate_left
               ·exact ux_
               refine pure_ (i:=12) (N:=some 86) (v:=undef) (a':=?_) #[true,true,true,true,true,true,true,true,true,true,true,true,true,false,false,false,false,false,false,false,false,false,false,false,false,false,false,false] rfl rfl (any_of HT_.out (by kernel_rfl)) (fun _ _ _ h => h) (Or.inr ⟨by rfl,rfl⟩) ?_ ?_;rotate_left
               ·exact ux_
               refine pure_ (i:=13) (N:=some 87) (v:=undef) (a':=?_) #[true,true,true,true,true,true,true,true,true,true,true,true,true,true,false,false,false,false,false,false,false,false,false,false,false,false,false,false] rfl rfl (any_of HT_.out (by kernel_rfl)) (fun _ _ _ h => h) (Or.inr ⟨by rfl,rfl⟩) ?_ ?_;rotate_left
               ·exact ux_
               refine pure_ (i:=14) (N:=some 88) (v:=undef) (a':=?_) #[true,true,true,true,true,true,true,true,true,true,true,true,true,true,true,false,false,false,false,false,false,false,false,false,false,false,false,false] rfl rfl (any_of HT_.out (by kernel_rfl)) (fun _ _ _ h => h) (Or.inr ⟨by rfl,rfl⟩) ?_ ?_;rotate_left
               ·exact ux_
               refine pure_ (i:=15) (N:=some 89) (v:=undef) (a':=?_) #[true,true,true,true,true,true,true,true,true,true,true,true,true,true,true,true,false,false,false,false,false,false,false,false,false,false,false,false] rfl rfl (any_of HT_.out (by kernel_rfl)) (fun _ _ _ h => h) (Or.inr ⟨by rfl,rfl⟩) ?_ ?_;rotate_left
               ·exact ux_
               refine pU_ 16 (some 90) ?_
               refine pU_ 17 (some 91) ?_
               refine pure_ (i:=18) (N:=some 92) (v:=undef) (a':=?_) #[true,true,true,true,true,true,true,true,true,true,true,true,true,true,true,true,true,true,true,false,false,false,false,false,false,false,false,false] rfl rfl (any_of HT_.out (by kernel_rfl)) (fun _ _ _ h => h) (Or.inr ⟨by rfl,rfl⟩) ?_ ?_;rotate_left
               ·exact ux_
               refine pure_ (i:=19) (N:=some 93) (v:=undef) (a':=?_) #[true,true,true,true,true,true,true,true,true,true,true,true,true,true,true,true,true,true,true,true,false,false,false,false,false,false,false,false] rfl rfl (any_of HT_.out (by kernel_rfl)) (fun _ _ _ h => h) (Or.inr ⟨by rfl,rfl⟩) ?_ ?_;rotate_left
               ·exact ux_
               refine pure_ (i:=20) (N:=some 94) (v:=undef) (a':=?_) #[true,true,true,true,true,true,true,true,true,true,true,true,true,true,true,true,true,true,true,true,true,false,false,false,false,false,false,false] rfl rfl (any_of HT_.out (by kernel_rfl)) (fun _ _ _ h => h) (Or.inr ⟨by rfl,rfl⟩) ?_ ?_;rotate_left
               ·exact ux_
               refine pure_ (i:=21) (N:=some 95) (v:=undef) (a':=?_) #[true,true,true,true,true,true,true,true,true,true,true,true,true,true,true,true,true,true,true,true,true,true,false,false,false,false,false,false] rfl rfl (any_of HT_.out (by kernel_rfl)) (fun _ _ _ h => h) (Or.inr ⟨by rfl,rfl⟩) ?_ ?_;rotate_left
               ·exact ux_
               refine pure_ (i:=22) (N:=some 96) (v:=undef) (a':=?_) #[true,true,true,true,true,true,true,true,true,true,true,true,true,true,true,true,true,true,true,true,true,true,true,false,false,false,false,false] rfl rfl (any_of HT_.out (by kernel_rfl)) (fun _ _ _ h => h) (Or.inr ⟨by rfl,rfl⟩) ?_ ?_;rotate_left
               ·exact ux_
               refine pure_ (i:=23) (N:=some 97) (v:=undef) (a':=?_) #[true,true,true,true,true,true,true,true,true,true,true,true,true,true,true,true,true,true,true,true,true,true,true,true,false,false,false,false] rfl rfl (any_of HT_.out (by kernel_rfl)) (fun _ _ _ h => h) (Or.inr ⟨by rfl,rfl⟩) ?_ ?_;rotate_left
               ·exact ux_
               refine pure_ (i:=24) (N:=some 98) (v:=undef) (a':=?_) #[true,true,true,true,true,true,true,true,true,true,true,true,true,true,true,true,true,true,true,true,true,true,true,true,true,false,false,false] rfl rfl (any_of HT_.out (by kernel_rfl)) (fun _ _ _ h => h) (Or.inr ⟨by rfl,rfl⟩) ?_ ?_;rotate_left
               ·exact ux_
               refine pure_ (i:=25) (N:=some 99) (v:=undef) (a':=?_) #[true,true,true,true,true,true,true,true,true,true,true,true,true,true,true,true,true,true,true,true,true,true,true,true,true,true,false,false] rfl rfl (any_of HT_.out (by kernel_rfl)) (fun _ _ _ h => h) (Or.inr ⟨by rfl,rfl⟩) ?_ ?_;rotate_left
               ·exact ux_
               refine pure_ (i:=26) (N:=some 100) (v:=undef) (a':=?_) #[true,true,true,true,true,true,true,true,true,true,true,true,true,true,true,true,true,true,true,true,true,true,true,true,true,true,true,false] rfl rfl (any_of HT_.out (by kernel_rfl)) (fun _ _ _ h => h) (Or.inr ⟨by rfl,rfl⟩) ?_ ?_;rotate_left
               ·exact ux_
               refine pU_ 27 (some 101) ?_
               refine done_ (done_of HT_.out (by kernel_rfl)) ?_
               try go_wp2
               go_ret;exact ⟨ex_,bq_ HB⟩
             ·rw [if_neg c37] at H;exact absurd H (by simp)
            ·rw [if_neg c36] at H;have c36b0 : decide (x4_4 < (l0_8.length : Int)) = false:=decide_eq_false c36;clear c36
             by_cases c55 : a0_0 = 5
             ·rw [if_pos c55] at H;have c55b0 : (a0_0 == 5) = true:=beq_iff_eq.mpr c55;have c55b1 : (a0_0 != 5) = false:=bne_eq_false_iff_eq.mpr c55;clear c55;replace H:=ob_.mp H;obtain ⟨t197,A560,H⟩:=H;(try dsimp only at H);have A56:=A_ A560;clear A560
              by_cases c57 : t197 = true
              ·subst c57
               rw [if_pos rfl] at H;obtain rfl:=Option.some.inj H;obtain ⟨hcz58_0,hcz58_1,hcz58_2,hcz58_3,hcz58_4,hcz58_5,hcz58_6,hcz58_7,hcz58_8,hcz58_9,hcz58_10,hcz58_11,hfz58_0,hfz58_1,hfz58_2,hfz58_3,hfz58_4,hfz58_5,hfz58_6,hfz58_7,hfz58_8,hfz58_9,hfz58_10,hfz58_11⟩:=k12f_ BK184
               go_wp2_with (first|((with_reducible refine gate_callee (f:=83) rfl ?_);refine gL_ (some 113) Try.func83 #[.slice A0_9 l0_9.length c0_9] ?_;(with_reducible refine (spec_ConfOk.calls k4 _ _ l0_9 true _ ?side1 ?side2 A56.out).mono ?_);(case side1 => repeat (first|exact (Kd.C_below HR0_9.out HB.out)|(with_reducible refine Kd.C_alloc ?_ _)|(with_reducible refine Kd.C_drewN ?_ _)|(with_reducible refine Kd.C_drew ?_)));(case side2 => exact HC0_9.out);rintro e w' ⟨rfl,⟨nd,rfl⟩⟩;refine ⟨_,rfl,?_⟩))
               go_ret;exact ⟨ex_,bq_ HB⟩
              ·replace c57:=Bool.eq_false_iff.mpr c57;subst c57
               have H1 : (some false) = some r:=by rw [if_neg (show ¬ (false = true) by decide)] at H;exact H
               clear H;have H:=H1;clear H1;obtain rfl:=Option.some.inj H;obtain ⟨hcz59_0,hcz59_1,hcz59_2,hcz59_3,hcz59_4,hcz59_5,hcz59_6,hcz59_7,hcz59_8,hcz59_9,hcz59_10,hcz59_11,hfz59_0,hfz59_1,hfz59_2,hfz59_3,hfz59_4,hfz59_5,hfz59_6,hfz59_7,hfz59_8,hfz59_9,hfz59_10,hfz59_11⟩:=k12f_ BK184
               go_wp2_with (first|((with_reducible refine gate_callee (f:=83) rfl ?_);refine gL_ (some 113) Try.func83 #[.slice A0_9 l0_9.length c0_9] ?_;(with_reducible refine (spec_ConfOk.calls k4 _ _ l0_9 false _ ?side1 ?side2 A56.out).mono ?_);(case side1 => repeat (first|exact (Kd.C_below HR0_9.out HB.out)|(with_reducible refine Kd.C_alloc ?_ _)|(with_reducible refine Kd.C_drewN ?_ _)|(with_reducible refine Kd.C_drew ?_)));(case side2 => exact HC0_9.out);rintro e w' ⟨rfl,⟨nd,rfl⟩⟩;refine ⟨_,rfl,?_⟩))
               go_ret;exact ⟨ex_,bq_ HB⟩
             ·rw [if_neg c55] at H;have c55b0 : (a0_0 == 5) = false:=beq_eq_false_iff_ne.mpr c55;have c55b1 : (a0_0 != 5) = true:=bne_iff_ne.mpr c55
              by_cases c60 : (l0_9.length : Int) = 0
              ·rw [if_pos c60] at H;have c60b0 : ((l0_9.length : Int) == 0) = true:=beq_iff_eq.mpr c60;have c60b1 : ((l0_9.length : Int) != 0) = false:=bne_eq_false_iff_eq.mpr c60;clear c60
               by_cases c61 : a0_10.toList = ([] : List UInt8)
               ·rw [if_pos c61] at H;have c61b0 : (a0_10.toList == ([] : List UInt8)) = true:=beq_iff_eq.mpr c61;have c61b1 : (a0_10.toList != ([] : List UInt8)) = false:=bne_eq_false_iff_eq.mpr c61;clear c61;obtain rfl:=Option.some.inj H;obtain ⟨hcz62_0,hcz62_1,hcz62_2,hcz62_3,hcz62_4,hcz62_5,hcz62_6,hcz62_7,hcz62_8,hcz62_9,hcz62_10,hcz62_11,hfz62_0,hfz62_1,hfz62_2,hfz62_3,hfz62_4,hfz62_5,hfz62_6,hfz62_7,hfz62_8,hfz62_9,hfz62_10,hfz62_11⟩:=k12f_ BK184;go_wp2;go_ret;exact ⟨ex_,bq_ HB⟩
               ·rw [if_neg c61] at H;have c61b0 : (a0_10.toList == ([] : List UInt8)) = false:=beq_eq_false_iff_ne.mpr c61;have c61b1 : (a0_10.toList != ([] : List UInt8)) = true:=bne_iff_ne.mpr c61;obtain rfl:=Option.some.inj H;obtain ⟨hcz63_0,hcz63_1,hcz63_2,hcz63_3,hcz63_4,hcz63_5,hcz63_6,hcz63_7,hcz63_8,hcz63_9,hcz63_10,hcz63_11,hfz63_0,hfz63_1,hfz63_2,hfz63_3,hfz63_4,hfz63_5,hfz63_6,hfz63_7,hfz63_8,hfz63_9,hfz63_10,hfz63_11⟩:=k12f_ BK184;go_wp2;go_ret;exact ⟨ex_,bq_ HB⟩
              ·rw [if_neg c60] at H;have c60b0 : ((l0_9.length : Int) == 0) = false:=beq_eq_false_iff_ne.mpr c60;have c60b1 : ((l0_9.length : Int) != 0) = true:=bne_iff_ne.mpr c60
               have c60b2 : ¬ (l0_9 = []):=fun h_ => c60 (by rw [h_];rfl)
               obtain rfl:=Option.some.inj H;obtain ⟨hcz64_0,hcz64_1,hcz64_2,hcz64_3,hcz64_4,hcz64_5,hcz64_6,hcz64_7,hcz64_8,hcz64_9,hcz64_10,hcz64_11,hfz64_0,hfz64_1,hfz64_2,hfz64_3,hfz64_4,hfz64_5,hfz64_6,hfz64_7,hfz64_8,hfz64_9,hfz64_10,hfz64_11⟩:=k12f_ BK184;go_wp2;go_ret;exact ⟨ex_,bq_ HB⟩
end Go.Proofs.Ytbcgnncbiblibaa.PFnExactDecode
