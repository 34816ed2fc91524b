/- The contracts of Go functions that this law reaches: what each call returns, by a plain Lean function of its arguments, under the conditions that each names. By the kit's print.py, run by this repo's wip/gen/pp.py: not to the letter what print.sh prints. -/
import Derived.Test.YtbcgnncbiblibaaPFnMessagesx0
import Derived.Test.YtbcgnncbiblibaaPFnMessagesx3
import Derived.Test.YtbcgnncbiblibaaPFnMessagesx4
import Derived.Test.YtbcgnncbiblibaaPFnMessagesx5
namespace Go.Proofs.Ytbcgnncbiblibaa.PFnMessages
open Go.RowKit Go.Proofs.YtbcgnncbiblibaaW.PrintWords Go.Proofs.YtbcgnncbiblibaaW.PrintLast Go.Proofs.YtbcgnncbiblibaaW.PrintMore
attribute [local go_sem] max2_int min2_int max_two min_two max_three min_three max_four min_four
set_option linter.unusedVariables false
set_option linter.unusedSimpArgs false
mutual
def spec_MessageOk.j0 : Nat → Bool → Int → Int → Int → Int → Int → Int → Int → Bool → List (S69) → List Int → ByteArray → Bool → Option (Bool)
 | 0,_,_,_,_,_,_,_,_,_,_,_,_,_ => none
 | k + 1,x27,x185000,x185001,x185002,x185003,x185004,x185005,x185006,x185007,x185008,x185009,x185010,x185011 => if x27 = true then (some false) else ((spec_l01In.f x185003 0 100000).bind fun t188 => (if t188 = true then ((spec_l01In.f x185005 0 100000).bind fun t189 => (if t189 = true then ((spec_l01In.f x185004 0 100000).bind fun t190 => (if t190 = true then ((spec_l01In.f x185006 0 100000).bind fun t191 => (spec_MessageOk.j1 k (!t191) x185000 x185001 x185002 x185003 x185004 x185005 x185006 x185007 x185008 x185009 x185010 x185011)) else (spec_MessageOk.j1 k true x185000 x185001 x185002 x185003 x185004 x185005 x185006 x185007 x185008 x185009 x185010 x185011))) else (spec_MessageOk.j1 k true x185000 x185001 x185002 x185003 x185004 x185005 x185006 x185007 x185008 x185009 x185010 x185011))) else (spec_MessageOk.j1 k true x185000 x185001 x185002 x185003 x185004 x185005 x185006 x185007 x185008 x185009 x185010 x185011)))
def spec_MessageOk.j1 : Nat → Bool → Int → Int → Int → Int → Int → Int → Int → Bool → List (S69) → List Int → ByteArray → Bool → Option (Bool)
 | 0,_,_,_,_,_,_,_,_,_,_,_,_,_ => none
 | k + 1,x49,x185000,x185001,x185002,x185003,x185004,x185005,x185006,x185007,x185008,x185009,x185010,x185011 => if x49 = true then (some false) else (if (x185008.length : Int) > 4 then (spec_MessageOk.j2 k true x185000 x185001 x185002 x185003 x185004 x185005 x185006 x185007 x185008 x185009 x185010 x185011) else (if (x185008.length : Int) > 0 then (spec_MessageOk.j2 k (x185000 != 3) x185000 x185001 x185002 x185003 x185004 x185005 x185006 x185007 x185008 x185009 x185010 x185011) else (spec_MessageOk.j2 k false x185000 x185001 x185002 x185003 x185004 x185005 x185006 x185007 x185008 x185009 x185010 x185011)))
def spec_MessageOk.j2 : Nat → Bool → Int → Int → Int → Int → Int → Int → Int → Bool → List (S69) → List Int → ByteArray → Bool → Option (Bool)
 | 0,_,_,_,_,_,_,_,_,_,_,_,_,_ => none
 | k + 1,x64,x185000,x185001,x185002,x185003,x185004,x185005,x185006,x185007,x185008,x185009,x185010,x185011 => if x64 = true then (some false) else (spec_MessageOk.l0 k x185005 0 x185000 x185001 x185002 x185003 x185004 x185005 x185006 x185007 x185008 x185009 x185010 x185011)
def spec_MessageOk.l0 : Nat → Int → Int → Int → Int → Int → Int → Int → Int → Int → Bool → List (S69) → List Int → ByteArray → Bool → Option (Bool)
 | 0,_,_,_,_,_,_,_,_,_,_,_,_,_,_ => none
 | k + 1,x3,x4,x185000,x185001,x185002,x185003,x185004,x185005,x185006,x185007,x185008,x185009,x185010,x185011 => if x4 < (x185008.length : Int) then (if 0 ≤ x4 then ((spec_EntryOk.f k ((rd_T69 x185008 x4).f0) ((rd_T69 x185008 x4).f1) ((rd_T69 x185008 x4).f2)).bind fun t193 => (if t193 = true then (if ((rd_T69 x185008 x4).f0) < x3 then (some false) else (if ((rd_T69 x185008 x4).f0) > x185003 then (some false) else (spec_MessageOk.l0 k ((rd_T69 x185008 x4).f0) (wrap64 (x4 + 1)) x185000 x185001 x185002 x185003 x185004 x185005 x185006 x185007 x185008 x185009 x185010 x185011))) else (some false))) else (none)) else (if x185000 = 5 then ((spec_ConfOk.f k x185009).bind fun t197 => (if t197 = true then (some (decide ((x185010.size : Int) ≤ 60))) else (some false))) else (if (x185009.length : Int) = 0 then (if x185010.toList = ([] : List UInt8) then (some (!x185011)) else (some false)) else (some false)))
end
def spec_MessageOk.f (k : Nat) (a0_0 a0_1 a0_2 a0_3 a0_4 a0_5 a0_6 : Int) (a0_7 : Bool) (l0_8 : List (S69)) (l0_9 : List Int) (a0_10 : ByteArray) (a0_11 : Bool) : Option (Bool) := (spec_l01In.f a0_0 1 6).bind fun t185 => (if t185 = true then ((spec_l01In.f a0_1 1 4).bind fun t186 => (if t186 = true then ((spec_l01In.f a0_2 1 4).bind fun t187 => (if t187 = true then (spec_MessageOk.j0 k (a0_1 == a0_2) a0_0 a0_1 a0_2 a0_3 a0_4 a0_5 a0_6 a0_7 l0_8 l0_9 a0_10 a0_11) else (spec_MessageOk.j0 k true a0_0 a0_1 a0_2 a0_3 a0_4 a0_5 a0_6 a0_7 l0_8 l0_9 a0_10 a0_11))) else (spec_MessageOk.j0 k true a0_0 a0_1 a0_2 a0_3 a0_4 a0_5 a0_6 a0_7 l0_8 l0_9 a0_10 a0_11))) else (spec_MessageOk.j0 k true a0_0 a0_1 a0_2 a0_3 a0_4 a0_5 a0_6 a0_7 l0_8 l0_9 a0_10 a0_11))
theorem spec_MessageOk.mono_l : ∀ k, (∀ y0 y1 y2 y3 y4 y5 y6 y7 y8 y9 y10 y11 y12, LeO (spec_MessageOk.j0 k y0 y1 y2 y3 y4 y5 y6 y7 y8 y9 y10 y11 y12) (spec_MessageOk.j0 (k + 1) y0 y1 y2 y3 y4 y5 y6 y7 y8 y9 y10 y11 y12)) ∧ (∀ y0 y1 y2 y3 y4 y5 y6 y7 y8 y9 y10 y11 y12, LeO (spec_MessageOk.j1 k y0 y1 y2 y3 y4 y5 y6 y7 y8 y9 y10 y11 y12) (spec_MessageOk.j1 (k + 1) y0 y1 y2 y3 y4 y5 y6 y7 y8 y9 y10 y11 y12)) ∧ (∀ y0 y1 y2 y3 y4 y5 y6 y7 y8 y9 y10 y11 y12, LeO (spec_MessageOk.j2 k y0 y1 y2 y3 y4 y5 y6 y7 y8 y9 y10 y11 y12) (spec_MessageOk.j2 (k + 1) y0 y1 y2 y3 y4 y5 y6 y7 y8 y9 y10 y11 y12)) ∧ (∀ y0 y1 y2 y3 y4 y5 y6 y7 y8 y9 y10 y11 y12 y13, LeO (spec_MessageOk.l0 k y0 y1 y2 y3 y4 y5 y6 y7 y8 y9 y10 y11 y12 y13) (spec_MessageOk.l0 (k + 1) y0 y1 y2 y3 y4 y5 y6 y7 y8 y9 y10 y11 y12 y13))
 | 0 => ⟨fun _ _ _ _ _ _ _ _ _ _ _ _ _ r h => by simp [spec_MessageOk.j0] at h,fun _ _ _ _ _ _ _ _ _ _ _ _ _ r h => by simp [spec_MessageOk.j1] at h,fun _ _ _ _ _ _ _ _ _ _ _ _ _ r h => by simp [spec_MessageOk.j2] at h,fun _ _ _ _ _ _ _ _ _ _ _ _ _ _ r h => by simp [spec_MessageOk.l0] at h⟩
 | k + 1 => by
  obtain ⟨ih0,ih1,ih2,ih3⟩:=spec_MessageOk.mono_l k;refine ⟨?_,?_,?_,?_⟩
  ·intro y0 y1 y2 y3 y4 y5 y6 y7 y8 y9 y10 y11 y12
   unfold spec_MessageOk.j0
   repeat' first
   | (with_reducible exact ih1 _ _ _ _ _ _ _ _ _ _ _ _ _)
   | (with_reducible exact LeO.refl _)
   | (with_reducible refine LeO.ite ?_ ?_)
   | (with_reducible refine LeO.bind ?_ (fun _ => ?_))
  ·intro y0 y1 y2 y3 y4 y5 y6 y7 y8 y9 y10 y11 y12
   unfold spec_MessageOk.j1
   repeat' first
   | (with_reducible exact ih2 _ _ _ _ _ _ _ _ _ _ _ _ _)
   | (with_reducible exact LeO.refl _)
   | (with_reducible refine LeO.ite ?_ ?_)
  ·intro y0 y1 y2 y3 y4 y5 y6 y7 y8 y9 y10 y11 y12
   unfold spec_MessageOk.j2
   repeat' first
   | (with_reducible exact ih3 _ _ _ _ _ _ _ _ _ _ _ _ _ _)
   | (with_reducible exact LeO.refl _)
   | (with_reducible refine LeO.ite ?_ ?_)
  intro y0 y1 y2 y3 y4 y5 y6 y7 y8 y9 y10 y11 y12 y13
  unfold spec_MessageOk.l0
  repeat' first
  | (with_reducible exact ih3 _ _ _ _ _ _ _ _ _ _ _ _ _ _)
  | (with_reducible exact spec_ConfOk.mono _ _)
  | (with_reducible exact spec_EntryOk.mono _ _ _ _)
  | (with_reducible exact LeO.refl _)
  | (with_reducible refine LeO.ite ?_ ?_)
  | (with_reducible refine LeO.bind ?_ (fun _ => ?_))
theorem spec_MessageOk.mono : ∀ a0 a1 a2 a3 a4 a5 a6 a7 a8 a9 a10 a11 k, LeO (spec_MessageOk.f k a0 a1 a2 a3 a4 a5 a6 a7 a8 a9 a10 a11) (spec_MessageOk.f (k + 1) a0 a1 a2 a3 a4 a5 a6 a7 a8 a9 a10 a11) := by
 intro a0 a1 a2 a3 a4 a5 a6 a7 a8 a9 a10 a11 k;obtain ⟨ih0,ih1,ih2,ih3⟩:=spec_MessageOk.mono_l k
 unfold spec_MessageOk.f
 repeat' first
   | (with_reducible exact ih0 _ _ _ _ _ _ _ _ _ _ _ _ _)
   | (with_reducible exact LeO.refl _)
   | (with_reducible refine LeO.ite ?_ ?_)
   | (with_reducible refine LeO.bind ?_ (fun _ => ?_))
def spec_MessageOk.T11 : Bool × List (List Nat × List Nat) := (true, [([], []), ([0], [0]), ([], []), ([1, 2], [1, 2]), ([3], [3]), ([4], [4]), ([5], [5]), ([6, 5], [6]), ([7], [7]), ([8, 7], [7, 8]), ([7], [7]), ([9, 10, 7], [7, 9, 10]), ([11, 7], [7, 11]), ([12, 7], [7, 12]), ([7], [7]), ([13, 14, 7], [7, 13, 14]), ([7, 15], [7, 15]), ([16, 7], [16]), ([17], [17]), ([18, 17], [17, 18]), ([17], [17]), ([19, 20, 17], [17, 19, 20]), ([21, 17], [17, 21]), ([22, 17], [17, 22]), ([17], [17]), ([24, 17], [17, 24]), ([23, 25, 17], [17, 23, 25]), ([17, 26], [17, 26])])
def spec_MessageOk.B11 : List Nat := [0, 1, 0, 7, 15, 31, 63, 127, 255, 511, 255, 2047, 4095, 8191, 255, 32767, 65535, 131071, 262143, 524287, 262143, 2097151, 4194303, 8388607, 262143, 17039359, 67108863, 134217727]
theorem spec_MessageOk.tab11 : rtab .any (opsOf Try.f29 11) = spec_MessageOk.T11 := by kernel_rfl
theorem spec_MessageOk.bits11 : waitsOk spec_MessageOk.T11.2 spec_MessageOk.B11 = true := by kernel_rfl
set_option maxHeartbeats 8000000 in
set_option maxRecDepth 100000 in
theorem spec_MessageOk.calls (k : Nat) (a0_0 a0_1 a0_2 a0_3 a0_4 a0_5 a0_6 : Int) (a0_7 : Bool) (A0_8 : Option Addr) (c0_8 : Nat) (l0_8 : List (S69)) (A0_9 : Option Addr) (c0_9 : Nat) (l0_9 : List Int) (a0_10 : ByteArray) (a0_11 r : Bool) (w : World) (hr0_8 : Kd.C k69 w A0_8 l0_8.length l0_8) (hc0_8 : l0_8.length ≤ c0_8) (hr0_9 : Kd.C (Kd.int .i64) w A0_9 l0_9.length l0_9) (hc0_9 : l0_9.length ≤ c0_9) (h : spec_MessageOk.f k a0_0 a0_1 a0_2 a0_3 a0_4 a0_5 a0_6 a0_7 l0_8 l0_9 a0_10 a0_11 = some r) :
  Calls Try.prog 29 #[.agg #[.int .i64 a0_0,.int .i64 a0_1,.int .i64 a0_2,.int .i64 a0_3,.int .i64 a0_4,.int .i64 a0_5,.int .i64 a0_6,.bool a0_7,.slice A0_8 l0_8.length c0_8,.slice A0_9 l0_9.length c0_9,.string a0_10,.bool a0_11]] w fun e w' => e = .returned (.bool r) ∧ Below w.heap.size w w':=by
 have hu41:=Try.underlying41;have hu69:=Try.underlying69;have HR0_8:=A_ hr0_8;have HC0_8:=A_ hc0_8;clear hr0_8 hc0_8;have HR0_9:=A_ hr0_9;have HC0_9:=A_ hc0_9;clear hr0_9 hc0_9;have HB:=A_ (Below.refl w.heap.size w);unfold spec_MessageOk.f at h;have H:=h;clear h;have HC2:=A_ H;clear H;go_enter Try.func29,Try.ntmps29
 go_upto_region 1 with (((with_reducible refine gate_dst (N:=1) rfl ?_);(try (refine gate_guard (by rfl) ?_;dsimp only));refine bE_ 1 #[.int .i64 a0_0,.int .i64 a0_1,.int .i64 a0_2,.int .i64 a0_3,.int .i64 a0_4,.int .i64 a0_5,.int .i64 a0_6,.bool a0_7,.slice A0_8 l0_8.length c0_8,.slice A0_9 l0_9.length c0_9,.string a0_10,.bool a0_11] 41 ?_;intro gb184 hg w3 hbox hb;have n0_:=bS_ HB hb;have n1_:=A_ hbox;have n3_:=gE_ hg HB;clear HB;have HB:=n0_;have BK184:=n1_;have GE184:=n3_;clear n0_ n1_ n3_;clear hb hbox hg))
 go_cut [27] (fun v27 wc => ∃ (kq : Nat) (x27_1 : Bool),v27 = .bool x27_1 ∧ Aside0 (spec_MessageOk.j0 kq x27_1 a0_0 a0_1 a0_2 a0_3 a0_4 a0_5 a0_6 a0_7 l0_8 l0_9 a0_10 a0_11 = some r) ∧ Aside0 (kq ≤ k) ∧ Aside0 (wc.heap[gb184]? = some (.cells #[.int .i64 a0_0,.int .i64 a0_1,.int .i64 a0_2,.int .i64 a0_3,.int .i64 a0_4,.int .i64 a0_5,.int .i64 a0_6,.bool a0_7,(.slice A0_8 l0_8.length c0_8),(.slice A0_9 l0_9.length c0_9),.string a0_10,.bool a0_11] 41 (0,0))) ∧ Aside0 (Below w.heap.size w wc))
 case first =>
  have H:=HC2.out;clear HC2;replace H:=ob_.mp H;obtain ⟨t185,A40,H⟩:=H;have A4:=A_ A40;clear A40
  by_cases c5 : t185 = true;rotate_left
  ·replace c5:=Bool.eq_false_iff.mpr c5;subst c5
   have H1 : (spec_MessageOk.j0 k true a0_0 a0_1 a0_2 a0_3 a0_4 a0_5 a0_6 a0_7 l0_8 l0_9 a0_10 a0_11) = some r:=by rw [if_neg (show ¬ (false = true) by decide)] at H;exact H
   clear H;have H:=H1;clear H1;have H':=A_ H;clear H;obtain ⟨hcz13_0,hcz13_1,hcz13_2,hcz13_3,hcz13_4,hcz13_5,hcz13_6,hcz13_7,hcz13_8,hcz13_9,hcz13_10,hcz13_11,hfz13_0,hfz13_1,hfz13_2,hfz13_3,hfz13_4,hfz13_5,hfz13_6,hfz13_7,hfz13_8,hfz13_9,hfz13_10,hfz13_11⟩:=k12f_ BK184
   go_wp2_with (((with_reducible refine gate_callee (f:=81) rfl ?_);refine gL_ (some 7) Try.func81 #[.int .i64 a0_0,.int .i64 1,.int .i64 6] ?_;(with_reducible refine (spec_l01In.calls a0_0 1 6 false _ A4.out).mono ?_);rintro e w' ⟨rfl,⟨nd,rfl⟩⟩;refine ⟨_,rfl,?_⟩))
   go_meet
   case rel => exact ⟨_,(true),(by rfl),H',⟨by omega⟩,⟨kq_ BK184⟩,⟨bq_ HB⟩⟩
  subst c5
  rw [if_pos rfl] at H;replace H:=ob_.mp H;obtain ⟨t186,A60,H⟩:=H;have A6:=A_ A60;clear A60
  by_cases c7 : t186 = true
  ·subst c7
   rw [if_pos rfl] at H;replace H:=ob_.mp H;obtain ⟨t187,A80,H⟩:=H;have A8:=A_ A80;clear A80
   by_cases c9 : t187 = true
   ·subst c9
    rw [if_pos rfl] at H;have H':=A_ H;clear H;obtain ⟨hcz10_0,hcz10_1,hcz10_2,hcz10_3,hcz10_4,hcz10_5,hcz10_6,hcz10_7,hcz10_8,hcz10_9,hcz10_10,hcz10_11,hfz10_0,hfz10_1,hfz10_2,hfz10_3,hfz10_4,hfz10_5,hfz10_6,hfz10_7,hfz10_8,hfz10_9,hfz10_10,hfz10_11⟩:=k12f_ BK184
    go_wp2_with (first|((with_reducible refine gate_callee (f:=81) rfl ?_);refine gL_ (some 7) Try.func81 #[.int .i64 a0_0,.int .i64 1,.int .i64 6] ?_;(with_reducible refine (spec_l01In.calls a0_0 1 6 true _ A4.out).mono ?_);rintro e w' ⟨rfl,⟨nd,rfl⟩⟩;refine ⟨_,rfl,?_⟩)|(go_at_call 81;(with_reducible refine (spec_l01In.calls a0_1 1 4 true _ A6.out).mono ?_);rintro e w' ⟨rfl,⟨nd,rfl⟩⟩)|(go_at_call 81;(with_reducible refine (spec_l01In.calls a0_2 1 4 true _ A8.out).mono ?_);rintro e w' ⟨rfl,⟨nd,rfl⟩⟩))
    go_meet
    case rel => exact ⟨_,((a0_1 == a0_2)),(by rfl),H',⟨by omega⟩,⟨kq_ BK184⟩,⟨bq_ HB⟩⟩
   replace c9:=Bool.eq_false_iff.mpr c9;subst c9
   have H1 : (spec_MessageOk.j0 k true a0_0 a0_1 a0_2 a0_3 a0_4 a0_5 a0_6 a0_7 l0_8 l0_9 a0_10 a0_11) = some r:=by rw [if_neg (show ¬ (false = true) by decide)] at H;exact H
   clear H;have H:=H1;clear H1;have H':=A_ H;clear H;obtain ⟨hcz11_0,hcz11_1,hcz11_2,hcz11_3,hcz11_4,hcz11_5,hcz11_6,hcz11_7,hcz11_8,hcz11_9,hcz11_10,hcz11_11,hfz11_0,hfz11_1,hfz11_2,hfz11_3,hfz11_4,hfz11_5,hfz11_6,hfz11_7,hfz11_8,hfz11_9,hfz11_10,hfz11_11⟩:=k12f_ BK184
   go_wp2_with (first|((with_reducible refine gate_callee (f:=81) rfl ?_);refine gL_ (some 7) Try.func81 #[.int .i64 a0_0,.int .i64 1,.int .i64 6] ?_;(with_reducible refine (spec_l01In.calls a0_0 1 6 true _ A4.out).mono ?_);rintro e w' ⟨rfl,⟨nd,rfl⟩⟩;refine ⟨_,rfl,?_⟩)|(go_at_call 81;(with_reducible refine (spec_l01In.calls a0_1 1 4 true _ A6.out).mono ?_);rintro e w' ⟨rfl,⟨nd,rfl⟩⟩)|(go_at_call 81;(with_reducible refine (spec_l01In.calls a0_2 1 4 false _ A8.out).mono ?_);rintro e w' ⟨rfl,⟨nd,rfl⟩⟩))
   go_meet
   case rel => exact ⟨_,(true),(by rfl),H',⟨by omega⟩,⟨kq_ BK184⟩,⟨bq_ HB⟩⟩
  replace c7:=Bool.eq_false_iff.mpr c7;subst c7
  have H1 : (spec_MessageOk.j0 k true a0_0 a0_1 a0_2 a0_3 a0_4 a0_5 a0_6 a0_7 l0_8 l0_9 a0_10 a0_11) = some r:=by rw [if_neg (show ¬ (false = true) by decide)] at H;exact H
  clear H;have H:=H1;clear H1;have H':=A_ H;clear H;obtain ⟨hcz12_0,hcz12_1,hcz12_2,hcz12_3,hcz12_4,hcz12_5,hcz12_6,hcz12_7,hcz12_8,hcz12_9,hcz12_10,hcz12_11,hfz12_0,hfz12_1,hfz12_2,hfz12_3,hfz12_4,hfz12_5,hfz12_6,hfz12_7,hfz12_8,hfz12_9,hfz12_10,hfz12_11⟩:=k12f_ BK184
  go_wp2_with (first|((with_reducible refine gate_callee (f:=81) rfl ?_);refine gL_ (some 7) Try.func81 #[.int .i64 a0_0,.int .i64 1,.int .i64 6] ?_;(with_reducible refine (spec_l01In.calls a0_0 1 6 true _ A4.out).mono ?_);rintro e w' ⟨rfl,⟨nd,rfl⟩⟩;refine ⟨_,rfl,?_⟩)|(go_at_call 81;(with_reducible refine (spec_l01In.calls a0_1 1 4 false _ A6.out).mono ?_);rintro e w' ⟨rfl,⟨nd,rfl⟩⟩))
  go_meet
  case rel => exact ⟨_,(true),(by rfl),H',⟨by omega⟩,⟨kq_ BK184⟩,⟨bq_ HB⟩⟩
 case rest =>
  clear HC2
  (try clear c2);(try clear p2);(try clear c5);(try clear c7);(try clear c8);(try clear c9);(try clear hcz10_0);(try clear hcz10_1);(try clear hcz10_10);(try clear hcz10_11);(try clear hcz10_2);(try clear hcz10_3);(try clear hcz10_4);(try clear hcz10_5);(try clear hcz10_6);(try clear hcz10_7);(try clear hcz10_8);(try clear hcz10_9);(try clear hcz11_0);(try clear hcz11_1);(try clear hcz11_10);(try clear hcz11_11);(try clear hcz11_2);(try clear hcz11_3);(try clear hcz11_4);(try clear hcz11_5);(try clear hcz11_6);(try clear hcz11_7);(try clear hcz11_8);(try clear hcz11_9);(try clear hcz12_0);(try clear hcz12_1);(try clear hcz12_10);(try clear hcz12_11);(try clear hcz12_2);(try clear hcz12_3);(try clear hcz12_4);(try clear hcz12_5);(try clear hcz12_6);(try clear hcz12_7);(try clear hcz12_8);(try clear hcz12_9);(try clear hcz13_0);(try clear hcz13_1);(try clear hcz13_10);(try clear hcz13_11);(try clear hcz13_2);(try clear hcz13_3);(try clear hcz13_4);(try clear hcz13_5);(try clear hcz13_6);(try clear hcz13_7);(try clear hcz13_8);(try clear hcz13_9);(try clear hfz10_0);(try clear hfz10_1);(try clear hfz10_10);(try clear hfz10_11);(try clear hfz10_2);(try clear hfz10_3);(try clear hfz10_4);(try clear hfz10_5);(try clear hfz10_6);(try clear hfz10_7);(try clear hfz10_8);(try clear hfz10_9);(try clear hfz11_0);(try clear hfz11_1);(try clear hfz11_10);(try clear hfz11_11);(try clear hfz11_2);(try clear hfz11_3);(try clear hfz11_4);(try clear hfz11_5);(try clear hfz11_6);(try clear hfz11_7);(try clear hfz11_8);(try clear hfz11_9);(try clear hfz12_0);(try clear hfz12_1);(try clear hfz12_10);(try clear hfz12_11);(try clear hfz12_2);(try clear hfz12_3);(try clear hfz12_4);(try clear hfz12_5);(try clear hfz12_6);(try clear hfz12_7);(try clear hfz12_8);(try clear hfz12_9);(try clear hfz13_0);(try clear hfz13_1);(try clear hfz13_10);(try clear hfz13_11);(try clear hfz13_2);(try clear hfz13_3);(try clear hfz13_4);(try clear hfz13_5);(try clear hfz13_6);(try clear hfz13_7);(try clear hfz13_8);(try clear hfz13_9)
  obtain ⟨kq,x27_1,rfl,HA,HJ1,BK184,HB⟩:=hcut
  cases kq with
  | zero => exact absurd HA.out (by simp [spec_MessageOk.j0])
  | succ kj1 =>
   have H:=HA.out;clear HA;simp only [spec_MessageOk.j0] at H
   by_cases c14 : x27_1 = true
   ·subst c14
    rw [if_pos rfl] at H;obtain rfl:=Option.some.inj H;go_wp2;go_ret;exact ⟨ex_,bq_ HB⟩
   replace c14:=Bool.eq_false_iff.mpr c14;subst c14
   have H1 : ((spec_l01In.f a0_3 0 100000).bind fun t188 => (if t188 = true then ((spec_l01In.f a0_5 0 100000).bind fun t189 => (if t189 = true then ((spec_l01In.f a0_4 0 100000).bind fun t190 => (if t190 = true then ((spec_l01In.f a0_6 0 100000).bind fun t191 => (spec_MessageOk.j1 kj1 (!t191) a0_0 a0_1 a0_2 a0_3 a0_4 a0_5 a0_6 a0_7 l0_8 l0_9 a0_10 a0_11)) else (spec_MessageOk.j1 kj1 true a0_0 a0_1 a0_2 a0_3 a0_4 a0_5 a0_6 a0_7 l0_8 l0_9 a0_10 a0_11))) else (spec_MessageOk.j1 kj1 true a0_0 a0_1 a0_2 a0_3 a0_4 a0_5 a0_6 a0_7 l0_8 l0_9 a0_10 a0_11))) else (spec_MessageOk.j1 kj1 true a0_0 a0_1 a0_2 a0_3 a0_4 a0_5 a0_6 a0_7 l0_8 l0_9 a0_10 a0_11))) = some r:=by rw [if_neg (show ¬ (false = true) by decide)] at H;exact H
   clear H;have H:=H1;clear H1;have HC15:=A_ H;clear H
   go_upto_region 3 with (fail)
   go_cut [49] (fun v49 wc => ∃ (kq : Nat) (x49_14 : Bool),v49 = .bool x49_14 ∧ Aside0 (spec_MessageOk.j1 kq x49_14 a0_0 a0_1 a0_2 a0_3 a0_4 a0_5 a0_6 a0_7 l0_8 l0_9 a0_10 a0_11 = some r) ∧ Aside0 (kq ≤ kj1) ∧ Aside0 (wc.heap[gb184]? = some (.cells #[.int .i64 a0_0,.int .i64 a0_1,.int .i64 a0_2,.int .i64 a0_3,.int .i64 a0_4,.int .i64 a0_5,.int .i64 a0_6,.bool a0_7,(.slice A0_8 l0_8.length c0_8),(.slice A0_9 l0_9.length c0_9),.string a0_10,.bool a0_11] 41 (0,0))) ∧ Aside0 (Below w.heap.size w wc))
   case first =>
    have H:=HC15.out;clear HC15;replace H:=ob_.mp H;obtain ⟨t188,A160,H⟩:=H;have A16:=A_ A160;clear A160
    by_cases c17 : t188 = true;rotate_left
    ·replace c17:=Bool.eq_false_iff.mpr c17;subst c17
     have H1 : (spec_MessageOk.j1 kj1 true a0_0 a0_1 a0_2 a0_3 a0_4 a0_5 a0_6 a0_7 l0_8 l0_9 a0_10 a0_11) = some r:=by rw [if_neg (show ¬ (false = true) by decide)] at H;exact H
     clear H;have H:=H1;clear H1;have H':=A_ H;clear H;obtain ⟨hcz26_0,hcz26_1,hcz26_2,hcz26_3,hcz26_4,hcz26_5,hcz26_6,hcz26_7,hcz26_8,hcz26_9,hcz26_10,hcz26_11,hfz26_0,hfz26_1,hfz26_2,hfz26_3,hfz26_4,hfz26_5,hfz26_6,hfz26_7,hfz26_8,hfz26_9,hfz26_10,hfz26_11⟩:=k12f_ BK184
     go_wp2_with (((with_reducible refine gate_callee (f:=81) rfl ?_);refine gL_ (some 30) Try.func81 #[.int .i64 a0_3,.int .i64 0,.int .i64 100000] ?_;(with_reducible refine (spec_l01In.calls a0_3 0 100000 false _ A16.out).mono ?_);rintro e w' ⟨rfl,⟨nd,rfl⟩⟩;refine ⟨_,rfl,?_⟩))
     go_meet
     case rel => exact ⟨_,(true),(by rfl),H',⟨by have:=HJ1.out;omega⟩,⟨kq_ BK184⟩,⟨bq_ HB⟩⟩
    subst c17
    rw [if_pos rfl] at H;replace H:=ob_.mp H;obtain ⟨t189,A180,H⟩:=H;have A18:=A_ A180;clear A180
    by_cases c19 : t189 = true
    ·subst c19
     rw [if_pos rfl] at H;replace H:=ob_.mp H;obtain ⟨t190,A200,H⟩:=H;have A20:=A_ A200;clear A200
     by_cases c21 : t190 = true
     ·subst c21
      rw [if_pos rfl] at H;replace H:=ob_.mp H;obtain ⟨t191,A220,H⟩:=H;have A22:=A_ A220;clear A220;have H':=A_ H;clear H;obtain ⟨hcz23_0,hcz23_1,hcz23_2,hcz23_3,hcz23_4,hcz23_5,hcz23_6,hcz23_7,hcz23_8,hcz23_9,hcz23_10,hcz23_11,hfz23_0,hfz23_1,hfz23_2,hfz23_3,hfz23_4,hfz23_5,hfz23_6,hfz23_7,hfz23_8,hfz23_9,hfz23_10,hfz23_11⟩:=k12f_ BK184
      go_wp2_with (first|((with_reducible refine gate_callee (f:=81) rfl ?_);refine gL_ (some 30) Try.func81 #[.int .i64 a0_3,.int .i64 0,.int .i64 100000] ?_;(with_reducible refine (spec_l01In.calls a0_3 0 100000 true _ A16.out).mono ?_);rintro e w' ⟨rfl,⟨nd,rfl⟩⟩;refine ⟨_,rfl,?_⟩)|(go_at_call 81;(with_reducible refine (spec_l01In.calls a0_5 0 100000 true _ A18.out).mono ?_);rintro e w' ⟨rfl,⟨nd,rfl⟩⟩)|(go_at_call 81;(with_reducible refine (spec_l01In.calls a0_4 0 100000 true _ A20.out).mono ?_);rintro e w' ⟨rfl,⟨nd,rfl⟩⟩)|(go_at_call 81;(with_reducible refine (spec_l01In.calls a0_6 0 100000 t191 _ A22.out).mono ?_);rintro e w' ⟨rfl,⟨nd,rfl⟩⟩))
      go_meet
      case rel => exact ⟨_,(!t191),(by rfl),H',⟨by have:=HJ1.out;omega⟩,⟨kq_ BK184⟩,⟨bq_ HB⟩⟩
     replace c21:=Bool.eq_false_iff.mpr c21;subst c21
     have H1 : (spec_MessageOk.j1 kj1 true a0_0 a0_1 a0_2 a0_3 a0_4 a0_5 a0_6 a0_7 l0_8 l0_9 a0_10 a0_11) = some r:=by rw [if_neg (show ¬ (false = true) by decide)] at H;exact H
     clear H;have H:=H1;clear H1;have H':=A_ H;clear H;obtain ⟨hcz24_0,hcz24_1,hcz24_2,hcz24_3,hcz24_4,hcz24_5,hcz24_6,hcz24_7,hcz24_8,hcz24_9,hcz24_10,hcz24_11,hfz24_0,hfz24_1,hfz24_2,hfz24_3,hfz24_4,hfz24_5,hfz24_6,hfz24_7,hfz24_8,hfz24_9,hfz24_10,hfz24_11⟩:=k12f_ BK184
     go_wp2_with (first|((with_reducible refine gate_callee (f:=81) rfl ?_);refine gL_ (some 30) Try.func81 #[.int .i64 a0_3,.int .i64 0,.int .i64 100000] ?_;(with_reducible refine (spec_l01In.calls a0_3 0 100000 true _ A16.out).mono ?_);rintro e w' ⟨rfl,⟨nd,rfl⟩⟩;refine ⟨_,rfl,?_⟩)|(go_at_call 81;(with_reducible refine (spec_l01In.calls a0_5 0 100000 true _ A18.out).mono ?_);rintro e w' ⟨rfl,⟨nd,rfl⟩⟩)|(go_at_call 81;(with_reducible refine (spec_l01In.calls a0_4 0 100000 false _ A20.out).mono ?_);rintro e w' ⟨rfl,⟨nd,rfl⟩⟩))
     go_meet
     case rel => exact ⟨_,(true),(by rfl),H',⟨by have:=HJ1.out;omega⟩,⟨kq_ BK184⟩,⟨bq_ HB⟩⟩
    replace c19:=Bool.eq_false_iff.mpr c19;subst c19
    have H1 : (spec_MessageOk.j1 kj1 true a0_0 a0_1 a0_2 a0_3 a0_4 a0_5 a0_6 a0_7 l0_8 l0_9 a0_10 a0_11) = some r:=by rw [if_neg (show ¬ (false = true) by decide)] at H;exact H
    clear H;have H:=H1;clear H1;have H':=A_ H;clear H;obtain ⟨hcz25_0,hcz25_1,hcz25_2,hcz25_3,hcz25_4,hcz25_5,hcz25_6,hcz25_7,hcz25_8,hcz25_9,hcz25_10,hcz25_11,hfz25_0,hfz25_1,hfz25_2,hfz25_3,hfz25_4,hfz25_5,hfz25_6,hfz25_7,hfz25_8,hfz25_9,hfz25_10,hfz25_11⟩:=k12f_ BK184
    go_wp2_with (first|((with_reducible refine gate_callee (f:=81) rfl ?_);refine gL_ (some 30) Try.func81 #[.int .i64 a0_3,.int .i64 0,.int .i64 100000] ?_;(with_reducible refine (spec_l01In.calls a0_3 0 100000 true _ A16.out).mono ?_);rintro e w' ⟨rfl,⟨nd,rfl⟩⟩;refine ⟨_,rfl,?_⟩)|(go_at_call 81;(with_reducible refine (spec_l01In.calls a0_5 0 100000 false _ A18.out).mono ?_);rintro e w' ⟨rfl,⟨nd,rfl⟩⟩))
    go_meet
    case rel => exact ⟨_,(true),(by rfl),H',⟨by have:=HJ1.out;omega⟩,⟨kq_ BK184⟩,⟨bq_ HB⟩⟩
   case rest =>
    clear HC15
    (try clear c1);(try clear c2);(try clear p2);(try clear c5);(try clear c7);(try clear c8);(try clear c9);(try clear c14);(try clear c17);(try clear c19);(try clear c21);(try clear hcz10_0);(try clear hcz10_1);(try clear hcz10_10);(try clear hcz10_11);(try clear hcz10_2);(try clear hcz10_3);(try clear hcz10_4);(try clear hcz10_5);(try clear hcz10_6);(try clear hcz10_7);(try clear hcz10_8);(try clear hcz10_9);(try clear hcz11_0);(try clear hcz11_1);(try clear hcz11_10);(try clear hcz11_11);(try clear hcz11_2);(try clear hcz11_3);(try clear hcz11_4);(try clear hcz11_5);(try clear hcz11_6);(try clear hcz11_7);(try clear hcz11_8);(try clear hcz11_9);(try clear hcz12_0);(try clear hcz12_1);(try clear hcz12_10);(try clear hcz12_11);(try clear hcz12_2);(try clear hcz12_3);(try clear hcz12_4);(try clear hcz12_5);(try clear hcz12_6);(try clear hcz12_7);(try clear hcz12_8);(try clear hcz12_9);(try clear hcz13_0);(try clear hcz13_1);(try clear hcz13_10);(try clear hcz13_11);(try clear hcz13_2);(try clear hcz13_3);(try clear hcz13_4);(try clear hcz13_5);(try clear hcz13_6);(try clear hcz13_7);(try clear hcz13_8);(try clear hcz13_9);(try clear hcz23_0);(try clear hcz23_1);(try clear hcz23_10);(try clear hcz23_11);(try clear hcz23_2);(try clear hcz23_3);(try clear hcz23_4);(try clear hcz23_5);(try clear hcz23_6);(try clear hcz23_7);(try clear hcz23_8);(try clear hcz23_9);(try clear hcz24_0);(try clear hcz24_1);(try clear hcz24_10);(try clear hcz24_11);(try clear hcz24_2);(try clear hcz24_3);(try clear hcz24_4);(try clear hcz24_5);(try clear hcz24_6);(try clear hcz24_7);(try clear hcz24_8);(try clear hcz24_9);(try clear hcz25_0);(try clear hcz25_1);(try clear hcz25_10);(try clear hcz25_11);(try clear hcz25_2);(try clear hcz25_3);(try clear hcz25_4);(try clear hcz25_5);(try clear hcz25_6);(try clear hcz25_7);(try clear hcz25_8);(try clear hcz25_9);(try clear hcz26_0);(try clear hcz26_1);(try clear hcz26_10);(try clear hcz26_11);(try clear hcz26_2);(try clear hcz26_3);(try clear hcz26_4);(try clear hcz26_5);(try clear hcz26_6);(try clear hcz26_7);(try clear hcz26_8);(try clear hcz26_9);(try clear hfz10_0);(try clear hfz10_1);(try clear hfz10_10);(try clear hfz10_11);(try clear hfz10_2);(try clear hfz10_3);(try clear hfz10_4);(try clear hfz10_5);(try clear hfz10_6);(try clear hfz10_7);(try clear hfz10_8);(try clear hfz10_9);(try clear hfz11_0);(try clear hfz11_1);(try clear hfz11_10);(try clear hfz11_11);(try clear hfz11_2);(try clear hfz11_3);(try clear hfz11_4);(try clear hfz11_5);(try clear hfz11_6);(try clear hfz11_7);(try clear hfz11_8);(try clear hfz11_9);(try clear hfz12_0);(try clear hfz12_1);(try clear hfz12_10);(try clear hfz12_11);(try clear hfz12_2);(try clear hfz12_3);(try clear hfz12_4);(try clear hfz12_5);(try clear hfz12_6);(try clear hfz12_7);(try clear hfz12_8);(try clear hfz12_9);(try clear hfz13_0);(try clear hfz13_1);(try clear hfz13_10);(try clear hfz13_11);(try clear hfz13_2);(try clear hfz13_3);(try clear hfz13_4);(try clear hfz13_5);(try clear hfz13_6);(try clear hfz13_7);(try clear hfz13_8);(try clear hfz13_9);(try clear hfz23_0);(try clear hfz23_1);(try clear hfz23_10);(try clear hfz23_11);(try clear hfz23_2);(try clear hfz23_3);(try clear hfz23_4);(try clear hfz23_5);(try clear hfz23_6);(try clear hfz23_7);(try clear hfz23_8);(try clear hfz23_9);(try clear hfz24_0);(try clear hfz24_1);(try clear hfz24_10);(try clear hfz24_11);(try clear hfz24_2);(try clear hfz24_3);(try clear hfz24_4);(try clear hfz24_5);(try clear hfz24_6);(try clear hfz24_7);(try clear hfz24_8);(try clear hfz24_9);(try clear hfz25_0);(try clear hfz25_1);(try clear hfz25_10);(try clear hfz25_11);(try clear hfz25_2);(try clear hfz25_3);(try clear hfz25_4);(try clear hfz25_5);(try clear hfz25_6);(try clear hfz25_7);(try clear hfz25_8);(try clear hfz25_9);(try clear hfz26_0);(try clear hfz26_1);(try clear hfz26_10);(try clear hfz26_11);(try clear hfz26_2);(try clear hfz26_3);(try clear hfz26_4);(try clear hfz26_5);(try clear hfz26_6);(try clear hfz26_7);(try clear hfz26_8);(try clear hfz26_9);(try clear p2)
    obtain ⟨kq,x49_14,rfl,HA,HJ14,BK184,HB⟩:=hcut
    cases kq with
    | zero => exact absurd HA.out (by simp [spec_MessageOk.j1])
    | succ kj14 =>
     have H:=HA.out;clear HA;simp only [spec_MessageOk.j1] at H
     by_cases c27 : x49_14 = true
     ·subst c27
      rw [if_pos rfl] at H;obtain rfl:=Option.some.inj H;go_wp2;go_ret;exact ⟨ex_,bq_ HB⟩
     replace c27:=Bool.eq_false_iff.mpr c27;subst c27
     have H1 : (if (l0_8.length : Int) > 4 then (spec_MessageOk.j2 kj14 true a0_0 a0_1 a0_2 a0_3 a0_4 a0_5 a0_6 a0_7 l0_8 l0_9 a0_10 a0_11) else (if (l0_8.length : Int) > 0 then (spec_MessageOk.j2 kj14 (a0_0 != 3) a0_0 a0_1 a0_2 a0_3 a0_4 a0_5 a0_6 a0_7 l0_8 l0_9 a0_10 a0_11) else (spec_MessageOk.j2 kj14 false a0_0 a0_1 a0_2 a0_3 a0_4 a0_5 a0_6 a0_7 l0_8 l0_9 a0_10 a0_11))) = some r:=by rw [if_neg (show ¬ (false = true) by decide)] at H;exact H
     clear H;have H:=H1;clear H1;have HC28:=A_ H;clear H
     go_upto_region 5 with (fail)
     go_cut [64] (fun v64 wc => ∃ (kq : Nat) (x64_27 : Bool),v64 = .bool x64_27 ∧ Aside0 (spec_MessageOk.j2 kq x64_27 a0_0 a0_1 a0_2 a0_3 a0_4 a0_5 a0_6 a0_7 l0_8 l0_9 a0_10 a0_11 = some r) ∧ Aside0 (kq ≤ kj14) ∧ Aside0 (wc.heap[gb184]? = some (.cells #[.int .i64 a0_0,.int .i64 a0_1,.int .i64 a0_2,.int .i64 a0_3,.int .i64 a0_4,.int .i64 a0_5,.int .i64 a0_6,.bool a0_7,(.slice A0_8 l0_8.length c0_8),(.slice A0_9 l0_9.length c0_9),.string a0_10,.bool a0_11] 41 (0,0))) ∧ Aside0 (Below w.heap.size w wc))
     case first =>
      have H:=HC28.out;clear HC28
      by_cases c29 : (l0_8.length : Int) > 4
      ·rw [if_pos c29] at H;have c29b0:=de_ c29;have c29b1 : decide (4 < l0_8.length) = true:=de_ (by omega);clear c29
       (skip)
       have H':=A_ H;clear H;obtain ⟨hcz30_0,hcz30_1,hcz30_2,hcz30_3,hcz30_4,hcz30_5,hcz30_6,hcz30_7,hcz30_8,hcz30_9,hcz30_10,hcz30_11,hfz30_0,hfz30_1,hfz30_2,hfz30_3,hfz30_4,hfz30_5,hfz30_6,hfz30_7,hfz30_8,hfz30_9,hfz30_10,hfz30_11⟩:=k12f_ BK184;go_wp2
       go_meet
       case rel => exact ⟨_,(true),(by rfl),H',⟨by have:=HJ1.out;have:=HJ14.out;omega⟩,⟨kq_ BK184⟩,⟨bq_ HB⟩⟩
      rw [if_neg c29] at H;have c29b0:=decide_eq_false c29;have c29b1 : decide (4 < l0_8.length) = false:=decide_eq_false (by omega);clear c29
      (skip)
      by_cases c31 : (l0_8.length : Int) > 0
      ·rw [if_pos c31] at H;have c31b0:=de_ c31;have c31b1 : decide (0 < l0_8.length) = true:=de_ (by omega);clear c31;have H':=A_ H;clear H;obtain ⟨hcz32_0,hcz32_1,hcz32_2,hcz32_3,hcz32_4,hcz32_5,hcz32_6,hcz32_7,hcz32_8,hcz32_9,hcz32_10,hcz32_11,hfz32_0,hfz32_1,hfz32_2,hfz32_3,hfz32_4,hfz32_5,hfz32_6,hfz32_7,hfz32_8,hfz32_9,hfz32_10,hfz32_11⟩:=k12f_ BK184;go_wp2
       go_meet
       case rel => exact ⟨_,((a0_0 != 3)),(by rfl),H',⟨by have:=HJ1.out;have:=HJ14.out;omega⟩,⟨kq_ BK184⟩,⟨bq_ HB⟩⟩
      rw [if_neg c31] at H;have c31b0:=decide_eq_false c31;have c31b1 : decide (0 < l0_8.length) = false:=decide_eq_false (by omega);clear c31;have H':=A_ H;clear H;obtain ⟨hcz33_0,hcz33_1,hcz33_2,hcz33_3,hcz33_4,hcz33_5,hcz33_6,hcz33_7,hcz33_8,hcz33_9,hcz33_10,hcz33_11,hfz33_0,hfz33_1,hfz33_2,hfz33_3,hfz33_4,hfz33_5,hfz33_6,hfz33_7,hfz33_8,hfz33_9,hfz33_10,hfz33_11⟩:=k12f_ BK184;go_wp2
      go_meet
      case rel => exact ⟨_,(false),(by rfl),H',⟨by have:=HJ1.out;have:=HJ14.out;omega⟩,⟨kq_ BK184⟩,⟨bq_ HB⟩⟩
     case rest =>
      clear HC28
      (try clear c1);(try clear c2);(try clear p2);(try clear c3);(try clear c5);(try clear c7);(try clear c8);(try clear c9);(try clear c14);(try clear c17);(try clear c19);(try clear c21);(try clear c27);(try clear c29);(try clear c29b0);(try clear c29b1);(try clear c31);(try clear c31b0);(try clear c31b1);(try clear hcz10_0);(try clear hcz10_1);(try clear hcz10_10);(try clear hcz10_11);(try clear hcz10_2);(try clear hcz10_3);(try clear hcz10_4);(try clear hcz10_5);(try clear hcz10_6);(try clear hcz10_7);(try clear hcz10_8);(try clear hcz10_9);(try clear hcz11_0);(try clear hcz11_1);(try clear hcz11_10);(try clear hcz11_11);(try clear hcz11_2);(try clear hcz11_3);(try clear hcz11_4);(try clear hcz11_5);(try clear hcz11_6);(try clear hcz11_7);(try clear hcz11_8);(try clear hcz11_9);(try clear hcz12_0);(try clear hcz12_1);(try clear hcz12_10);(try clear hcz12_11);(try clear hcz12_2);(try clear hcz12_3);(try clear hcz12_4);(try clear hcz12_5);(try clear hcz12_6);(try clear hcz12_7);(try clear hcz12_8);(try clear hcz12_9);(try clear hcz13_0);(try clear hcz13_1);(try clear hcz13_10);(try clear hcz13_11);(try clear hcz13_2);(try clear hcz13_3);(try clear hcz13_4);(try clear hcz13_5);(try clear hcz13_6);(try clear hcz13_7);(try clear hcz13_8);(try clear hcz13_9);(try clear hcz23_0);(try clear hcz23_1);(try clear hcz23_10);(try clear hcz23_11);(try clear hcz23_2);(try clear hcz23_3);(try clear hcz23_4);(try clear hcz23_5);(try clear hcz23_6);(try clear hcz23_7);(try clear hcz23_8);(try clear hcz23_9);(try clear hcz24_0);(try clear hcz24_1);(try clear hcz24_10);(try clear hcz24_11);(try clear hcz24_2);(try clear hcz24_3);(try clear hcz24_4);(try clear hcz24_5);(try clear hcz24_6);(try clear hcz24_7);(try clear hcz24_8);(try clear hcz24_9);(try clear hcz25_0);(try clear hcz25_1);(try clear hcz25_10);(try clear hcz25_11);(try clear hcz25_2);(try clear hcz25_3);(try clear hcz25_4);(try clear hcz25_5);(try clear hcz25_6);(try clear hcz25_7);(try clear hcz25_8);(try clear hcz25_9);(try clear hcz26_0);(try clear hcz26_1);(try clear hcz26_10);(try clear hcz26_11);(try clear hcz26_2);(try clear hcz26_3);(try clear hcz26_4);(try clear hcz26_5);(try clear hcz26_6);(try clear hcz26_7);(try clear hcz26_8);(try clear hcz26_9);(try clear hcz30_0);(try clear hcz30_1);(try clear hcz30_10);(try clear hcz30_11);(try clear hcz30_2);(try clear hcz30_3);(try clear hcz30_4);(try clear hcz30_5);(try clear hcz30_6);(try clear hcz30_7);(try clear hcz30_8);(try clear hcz30_9);(try clear hcz32_0);(try clear hcz32_1);(try clear hcz32_10);(try clear hcz32_11);(try clear hcz32_2);(try clear hcz32_3);(try clear hcz32_4);(try clear hcz32_5);(try clear hcz32_6);(try clear hcz32_7);(try clear hcz32_8);(try clear hcz32_9);(try clear hcz33_0);(try clear hcz33_1);(try clear hcz33_10);(try clear hcz33_11);(try clear hcz33_2);(try clear hcz33_3);(try clear hcz33_4);(try clear hcz33_5);(try clear hcz33_6);(try clear hcz33_7);(try clear hcz33_8);(try clear hcz33_9);(try clear hfz10_0);(try clear hfz10_1);(try clear hfz10_10);(try clear hfz10_11);(try clear hfz10_2);(try clear hfz10_3);(try clear hfz10_4);(try clear hfz10_5);(try clear hfz10_6);(try clear hfz10_7);(try clear hfz10_8);(try clear hfz10_9);(try clear hfz11_0);(try clear hfz11_1);(try clear hfz11_10);(try clear hfz11_11);(try clear hfz11_2);(try clear hfz11_3);(try clear hfz11_4);(try clear hfz11_5);(try clear hfz11_6);(try clear hfz11_7);(try clear hfz11_8);(try clear hfz11_9);(try clear hfz12_0);(try clear hfz12_1);(try clear hfz12_10);(try clear hfz12_11);(try clear hfz12_2);(try clear hfz12_3);(try clear hfz12_4);(try clear hfz12_5);(try clear hfz12_6);(try clear hfz12_7);(try clear hfz12_8);(try clear hfz12_9);(try clear hfz13_0);(try clear hfz13_1);(try clear hfz13_10);(try clear hfz13_11);(try clear hfz13_2);(try clear hfz13_3);(try clear hfz13_4);(try clear hfz13_5);(try clear hfz13_6);(try clear hfz13_7);(try clear hfz13_8);(try clear hfz13_9);(try clear hfz23_0);(try clear hfz23_1);(try clear hfz23_10);(try clear hfz23_11);(try clear hfz23_2);(try clear hfz23_3);(try clear hfz23_4);(try clear hfz23_5);(try clear hfz23_6);(try clear hfz23_7);(try clear hfz23_8);(try clear hfz23_9);(try clear hfz24_0);(try clear hfz24_1);(try clear hfz24_10);(try clear hfz24_11);(try clear hfz24_2);(try clear hfz24_3);(try clear hfz24_4);(try clear hfz24_5);(try clear hfz24_6);(try clear hfz24_7);(try clear hfz24_8);(try clear hfz24_9);(try clear hfz25_0);(try clear hfz25_1);(try clear hfz25_10);(try clear hfz25_11);(try clear hfz25_2);(try clear hfz25_3);(try clear hfz25_4);(try clear hfz25_5);(try clear hfz25_6);(try clear hfz25_7);(try clear hfz25_8);(try clear hfz25_9);(try clear hfz26_0);(try clear hfz26_1);(try clear hfz26_10);(try clear hfz26_11);(try clear hfz26_2);(try clear hfz26_3);(try clear hfz26_4);(try clear hfz26_5);(try clear hfz26_6);(try clear hfz26_7);(try clear hfz26_8);(try clear hfz26_9);(try clear hfz30_0);(try clear hfz30_1);(try clear hfz30_10);(try clear hfz30_11);(try clear hfz30_2);(try clear hfz30_3);(try clear hfz30_4);(try clear hfz30_5);(try clear hfz30_6);(try clear hfz30_7);(try clear hfz30_8);(try clear hfz30_9);(try clear hfz32_0);(try clear hfz32_1);(try clear hfz32_10);(try clear hfz32_11);(try clear hfz32_2);(try clear hfz32_3);(try clear hfz32_4);(try clear hfz32_5);(try clear hfz32_6);(try clear hfz32_7);(try clear hfz32_8);(try clear hfz32_9);(try clear hfz33_0);(try clear hfz33_1);(try clear hfz33_10);(try clear hfz33_11);(try clear hfz33_2);(try clear hfz33_3);(try clear hfz33_4);(try clear hfz33_5);(try clear hfz33_6);(try clear hfz33_7);(try clear hfz33_8);(try clear hfz33_9);(try clear p2)
      obtain ⟨kq,x64_27,rfl,HA,HJ27,BK184,HB⟩:=hcut
      cases kq with
      | zero => exact absurd HA.out (by simp [spec_MessageOk.j2])
      | succ kj27 =>
       have H:=HA.out;clear HA;simp only [spec_MessageOk.j2] at H
       by_cases c34 : x64_27 = true
       ·subst c34
        rw [if_pos rfl] at H;obtain rfl:=Option.some.inj H;go_wp2;go_ret;exact ⟨ex_,bq_ HB⟩
       replace c34:=Bool.eq_false_iff.mpr c34;subst c34
       have H1 : (spec_MessageOk.l0 kj27 a0_5 0 a0_0 a0_1 a0_2 a0_3 a0_4 a0_5 a0_6 a0_7 l0_8 l0_9 a0_10 a0_11) = some r:=by rw [if_neg (show ¬ (false = true) by decide)] at H;exact H
       clear H;have H:=H1;clear H1;have H':=A_ H;clear H;obtain ⟨hcz35_0,hcz35_1,hcz35_2,hcz35_3,hcz35_4,hcz35_5,hcz35_6,hcz35_7,hcz35_8,hcz35_9,hcz35_10,hcz35_11,hfz35_0,hfz35_1,hfz35_2,hfz35_3,hfz35_4,hfz35_5,hfz35_6,hfz35_7,hfz35_8,hfz35_9,hfz35_10,hfz35_11⟩:=k12f_ BK184;go_wp2
       go_loopg [3,4] kj27 (fun kq v3 v4 w' => ∃ (x3_4 : Int) (x4_4 : Int),v3 = .int .i64 x3_4 ∧ v4 = .int .i64 x4_4 ∧ Aside0 (spec_MessageOk.l0 kq x3_4 x4_4 a0_0 a0_1 a0_2 a0_3 a0_4 a0_5 a0_6 a0_7 l0_8 l0_9 a0_10 a0_11 = some r) ∧ Aside0 (kq ≤ kj27) ∧ Aside0 (w'.heap[gb184]? = some (.cells #[.int .i64 a0_0,.int .i64 a0_1,.int .i64 a0_2,.int .i64 a0_3,.int .i64 a0_4,.int .i64 a0_5,.int .i64 a0_6,.bool a0_7,(.slice A0_8 l0_8.length c0_8),(.slice A0_9 l0_9.length c0_9),.string a0_10,.bool a0_11] 41 (0,0))) ∧ Aside0 (Below w.heap.size w w'))
       case atStart => exact ⟨(a0_5),(0),(by rfl),(by rfl),H',⟨Nat.le_refl _⟩,⟨kq_ BK184⟩,⟨bq_ HB⟩⟩
       case round =>
        clear H'
        (try clear c1);(try clear c2);(try clear p2);(try clear c3);(try clear c5);(try clear c7);(try clear c8);(try clear c9);(try clear c14);(try clear c17);(try clear c19);(try clear c21);(try clear c27);(try clear c29);(try clear c29b0);(try clear c29b1);(try clear c31);(try clear c31b0);(try clear c31b1);(try clear c34);(try clear hcz10_0);(try clear hcz10_1);(try clear hcz10_10);(try clear hcz10_11);(try clear hcz10_2);(try clear hcz10_3);(try clear hcz10_4);(try clear hcz10_5);(try clear hcz10_6);(try clear hcz10_7);(try clear hcz10_8);(try clear hcz10_9);(try clear hcz11_0);(try clear hcz11_1);(try clear hcz11_10);(try clear hcz11_11);(try clear hcz11_2);(try clear hcz11_3);(try clear hcz11_4);(try clear hcz11_5);(try clear hcz11_6);(try clear hcz11_7);(try clear hcz11_8);(try clear hcz11_9);(try clear hcz12_0);(try clear hcz12_1);(try clear hcz12_10);(try clear hcz12_11);(try clear hcz12_2);(try clear hcz12_3);(try clear hcz12_4);(try clear hcz12_5);(try clear hcz12_6);(try clear hcz12_7);(try clear hcz12_8);(try clear hcz12_9);(try clear hcz13_0);(try clear hcz13_1);(try clear hcz13_10);(try clear hcz13_11);(try clear hcz13_2);(try clear hcz13_3);(try clear hcz13_4);(try clear hcz13_5);(try clear hcz13_6);(try clear hcz13_7);(try clear hcz13_8);(try clear hcz13_9);(try clear hcz23_0);(try clear hcz23_1);(try clear hcz23_10);(try clear hcz23_11);(try clear hcz23_2);(try clear hcz23_3);(try clear hcz23_4);(try clear hcz23_5);(try clear hcz23_6);(try clear hcz23_7);(try clear hcz23_8);(try clear hcz23_9);(try clear hcz24_0);(try clear hcz24_1);(try clear hcz24_10);(try clear hcz24_11);(try clear hcz24_2);(try clear hcz24_3);(try clear hcz24_4);(try clear hcz24_5);(try clear hcz24_6);(try clear hcz24_7);(try clear hcz24_8);(try clear hcz24_9);(try clear hcz25_0);(try clear hcz25_1);(try clear hcz25_10);(try clear hcz25_11);(try clear hcz25_2);(try clear hcz25_3);(try clear hcz25_4);(try clear hcz25_5);(try clear hcz25_6);(try clear hcz25_7);(try clear hcz25_8);(try clear hcz25_9);(try clear hcz26_0);(try clear hcz26_1);(try clear hcz26_10);(try clear hcz26_11);(try clear hcz26_2);(try clear hcz26_3);(try clear hcz26_4);(try clear hcz26_5);(try clear hcz26_6);(try clear hcz26_7);(try clear hcz26_8);(try clear hcz26_9);(try clear hcz30_0);(try clear hcz30_1);(try clear hcz30_10);(try clear hcz30_11);(try clear hcz30_2);(try clear hcz30_3);(try clear hcz30_4);(try clear hcz30_5);(try clear hcz30_6);(try clear hcz30_7);(try clear hcz30_8);(try clear hcz30_9);(try clear hcz32_0);(try clear hcz32_1);(try clear hcz32_10);(try clear hcz32_11);(try clear hcz32_2);(try clear hcz32_3);(try clear hcz32_4);(try clear hcz32_5);(try clear hcz32_6);(try clear hcz32_7);(try clear hcz32_8);(try clear hcz32_9);(try clear hcz33_0);(try clear hcz33_1);(try clear hcz33_10);(try clear hcz33_11);(try clear hcz33_2);(try clear hcz33_3);(try clear hcz33_4);(try clear hcz33_5);(try clear hcz33_6);(try clear hcz33_7);(try clear hcz33_8);(try clear hcz33_9);(try clear hcz35_0);(try clear hcz35_1);(try clear hcz35_10);(try clear hcz35_11);(try clear hcz35_2);(try clear hcz35_3);(try clear hcz35_4);(try clear hcz35_5);(try clear hcz35_6);(try clear hcz35_7);(try clear hcz35_8);(try clear hcz35_9);(try clear hfz10_0);(try clear hfz10_1);(try clear hfz10_10);(try clear hfz10_11);(try clear hfz10_2);(try clear hfz10_3);(try clear hfz10_4);(try clear hfz10_5);(try clear hfz10_6);(try clear hfz10_7);(try clear hfz10_8);(try clear hfz10_9);(try clear hfz11_0);(try clear hfz11_1);(try clear hfz11_10);(try clear hfz11_11);(try clear hfz11_2);(try clear hfz11_3);(try clear hfz11_4);(try clear hfz11_5);(try clear hfz11_6);(try clear hfz11_7);(try clear hfz11_8);(try clear hfz11_9);(try clear hfz12_0);(try clear hfz12_1);(try clear hfz12_10);(try clear hfz12_11);(try clear hfz12_2);(try clear hfz12_3);(try clear hfz12_4);(try clear hfz12_5);(try clear hfz12_6);(try clear hfz12_7);(try clear hfz12_8);(try clear hfz12_9);(try clear hfz13_0);(try clear hfz13_1);(try clear hfz13_10);(try clear hfz13_11);(try clear hfz13_2);(try clear hfz13_3);(try clear hfz13_4);(try clear hfz13_5);(try clear hfz13_6);(try clear hfz13_7);(try clear hfz13_8);(try clear hfz13_9);(try clear hfz23_0);(try clear hfz23_1);(try clear hfz23_10);(try clear hfz23_11);(try clear hfz23_2);(try clear hfz23_3);(try clear hfz23_4);(try clear hfz23_5);(try clear hfz23_6);(try clear hfz23_7);(try clear hfz23_8);(try clear hfz23_9);(try clear hfz24_0);(try clear hfz24_1);(try clear hfz24_10);(try clear hfz24_11);(try clear hfz24_2);(try clear hfz24_3);(try clear hfz24_4);(try clear hfz24_5);(try clear hfz24_6);(try clear hfz24_7);(try clear hfz24_8);(try clear hfz24_9);(try clear hfz25_0);(try clear hfz25_1);(try clear hfz25_10);(try clear hfz25_11);(try clear hfz25_2);(try clear hfz25_3);(try clear hfz25_4);(try clear hfz25_5);(try clear hfz25_6);(try clear hfz25_7);(try clear hfz25_8);(try clear hfz25_9);(try clear hfz26_0);(try clear hfz26_1);(try clear hfz26_10);(try clear hfz26_11);(try clear hfz26_2);(try clear hfz26_3);(try clear hfz26_4);(try clear hfz26_5);(try clear hfz26_6);(try clear hfz26_7);(try clear hfz26_8);(try clear hfz26_9);(try clear hfz30_0);(try clear hfz30_1);(try clear hfz30_10);(try clear hfz30_11);(try clear hfz30_2);(try clear hfz30_3);(try clear hfz30_4);(try clear hfz30_5);(try clear hfz30_6);(try clear hfz30_7);(try clear hfz30_8);(try clear hfz30_9);(try clear hfz32_0);(try clear hfz32_1);(try clear hfz32_10);(try clear hfz32_11);(try clear hfz32_2);(try clear hfz32_3);(try clear hfz32_4);(try clear hfz32_5);(try clear hfz32_6);(try clear hfz32_7);(try clear hfz32_8);(try clear hfz32_9);(try clear hfz33_0);(try clear hfz33_1);(try clear hfz33_10);(try clear hfz33_11);(try clear hfz33_2);(try clear hfz33_3);(try clear hfz33_4);(try clear hfz33_5);(try clear hfz33_6);(try clear hfz33_7);(try clear hfz33_8);(try clear hfz33_9);(try clear hfz35_0);(try clear hfz35_1);(try clear hfz35_10);(try clear hfz35_11);(try clear hfz35_2);(try clear hfz35_3);(try clear hfz35_4);(try clear hfz35_5);(try clear hfz35_6);(try clear hfz35_7);(try clear hfz35_8);(try clear hfz35_9);(try clear p2)
        obtain ⟨x3_4,x4_4,rfl,rfl,HA,HK4,BK184,HB⟩:=hrel
        cases gk with
        | zero => exact absurd HA.out (by simp [spec_MessageOk.l0])
        | succ k4 =>
         have H:=HA.out;clear HA;simp only [spec_MessageOk.l0] at H;have HC36:=A_ H;clear H;obtain ⟨hcz37_0,hcz37_1,hcz37_2,hcz37_3,hcz37_4,hcz37_5,hcz37_6,hcz37_7,hcz37_8,hcz37_9,hcz37_10,hcz37_11,hfz37_0,hfz37_1,hfz37_2,hfz37_3,hfz37_4,hfz37_5,hfz37_6,hfz37_7,hfz37_8,hfz37_9,hfz37_10,hfz37_11⟩:=k12f_ BK184
         go_upto_if 71 with (fail)
         have H:=HC36.out;clear HC36
         by_cases c38 : x4_4 < (l0_8.length : Int);rotate_left
         ·rw [if_neg c38] at H;have c38b0:=decide_eq_false c38;clear c38
          (rw [c38b0])
          have HC52:=A_ H;clear H;obtain ⟨hcz53_0,hcz53_1,hcz53_2,hcz53_3,hcz53_4,hcz53_5,hcz53_6,hcz53_7,hcz53_8,hcz53_9,hcz53_10,hcz53_11,hfz53_0,hfz53_1,hfz53_2,hfz53_3,hfz53_4,hfz53_5,hfz53_6,hfz53_7,hfz53_8,hfz53_9,hfz53_10,hfz53_11⟩:=k12f_ BK184
          go_upto_if 110 with (fail)
          have H:=HC52.out;clear HC52
          by_cases c54 : a0_0 = 5
          ·rw [if_pos c54] at H;have c54b0:=beq_iff_eq.mpr c54;have c54b1:=bne_eq_false_iff_eq.mpr c54;clear c54
           (rw [c54b0])
           replace H:=ob_.mp H;obtain ⟨t197,A550,H⟩:=H;have A55:=A_ A550;clear A550
           by_cases c56 : t197 = true
           ·subst c56
            rw [if_pos rfl] at H;obtain rfl:=Option.some.inj H;obtain ⟨hcz57_0,hcz57_1,hcz57_2,hcz57_3,hcz57_4,hcz57_5,hcz57_6,hcz57_7,hcz57_8,hcz57_9,hcz57_10,hcz57_11,hfz57_0,hfz57_1,hfz57_2,hfz57_3,hfz57_4,hfz57_5,hfz57_6,hfz57_7,hfz57_8,hfz57_9,hfz57_10,hfz57_11⟩:=k12f_ BK184
            go_wp2_with (((with_reducible refine gate_callee (f:=83) rfl ?_);refine gL_ (some 113) Try.func83 #[.slice A0_9 l0_9.length c0_9] ?_;(with_reducible refine (spec_ConfOk.calls k4 _ _ l0_9 true _ ?side1 ?side2 A55.out).mono ?_);(case side1 => repeat (exact (Kd.C_below HR0_9.out HB.out)));(case side2 => exact HC0_9.out);rintro e w' ⟨rfl,⟨nd,rfl⟩⟩;refine ⟨_,rfl,?_⟩))
            go_ret;exact ⟨ex_,bq_ HB⟩
           replace c56:=Bool.eq_false_iff.mpr c56;subst c56
           have H1 : (some false) = some r:=by rw [if_neg (show ¬ (false = true) by decide)] at H;exact H
           clear H;have H:=H1;clear H1;obtain rfl:=Option.some.inj H;obtain ⟨hcz58_0,hcz58_1,hcz58_2,hcz58_3,hcz58_4,hcz58_5,hcz58_6,hcz58_7,hcz58_8,hcz58_9,hcz58_10,hcz58_11,hfz58_0,hfz58_1,hfz58_2,hfz58_3,hfz58_4,hfz58_5,hfz58_6,hfz58_7,hfz58_8,hfz58_9,hfz58_10,hfz58_11⟩:=k12f_ BK184
           go_wp2_with (((with_reducible refine gate_callee (f:=83) rfl ?_);refine gL_ (some 113) Try.func83 #[.slice A0_9 l0_9.length c0_9] ?_;(with_reducible refine (spec_ConfOk.calls k4 _ _ l0_9 false _ ?side1 ?side2 A55.out).mono ?_);(case side1 => repeat (exact (Kd.C_below HR0_9.out HB.out)));(case side2 => exact HC0_9.out);rintro e w' ⟨rfl,⟨nd,rfl⟩⟩;refine ⟨_,rfl,?_⟩))
           go_ret;exact ⟨ex_,bq_ HB⟩
          rw [if_neg c54] at H;have c54b0:=beq_eq_false_iff_ne.mpr c54;have c54b1:=bne_iff_ne.mpr c54
          (rw [c54b0])
          by_cases c59 : (l0_9.length : Int) = 0
          ·rw [if_pos c59] at H;have c59b0:=beq_iff_eq.mpr c59;have c59b1:=bne_eq_false_iff_eq.mpr c59;clear c59
           by_cases c60 : a0_10.toList = ([] : List UInt8)
           ·rw [if_pos c60] at H;have c60b0:=beq_iff_eq.mpr c60;have c60b1:=bne_eq_false_iff_eq.mpr c60;clear c60;obtain rfl:=Option.some.inj H;obtain ⟨hcz61_0,hcz61_1,hcz61_2,hcz61_3,hcz61_4,hcz61_5,hcz61_6,hcz61_7,hcz61_8,hcz61_9,hcz61_10,hcz61_11,hfz61_0,hfz61_1,hfz61_2,hfz61_3,hfz61_4,hfz61_5,hfz61_6,hfz61_7,hfz61_8,hfz61_9,hfz61_10,hfz61_11⟩:=k12f_ BK184;go_wp2;go_ret;exact ⟨ex_,bq_ HB⟩
           rw [if_neg c60] at H;have c60b0:=beq_eq_false_iff_ne.mpr c60;have c60b1:=bne_iff_ne.mpr c60;obtain rfl:=Option.some.inj H;obtain ⟨hcz62_0,hcz62_1,hcz62_2,hcz62_3,hcz62_4,hcz62_5,hcz62_6,hcz62_7,hcz62_8,hcz62_9,hcz62_10,hcz62_11,hfz62_0,hfz62_1,hfz62_2,hfz62_3,hfz62_4,hfz62_5,hfz62_6,hfz62_7,hfz62_8,hfz62_9,hfz62_10,hfz62_11⟩:=k12f_ BK184;go_wp2;go_ret;exact ⟨ex_,bq_ HB⟩
          rw [if_neg c59] at H;have c59b0:=beq_eq_false_iff_ne.mpr c59;have c59b1:=bne_iff_ne.mpr c59
          have c59b2 : ¬ (l0_9 = []):=fun h_ => c59 (by rw [h_];rfl)
          obtain rfl:=Option.some.inj H;obtain ⟨hcz63_0,hcz63_1,hcz63_2,hcz63_3,hcz63_4,hcz63_5,hcz63_6,hcz63_7,hcz63_8,hcz63_9,hcz63_10,hcz63_11,hfz63_0,hfz63_1,hfz63_2,hfz63_3,hfz63_4,hfz63_5,hfz63_6,hfz63_7,hfz63_8,hfz63_9,hfz63_10,hfz63_11⟩:=k12f_ BK184;go_wp2;go_ret;exact ⟨ex_,bq_ HB⟩
         rw [if_pos c38] at H;have c38b0:=de_ c38;clear c38
         (rw [c38b0])
         by_cases c39 : 0 ≤ x4_4;rotate_left
         ·rw [if_neg c39] at H;exact absurd H (by simp)
         rw [if_pos c39] at H;have c39b0:=de_ c39;clear c39;replace H:=ob_.mp H;obtain ⟨t193,A400,H⟩:=H;have A40:=A_ A400;clear A400
         by_cases c41 : t193 = true;rotate_left
         ·replace c41:=Bool.eq_false_iff.mpr c41;subst c41
          have H1 : (some false) = some r:=by rw [if_neg (show ¬ (false = true) by decide)] at H;exact H
          clear H;have H:=H1;clear H1;obtain rfl:=Option.some.inj H
          try go_wp2
          replace BK184:=A_ (kd_ BK184.out);replace HB:=A_ (pd_ HB.out);have p192 : 0 ≤ (x4_4 : Int):=oda_;have q192 : x4_4 < (l0_8.length : Int):=oda_;obtain ⟨ad192,e192,hx192_0,hx192_1,hx192_2⟩:=at_T69 HR0_8.out x4_4 p192 q192;have hw192_2:=hx192_2;have hw192_1:=hx192_1;have hw192_0:=hx192_0
          cases e192
          replace hx192_0:=(HB.out.cell (wb_ w _ hx192_0)).trans hx192_0;replace hx192_1:=(HB.out.cell (wb_ w _ hx192_1)).trans hx192_1;replace hx192_2:=(HB.out.cell (wb_ w _ hx192_2)).trans hx192_2;replace p192:=eq_true p192;replace q192:=eq_true q192;refine start_ (n:=28) (S:=fun w' => w'.cell? ⟨gb184,0,none⟩ = some (.int .i64 a0_0) ∧ w'.cell? ⟨gb184,1,none⟩ = some (.int .i64 a0_1) ∧ w'.cell? ⟨gb184,2,none⟩ = some (.int .i64 a0_2) ∧ w'.cell? ⟨gb184,3,none⟩ = some (.int .i64 a0_3) ∧ w'.cell? ⟨gb184,4,none⟩ = some (.int .i64 a0_4) ∧ w'.cell? ⟨gb184,5,none⟩ = some (.int .i64 a0_5) ∧ w'.cell? ⟨gb184,6,none⟩ = some (.int .i64 a0_6) ∧ w'.cell? ⟨gb184,7,none⟩ = some (.bool a0_7) ∧ w'.cell? ⟨gb184,8,none⟩ = some (.slice (some ad192) l0_8.length c0_8) ∧ w'.cell? ⟨gb184,9,none⟩ = some (.slice A0_9 l0_9.length c0_9) ∧ w'.cell? ⟨gb184,10,none⟩ = some (.string a0_10) ∧ w'.cell? ⟨gb184,11,none⟩ = some (.bool a0_11) ∧ w'.cell? (ad192.add ((x4_4).toNat * 3)) = some (.int .i64 ((rd_T69 l0_8 x4_4).f0)) ∧ w'.cell? ⟨(ad192.add ((x4_4).toNat * 3)).block,(ad192.add ((x4_4).toNat * 3)).off + 1,none⟩ = some (.int .i64 ((rd_T69 l0_8 x4_4).f1)) ∧ w'.cell? ⟨(ad192.add ((x4_4).toNat * 3)).block,(ad192.add ((x4_4).toNat * 3)).off + 2,none⟩ = some (.string ((rd_T69 l0_8 x4_4).f2))) (ds:=[]) #[false,false,false,false,false,false,false,false,false,false,false,false,false,false,false,false,false,false,false,false,false,false,false,false,false,false,false,false] (by kernel_rfl) rfl rfl ⟨kC_ BK184 0,kC_ BK184 1,kC_ BK184 2,kC_ BK184 3,kC_ BK184 4,kC_ BK184 5,kC_ BK184 6,kC_ BK184 7,kC_ BK184 8,kC_ BK184 9,kC_ BK184 10,kC_ BK184 11,((HB.out.cell (wb_ w _ hw192_0)).trans hw192_0),((HB.out.cell (wb_ w _ hw192_1)).trans hw192_1),((HB.out.cell (wb_ w _ hw192_2)).trans hw192_2)⟩ (fun hHeld => ?_);refine with_tabW spec_MessageOk.tab11 spec_MessageOk.bits11 (fun HT_ HW_ => ?_);generalize wr.drew = w50 at BK184 HB hx192_0 hx192_1 hx192_2 hHeld ⊢;refine pU_ 0 (some 74) ?_
          refine pU_ 2 (some 76) ?_
          refine tK_ 1 (some 75) hHeld ?_
          refine pU_ 3 (some 77) ?_
          refine tK_ 4 (some 78) hHeld ?_
          refine oN_ 5 (some 79) (fun K hK => ?_);refine gs_ Try.func82 #[.agg #[.int .i64 ((rd_T69 l0_8 x4_4).f0),.int .i64 ((rd_T69 l0_8 x4_4).f1),.string ((rd_T69 l0_8 x4_4).f2)]] ?_;with_reducible refine (spec_EntryOk.calls k4 ((rd_T69 l0_8 x4_4).f0) ((rd_T69 l0_8 x4_4).f1) ((rd_T69 l0_8 x4_4).f2) false _ A40.out).mono ?_;rintro e w51 ⟨rfl,hb⟩;refine ⟨_,rfl,?_⟩;replace BK184:=kB_ BK184 hb;replace HB:=bS_ HB hb
          (try clear hb)
          refine hK.out _ _ ⟨kC_ BK184 0,kC_ BK184 1,kC_ BK184 2,kC_ BK184 3,kC_ BK184 4,kC_ BK184 5,kC_ BK184 6,kC_ BK184 7,kC_ BK184 8,kC_ BK184 9,kC_ BK184 10,kC_ BK184 11,((HB.out.cell (wb_ w _ hw192_0)).trans hw192_0),((HB.out.cell (wb_ w _ hw192_1)).trans hw192_1),((HB.out.cell (wb_ w _ hw192_2)).trans hw192_2)⟩ (fun hHeld => ?_);clear hK K;refine nX_ (some 79) ?_
          refine pU_ 6 (some 80) ?_
          refine pU_ 7 (some 81) ?_
          refine pure_ (i:=8) (N:=some 82) (v:=undef) (a':=?_) #[true,true,true,true,true,true,true,true,true,false,false,false,false,false,false,false,false,false,false,false,false,false,false,false,false,false,false,false] rfl rfl (any_of HT_.out (by kernel_rfl)) (fun _ _ _ h => h) (Or.inr ⟨by rfl,rfl⟩) ?_ ?_;rotate_left
          ·exact ux_
          refine pure_ (i:=9) (N:=some 83) (v:=undef) (a':=?_) #[true,true,true,true,true,true,true,true,true,true,false,false,false,false,false,false,false,false,false,false,false,false,false,false,false,false,false,false] rfl rfl (any_of HT_.out (by kernel_rfl)) (fun _ _ _ h => h) (Or.inr ⟨by rfl,rfl⟩) ?_ ?_;rotate_left
          ·exact ux_
          refine pure_ (i:=10) (N:=some 84) (v:=undef) (a':=?_) #[true,true,true,true,true,true,true,true,true,true,true,false,false,false,false,false,false,false,false,false,false,false,false,false,false,false,false,false] rfl rfl (any_of HT_.out (by kernel_rfl)) (fun _ _ _ h => h) (Or.inr ⟨by rfl,rfl⟩) ?_ ?_;rotate_left
          ·exact ux_
          refine pure_ (i:=11) (N:=some 85) (v:=undef) (a':=?_) #[true,true,true,true,true,true,true,true,true,true,true,true,false,false,false,false,false,false,false,false,false,false,false,false,false,false,false,false] rfl rfl (any_of HT_.out (by kernel_rfl)) (fun _ _ _ h => h) (Or.inr ⟨by rfl,rfl⟩) ?_ ?_;rotate_left
          ·exact ux_
          refine pure_ (i:=12) (N:=some 86) (v:=undef) (a':=?_) #[true,true,true,true,true,true,true,true,true,true,true,true,true,false,false,false,false,false,false,false,false,false,false,false,false,false,false,false] rfl rfl (any_of HT_.out (by kernel_rfl)) (fun _ _ _ h => h) (Or.inr ⟨by rfl,rfl⟩) ?_ ?_;rotate_left
          ·exact ux_
          refine pure_ (i:=13) (N:=some 87) (v:=undef) (a':=?_) #[true,true,true,true,true,true,true,true,true,true,true,true,true,true,false,false,false,false,false,false,false,false,false,false,false,false,false,false] rfl rfl (any_of HT_.out (by kernel_rfl)) (fun _ _ _ h => h) (Or.inr ⟨by rfl,rfl⟩) ?_ ?_;rotate_left
          ·exact ux_
          refine pure_ (i:=14) (N:=some 88) (v:=undef) (a':=?_) #[true,true,true,true,true,true,true,true,true,true,true,true,true,true,true,false,false,false,false,false,false,false,false,false,false,false,false,false] rfl rfl (any_of HT_.out (by kernel_rfl)) (fun _ _ _ h => h) (Or.inr ⟨by rfl,rfl⟩) ?_ ?_;rotate_left
          ·exact ux_
          refine pure_ (i:=15) (N:=some 89) (v:=undef) (a':=?_) #[true,true,true,true,true,true,true,true,true,true,true,true,true,true,true,true,false,false,false,false,false,false,false,false,false,false,false,false] rfl rfl (any_of HT_.out (by kernel_rfl)) (fun _ _ _ h => h) (Or.inr ⟨by rfl,rfl⟩) ?_ ?_;rotate_left
          ·exact ux_
          refine pU_ 16 (some 90) ?_
          refine pU_ 17 (some 91) ?_
          refine pure_ (i:=18) (N:=some 92) (v:=undef) (a':=?_) #[true,true,true,true,true,true,true,true,true,true,true,true,true,true,true,true,true,true,true,false,false,false,false,false,false,false,false,false] rfl rfl (any_of HT_.out (by kernel_rfl)) (fun _ _ _ h => h) (Or.inr ⟨by rfl,rfl⟩) ?_ ?_;rotate_left
          ·exact ux_
          refine pure_ (i:=19) (N:=some 93) (v:=undef) (a':=?_) #[true,true,true,true,true,true,true,true,true,true,true,true,true,true,true,true,true,true,true,true,false,false,false,false,false,false,false,false] rfl rfl (any_of HT_.out (by kernel_rfl)) (fun _ _ _ h => h) (Or.inr ⟨by rfl,rfl⟩) ?_ ?_;rotate_left
          ·exact ux_
          refine pure_ (i:=20) (N:=some 94) (v:=undef) (a':=?_) #[true,true,true,true,true,true,true,true,true,true,true,true,true,true,true,true,true,true,true,true,true,false,false,false,false,false,false,false] rfl rfl (any_of HT_.out (by kernel_rfl)) (fun _ _ _ h => h) (Or.inr ⟨by rfl,rfl⟩) ?_ ?_;rotate_left
          ·exact ux_
          refine pure_ (i:=21) (N:=some 95) (v:=undef) (a':=?_) #[true,true,true,true,true,true,true,true,true,true,true,true,true,true,true,true,true,true,true,true,true,true,false,false,false,false,false,false] rfl rfl (any_of HT_.out (by kernel_rfl)) (fun _ _ _ h => h) (Or.inr ⟨by rfl,rfl⟩) ?_ ?_;rotate_left
          ·exact ux_
          refine pure_ (i:=22) (N:=some 96) (v:=undef) (a':=?_) #[true,true,true,true,true,true,true,true,true,true,true,true,true,true,true,true,true,true,true,true,true,true,true,false,false,false,false,false] rfl rfl (any_of HT_.out (by kernel_rfl)) (fun _ _ _ h => h) (Or.inr ⟨by rfl,rfl⟩) ?_ ?_;rotate_left
          ·exact ux_
          refine pure_ (i:=23) (N:=some 97) (v:=undef) (a':=?_) #[true,true,true,true,true,true,true,true,true,true,true,true,true,true,true,true,true,true,true,true,true,true,true,true,false,false,false,false] rfl rfl (any_of HT_.out (by kernel_rfl)) (fun _ _ _ h => h) (Or.inr ⟨by rfl,rfl⟩) ?_ ?_;rotate_left
          ·exact ux_
          refine pure_ (i:=24) (N:=some 98) (v:=undef) (a':=?_) #[true,true,true,true,true,true,true,true,true,true,true,true,true,true,true,true,true,true,true,true,true,true,true,true,true,false,false,false] rfl rfl (any_of HT_.out (by kernel_rfl)) (fun _ _ _ h => h) (Or.inr ⟨by rfl,rfl⟩) ?_ ?_;rotate_left
          ·exact ux_
          refine pure_ (i:=25) (N:=some 99) (v:=undef) (a':=?_) #[true,true,true,true,true,true,true,true,true,true,true,true,true,true,true,true,true,true,true,true,true,true,true,true,true,true,false,false] rfl rfl (any_of HT_.out (by kernel_rfl)) (fun _ _ _ h => h) (Or.inr ⟨by rfl,rfl⟩) ?_ ?_;rotate_left
          ·exact ux_
          refine pure_ (i:=26) (N:=some 100) (v:=undef) (a':=?_) #[true,true,true,true,true,true,true,true,true,true,true,true,true,true,true,true,true,true,true,true,true,true,true,true,true,true,true,false] rfl rfl (any_of HT_.out (by kernel_rfl)) (fun _ _ _ h => h) (Or.inr ⟨by rfl,rfl⟩) ?_ ?_;rotate_left
          ·exact ux_
          refine pU_ 27 (some 101) ?_
          refine done_ (done_of HT_.out (by kernel_rfl)) ?_
          try go_wp2
          go_ret;exact ⟨ex_,bq_ HB⟩
         subst c41
         rw [if_pos rfl] at H
         by_cases c42 : ((rd_T69 l0_8 x4_4).f0) < x3_4;rotate_left
         ·rw [if_neg c42] at H;have c42b0:=decide_eq_false c42;clear c42;have HC45:=A_ H;clear H
          try go_wp2
          replace BK184:=A_ (kd_ BK184.out);replace HB:=A_ (pd_ HB.out);have p192 : 0 ≤ (x4_4 : Int):=oda_;have q192 : x4_4 < (l0_8.length : Int):=oda_;obtain ⟨ad192,e192,hx192_0,hx192_1,hx192_2⟩:=at_T69 HR0_8.out x4_4 p192 q192;have hw192_2:=hx192_2;have hw192_1:=hx192_1;have hw192_0:=hx192_0
          cases e192
          replace hx192_0:=(HB.out.cell (wb_ w _ hx192_0)).trans hx192_0;replace hx192_1:=(HB.out.cell (wb_ w _ hx192_1)).trans hx192_1;replace hx192_2:=(HB.out.cell (wb_ w _ hx192_2)).trans hx192_2;replace p192:=eq_true p192;replace q192:=eq_true q192;have p194 : 0 ≤ (x4_4 : Int):=oda_;have q194 : x4_4 < (l0_8.length : Int):=oda_;obtain ⟨ad194,e194,hx194_0,hx194_1,hx194_2⟩:=at_T69 HR0_8.out x4_4 p194 q194;have hw194_2:=hx194_2;have hw194_1:=hx194_1;have hw194_0:=hx194_0;obtain rfl : ad192 = ad194:=(by injection e194);replace hx194_0:=(HB.out.cell (wb_ w _ hx194_0)).trans hx194_0;replace hx194_1:=(HB.out.cell (wb_ w _ hx194_1)).trans hx194_1;replace hx194_2:=(HB.out.cell (wb_ w _ hx194_2)).trans hx194_2;replace p194:=eq_true p194;replace q194:=eq_true q194;have p195 : 0 ≤ (x4_4 : Int):=oda_;have q195 : x4_4 < (l0_8.length : Int):=oda_;obtain ⟨ad195,e195,hx195_0,hx195_1,hx195_2⟩:=at_T69 HR0_8.out x4_4 p195 q195;have hw195_2:=hx195_2;have hw195_1:=hx195_1;have hw195_0:=hx195_0;obtain rfl : ad192 = ad195:=(by injection e195);replace hx195_0:=(HB.out.cell (wb_ w _ hx195_0)).trans hx195_0;replace hx195_1:=(HB.out.cell (wb_ w _ hx195_1)).trans hx195_1;replace hx195_2:=(HB.out.cell (wb_ w _ hx195_2)).trans hx195_2;replace p195:=eq_true p195;replace q195:=eq_true q195;refine start_ (n:=28) (S:=fun w' => w'.cell? ⟨gb184,0,none⟩ = some (.int .i64 a0_0) ∧ w'.cell? ⟨gb184,1,none⟩ = some (.int .i64 a0_1) ∧ w'.cell? ⟨gb184,2,none⟩ = some (.int .i64 a0_2) ∧ w'.cell? ⟨gb184,3,none⟩ = some (.int .i64 a0_3) ∧ w'.cell? ⟨gb184,4,none⟩ = some (.int .i64 a0_4) ∧ w'.cell? ⟨gb184,5,none⟩ = some (.int .i64 a0_5) ∧ w'.cell? ⟨gb184,6,none⟩ = some (.int .i64 a0_6) ∧ w'.cell? ⟨gb184,7,none⟩ = some (.bool a0_7) ∧ w'.cell? ⟨gb184,8,none⟩ = some (.slice (some ad192) l0_8.length c0_8) ∧ w'.cell? ⟨gb184,9,none⟩ = some (.slice A0_9 l0_9.length c0_9) ∧ w'.cell? ⟨gb184,10,none⟩ = some (.string a0_10) ∧ w'.cell? ⟨gb184,11,none⟩ = some (.bool a0_11) ∧ w'.cell? (ad192.add ((x4_4).toNat * 3)) = some (.int .i64 ((rd_T69 l0_8 x4_4).f0)) ∧ w'.cell? ⟨(ad192.add ((x4_4).toNat * 3)).block,(ad192.add ((x4_4).toNat * 3)).off + 1,none⟩ = some (.int .i64 ((rd_T69 l0_8 x4_4).f1)) ∧ w'.cell? ⟨(ad192.add ((x4_4).toNat * 3)).block,(ad192.add ((x4_4).toNat * 3)).off + 2,none⟩ = some (.string ((rd_T69 l0_8 x4_4).f2)) ∧ w'.cell? (ad192.add ((x4_4).toNat * 3)) = some (.int .i64 ((rd_T69 l0_8 x4_4).f0)) ∧ w'.cell? ⟨(ad192.add ((x4_4).toNat * 3)).block,(ad192.add ((x4_4).toNat * 3)).off + 1,none⟩ = some (.int .i64 ((rd_T69 l0_8 x4_4).f1)) ∧ w'.cell? ⟨(ad192.add ((x4_4).toNat * 3)).block,(ad192.add ((x4_4).toNat * 3)).off + 2,none⟩ = some (.string ((rd_T69 l0_8 x4_4).f2)) ∧ w'.cell? (ad192.add ((x4_4).toNat * 3)) = some (.int .i64 ((rd_T69 l0_8 x4_4).f0)) ∧ w'.cell? ⟨(ad192.add ((x4_4).toNat * 3)).block,(ad192.add ((x4_4).toNat * 3)).off + 1,none⟩ = some (.int .i64 ((rd_T69 l0_8 x4_4).f1)) ∧ w'.cell? ⟨(ad192.add ((x4_4).toNat * 3)).block,(ad192.add ((x4_4).toNat * 3)).off + 2,none⟩ = some (.string ((rd_T69 l0_8 x4_4).f2))) (ds:=[]) #[false,false,false,false,false,false,false,false,false,false,false,false,false,false,false,false,false,false,false,false,false,false,false,false,false,false,false,false] (by kernel_rfl) rfl rfl ⟨kC_ BK184 0,kC_ BK184 1,kC_ BK184 2,kC_ BK184 3,kC_ BK184 4,kC_ BK184 5,kC_ BK184 6,kC_ BK184 7,kC_ BK184 8,kC_ BK184 9,kC_ BK184 10,kC_ BK184 11,((HB.out.cell (wb_ w _ hw192_0)).trans hw192_0),((HB.out.cell (wb_ w _ hw192_1)).trans hw192_1),((HB.out.cell (wb_ w _ hw192_2)).trans hw192_2),((HB.out.cell (wb_ w _ hw194_0)).trans hw194_0),((HB.out.cell (wb_ w _ hw194_1)).trans hw194_1),((HB.out.cell (wb_ w _ hw194_2)).trans hw194_2),((HB.out.cell (wb_ w _ hw195_0)).trans hw195_0),((HB.out.cell (wb_ w _ hw195_1)).trans hw195_1),((HB.out.cell (wb_ w _ hw195_2)).trans hw195_2)⟩ (fun hHeld => ?_);refine with_tabW spec_MessageOk.tab11 spec_MessageOk.bits11 (fun HT_ HW_ => ?_);generalize wr.drew = w46 at BK184 HB hx192_0 hx192_1 hx192_2 hx194_0 hx194_1 hx194_2 hx195_0 hx195_1 hx195_2 hHeld ⊢;refine pU_ 0 (some 74) ?_
          refine pU_ 2 (some 76) ?_
          refine tK_ 1 (some 75) hHeld ?_
          refine pU_ 3 (some 77) ?_
          refine tK_ 4 (some 78) hHeld ?_
          refine oN_ 5 (some 79) (fun K hK => ?_);refine gs_ Try.func82 #[.agg #[.int .i64 ((rd_T69 l0_8 x4_4).f0),.int .i64 ((rd_T69 l0_8 x4_4).f1),.string ((rd_T69 l0_8 x4_4).f2)]] ?_;with_reducible refine (spec_EntryOk.calls k4 ((rd_T69 l0_8 x4_4).f0) ((rd_T69 l0_8 x4_4).f1) ((rd_T69 l0_8 x4_4).f2) true _ A40.out).mono ?_;rintro e w47 ⟨rfl,hb⟩;refine ⟨_,rfl,?_⟩;replace BK184:=kB_ BK184 hb;replace HB:=bS_ HB hb
          (try clear hb)
          refine hK.out _ _ ⟨kC_ BK184 0,kC_ BK184 1,kC_ BK184 2,kC_ BK184 3,kC_ BK184 4,kC_ BK184 5,kC_ BK184 6,kC_ BK184 7,kC_ BK184 8,kC_ BK184 9,kC_ BK184 10,kC_ BK184 11,((HB.out.cell (wb_ w _ hw192_0)).trans hw192_0),((HB.out.cell (wb_ w _ hw192_1)).trans hw192_1),((HB.out.cell (wb_ w _ hw192_2)).trans hw192_2),((HB.out.cell (wb_ w _ hw194_0)).trans hw194_0),((HB.out.cell (wb_ w _ hw194_1)).trans hw194_1),((HB.out.cell (wb_ w _ hw194_2)).trans hw194_2),((HB.out.cell (wb_ w _ hw195_0)).trans hw195_0),((HB.out.cell (wb_ w _ hw195_1)).trans hw195_1),((HB.out.cell (wb_ w _ hw195_2)).trans hw195_2)⟩ (fun hHeld => ?_);clear hK K;refine nX_ (some 79) ?_
          refine pU_ 6 (some 80) ?_
          refine pU_ 7 (some 81) ?_
          refine pU_ 8 (some 82) ?_
          refine pU_ 10 (some 84) ?_
          refine pU_ 14 (some 88) ?_
          refine tK_ 9 (some 83) hHeld ?_
          refine pU_ 11 (some 85) ?_
          refine pU_ 12 (some 86) ?_
          refine tK_ 13 (some 87) hHeld ?_
          refine pU_ 15 (some 89) ?_
          refine pU_ 16 (some 90) ?_
          refine pU_ 17 (some 91) ?_
          refine pU_ 18 (some 92) ?_
          refine pU_ 20 (some 94) ?_
          refine pU_ 24 (some 98) ?_
          refine tK_ 19 (some 93) hHeld ?_
          refine pU_ 21 (some 95) ?_
          refine pU_ 22 (some 96) ?_
          refine tK_ 23 (some 97) hHeld ?_
          refine tK_ 25 (some 99) hHeld ?_
          refine pU_ 26 (some 100) ?_
          refine pU_ 27 (some 101) ?_
          refine done_ (done_of HT_.out (by kernel_rfl)) ?_
          go_upto_if 101 with (fail)
          have H:=HC45.out;clear HC45
          by_cases c48 : ((rd_T69 l0_8 x4_4).f0) > a0_3
          ·rw [if_pos c48] at H;have c48b0:=de_ c48;clear c48
           (rw [c48b0])
           obtain rfl:=Option.some.inj H;go_wp2;go_ret;exact ⟨ex_,bq_ HB⟩
          rw [if_neg c48] at H;have c48b0:=decide_eq_false c48;clear c48
          (rw [c48b0])
          have H':=A_ H;clear H;obtain ⟨hcz49_0,hcz49_1,hcz49_2,hcz49_3,hcz49_4,hcz49_5,hcz49_6,hcz49_7,hcz49_8,hcz49_9,hcz49_10,hcz49_11,hfz49_0,hfz49_1,hfz49_2,hfz49_3,hfz49_4,hfz49_5,hfz49_6,hfz49_7,hfz49_8,hfz49_9,hfz49_10,hfz49_11⟩:=k12f_ BK184;have p196 : 0 ≤ (x4_4 : Int):=oda_;have q196 : x4_4 < (l0_8.length : Int):=oda_;obtain ⟨ad196,e196,hx196_0,hx196_1,hx196_2⟩:=at_T69 HR0_8.out x4_4 p196 q196;obtain rfl : ad192 = ad196:=(by injection e196);replace hx196_0:=(HB.out.cell (wb_ w _ hx196_0)).trans hx196_0;replace hx196_1:=(HB.out.cell (wb_ w _ hx196_1)).trans hx196_1;replace hx196_2:=(HB.out.cell (wb_ w _ hx196_2)).trans hx196_2;replace p196:=eq_true p196;replace q196:=eq_true q196;go_wp2
          go_roundg k4
          case measure => have:=HJ1.out;have:=HJ14.out;have:=HJ27.out;have:=HK4.out;omega
          case rel => exact ⟨((rd_T69 l0_8 x4_4).f0),(wrap64 (x4_4 + 1)),(by rfl),(by rfl),H',⟨by have:=HJ1.out;have:=HJ14.out;have:=HJ27.out;have:=HK4.out;omega⟩,⟨kq_ BK184⟩,⟨bq_ HB⟩⟩
         rw [if_pos c42] at H;have c42b0:=de_ c42;clear c42;obtain rfl:=Option.some.inj H
         try go_wp2
         replace BK184:=A_ (kd_ BK184.out);replace HB:=A_ (pd_ HB.out);have p192 : 0 ≤ (x4_4 : Int):=oda_;have q192 : x4_4 < (l0_8.length : Int):=oda_;obtain ⟨ad192,e192,hx192_0,hx192_1,hx192_2⟩:=at_T69 HR0_8.out x4_4 p192 q192;have hw192_2:=hx192_2;have hw192_1:=hx192_1;have hw192_0:=hx192_0
         cases e192
         replace hx192_0:=(HB.out.cell (wb_ w _ hx192_0)).trans hx192_0;replace hx192_1:=(HB.out.cell (wb_ w _ hx192_1)).trans hx192_1;replace hx192_2:=(HB.out.cell (wb_ w _ hx192_2)).trans hx192_2;replace p192:=eq_true p192;replace q192:=eq_true q192;have p194 : 0 ≤ (x4_4 : Int):=oda_;have q194 : x4_4 < (l0_8.length : Int):=oda_;obtain ⟨ad194,e194,hx194_0,hx194_1,hx194_2⟩:=at_T69 HR0_8.out x4_4 p194 q194;have hw194_2:=hx194_2;have hw194_1:=hx194_1;have hw194_0:=hx194_0;obtain rfl : ad192 = ad194:=(by injection e194);replace hx194_0:=(HB.out.cell (wb_ w _ hx194_0)).trans hx194_0;replace hx194_1:=(HB.out.cell (wb_ w _ hx194_1)).trans hx194_1;replace hx194_2:=(HB.out.cell (wb_ w _ hx194_2)).trans hx194_2;replace p194:=eq_true p194;replace q194:=eq_true q194;refine start_ (n:=28) (S:=fun w' => w'.cell? ⟨gb184,0,none⟩ = some (.int .i64 a0_0) ∧ w'.cell? ⟨gb184,1,none⟩ = some (.int .i64 a0_1) ∧ w'.cell? ⟨gb184,2,none⟩ = some (.int .i64 a0_2) ∧ w'.cell? ⟨gb184,3,none⟩ = some (.int .i64 a0_3) ∧ w'.cell? ⟨gb184,4,none⟩ = some (.int .i64 a0_4) ∧ w'.cell? ⟨gb184,5,none⟩ = some (.int .i64 a0_5) ∧ w'.cell? ⟨gb184,6,none⟩ = some (.int .i64 a0_6) ∧ w'.cell? ⟨gb184,7,none⟩ = some (.bool a0_7) ∧ w'.cell? ⟨gb184,8,none⟩ = some (.slice (some ad192) l0_8.length c0_8) ∧ w'.cell? ⟨gb184,9,none⟩ = some (.slice A0_9 l0_9.length c0_9) ∧ w'.cell? ⟨gb184,10,none⟩ = some (.string a0_10) ∧ w'.cell? ⟨gb184,11,none⟩ = some (.bool a0_11) ∧ w'.cell? (ad192.add ((x4_4).toNat * 3)) = some (.int .i64 ((rd_T69 l0_8 x4_4).f0)) ∧ w'.cell? ⟨(ad192.add ((x4_4).toNat * 3)).block,(ad192.add ((x4_4).toNat * 3)).off + 1,none⟩ = some (.int .i64 ((rd_T69 l0_8 x4_4).f1)) ∧ w'.cell? ⟨(ad192.add ((x4_4).toNat * 3)).block,(ad192.add ((x4_4).toNat * 3)).off + 2,none⟩ = some (.string ((rd_T69 l0_8 x4_4).f2)) ∧ w'.cell? (ad192.add ((x4_4).toNat * 3)) = some (.int .i64 ((rd_T69 l0_8 x4_4).f0)) ∧ w'.cell? ⟨(ad192.add ((x4_4).toNat * 3)).block,(ad192.add ((x4_4).toNat * 3)).off + 1,none⟩ = some (.int .i64 ((rd_T69 l0_8 x4_4).f1)) ∧ w'.cell? ⟨(ad192.add ((x4_4).toNat * 3)).block,(ad192.add ((x4_4).toNat * 3)).off + 2,none⟩ = some (.string ((rd_T69 l0_8 x4_4).f2))) (ds:=[]) #[false,false,false,false,false,false,false,false,false,false,false,false,false,false,false,false,false,false,false,false,false,false,false,false,false,false,false,false] (by kernel_rfl) rfl rfl ⟨kC_ BK184 0,kC_ BK184 1,kC_ BK184 2,kC_ BK184 3,kC_ BK184 4,kC_ BK184 5,kC_ BK184 6,kC_ BK184 7,kC_ BK184 8,kC_ BK184 9,kC_ BK184 10,kC_ BK184 11,((HB.out.cell (wb_ w _ hw192_0)).trans hw192_0),((HB.out.cell (wb_ w _ hw192_1)).trans hw192_1),((HB.out.cell (wb_ w _ hw192_2)).trans hw192_2),((HB.out.cell (wb_ w _ hw194_0)).trans hw194_0),((HB.out.cell (wb_ w _ hw194_1)).trans hw194_1),((HB.out.cell (wb_ w _ hw194_2)).trans hw194_2)⟩ (fun hHeld => ?_);refine with_tabW spec_MessageOk.tab11 spec_MessageOk.bits11 (fun HT_ HW_ => ?_);generalize wr.drew = w43 at BK184 HB hx192_0 hx192_1 hx192_2 hx194_0 hx194_1 hx194_2 hHeld ⊢;refine pU_ 0 (some 74) ?_
         refine pU_ 2 (some 76) ?_
         refine tK_ 1 (some 75) hHeld ?_
         refine pU_ 3 (some 77) ?_
         refine tK_ 4 (some 78) hHeld ?_
         refine oN_ 5 (some 79) (fun K hK => ?_);refine gs_ Try.func82 #[.agg #[.int .i64 ((rd_T69 l0_8 x4_4).f0),.int .i64 ((rd_T69 l0_8 x4_4).f1),.string ((rd_T69 l0_8 x4_4).f2)]] ?_;with_reducible refine (spec_EntryOk.calls k4 ((rd_T69 l0_8 x4_4).f0) ((rd_T69 l0_8 x4_4).f1) ((rd_T69 l0_8 x4_4).f2) true _ A40.out).mono ?_;rintro e w44 ⟨rfl,hb⟩;refine ⟨_,rfl,?_⟩;replace BK184:=kB_ BK184 hb;replace HB:=bS_ HB hb
         (try clear hb)
         refine hK.out _ _ ⟨kC_ BK184 0,kC_ BK184 1,kC_ BK184 2,kC_ BK184 3,kC_ BK184 4,kC_ BK184 5,kC_ BK184 6,kC_ BK184 7,kC_ BK184 8,kC_ BK184 9,kC_ BK184 10,kC_ BK184 11,((HB.out.cell (wb_ w _ hw192_0)).trans hw192_0),((HB.out.cell (wb_ w _ hw192_1)).trans hw192_1),((HB.out.cell (wb_ w _ hw192_2)).trans hw192_2),((HB.out.cell (wb_ w _ hw194_0)).trans hw194_0),((HB.out.cell (wb_ w _ hw194_1)).trans hw194_1),((HB.out.cell (wb_ w _ hw194_2)).trans hw194_2)⟩ (fun hHeld => ?_);clear hK K;refine nX_ (some 79) ?_
         refine pU_ 6 (some 80) ?_
         refine pU_ 7 (some 81) ?_
         refine pU_ 8 (some 82) ?_
         refine pU_ 10 (some 84) ?_
         refine pU_ 14 (some 88) ?_
         refine tK_ 9 (some 83) hHeld ?_
         refine pU_ 11 (some 85) ?_
         refine pU_ 12 (some 86) ?_
         refine tK_ 13 (some 87) hHeld ?_
         refine pU_ 15 (some 89) ?_
         refine pU_ 16 (some 90) ?_
         refine pU_ 17 (some 91) ?_
         refine pure_ (i:=18) (N:=some 92) (v:=undef) (a':=?_) #[true,true,true,true,true,true,true,true,true,true,true,true,true,true,true,true,true,true,true,false,false,false,false,false,false,false,false,false] rfl rfl (any_of HT_.out (by kernel_rfl)) (fun _ _ _ h => h) (Or.inr ⟨by rfl,rfl⟩) ?_ ?_;rotate_left
         ·exact ux_
         refine pure_ (i:=19) (N:=some 93) (v:=undef) (a':=?_) #[true,true,true,true,true,true,true,true,true,true,true,true,true,true,true,true,true,true,true,true,false,false,false,false,false,false,false,false] rfl rfl (any_of HT_.out (by kernel_rfl)) (fun _ _ _ h => h) (Or.inr ⟨by rfl,rfl⟩) ?_ ?_;rotate_left
         ·exact ux_
         refine pure_ (i:=20) (N:=some 94) (v:=undef) (a':=?_) #[true,true,true,true,true,true,true,true,true,true,true,true,true,true,true,true,true,true,true,true,true,false,false,false,false,false,false,false] rfl rfl (any_of HT_.out (by kernel_rfl)) (fun _ _ _ h => h) (Or.inr ⟨by rfl,rfl⟩) ?_ ?_;rotate_left
         ·exact ux_
         refine pure_ (i:=21) (N:=some 95) (v:=undef) (a':=?_) #[true,true,true,true,true,true,true,true,true,true,true,true,true,true,true,true,true,true,true,true,true,true,false,false,false,false,false,false] rfl rfl (any_of HT_.out (by kernel_rfl)) (fun _ _ _ h => h) (Or.inr ⟨by rfl,rfl⟩) ?_ ?_;rotate_left
         ·exact ux_
         refine pure_ (i:=22) (N:=some 96) (v:=undef) (a':=?_) #[true,true,true,true,true,true,true,true,true,true,true,true,true,true,true,true,true,true,true,true,true,true,true,false,false,false,false,false] rfl rfl (any_of HT_.out (by kernel_rfl)) (fun _ _ _ h => h) (Or.inr ⟨by rfl,rfl⟩) ?_ ?_;rotate_left
         ·exact ux_
         refine pure_ (i:=23) (N:=some 97) (v:=undef) (a':=?_) #[true,true,true,true,true,true,true,true,true,true,true,true,true,true,true,true,true,true,true,true,true,true,true,true,false,false,false,false] rfl rfl (any_of HT_.out (by kernel_rfl)) (fun _ _ _ h => h) (Or.inr ⟨by rfl,rfl⟩) ?_ ?_;rotate_left
         ·exact ux_
         refine pure_ (i:=24) (N:=some 98) (v:=undef) (a':=?_) #[true,true,true,true,true,true,true,true,true,true,true,true,true,true,true,true,true,true,true,true,true,true,true,true,true,false,false,false] rfl rfl (any_of HT_.out (by kernel_rfl)) (fun _ _ _ h => h) (Or.inr ⟨by rfl,rfl⟩) ?_ ?_;rotate_left
         ·exact ux_
         refine pure_ (i:=25) (N:=some 99) (v:=undef) (a':=?_) #[true,true,true,true,true,true,true,true,true,true,true,true,true,true,true,true,true,true,true,true,true,true,true,true,true,true,false,false] rfl rfl (any_of HT_.out (by kernel_rfl)) (fun _ _ _ h => h) (Or.inr ⟨by rfl,rfl⟩) ?_ ?_;rotate_left
         ·exact ux_
         refine pure_ (i:=26) (N:=some 100) (v:=undef) (a':=?_) #[true,true,true,true,true,true,true,true,true,true,true,true,true,true,true,true,true,true,true,true,true,true,true,true,true,true,true,false] rfl rfl (any_of HT_.out (by kernel_rfl)) (fun _ _ _ h => h) (Or.inr ⟨by rfl,rfl⟩) ?_ ?_;rotate_left
         ·exact ux_
         refine pU_ 27 (some 101) ?_
         refine done_ (done_of HT_.out (by kernel_rfl)) ?_
         try go_wp2
         go_ret;exact ⟨ex_,bq_ HB⟩
end Go.Proofs.Ytbcgnncbiblibaa.PFnMessages
