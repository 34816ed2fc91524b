/- The contracts of the Go functions that this law reaches: what each call returns, by a plain Lean function of its arguments. No conditions but those each contract names. By the kit's print.py, run by this session's wip/gen/pp.py with facts and hand proofs beside it: not to the letter what print.sh prints. -/
import Derived.Test.YtgpafelepkhdoaaPFnExactEncodex0
import Derived.Test.YtgpafelepkhdoaaPFnExactEncodex2
import Derived.Test.YtgpafelepkhdoaaPFnExactEncodex3
namespace Go.Proofs.Ytgpafelepkhdoaa.PFnExactEncode
open Go.RowKit Go.Proofs.YtgpafelepkhdoaaW.PrintWords Go.Proofs.YtgpafelepkhdoaaW.PrintLast Go.Proofs.YtgpafelepkhdoaaW.PrintMore
attribute [local go_sem] max2_int min2_int max_two min_two max_three min_three max_four min_four
set_option linter.unusedVariables false
set_option linter.unusedSimpArgs false
mutual
def spec_MessageOk.j0 : Nat → Bool → Int → Int → Int → Int → Int → Int → Int → Bool → List (S37) → List Int → ByteArray → Bool → Option (Bool)
 | 0,_,_,_,_,_,_,_,_,_,_,_,_,_ => none
 | k + 1,x27,x176000,x176001,x176002,x176003,x176004,x176005,x176006,x176007,x176008,x176009,x176010,x176011 => if x27 = true then (some false) else ((spec_l01In.f x176003 0 100000).bind fun t179 => (if t179 = true then ((spec_l01In.f x176005 0 100000).bind fun t180 => (if t180 = true then ((spec_l01In.f x176004 0 100000).bind fun t181 => (if t181 = true then ((spec_l01In.f x176006 0 100000).bind fun t182 => (spec_MessageOk.j1 k (!t182) x176000 x176001 x176002 x176003 x176004 x176005 x176006 x176007 x176008 x176009 x176010 x176011)) else (spec_MessageOk.j1 k true x176000 x176001 x176002 x176003 x176004 x176005 x176006 x176007 x176008 x176009 x176010 x176011))) else (spec_MessageOk.j1 k true x176000 x176001 x176002 x176003 x176004 x176005 x176006 x176007 x176008 x176009 x176010 x176011))) else (spec_MessageOk.j1 k true x176000 x176001 x176002 x176003 x176004 x176005 x176006 x176007 x176008 x176009 x176010 x176011)))
def spec_MessageOk.j1 : Nat → Bool → Int → Int → Int → Int → Int → Int → Int → Bool → List (S37) → List Int → ByteArray → Bool → Option (Bool)
 | 0,_,_,_,_,_,_,_,_,_,_,_,_,_ => none
 | k + 1,x49,x176000,x176001,x176002,x176003,x176004,x176005,x176006,x176007,x176008,x176009,x176010,x176011 => if x49 = true then (some false) else (if (x176008.length : Int) > 4 then (spec_MessageOk.j2 k true x176000 x176001 x176002 x176003 x176004 x176005 x176006 x176007 x176008 x176009 x176010 x176011) else (if (x176008.length : Int) > 0 then (spec_MessageOk.j2 k (x176000 != 3) x176000 x176001 x176002 x176003 x176004 x176005 x176006 x176007 x176008 x176009 x176010 x176011) else (spec_MessageOk.j2 k false x176000 x176001 x176002 x176003 x176004 x176005 x176006 x176007 x176008 x176009 x176010 x176011)))
def spec_MessageOk.j2 : Nat → Bool → Int → Int → Int → Int → Int → Int → Int → Bool → List (S37) → List Int → ByteArray → Bool → Option (Bool)
 | 0,_,_,_,_,_,_,_,_,_,_,_,_,_ => none
 | k + 1,x64,x176000,x176001,x176002,x176003,x176004,x176005,x176006,x176007,x176008,x176009,x176010,x176011 => if x64 = true then (some false) else (spec_MessageOk.l0 k x176005 0 x176000 x176001 x176002 x176003 x176004 x176005 x176006 x176007 x176008 x176009 x176010 x176011)
def spec_MessageOk.l0 : Nat → Int → Int → Int → Int → Int → Int → Int → Int → Int → Bool → List (S37) → List Int → ByteArray → Bool → Option (Bool)
 | 0,_,_,_,_,_,_,_,_,_,_,_,_,_,_ => none
 | k + 1,x3,x4,x176000,x176001,x176002,x176003,x176004,x176005,x176006,x176007,x176008,x176009,x176010,x176011 => if x4 < (x176008.length : Int) then (if 0 ≤ x4 then ((spec_EntryOk.f k ((rd_T37 x176008 x4).f0) ((rd_T37 x176008 x4).f1) ((rd_T37 x176008 x4).f2)).bind fun t184 => (if t184 = true then (if ((rd_T37 x176008 x4).f0) < x3 then (some false) else (if ((rd_T37 x176008 x4).f0) > x176003 then (some false) else (spec_MessageOk.l0 k ((rd_T37 x176008 x4).f0) (wrap64 (x4 + 1)) x176000 x176001 x176002 x176003 x176004 x176005 x176006 x176007 x176008 x176009 x176010 x176011))) else (some false))) else (none)) else (if x176000 = 5 then ((spec_ConfOk.f k x176009).bind fun t188 => (if t188 = true then (some (decide ((x176010.size : Int) ≤ 60))) else (some false))) else (if (x176009.length : Int) = 0 then (if x176010.toList = ([] : List UInt8) then (some (!x176011)) else (some false)) else (some false)))
end
def spec_MessageOk.f (k : Nat) (a0_0 : Int) (a0_1 : Int) (a0_2 : Int) (a0_3 : Int) (a0_4 : Int) (a0_5 : Int) (a0_6 : Int) (a0_7 : Bool) (l0_8 : List (S37)) (l0_9 : List Int) (a0_10 : ByteArray) (a0_11 : Bool) : Option (Bool) := (spec_l01In.f a0_0 1 6).bind fun t176 => (if t176 = true then ((spec_l01In.f a0_1 1 4).bind fun t177 => (if t177 = true then ((spec_l01In.f a0_2 1 4).bind fun t178 => (if t178 = true then (spec_MessageOk.j0 k (a0_1 == a0_2) a0_0 a0_1 a0_2 a0_3 a0_4 a0_5 a0_6 a0_7 l0_8 l0_9 a0_10 a0_11) else (spec_MessageOk.j0 k true a0_0 a0_1 a0_2 a0_3 a0_4 a0_5 a0_6 a0_7 l0_8 l0_9 a0_10 a0_11))) else (spec_MessageOk.j0 k true a0_0 a0_1 a0_2 a0_3 a0_4 a0_5 a0_6 a0_7 l0_8 l0_9 a0_10 a0_11))) else (spec_MessageOk.j0 k true a0_0 a0_1 a0_2 a0_3 a0_4 a0_5 a0_6 a0_7 l0_8 l0_9 a0_10 a0_11))
theorem spec_MessageOk.mono_l : ∀ k, (∀ y0 y1 y2 y3 y4 y5 y6 y7 y8 y9 y10 y11 y12, LeO (spec_MessageOk.j0 k y0 y1 y2 y3 y4 y5 y6 y7 y8 y9 y10 y11 y12) (spec_MessageOk.j0 (k + 1) y0 y1 y2 y3 y4 y5 y6 y7 y8 y9 y10 y11 y12)) ∧ (∀ y0 y1 y2 y3 y4 y5 y6 y7 y8 y9 y10 y11 y12, LeO (spec_MessageOk.j1 k y0 y1 y2 y3 y4 y5 y6 y7 y8 y9 y10 y11 y12) (spec_MessageOk.j1 (k + 1) y0 y1 y2 y3 y4 y5 y6 y7 y8 y9 y10 y11 y12)) ∧ (∀ y0 y1 y2 y3 y4 y5 y6 y7 y8 y9 y10 y11 y12, LeO (spec_MessageOk.j2 k y0 y1 y2 y3 y4 y5 y6 y7 y8 y9 y10 y11 y12) (spec_MessageOk.j2 (k + 1) y0 y1 y2 y3 y4 y5 y6 y7 y8 y9 y10 y11 y12)) ∧ (∀ y0 y1 y2 y3 y4 y5 y6 y7 y8 y9 y10 y11 y12 y13, LeO (spec_MessageOk.l0 k y0 y1 y2 y3 y4 y5 y6 y7 y8 y9 y10 y11 y12 y13) (spec_MessageOk.l0 (k + 1) y0 y1 y2 y3 y4 y5 y6 y7 y8 y9 y10 y11 y12 y13))
 | 0 => ⟨fun _ _ _ _ _ _ _ _ _ _ _ _ _ r h => by simp [spec_MessageOk.j0] at h,fun _ _ _ _ _ _ _ _ _ _ _ _ _ r h => by simp [spec_MessageOk.j1] at h,fun _ _ _ _ _ _ _ _ _ _ _ _ _ r h => by simp [spec_MessageOk.j2] at h,fun _ _ _ _ _ _ _ _ _ _ _ _ _ _ r h => by simp [spec_MessageOk.l0] at h⟩
 | k + 1 => by
  obtain ⟨ih0,ih1,ih2,ih3⟩:=spec_MessageOk.mono_l k;refine ⟨?_,?_,?_,?_⟩
  ·intro y0 y1 y2 y3 y4 y5 y6 y7 y8 y9 y10 y11 y12
   unfold spec_MessageOk.j0
   repeat' first
   | (with_reducible exact ih0 _ _ _ _ _ _ _ _ _ _ _ _ _)
   | (with_reducible exact ih1 _ _ _ _ _ _ _ _ _ _ _ _ _)
   | (with_reducible exact ih2 _ _ _ _ _ _ _ _ _ _ _ _ _)
   | (with_reducible exact ih3 _ _ _ _ _ _ _ _ _ _ _ _ _ _)
   | (with_reducible exact spec_ConfOk.mono _ _)
   | (with_reducible exact spec_EntryOk.mono _ _ _ _)
   | (with_reducible exact LeO.refl _)
   | (with_reducible exact LeO.none _)
   | (with_reducible refine LeO.ite ?_ ?_)
   | (with_reducible refine LeO.bind ?_ (fun _ => ?_))
  ·intro y0 y1 y2 y3 y4 y5 y6 y7 y8 y9 y10 y11 y12
   unfold spec_MessageOk.j1
   repeat' first
   | (with_reducible exact ih0 _ _ _ _ _ _ _ _ _ _ _ _ _)
   | (with_reducible exact ih1 _ _ _ _ _ _ _ _ _ _ _ _ _)
   | (with_reducible exact ih2 _ _ _ _ _ _ _ _ _ _ _ _ _)
   | (with_reducible exact ih3 _ _ _ _ _ _ _ _ _ _ _ _ _ _)
   | (with_reducible exact spec_ConfOk.mono _ _)
   | (with_reducible exact spec_EntryOk.mono _ _ _ _)
   | (with_reducible exact LeO.refl _)
   | (with_reducible exact LeO.none _)
   | (with_reducible refine LeO.ite ?_ ?_)
   | (with_reducible refine LeO.bind ?_ (fun _ => ?_))
  ·intro y0 y1 y2 y3 y4 y5 y6 y7 y8 y9 y10 y11 y12
   unfold spec_MessageOk.j2
   repeat' first
   | (with_reducible exact ih0 _ _ _ _ _ _ _ _ _ _ _ _ _)
   | (with_reducible exact ih1 _ _ _ _ _ _ _ _ _ _ _ _ _)
   | (with_reducible exact ih2 _ _ _ _ _ _ _ _ _ _ _ _ _)
   | (with_reducible exact ih3 _ _ _ _ _ _ _ _ _ _ _ _ _ _)
   | (with_reducible exact spec_ConfOk.mono _ _)
   | (with_reducible exact spec_EntryOk.mono _ _ _ _)
   | (with_reducible exact LeO.refl _)
   | (with_reducible exact LeO.none _)
   | (with_reducible refine LeO.ite ?_ ?_)
   | (with_reducible refine LeO.bind ?_ (fun _ => ?_))
  ·intro y0 y1 y2 y3 y4 y5 y6 y7 y8 y9 y10 y11 y12 y13
   unfold spec_MessageOk.l0
   repeat' first
   | (with_reducible exact ih0 _ _ _ _ _ _ _ _ _ _ _ _ _)
   | (with_reducible exact ih1 _ _ _ _ _ _ _ _ _ _ _ _ _)
   | (with_reducible exact ih2 _ _ _ _ _ _ _ _ _ _ _ _ _)
   | (with_reducible exact ih3 _ _ _ _ _ _ _ _ _ _ _ _ _ _)
   | (with_reducible exact spec_ConfOk.mono _ _)
   | (with_reducible exact spec_EntryOk.mono _ _ _ _)
   | (with_reducible exact LeO.refl _)
   | (with_reducible exact LeO.none _)
   | (with_reducible refine LeO.ite ?_ ?_)
   | (with_reducible refine LeO.bind ?_ (fun _ => ?_))
theorem spec_MessageOk.mono : ∀ a0 a1 a2 a3 a4 a5 a6 a7 a8 a9 a10 a11 k, LeO (spec_MessageOk.f k a0 a1 a2 a3 a4 a5 a6 a7 a8 a9 a10 a11) (spec_MessageOk.f (k + 1) a0 a1 a2 a3 a4 a5 a6 a7 a8 a9 a10 a11) := by
 intro a0 a1 a2 a3 a4 a5 a6 a7 a8 a9 a10 a11 k;obtain ⟨ih0,ih1,ih2,ih3⟩:=spec_MessageOk.mono_l k
 unfold spec_MessageOk.f
 repeat' first
   | (with_reducible exact ih0 _ _ _ _ _ _ _ _ _ _ _ _ _)
   | (with_reducible exact ih1 _ _ _ _ _ _ _ _ _ _ _ _ _)
   | (with_reducible exact ih2 _ _ _ _ _ _ _ _ _ _ _ _ _)
   | (with_reducible exact ih3 _ _ _ _ _ _ _ _ _ _ _ _ _ _)
   | (with_reducible exact spec_ConfOk.mono _ _)
   | (with_reducible exact spec_EntryOk.mono _ _ _ _)
   | (with_reducible exact LeO.refl _)
   | (with_reducible exact LeO.none _)
   | (with_reducible refine LeO.ite ?_ ?_)
   | (with_reducible refine LeO.bind ?_ (fun _ => ?_))
def spec_MessageOk.T11 : Bool × List (List Nat × List Nat) := (true, [([], []), ([0], [0]), ([], []), ([1, 2], [1, 2]), ([3], [3]), ([4], [4]), ([5], [5]), ([6, 5], [6]), ([7], [7]), ([8, 7], [7, 8]), ([7], [7]), ([9, 10, 7], [7, 9, 10]), ([11, 7], [7, 11]), ([12, 7], [7, 12]), ([7], [7]), ([13, 14, 7], [7, 13, 14]), ([7, 15], [7, 15]), ([16, 7], [16]), ([17], [17]), ([18, 17], [17, 18]), ([17], [17]), ([19, 20, 17], [17, 19, 20]), ([21, 17], [17, 21]), ([22, 17], [17, 22]), ([17], [17]), ([24, 17], [17, 24]), ([23, 25, 17], [17, 23, 25]), ([17, 26], [17, 26])])
def spec_MessageOk.B11 : List Nat := [0, 1, 0, 7, 15, 31, 63, 127, 255, 511, 255, 2047, 4095, 8191, 255, 32767, 65535, 131071, 262143, 524287, 262143, 2097151, 4194303, 8388607, 262143, 17039359, 67108863, 134217727]
theorem spec_MessageOk.tab11 : rtab .any (opsOf Try.f31 11) = spec_MessageOk.T11 := by kernel_rfl
theorem spec_MessageOk.bits11 : waitsOk spec_MessageOk.T11.2 spec_MessageOk.B11 = true := by kernel_rfl
set_option maxHeartbeats 8000000 in
set_option maxRecDepth 100000 in
theorem spec_MessageOk.calls (k : Nat) (a0_0 : Int) (a0_1 : Int) (a0_2 : Int) (a0_3 : Int) (a0_4 : Int) (a0_5 : Int) (a0_6 : Int) (a0_7 : Bool) (A0_8 : Option Addr) (c0_8 : Nat) (l0_8 : List (S37)) (A0_9 : Option Addr) (c0_9 : Nat) (l0_9 : List Int) (a0_10 : ByteArray) (a0_11 : Bool) (r : Bool) (w : World) (hr0_8 : Kd.C k37 w A0_8 l0_8.length l0_8) (hc0_8 : l0_8.length ≤ c0_8) (hr0_9 : Kd.C (Kd.int .i64) w A0_9 l0_9.length l0_9) (hc0_9 : l0_9.length ≤ c0_9) (h : spec_MessageOk.f k a0_0 a0_1 a0_2 a0_3 a0_4 a0_5 a0_6 a0_7 l0_8 l0_9 a0_10 a0_11 = some r) :
  Calls Try.prog 31 #[.agg #[.int .i64 a0_0,.int .i64 a0_1,.int .i64 a0_2,.int .i64 a0_3,.int .i64 a0_4,.int .i64 a0_5,.int .i64 a0_6,.bool a0_7,.slice A0_8 l0_8.length c0_8,.slice A0_9 l0_9.length c0_9,.string a0_10,.bool a0_11]] w fun e w' => e = .returned (.bool r) ∧ Below w.heap.size w w':=by
 have hu52:=Try.underlying52;have hu37:=Try.underlying37;have HR0_8:=A_ hr0_8;have HC0_8:=A_ hc0_8;clear hr0_8 hc0_8;have HR0_9:=A_ hr0_9;have HC0_9:=A_ hc0_9;clear hr0_9 hc0_9;have HB:=A_ (Below.refl w.heap.size w);have H : ((spec_l01In.f a0_0 1 6).bind fun t176 => (if t176 = true then ((spec_l01In.f a0_1 1 4).bind fun t177 => (if t177 = true then ((spec_l01In.f a0_2 1 4).bind fun t178 => (if t178 = true then (spec_MessageOk.j0 k (a0_1 == a0_2) a0_0 a0_1 a0_2 a0_3 a0_4 a0_5 a0_6 a0_7 l0_8 l0_9 a0_10 a0_11) else (spec_MessageOk.j0 k true a0_0 a0_1 a0_2 a0_3 a0_4 a0_5 a0_6 a0_7 l0_8 l0_9 a0_10 a0_11))) else (spec_MessageOk.j0 k true a0_0 a0_1 a0_2 a0_3 a0_4 a0_5 a0_6 a0_7 l0_8 l0_9 a0_10 a0_11))) else (spec_MessageOk.j0 k true a0_0 a0_1 a0_2 a0_3 a0_4 a0_5 a0_6 a0_7 l0_8 l0_9 a0_10 a0_11))) = some r:=h;clear h;have HC2:=A_ H;clear H;go_enter Try.func31,Try.ntmps31
 go_upto_region 1 with (first|((with_reducible refine gate_dst (N:=1) rfl ?_);(try (refine gate_guard (by rfl) ?_;dsimp only));refine box_event ?hg (N:=1) ?hd (cs:=#[.int .i64 a0_0,.int .i64 a0_1,.int .i64 a0_2,.int .i64 a0_3,.int .i64 a0_4,.int .i64 a0_5,.int .i64 a0_6,.bool a0_7,.slice A0_8 l0_8.length c0_8,.slice A0_9 l0_9.length c0_9,.string a0_10,.bool a0_11]) (t:=52) ?hr ?_;(case hd => rfl);(case hg => rfl);(case hr => first|(go_simp;done)|(go_simp;rfl));intro gb175 hg w3 hbox hb;have BK175:=A_ (hbox);have GW175:=A_ ((by rw [hg];exact (bz_ (by repeat (first|(with_reducible first|exact HB.out|apply pa_|apply pn_|apply pd_)|exact HB.out))) : w.heap.size ≤ gb175));have GE175:=A_ ((by rw [hg];exact (bz_ (by repeat (first|(with_reducible first|exact HB.out|apply pa_|apply pn_|apply pd_)|exact HB.out))) : w.heap.size ≤ gb175));replace HB:=A_ (bs_ (by repeat (first|(with_reducible first|exact HB.out|apply pa_|apply pn_|apply pd_)|exact HB.out)) hb);clear hb hbox hg))
 (try simp only [Act.put,s1_,s2_,s3_])
 go_cut [27] (fun v27 wc => ∃ (kq : Nat) (x27_1 : Bool),v27 = .bool x27_1 ∧ Aside0 (spec_MessageOk.j0 kq x27_1 a0_0 a0_1 a0_2 a0_3 a0_4 a0_5 a0_6 a0_7 l0_8 l0_9 a0_10 a0_11 = some r) ∧ Aside0 (kq ≤ k) ∧ Aside0 (wc.heap[gb175]? = some (.cells #[.int .i64 a0_0,.int .i64 a0_1,.int .i64 a0_2,.int .i64 a0_3,.int .i64 a0_4,.int .i64 a0_5,.int .i64 a0_6,.bool a0_7,(.slice A0_8 l0_8.length c0_8),(.slice A0_9 l0_9.length c0_9),.string a0_10,.bool a0_11] 52 (0,0))) ∧ Aside0 (Below w.heap.size w wc))
 case first =>
  have H:=HC2.out;clear HC2;replace H:=ob_.mp H;obtain ⟨t176,A40,H⟩:=H;replace H : (if t176 = true then ((spec_l01In.f a0_1 1 4).bind fun t177 => (if t177 = true then ((spec_l01In.f a0_2 1 4).bind fun t178 => (if t178 = true then (spec_MessageOk.j0 k (a0_1 == a0_2) a0_0 a0_1 a0_2 a0_3 a0_4 a0_5 a0_6 a0_7 l0_8 l0_9 a0_10 a0_11) else (spec_MessageOk.j0 k true a0_0 a0_1 a0_2 a0_3 a0_4 a0_5 a0_6 a0_7 l0_8 l0_9 a0_10 a0_11))) else (spec_MessageOk.j0 k true a0_0 a0_1 a0_2 a0_3 a0_4 a0_5 a0_6 a0_7 l0_8 l0_9 a0_10 a0_11))) else (spec_MessageOk.j0 k true a0_0 a0_1 a0_2 a0_3 a0_4 a0_5 a0_6 a0_7 l0_8 l0_9 a0_10 a0_11)) = some r:=H;have A4:=A_ A40;clear A40
  by_cases c5 : t176 = true
  ·subst c5
   have H1 : ((spec_l01In.f a0_1 1 4).bind fun t177 => (if t177 = true then ((spec_l01In.f a0_2 1 4).bind fun t178 => (if t178 = true then (spec_MessageOk.j0 k (a0_1 == a0_2) a0_0 a0_1 a0_2 a0_3 a0_4 a0_5 a0_6 a0_7 l0_8 l0_9 a0_10 a0_11) else (spec_MessageOk.j0 k true a0_0 a0_1 a0_2 a0_3 a0_4 a0_5 a0_6 a0_7 l0_8 l0_9 a0_10 a0_11))) else (spec_MessageOk.j0 k true a0_0 a0_1 a0_2 a0_3 a0_4 a0_5 a0_6 a0_7 l0_8 l0_9 a0_10 a0_11))) = some r:=by rw [if_pos rfl] at H;exact H
   clear H;have H:=H1;clear H1;replace H:=ob_.mp H;obtain ⟨t177,A60,H⟩:=H;replace H : (if t177 = true then ((spec_l01In.f a0_2 1 4).bind fun t178 => (if t178 = true then (spec_MessageOk.j0 k (a0_1 == a0_2) a0_0 a0_1 a0_2 a0_3 a0_4 a0_5 a0_6 a0_7 l0_8 l0_9 a0_10 a0_11) else (spec_MessageOk.j0 k true a0_0 a0_1 a0_2 a0_3 a0_4 a0_5 a0_6 a0_7 l0_8 l0_9 a0_10 a0_11))) else (spec_MessageOk.j0 k true a0_0 a0_1 a0_2 a0_3 a0_4 a0_5 a0_6 a0_7 l0_8 l0_9 a0_10 a0_11)) = some r:=H;have A6:=A_ A60;clear A60
   by_cases c7 : t177 = true
   ·subst c7
    have H1 : ((spec_l01In.f a0_2 1 4).bind fun t178 => (if t178 = true then (spec_MessageOk.j0 k (a0_1 == a0_2) a0_0 a0_1 a0_2 a0_3 a0_4 a0_5 a0_6 a0_7 l0_8 l0_9 a0_10 a0_11) else (spec_MessageOk.j0 k true a0_0 a0_1 a0_2 a0_3 a0_4 a0_5 a0_6 a0_7 l0_8 l0_9 a0_10 a0_11))) = some r:=by rw [if_pos rfl] at H;exact H
    clear H;have H:=H1;clear H1;replace H:=ob_.mp H;obtain ⟨t178,A80,H⟩:=H;replace H : (if t178 = true then (spec_MessageOk.j0 k (a0_1 == a0_2) a0_0 a0_1 a0_2 a0_3 a0_4 a0_5 a0_6 a0_7 l0_8 l0_9 a0_10 a0_11) else (spec_MessageOk.j0 k true a0_0 a0_1 a0_2 a0_3 a0_4 a0_5 a0_6 a0_7 l0_8 l0_9 a0_10 a0_11)) = some r:=H;have A8:=A_ A80;clear A80
    by_cases c9 : t178 = true
    ·subst c9
     have H1 : (spec_MessageOk.j0 k (a0_1 == a0_2) a0_0 a0_1 a0_2 a0_3 a0_4 a0_5 a0_6 a0_7 l0_8 l0_9 a0_10 a0_11) = some r:=by rw [if_pos rfl] at H;exact H
     clear H;have H:=H1;clear H1;have H':=A_ H;clear H;have hcz10_0 : w3.cell? ⟨gb175,0,none⟩ = some (.int .i64 a0_0):=(kc_ BK175.out 0).trans rfl;have hcz10_1 : w3.cell? ⟨gb175,1,none⟩ = some (.int .i64 a0_1):=(kc_ BK175.out 1).trans rfl;have hcz10_2 : w3.cell? ⟨gb175,2,none⟩ = some (.int .i64 a0_2):=(kc_ BK175.out 2).trans rfl;have hcz10_3 : w3.cell? ⟨gb175,3,none⟩ = some (.int .i64 a0_3):=(kc_ BK175.out 3).trans rfl;have hcz10_4 : w3.cell? ⟨gb175,4,none⟩ = some (.int .i64 a0_4):=(kc_ BK175.out 4).trans rfl;have hcz10_5 : w3.cell? ⟨gb175,5,none⟩ = some (.int .i64 a0_5):=(kc_ BK175.out 5).trans rfl;have hcz10_6 : w3.cell? ⟨gb175,6,none⟩ = some (.int .i64 a0_6):=(kc_ BK175.out 6).trans rfl;have hcz10_7 : w3.cell? ⟨gb175,7,none⟩ = some (.bool a0_7):=(kc_ BK175.out 7).trans rfl;have hcz10_8 : w3.cell? ⟨gb175,8,none⟩ = some (.slice A0_8 l0_8.length c0_8):=(kc_ BK175.out 8).trans rfl;have hcz10_9 : w3.cell? ⟨gb175,9,none⟩ = some (.slice A0_9 l0_9.length c0_9):=(kc_ BK175.out 9).trans rfl;have hcz10_10 : w3.cell? ⟨gb175,10,none⟩ = some (.string a0_10):=(kc_ BK175.out 10).trans rfl;have hcz10_11 : w3.cell? ⟨gb175,11,none⟩ = some (.bool a0_11):=(kc_ BK175.out 11).trans rfl;have hfz10_0:=kf_ BK175.out 0;have hfz10_1:=kf_ BK175.out 1;have hfz10_2:=kf_ BK175.out 2;have hfz10_3:=kf_ BK175.out 3;have hfz10_4:=kf_ BK175.out 4;have hfz10_5:=kf_ BK175.out 5;have hfz10_6:=kf_ BK175.out 6;have hfz10_7:=kf_ BK175.out 7;have hfz10_8:=kf_ BK175.out 8;have hfz10_9:=kf_ BK175.out 9;have hfz10_10:=kf_ BK175.out 10;have hfz10_11:=kf_ BK175.out 11
     go_wp2_with (first|((with_reducible refine gate_callee (f:=78) rfl ?_);refine goesL_ (some 7) rfl rfl Try.func78 (by kernel_rfl) rfl #[.int .i64 a0_0,.int .i64 1,.int .i64 6] rfl (by (try simp only [s4_,s5_,s6_]);first|done|rfl|(simp only [List.length_drop,List.length_take];rfl)) ?_;(with_reducible refine (spec_l01In.calls a0_0 1 6 true _ A4.out).mono ?_);rintro e w' ⟨rfl,⟨nd,rfl⟩⟩;refine ⟨_,rfl,?_⟩)|(go_at_call 78;(with_reducible refine (spec_l01In.calls a0_1 1 4 true _ A6.out).mono ?_);rintro e w' ⟨rfl,⟨nd,rfl⟩⟩)|(go_at_call 78;(with_reducible refine (spec_l01In.calls a0_2 1 4 true _ A8.out).mono ?_);rintro e w' ⟨rfl,⟨nd,rfl⟩⟩))
     go_meet
     case rel => exact ⟨_,((a0_1 == a0_2)),(by first|rfl|(simp;done)|(simp [*];done)),H',⟨by first|omega|exact Nat.le_refl _⟩,⟨by (with_reducible repeat (first|refine kn_ ?_ _|refine kd_ ?_|refine ka_ ?_ _));exact BK175.out⟩,⟨by repeat (first|(with_reducible first|exact HB.out|apply pa_|apply pn_|apply pd_|refine ps_ ?_ GE175.out)|exact HB.out)⟩⟩
    ·replace c9:=Bool.eq_false_iff.mpr c9;subst c9
     have H1 : (spec_MessageOk.j0 k true a0_0 a0_1 a0_2 a0_3 a0_4 a0_5 a0_6 a0_7 l0_8 l0_9 a0_10 a0_11) = some r:=by rw [if_neg (show ¬ (false = true) by decide)] at H;exact H
     clear H;have H:=H1;clear H1;have H':=A_ H;clear H;have hcz11_0 : w3.cell? ⟨gb175,0,none⟩ = some (.int .i64 a0_0):=(kc_ BK175.out 0).trans rfl;have hcz11_1 : w3.cell? ⟨gb175,1,none⟩ = some (.int .i64 a0_1):=(kc_ BK175.out 1).trans rfl;have hcz11_2 : w3.cell? ⟨gb175,2,none⟩ = some (.int .i64 a0_2):=(kc_ BK175.out 2).trans rfl;have hcz11_3 : w3.cell? ⟨gb175,3,none⟩ = some (.int .i64 a0_3):=(kc_ BK175.out 3).trans rfl;have hcz11_4 : w3.cell? ⟨gb175,4,none⟩ = some (.int .i64 a0_4):=(kc_ BK175.out 4).trans rfl;have hcz11_5 : w3.cell? ⟨gb175,5,none⟩ = some (.int .i64 a0_5):=(kc_ BK175.out 5).trans rfl;have hcz11_6 : w3.cell? ⟨gb175,6,none⟩ = some (.int .i64 a0_6):=(kc_ BK175.out 6).trans rfl;have hcz11_7 : w3.cell? ⟨gb175,7,none⟩ = some (.bool a0_7):=(kc_ BK175.out 7).trans rfl;have hcz11_8 : w3.cell? ⟨gb175,8,none⟩ = some (.slice A0_8 l0_8.length c0_8):=(kc_ BK175.out 8).trans rfl;have hcz11_9 : w3.cell? ⟨gb175,9,none⟩ = some (.slice A0_9 l0_9.length c0_9):=(kc_ BK175.out 9).trans rfl;have hcz11_10 : w3.cell? ⟨gb175,10,none⟩ = some (.string a0_10):=(kc_ BK175.out 10).trans rfl;have hcz11_11 : w3.cell? ⟨gb175,11,none⟩ = some (.bool a0_11):=(kc_ BK175.out 11).trans rfl;have hfz11_0:=kf_ BK175.out 0;have hfz11_1:=kf_ BK175.out 1;have hfz11_2:=kf_ BK175.out 2;have hfz11_3:=kf_ BK175.out 3;have hfz11_4:=kf_ BK175.out 4;have hfz11_5:=kf_ BK175.out 5;have hfz11_6:=kf_ BK175.out 6;have hfz11_7:=kf_ BK175.out 7;have hfz11_8:=kf_ BK175.out 8;have hfz11_9:=kf_ BK175.out 9;have hfz11_10:=kf_ BK175.out 10;have hfz11_11:=kf_ BK175.out 11
     go_wp2_with (first|((with_reducible refine gate_callee (f:=78) rfl ?_);refine goesL_ (some 7) rfl rfl Try.func78 (by kernel_rfl) rfl #[.int .i64 a0_0,.int .i64 1,.int .i64 6] rfl (by (try simp only [s4_,s5_,s6_]);first|done|rfl|(simp only [List.length_drop,List.length_take];rfl)) ?_;(with_reducible refine (spec_l01In.calls a0_0 1 6 true _ A4.out).mono ?_);rintro e w' ⟨rfl,⟨nd,rfl⟩⟩;refine ⟨_,rfl,?_⟩)|(go_at_call 78;(with_reducible refine (spec_l01In.calls a0_1 1 4 true _ A6.out).mono ?_);rintro e w' ⟨rfl,⟨nd,rfl⟩⟩)|(go_at_call 78;(with_reducible refine (spec_l01In.calls a0_2 1 4 false _ A8.out).mono ?_);rintro e w' ⟨rfl,⟨nd,rfl⟩⟩))
     go_meet
     case rel => exact ⟨_,(true),(by first|rfl|(simp;done)|(simp [*];done)),H',⟨by first|omega|exact Nat.le_refl _⟩,⟨by (with_reducible repeat (first|refine kn_ ?_ _|refine kd_ ?_|refine ka_ ?_ _));exact BK175.out⟩,⟨by repeat (first|(with_reducible first|exact HB.out|apply pa_|apply pn_|apply pd_|refine ps_ ?_ GE175.out)|exact HB.out)⟩⟩
   ·replace c7:=Bool.eq_false_iff.mpr c7;subst c7
    have H1 : (spec_MessageOk.j0 k true a0_0 a0_1 a0_2 a0_3 a0_4 a0_5 a0_6 a0_7 l0_8 l0_9 a0_10 a0_11) = some r:=by rw [if_neg (show ¬ (false = true) by decide)] at H;exact H
    clear H;have H:=H1;clear H1;have H':=A_ H;clear H;have hcz12_0 : w3.cell? ⟨gb175,0,none⟩ = some (.int .i64 a0_0):=(kc_ BK175.out 0).trans rfl;have hcz12_1 : w3.cell? ⟨gb175,1,none⟩ = some (.int .i64 a0_1):=(kc_ BK175.out 1).trans rfl;have hcz12_2 : w3.cell? ⟨gb175,2,none⟩ = some (.int .i64 a0_2):=(kc_ BK175.out 2).trans rfl;have hcz12_3 : w3.cell? ⟨gb175,3,none⟩ = some (.int .i64 a0_3):=(kc_ BK175.out 3).trans rfl;have hcz12_4 : w3.cell? ⟨gb175,4,none⟩ = some (.int .i64 a0_4):=(kc_ BK175.out 4).trans rfl;have hcz12_5 : w3.cell? ⟨gb175,5,none⟩ = some (.int .i64 a0_5):=(kc_ BK175.out 5).trans rfl;have hcz12_6 : w3.cell? ⟨gb175,6,none⟩ = some (.int .i64 a0_6):=(kc_ BK175.out 6).trans rfl;have hcz12_7 : w3.cell? ⟨gb175,7,none⟩ = some (.bool a0_7):=(kc_ BK175.out 7).trans rfl;have hcz12_8 : w3.cell? ⟨gb175,8,none⟩ = some (.slice A0_8 l0_8.length c0_8):=(kc_ BK175.out 8).trans rfl;have hcz12_9 : w3.cell? ⟨gb175,9,none⟩ = some (.slice A0_9 l0_9.length c0_9):=(kc_ BK175.out 9).trans rfl;have hcz12_10 : w3.cell? ⟨gb175,10,none⟩ = some (.string a0_10):=(kc_ BK175.out 10).trans rfl;have hcz12_11 : w3.cell? ⟨gb175,11,none⟩ = some (.bool a0_11):=(kc_ BK175.out 11).trans rfl;have hfz12_0:=kf_ BK175.out 0;have hfz12_1:=kf_ BK175.out 1;have hfz12_2:=kf_ BK175.out 2;have hfz12_3:=kf_ BK175.out 3;have hfz12_4:=kf_ BK175.out 4;have hfz12_5:=kf_ BK175.out 5;have hfz12_6:=kf_ BK175.out 6;have hfz12_7:=kf_ BK175.out 7;have hfz12_8:=kf_ BK175.out 8;have hfz12_9:=kf_ BK175.out 9;have hfz12_10:=kf_ BK175.out 10;have hfz12_11:=kf_ BK175.out 11
    go_wp2_with (first|((with_reducible refine gate_callee (f:=78) rfl ?_);refine goesL_ (some 7) rfl rfl Try.func78 (by kernel_rfl) rfl #[.int .i64 a0_0,.int .i64 1,.int .i64 6] rfl (by (try simp only [s4_,s5_,s6_]);first|done|rfl|(simp only [List.length_drop,List.length_take];rfl)) ?_;(with_reducible refine (spec_l01In.calls a0_0 1 6 true _ A4.out).mono ?_);rintro e w' ⟨rfl,⟨nd,rfl⟩⟩;refine ⟨_,rfl,?_⟩)|(go_at_call 78;(with_reducible refine (spec_l01In.calls a0_1 1 4 false _ A6.out).mono ?_);rintro e w' ⟨rfl,⟨nd,rfl⟩⟩))
    go_meet
    case rel => exact ⟨_,(true),(by first|rfl|(simp;done)|(simp [*];done)),H',⟨by first|omega|exact Nat.le_refl _⟩,⟨by (with_reducible repeat (first|refine kn_ ?_ _|refine kd_ ?_|refine ka_ ?_ _));exact BK175.out⟩,⟨by repeat (first|(with_reducible first|exact HB.out|apply pa_|apply pn_|apply pd_|refine ps_ ?_ GE175.out)|exact HB.out)⟩⟩
  ·replace c5:=Bool.eq_false_iff.mpr c5;subst c5
   have H1 : (spec_MessageOk.j0 k true a0_0 a0_1 a0_2 a0_3 a0_4 a0_5 a0_6 a0_7 l0_8 l0_9 a0_10 a0_11) = some r:=by rw [if_neg (show ¬ (false = true) by decide)] at H;exact H
   clear H;have H:=H1;clear H1;have H':=A_ H;clear H;have hcz13_0 : w3.cell? ⟨gb175,0,none⟩ = some (.int .i64 a0_0):=(kc_ BK175.out 0).trans rfl;have hcz13_1 : w3.cell? ⟨gb175,1,none⟩ = some (.int .i64 a0_1):=(kc_ BK175.out 1).trans rfl;have hcz13_2 : w3.cell? ⟨gb175,2,none⟩ = some (.int .i64 a0_2):=(kc_ BK175.out 2).trans rfl;have hcz13_3 : w3.cell? ⟨gb175,3,none⟩ = some (.int .i64 a0_3):=(kc_ BK175.out 3).trans rfl;have hcz13_4 : w3.cell? ⟨gb175,4,none⟩ = some (.int .i64 a0_4):=(kc_ BK175.out 4).trans rfl;have hcz13_5 : w3.cell? ⟨gb175,5,none⟩ = some (.int .i64 a0_5):=(kc_ BK175.out 5).trans rfl;have hcz13_6 : w3.cell? ⟨gb175,6,none⟩ = some (.int .i64 a0_6):=(kc_ BK175.out 6).trans rfl;have hcz13_7 : w3.cell? ⟨gb175,7,none⟩ = some (.bool a0_7):=(kc_ BK175.out 7).trans rfl;have hcz13_8 : w3.cell? ⟨gb175,8,none⟩ = some (.slice A0_8 l0_8.length c0_8):=(kc_ BK175.out 8).trans rfl;have hcz13_9 : w3.cell? ⟨gb175,9,none⟩ = some (.slice A0_9 l0_9.length c0_9):=(kc_ BK175.out 9).trans rfl;have hcz13_10 : w3.cell? ⟨gb175,10,none⟩ = some (.string a0_10):=(kc_ BK175.out 10).trans rfl;have hcz13_11 : w3.cell? ⟨gb175,11,none⟩ = some (.bool a0_11):=(kc_ BK175.out 11).trans rfl;have hfz13_0:=kf_ BK175.out 0;have hfz13_1:=kf_ BK175.out 1;have hfz13_2:=kf_ BK175.out 2;have hfz13_3:=kf_ BK175.out 3;have hfz13_4:=kf_ BK175.out 4;have hfz13_5:=kf_ BK175.out 5;have hfz13_6:=kf_ BK175.out 6;have hfz13_7:=kf_ BK175.out 7;have hfz13_8:=kf_ BK175.out 8;have hfz13_9:=kf_ BK175.out 9;have hfz13_10:=kf_ BK175.out 10;have hfz13_11:=kf_ BK175.out 11
   go_wp2_with (first|((with_reducible refine gate_callee (f:=78) rfl ?_);refine goesL_ (some 7) rfl rfl Try.func78 (by kernel_rfl) rfl #[.int .i64 a0_0,.int .i64 1,.int .i64 6] rfl (by (try simp only [s4_,s5_,s6_]);first|done|rfl|(simp only [List.length_drop,List.length_take];rfl)) ?_;(with_reducible refine (spec_l01In.calls a0_0 1 6 false _ A4.out).mono ?_);rintro e w' ⟨rfl,⟨nd,rfl⟩⟩;refine ⟨_,rfl,?_⟩))
   go_meet
   case rel => exact ⟨_,(true),(by first|rfl|(simp;done)|(simp [*];done)),H',⟨by first|omega|exact Nat.le_refl _⟩,⟨by (with_reducible repeat (first|refine kn_ ?_ _|refine kd_ ?_|refine ka_ ?_ _));exact BK175.out⟩,⟨by repeat (first|(with_reducible first|exact HB.out|apply pa_|apply pn_|apply pd_|refine ps_ ?_ GE175.out)|exact HB.out)⟩⟩
 case rest =>
  clear HC2
  try clear p2
  try clear c3
  try clear c5
  try clear c7
  try clear c9
  try clear hcz10_0
  try clear hcz10_1
  try clear hcz10_10
  try clear hcz10_11
  try clear hcz10_2
  try clear hcz10_3
  try clear hcz10_4
  try clear hcz10_5
  try clear hcz10_6
  try clear hcz10_7
  try clear hcz10_8
  try clear hcz10_9
  try clear hcz11_0
  try clear hcz11_1
  try clear hcz11_10
  try clear hcz11_11
  try clear hcz11_2
  try clear hcz11_3
  try clear hcz11_4
  try clear hcz11_5
  try clear hcz11_6
  try clear hcz11_7
  try clear hcz11_8
  try clear hcz11_9
  try clear hcz12_0
  try clear hcz12_1
  try clear hcz12_10
  try clear hcz12_11
  try clear hcz12_2
  try clear hcz12_3
  try clear hcz12_4
  try clear hcz12_5
  try clear hcz12_6
  try clear hcz12_7
  try clear hcz12_8
  try clear hcz12_9
  try clear hcz13_0
  try clear hcz13_1
  try clear hcz13_10
  try clear hcz13_11
  try clear hcz13_2
  try clear hcz13_3
  try clear hcz13_4
  try clear hcz13_5
  try clear hcz13_6
  try clear hcz13_7
  try clear hcz13_8
  try clear hcz13_9
  try clear hfz10_0
  try clear hfz10_1
  try clear hfz10_10
  try clear hfz10_11
  try clear hfz10_2
  try clear hfz10_3
  try clear hfz10_4
  try clear hfz10_5
  try clear hfz10_6
  try clear hfz10_7
  try clear hfz10_8
  try clear hfz10_9
  try clear hfz11_0
  try clear hfz11_1
  try clear hfz11_10
  try clear hfz11_11
  try clear hfz11_2
  try clear hfz11_3
  try clear hfz11_4
  try clear hfz11_5
  try clear hfz11_6
  try clear hfz11_7
  try clear hfz11_8
  try clear hfz11_9
  try clear hfz12_0
  try clear hfz12_1
  try clear hfz12_10
  try clear hfz12_11
  try clear hfz12_2
  try clear hfz12_3
  try clear hfz12_4
  try clear hfz12_5
  try clear hfz12_6
  try clear hfz12_7
  try clear hfz12_8
  try clear hfz12_9
  try clear hfz13_0
  try clear hfz13_1
  try clear hfz13_10
  try clear hfz13_11
  try clear hfz13_2
  try clear hfz13_3
  try clear hfz13_4
  try clear hfz13_5
  try clear hfz13_6
  try clear hfz13_7
  try clear hfz13_8
  try clear hfz13_9
  obtain ⟨kq,x27_1,rfl,HA,HJ1,BK175,HB⟩:=hcut
  cases kq with
  | zero => exact absurd HA.out (by simp [spec_MessageOk.j0])
  | succ kj1 =>
   have H:=HA.out;clear HA;simp only [spec_MessageOk.j0] at H
   by_cases c14 : x27_1 = true
   ·subst c14
    have H1 : (some false) = some r:=by rw [if_pos rfl] at H;exact H
    clear H;have H:=H1;clear H1;obtain rfl:=Option.some.inj H;go_wp2;go_ret;exact ⟨by first|rfl|(simp [*,errW_none,errW_some] <;> rfl),by repeat (first|(with_reducible first|exact HB.out|apply pa_|apply pn_|apply pd_|refine ps_ ?_ GE175.out)|exact HB.out)⟩
   ·replace c14:=Bool.eq_false_iff.mpr c14;subst c14
    have H1 : ((spec_l01In.f a0_3 0 100000).bind fun t179 => (if t179 = true then ((spec_l01In.f a0_5 0 100000).bind fun t180 => (if t180 = true then ((spec_l01In.f a0_4 0 100000).bind fun t181 => (if t181 = true then ((spec_l01In.f a0_6 0 100000).bind fun t182 => (spec_MessageOk.j1 kj1 (!t182) a0_0 a0_1 a0_2 a0_3 a0_4 a0_5 a0_6 a0_7 l0_8 l0_9 a0_10 a0_11)) else (spec_MessageOk.j1 kj1 true a0_0 a0_1 a0_2 a0_3 a0_4 a0_5 a0_6 a0_7 l0_8 l0_9 a0_10 a0_11))) else (spec_MessageOk.j1 kj1 true a0_0 a0_1 a0_2 a0_3 a0_4 a0_5 a0_6 a0_7 l0_8 l0_9 a0_10 a0_11))) else (spec_MessageOk.j1 kj1 true a0_0 a0_1 a0_2 a0_3 a0_4 a0_5 a0_6 a0_7 l0_8 l0_9 a0_10 a0_11))) = some r:=by rw [if_neg (show ¬ (false = true) by decide)] at H;exact H
    clear H;have H:=H1;clear H1;have HC15:=A_ H;clear H
    go_upto_region 3 with (fail)
    go_cut [49] (fun v49 wc => ∃ (kq : Nat) (x49_14 : Bool),v49 = .bool x49_14 ∧ Aside0 (spec_MessageOk.j1 kq x49_14 a0_0 a0_1 a0_2 a0_3 a0_4 a0_5 a0_6 a0_7 l0_8 l0_9 a0_10 a0_11 = some r) ∧ Aside0 (kq ≤ kj1) ∧ Aside0 (wc.heap[gb175]? = some (.cells #[.int .i64 a0_0,.int .i64 a0_1,.int .i64 a0_2,.int .i64 a0_3,.int .i64 a0_4,.int .i64 a0_5,.int .i64 a0_6,.bool a0_7,(.slice A0_8 l0_8.length c0_8),(.slice A0_9 l0_9.length c0_9),.string a0_10,.bool a0_11] 52 (0,0))) ∧ Aside0 (Below w.heap.size w wc))
    case first =>
     have H:=HC15.out;clear HC15;replace H:=ob_.mp H;obtain ⟨t179,A160,H⟩:=H;replace H : (if t179 = true then ((spec_l01In.f a0_5 0 100000).bind fun t180 => (if t180 = true then ((spec_l01In.f a0_4 0 100000).bind fun t181 => (if t181 = true then ((spec_l01In.f a0_6 0 100000).bind fun t182 => (spec_MessageOk.j1 kj1 (!t182) a0_0 a0_1 a0_2 a0_3 a0_4 a0_5 a0_6 a0_7 l0_8 l0_9 a0_10 a0_11)) else (spec_MessageOk.j1 kj1 true a0_0 a0_1 a0_2 a0_3 a0_4 a0_5 a0_6 a0_7 l0_8 l0_9 a0_10 a0_11))) else (spec_MessageOk.j1 kj1 true a0_0 a0_1 a0_2 a0_3 a0_4 a0_5 a0_6 a0_7 l0_8 l0_9 a0_10 a0_11))) else (spec_MessageOk.j1 kj1 true a0_0 a0_1 a0_2 a0_3 a0_4 a0_5 a0_6 a0_7 l0_8 l0_9 a0_10 a0_11)) = some r:=H;have A16:=A_ A160;clear A160
     by_cases c17 : t179 = true
     ·subst c17
      have H1 : ((spec_l01In.f a0_5 0 100000).bind fun t180 => (if t180 = true then ((spec_l01In.f a0_4 0 100000).bind fun t181 => (if t181 = true then ((spec_l01In.f a0_6 0 100000).bind fun t182 => (spec_MessageOk.j1 kj1 (!t182) a0_0 a0_1 a0_2 a0_3 a0_4 a0_5 a0_6 a0_7 l0_8 l0_9 a0_10 a0_11)) else (spec_MessageOk.j1 kj1 true a0_0 a0_1 a0_2 a0_3 a0_4 a0_5 a0_6 a0_7 l0_8 l0_9 a0_10 a0_11))) else (spec_MessageOk.j1 kj1 true a0_0 a0_1 a0_2 a0_3 a0_4 a0_5 a0_6 a0_7 l0_8 l0_9 a0_10 a0_11))) = some r:=by rw [if_pos rfl] at H;exact H
      clear H;have H:=H1;clear H1;replace H:=ob_.mp H;obtain ⟨t180,A180,H⟩:=H;replace H : (if t180 = true then ((spec_l01In.f a0_4 0 100000).bind fun t181 => (if t181 = true then ((spec_l01In.f a0_6 0 100000).bind fun t182 => (spec_MessageOk.j1 kj1 (!t182) a0_0 a0_1 a0_2 a0_3 a0_4 a0_5 a0_6 a0_7 l0_8 l0_9 a0_10 a0_11)) else (spec_MessageOk.j1 kj1 true a0_0 a0_1 a0_2 a0_3 a0_4 a0_5 a0_6 a0_7 l0_8 l0_9 a0_10 a0_11))) else (spec_MessageOk.j1 kj1 true a0_0 a0_1 a0_2 a0_3 a0_4 a0_5 a0_6 a0_7 l0_8 l0_9 a0_10 a0_11)) = some r:=H;have A18:=A_ A180;clear A180
      by_cases c19 : t180 = true
      ·subst c19
       have H1 : ((spec_l01In.f a0_4 0 100000).bind fun t181 => (if t181 = true then ((spec_l01In.f a0_6 0 100000).bind fun t182 => (spec_MessageOk.j1 kj1 (!t182) a0_0 a0_1 a0_2 a0_3 a0_4 a0_5 a0_6 a0_7 l0_8 l0_9 a0_10 a0_11)) else (spec_MessageOk.j1 kj1 true a0_0 a0_1 a0_2 a0_3 a0_4 a0_5 a0_6 a0_7 l0_8 l0_9 a0_10 a0_11))) = some r:=by rw [if_pos rfl] at H;exact H
       clear H;have H:=H1;clear H1;replace H:=ob_.mp H;obtain ⟨t181,A200,H⟩:=H;replace H : (if t181 = true then ((spec_l01In.f a0_6 0 100000).bind fun t182 => (spec_MessageOk.j1 kj1 (!t182) a0_0 a0_1 a0_2 a0_3 a0_4 a0_5 a0_6 a0_7 l0_8 l0_9 a0_10 a0_11)) else (spec_MessageOk.j1 kj1 true a0_0 a0_1 a0_2 a0_3 a0_4 a0_5 a0_6 a0_7 l0_8 l0_9 a0_10 a0_11)) = some r:=H;have A20:=A_ A200;clear A200
       by_cases c21 : t181 = true
       ·subst c21
        have H1 : ((spec_l01In.f a0_6 0 100000).bind fun t182 => (spec_MessageOk.j1 kj1 (!t182) a0_0 a0_1 a0_2 a0_3 a0_4 a0_5 a0_6 a0_7 l0_8 l0_9 a0_10 a0_11)) = some r:=by rw [if_pos rfl] at H;exact H
        clear H;have H:=H1;clear H1;replace H:=ob_.mp H;obtain ⟨t182,A220,H⟩:=H;replace H : (spec_MessageOk.j1 kj1 (!t182) a0_0 a0_1 a0_2 a0_3 a0_4 a0_5 a0_6 a0_7 l0_8 l0_9 a0_10 a0_11) = some r:=H;have A22:=A_ A220;clear A220;have H':=A_ H;clear H;have hcz23_0 : wc.cell? ⟨gb175,0,none⟩ = some (.int .i64 a0_0):=(kc_ BK175.out 0).trans rfl;have hcz23_1 : wc.cell? ⟨gb175,1,none⟩ = some (.int .i64 a0_1):=(kc_ BK175.out 1).trans rfl;have hcz23_2 : wc.cell? ⟨gb175,2,none⟩ = some (.int .i64 a0_2):=(kc_ BK175.out 2).trans rfl;have hcz23_3 : wc.cell? ⟨gb175,3,none⟩ = some (.int .i64 a0_3):=(kc_ BK175.out 3).trans rfl;have hcz23_4 : wc.cell? ⟨gb175,4,none⟩ = some (.int .i64 a0_4):=(kc_ BK175.out 4).trans rfl;have hcz23_5 : wc.cell? ⟨gb175,5,none⟩ = some (.int .i64 a0_5):=(kc_ BK175.out 5).trans rfl;have hcz23_6 : wc.cell? ⟨gb175,6,none⟩ = some (.int .i64 a0_6):=(kc_ BK175.out 6).trans rfl;have hcz23_7 : wc.cell? ⟨gb175,7,none⟩ = some (.bool a0_7):=(kc_ BK175.out 7).trans rfl;have hcz23_8 : wc.cell? ⟨gb175,8,none⟩ = some (.slice A0_8 l0_8.length c0_8):=(kc_ BK175.out 8).trans rfl;have hcz23_9 : wc.cell? ⟨gb175,9,none⟩ = some (.slice A0_9 l0_9.length c0_9):=(kc_ BK175.out 9).trans rfl;have hcz23_10 : wc.cell? ⟨gb175,10,none⟩ = some (.string a0_10):=(kc_ BK175.out 10).trans rfl;have hcz23_11 : wc.cell? ⟨gb175,11,none⟩ = some (.bool a0_11):=(kc_ BK175.out 11).trans rfl;have hfz23_0:=kf_ BK175.out 0;have hfz23_1:=kf_ BK175.out 1;have hfz23_2:=kf_ BK175.out 2;have hfz23_3:=kf_ BK175.out 3;have hfz23_4:=kf_ BK175.out 4;have hfz23_5:=kf_ BK175.out 5;have hfz23_6:=kf_ BK175.out 6;have hfz23_7:=kf_ BK175.out 7;have hfz23_8:=kf_ BK175.out 8;have hfz23_9:=kf_ BK175.out 9;have hfz23_10:=kf_ BK175.out 10;have hfz23_11:=kf_ BK175.out 11
        go_wp2_with (first|((with_reducible refine gate_callee (f:=78) rfl ?_);refine goesL_ (some 30) rfl rfl Try.func78 (by kernel_rfl) rfl #[.int .i64 a0_3,.int .i64 0,.int .i64 100000] rfl (by (try simp only [s4_,s5_,s6_]);first|done|rfl|(simp only [List.length_drop,List.length_take];rfl)) ?_;(with_reducible refine (spec_l01In.calls a0_3 0 100000 true _ A16.out).mono ?_);rintro e w' ⟨rfl,⟨nd,rfl⟩⟩;refine ⟨_,rfl,?_⟩)|(go_at_call 78;(with_reducible refine (spec_l01In.calls a0_5 0 100000 true _ A18.out).mono ?_);rintro e w' ⟨rfl,⟨nd,rfl⟩⟩)|(go_at_call 78;(with_reducible refine (spec_l01In.calls a0_4 0 100000 true _ A20.out).mono ?_);rintro e w' ⟨rfl,⟨nd,rfl⟩⟩)|(go_at_call 78;(with_reducible refine (spec_l01In.calls a0_6 0 100000 t182 _ A22.out).mono ?_);rintro e w' ⟨rfl,⟨nd,rfl⟩⟩))
        go_meet
        case rel => exact ⟨_,(!t182),(by first|rfl|(simp;done)|(simp [*];done)),H',⟨by have:=HJ1.out;first|omega|exact Nat.le_refl _⟩,⟨by (with_reducible repeat (first|refine kn_ ?_ _|refine kd_ ?_|refine ka_ ?_ _));exact BK175.out⟩,⟨by repeat (first|(with_reducible first|exact HB.out|apply pa_|apply pn_|apply pd_|refine ps_ ?_ GE175.out)|exact HB.out)⟩⟩
       ·replace c21:=Bool.eq_false_iff.mpr c21;subst c21
        have H1 : (spec_MessageOk.j1 kj1 true a0_0 a0_1 a0_2 a0_3 a0_4 a0_5 a0_6 a0_7 l0_8 l0_9 a0_10 a0_11) = some r:=by rw [if_neg (show ¬ (false = true) by decide)] at H;exact H
        clear H;have H:=H1;clear H1;have H':=A_ H;clear H;have hcz24_0 : wc.cell? ⟨gb175,0,none⟩ = some (.int .i64 a0_0):=(kc_ BK175.out 0).trans rfl;have hcz24_1 : wc.cell? ⟨gb175,1,none⟩ = some (.int .i64 a0_1):=(kc_ BK175.out 1).trans rfl;have hcz24_2 : wc.cell? ⟨gb175,2,none⟩ = some (.int .i64 a0_2):=(kc_ BK175.out 2).trans rfl;have hcz24_3 : wc.cell? ⟨gb175,3,none⟩ = some (.int .i64 a0_3):=(kc_ BK175.out 3).trans rfl;have hcz24_4 : wc.cell? ⟨gb175,4,none⟩ = some (.int .i64 a0_4):=(kc_ BK175.out 4).trans rfl;have hcz24_5 : wc.cell? ⟨gb175,5,none⟩ = some (.int .i64 a0_5):=(kc_ BK175.out 5).trans rfl;have hcz24_6 : wc.cell? ⟨gb175,6,none⟩ = some (.int .i64 a0_6):=(kc_ BK175.out 6).trans rfl;have hcz24_7 : wc.cell? ⟨gb175,7,none⟩ = some (.bool a0_7):=(kc_ BK175.out 7).trans rfl;have hcz24_8 : wc.cell? ⟨gb175,8,none⟩ = some (.slice A0_8 l0_8.length c0_8):=(kc_ BK175.out 8).trans rfl;have hcz24_9 : wc.cell? ⟨gb175,9,none⟩ = some (.slice A0_9 l0_9.length c0_9):=(kc_ BK175.out 9).trans rfl;have hcz24_10 : wc.cell? ⟨gb175,10,none⟩ = some (.string a0_10):=(kc_ BK175.out 10).trans rfl;have hcz24_11 : wc.cell? ⟨gb175,11,none⟩ = some (.bool a0_11):=(kc_ BK175.out 11).trans rfl;have hfz24_0:=kf_ BK175.out 0;have hfz24_1:=kf_ BK175.out 1;have hfz24_2:=kf_ BK175.out 2;have hfz24_3:=kf_ BK175.out 3;have hfz24_4:=kf_ BK175.out 4;have hfz24_5:=kf_ BK175.out 5;have hfz24_6:=kf_ BK175.out 6;have hfz24_7:=kf_ BK175.out 7;have hfz24_8:=kf_ BK175.out 8;have hfz24_9:=kf_ BK175.out 9;have hfz24_10:=kf_ BK175.out 10;have hfz24_11:=kf_ BK175.out 11
        go_wp2_with (first|((with_reducible refine gate_callee (f:=78) rfl ?_);refine goesL_ (some 30) rfl rfl Try.func78 (by kernel_rfl) rfl #[.int .i64 a0_3,.int .i64 0,.int .i64 100000] rfl (by (try simp only [s4_,s5_,s6_]);first|done|rfl|(simp only [List.length_drop,List.length_take];rfl)) ?_;(with_reducible refine (spec_l01In.calls a0_3 0 100000 true _ A16.out).mono ?_);rintro e w' ⟨rfl,⟨nd,rfl⟩⟩;refine ⟨_,rfl,?_⟩)|(go_at_call 78;(with_reducible refine (spec_l01In.calls a0_5 0 100000 true _ A18.out).mono ?_);rintro e w' ⟨rfl,⟨nd,rfl⟩⟩)|(go_at_call 78;(with_reducible refine (spec_l01In.calls a0_4 0 100000 false _ A20.out).mono ?_);rintro e w' ⟨rfl,⟨nd,rfl⟩⟩))
        go_meet
        case rel => exact ⟨_,(true),(by first|rfl|(simp;done)|(simp [*];done)),H',⟨by have:=HJ1.out;first|omega|exact Nat.le_refl _⟩,⟨by (with_reducible repeat (first|refine kn_ ?_ _|refine kd_ ?_|refine ka_ ?_ _));exact BK175.out⟩,⟨by repeat (first|(with_reducible first|exact HB.out|apply pa_|apply pn_|apply pd_|refine ps_ ?_ GE175.out)|exact HB.out)⟩⟩
      ·replace c19:=Bool.eq_false_iff.mpr c19;subst c19
       have H1 : (spec_MessageOk.j1 kj1 true a0_0 a0_1 a0_2 a0_3 a0_4 a0_5 a0_6 a0_7 l0_8 l0_9 a0_10 a0_11) = some r:=by rw [if_neg (show ¬ (false = true) by decide)] at H;exact H
       clear H;have H:=H1;clear H1;have H':=A_ H;clear H;have hcz25_0 : wc.cell? ⟨gb175,0,none⟩ = some (.int .i64 a0_0):=(kc_ BK175.out 0).trans rfl;have hcz25_1 : wc.cell? ⟨gb175,1,none⟩ = some (.int .i64 a0_1):=(kc_ BK175.out 1).trans rfl;have hcz25_2 : wc.cell? ⟨gb175,2,none⟩ = some (.int .i64 a0_2):=(kc_ BK175.out 2).trans rfl;have hcz25_3 : wc.cell? ⟨gb175,3,none⟩ = some (.int .i64 a0_3):=(kc_ BK175.out 3).trans rfl;have hcz25_4 : wc.cell? ⟨gb175,4,none⟩ = some (.int .i64 a0_4):=(kc_ BK175.out 4).trans rfl;have hcz25_5 : wc.cell? ⟨gb175,5,none⟩ = some (.int .i64 a0_5):=(kc_ BK175.out 5).trans rfl;have hcz25_6 : wc.cell? ⟨gb175,6,none⟩ = some (.int .i64 a0_6):=(kc_ BK175.out 6).trans rfl;have hcz25_7 : wc.cell? ⟨gb175,7,none⟩ = some (.bool a0_7):=(kc_ BK175.out 7).trans rfl;have hcz25_8 : wc.cell? ⟨gb175,8,none⟩ = some (.slice A0_8 l0_8.length c0_8):=(kc_ BK175.out 8).trans rfl;have hcz25_9 : wc.cell? ⟨gb175,9,none⟩ = some (.slice A0_9 l0_9.length c0_9):=(kc_ BK175.out 9).trans rfl;have hcz25_10 : wc.cell? ⟨gb175,10,none⟩ = some (.string a0_10):=(kc_ BK175.out 10).trans rfl;have hcz25_11 : wc.cell? ⟨gb175,11,none⟩ = some (.bool a0_11):=(kc_ BK175.out 11).trans rfl;have hfz25_0:=kf_ BK175.out 0;have hfz25_1:=kf_ BK175.out 1;have hfz25_2:=kf_ BK175.out 2;have hfz25_3:=kf_ BK175.out 3;have hfz25_4:=kf_ BK175.out 4;have hfz25_5:=kf_ BK175.out 5;have hfz25_6:=kf_ BK175.out 6;have hfz25_7:=kf_ BK175.out 7;have hfz25_8:=kf_ BK175.out 8;have hfz25_9:=kf_ BK175.out 9;have hfz25_10:=kf_ BK175.out 10;have hfz25_11:=kf_ BK175.out 11
       go_wp2_with (first|((with_reducible refine gate_callee (f:=78) rfl ?_);refine goesL_ (some 30) rfl rfl Try.func78 (by kernel_rfl) rfl #[.int .i64 a0_3,.int .i64 0,.int .i64 100000] rfl (by (try simp only [s4_,s5_,s6_]);first|done|rfl|(simp only [List.length_drop,List.length_take];rfl)) ?_;(with_reducible refine (spec_l01In.calls a0_3 0 100000 true _ A16.out).mono ?_);rintro e w' ⟨rfl,⟨nd,rfl⟩⟩;refine ⟨_,rfl,?_⟩)|(go_at_call 78;(with_reducible refine (spec_l01In.calls a0_5 0 100000 false _ A18.out).mono ?_);rintro e w' ⟨rfl,⟨nd,rfl⟩⟩))
       go_meet
       case rel => exact ⟨_,(true),(by first|rfl|(simp;done)|(simp [*];done)),H',⟨by have:=HJ1.out;first|omega|exact Nat.le_refl _⟩,⟨by (with_reducible repeat (first|refine kn_ ?_ _|refine kd_ ?_|refine ka_ ?_ _));exact BK175.out⟩,⟨by repeat (first|(with_reducible first|exact HB.out|apply pa_|apply pn_|apply pd_|refine ps_ ?_ GE175.out)|exact HB.out)⟩⟩
     ·replace c17:=Bool.eq_false_iff.mpr c17;subst c17
      have H1 : (spec_MessageOk.j1 kj1 true a0_0 a0_1 a0_2 a0_3 a0_4 a0_5 a0_6 a0_7 l0_8 l0_9 a0_10 a0_11) = some r:=by rw [if_neg (show ¬ (false = true) by decide)] at H;exact H
      clear H;have H:=H1;clear H1;have H':=A_ H;clear H;have hcz26_0 : wc.cell? ⟨gb175,0,none⟩ = some (.int .i64 a0_0):=(kc_ BK175.out 0).trans rfl;have hcz26_1 : wc.cell? ⟨gb175,1,none⟩ = some (.int .i64 a0_1):=(kc_ BK175.out 1).trans rfl;have hcz26_2 : wc.cell? ⟨gb175,2,none⟩ = some (.int .i64 a0_2):=(kc_ BK175.out 2).trans rfl;have hcz26_3 : wc.cell? ⟨gb175,3,none⟩ = some (.int .i64 a0_3):=(kc_ BK175.out 3).trans rfl;have hcz26_4 : wc.cell? ⟨gb175,4,none⟩ = some (.int .i64 a0_4):=(kc_ BK175.out 4).trans rfl;have hcz26_5 : wc.cell? ⟨gb175,5,none⟩ = some (.int .i64 a0_5):=(kc_ BK175.out 5).trans rfl;have hcz26_6 : wc.cell? ⟨gb175,6,none⟩ = some (.int .i64 a0_6):=(kc_ BK175.out 6).trans rfl;have hcz26_7 : wc.cell? ⟨gb175,7,none⟩ = some (.bool a0_7):=(kc_ BK175.out 7).trans rfl;have hcz26_8 : wc.cell? ⟨gb175,8,none⟩ = some (.slice A0_8 l0_8.length c0_8):=(kc_ BK175.out 8).trans rfl;have hcz26_9 : wc.cell? ⟨gb175,9,none⟩ = some (.slice A0_9 l0_9.length c0_9):=(kc_ BK175.out 9).trans rfl;have hcz26_10 : wc.cell? ⟨gb175,10,none⟩ = some (.string a0_10):=(kc_ BK175.out 10).trans rfl;have hcz26_11 : wc.cell? ⟨gb175,11,none⟩ = some (.bool a0_11):=(kc_ BK175.out 11).trans rfl;have hfz26_0:=kf_ BK175.out 0;have hfz26_1:=kf_ BK175.out 1;have hfz26_2:=kf_ BK175.out 2;have hfz26_3:=kf_ BK175.out 3;have hfz26_4:=kf_ BK175.out 4;have hfz26_5:=kf_ BK175.out 5;have hfz26_6:=kf_ BK175.out 6;have hfz26_7:=kf_ BK175.out 7;have hfz26_8:=kf_ BK175.out 8;have hfz26_9:=kf_ BK175.out 9;have hfz26_10:=kf_ BK175.out 10;have hfz26_11:=kf_ BK175.out 11
      go_wp2_with (first|((with_reducible refine gate_callee (f:=78) rfl ?_);refine goesL_ (some 30) rfl rfl Try.func78 (by kernel_rfl) rfl #[.int .i64 a0_3,.int .i64 0,.int .i64 100000] rfl (by (try simp only [s4_,s5_,s6_]);first|done|rfl|(simp only [List.length_drop,List.length_take];rfl)) ?_;(with_reducible refine (spec_l01In.calls a0_3 0 100000 false _ A16.out).mono ?_);rintro e w' ⟨rfl,⟨nd,rfl⟩⟩;refine ⟨_,rfl,?_⟩))
      go_meet
      case rel => exact ⟨_,(true),(by first|rfl|(simp;done)|(simp [*];done)),H',⟨by have:=HJ1.out;first|omega|exact Nat.le_refl _⟩,⟨by (with_reducible repeat (first|refine kn_ ?_ _|refine kd_ ?_|refine ka_ ?_ _));exact BK175.out⟩,⟨by repeat (first|(with_reducible first|exact HB.out|apply pa_|apply pn_|apply pd_|refine ps_ ?_ GE175.out)|exact HB.out)⟩⟩
    case rest =>
     clear HC15
     try clear c1
     try clear c2
     try clear p2
     try clear c3
     try clear c5
     try clear c7
     try clear c9
     try clear c14
     try clear c17
     try clear c19
     try clear c21
     try clear hcz10_0
     try clear hcz10_1
     try clear hcz10_10
     try clear hcz10_11
     try clear hcz10_2
     try clear hcz10_3
     try clear hcz10_4
     try clear hcz10_5
     try clear hcz10_6
     try clear hcz10_7
     try clear hcz10_8
     try clear hcz10_9
     try clear hcz11_0
     try clear hcz11_1
     try clear hcz11_10
     try clear hcz11_11
     try clear hcz11_2
     try clear hcz11_3
     try clear hcz11_4
     try clear hcz11_5
     try clear hcz11_6
     try clear hcz11_7
     try clear hcz11_8
     try clear hcz11_9
     try clear hcz12_0
     try clear hcz12_1
     try clear hcz12_10
     try clear hcz12_11
     try clear hcz12_2
     try clear hcz12_3
     try clear hcz12_4
     try clear hcz12_5
     try clear hcz12_6
     try clear hcz12_7
     try clear hcz12_8
     try clear hcz12_9
     try clear hcz13_0
     try clear hcz13_1
     try clear hcz13_10
     try clear hcz13_11
     try clear hcz13_2
     try clear hcz13_3
     try clear hcz13_4
     try clear hcz13_5
     try clear hcz13_6
     try clear hcz13_7
     try clear hcz13_8
     try clear hcz13_9
     try clear hcz23_0
     try clear hcz23_1
     try clear hcz23_10
     try clear hcz23_11
     try clear hcz23_2
     try clear hcz23_3
     try clear hcz23_4
     try clear hcz23_5
     try clear hcz23_6
     try clear hcz23_7
     try clear hcz23_8
     try clear hcz23_9
     try clear hcz24_0
     try clear hcz24_1
     try clear hcz24_10
     try clear hcz24_11
     try clear hcz24_2
     try clear hcz24_3
     try clear hcz24_4
     try clear hcz24_5
     try clear hcz24_6
     try clear hcz24_7
     try clear hcz24_8
     try clear hcz24_9
     try clear hcz25_0
     try clear hcz25_1
     try clear hcz25_10
     try clear hcz25_11
     try clear hcz25_2
     try clear hcz25_3
     try clear hcz25_4
     try clear hcz25_5
     try clear hcz25_6
     try clear hcz25_7
     try clear hcz25_8
     try clear hcz25_9
     try clear hcz26_0
     try clear hcz26_1
     try clear hcz26_10
     try clear hcz26_11
     try clear hcz26_2
     try clear hcz26_3
     try clear hcz26_4
     try clear hcz26_5
     try clear hcz26_6
     try clear hcz26_7
     try clear hcz26_8
     try clear hcz26_9
     try clear hfz10_0
     try clear hfz10_1
     try clear hfz10_10
     try clear hfz10_11
     try clear hfz10_2
     try clear hfz10_3
     try clear hfz10_4
     try clear hfz10_5
     try clear hfz10_6
     try clear hfz10_7
     try clear hfz10_8
     try clear hfz10_9
     try clear hfz11_0
     try clear hfz11_1
     try clear hfz11_10
     try clear hfz11_11
     try clear hfz11_2
     try clear hfz11_3
     try clear hfz11_4
     try clear hfz11_5
     try clear hfz11_6
     try clear hfz11_7
     try clear hfz11_8
     try clear hfz11_9
     try clear hfz12_0
     try clear hfz12_1
     try clear hfz12_10
     try clear hfz12_11
     try clear hfz12_2
     try clear hfz12_3
     try clear hfz12_4
     try clear hfz12_5
     try clear hfz12_6
     try clear hfz12_7
     try clear hfz12_8
     try clear hfz12_9
     try clear hfz13_0
     try clear hfz13_1
     try clear hfz13_10
     try clear hfz13_11
     try clear hfz13_2
     try clear hfz13_3
     try clear hfz13_4
     try clear hfz13_5
     try clear hfz13_6
     try clear hfz13_7
     try clear hfz13_8
     try clear hfz13_9
     try clear hfz23_0
     try clear hfz23_1
     try clear hfz23_10
     try clear hfz23_11
     try clear hfz23_2
     try clear hfz23_3
     try clear hfz23_4
     try clear hfz23_5
     try clear hfz23_6
     try clear hfz23_7
     try clear hfz23_8
     try clear hfz23_9
     try clear hfz24_0
     try clear hfz24_1
     try clear hfz24_10
     try clear hfz24_11
     try clear hfz24_2
     try clear hfz24_3
     try clear hfz24_4
     try clear hfz24_5
     try clear hfz24_6
     try clear hfz24_7
     try clear hfz24_8
     try clear hfz24_9
     try clear hfz25_0
     try clear hfz25_1
     try clear hfz25_10
     try clear hfz25_11
     try clear hfz25_2
     try clear hfz25_3
     try clear hfz25_4
     try clear hfz25_5
     try clear hfz25_6
     try clear hfz25_7
     try clear hfz25_8
     try clear hfz25_9
     try clear hfz26_0
     try clear hfz26_1
     try clear hfz26_10
     try clear hfz26_11
     try clear hfz26_2
     try clear hfz26_3
     try clear hfz26_4
     try clear hfz26_5
     try clear hfz26_6
     try clear hfz26_7
     try clear hfz26_8
     try clear hfz26_9
     try clear p2
     obtain ⟨kq,x49_14,rfl,HA,HJ14,BK175,HB⟩:=hcut
     cases kq with
     | zero => exact absurd HA.out (by simp [spec_MessageOk.j1])
     | succ kj14 =>
      have H:=HA.out;clear HA;simp only [spec_MessageOk.j1] at H
      by_cases c27 : x49_14 = true
      ·subst c27
       have H1 : (some false) = some r:=by rw [if_pos rfl] at H;exact H
       clear H;have H:=H1;clear H1;obtain rfl:=Option.some.inj H;go_wp2;go_ret;exact ⟨by first|rfl|(simp [*,errW_none,errW_some] <;> rfl),by repeat (first|(with_reducible first|exact HB.out|apply pa_|apply pn_|apply pd_|refine ps_ ?_ GE175.out)|exact HB.out)⟩
      ·replace c27:=Bool.eq_false_iff.mpr c27;subst c27
       have H1 : (if (l0_8.length : Int) > 4 then (spec_MessageOk.j2 kj14 true a0_0 a0_1 a0_2 a0_3 a0_4 a0_5 a0_6 a0_7 l0_8 l0_9 a0_10 a0_11) else (if (l0_8.length : Int) > 0 then (spec_MessageOk.j2 kj14 (a0_0 != 3) a0_0 a0_1 a0_2 a0_3 a0_4 a0_5 a0_6 a0_7 l0_8 l0_9 a0_10 a0_11) else (spec_MessageOk.j2 kj14 false a0_0 a0_1 a0_2 a0_3 a0_4 a0_5 a0_6 a0_7 l0_8 l0_9 a0_10 a0_11))) = some r:=by rw [if_neg (show ¬ (false = true) by decide)] at H;exact H
       clear H;have H:=H1;clear H1;have HC28:=A_ H;clear H
       go_upto_region 5 with (fail)
       go_cut [64] (fun v64 wc => ∃ (kq : Nat) (x64_27 : Bool),v64 = .bool x64_27 ∧ Aside0 (spec_MessageOk.j2 kq x64_27 a0_0 a0_1 a0_2 a0_3 a0_4 a0_5 a0_6 a0_7 l0_8 l0_9 a0_10 a0_11 = some r) ∧ Aside0 (kq ≤ kj14) ∧ Aside0 (wc.heap[gb175]? = some (.cells #[.int .i64 a0_0,.int .i64 a0_1,.int .i64 a0_2,.int .i64 a0_3,.int .i64 a0_4,.int .i64 a0_5,.int .i64 a0_6,.bool a0_7,(.slice A0_8 l0_8.length c0_8),(.slice A0_9 l0_9.length c0_9),.string a0_10,.bool a0_11] 52 (0,0))) ∧ Aside0 (Below w.heap.size w wc))
       case first =>
        have H:=HC28.out;clear HC28
        by_cases c29 : (l0_8.length : Int) > 4
        ·rw [if_pos c29] at H;have c29b0 : decide (4 < (l0_8.length : Int)) = true:=de_ c29;have c29b1 : decide (4 < l0_8.length) = true:=de_ (by omega);clear c29
         (first|rw [c29b0]|(simp only [i64_w,i32_w];rw [c29b0])|skip)
         have H':=A_ H;clear H;have hcz30_0 : wc.cell? ⟨gb175,0,none⟩ = some (.int .i64 a0_0):=(kc_ BK175.out 0).trans rfl;have hcz30_1 : wc.cell? ⟨gb175,1,none⟩ = some (.int .i64 a0_1):=(kc_ BK175.out 1).trans rfl;have hcz30_2 : wc.cell? ⟨gb175,2,none⟩ = some (.int .i64 a0_2):=(kc_ BK175.out 2).trans rfl;have hcz30_3 : wc.cell? ⟨gb175,3,none⟩ = some (.int .i64 a0_3):=(kc_ BK175.out 3).trans rfl;have hcz30_4 : wc.cell? ⟨gb175,4,none⟩ = some (.int .i64 a0_4):=(kc_ BK175.out 4).trans rfl;have hcz30_5 : wc.cell? ⟨gb175,5,none⟩ = some (.int .i64 a0_5):=(kc_ BK175.out 5).trans rfl;have hcz30_6 : wc.cell? ⟨gb175,6,none⟩ = some (.int .i64 a0_6):=(kc_ BK175.out 6).trans rfl;have hcz30_7 : wc.cell? ⟨gb175,7,none⟩ = some (.bool a0_7):=(kc_ BK175.out 7).trans rfl;have hcz30_8 : wc.cell? ⟨gb175,8,none⟩ = some (.slice A0_8 l0_8.length c0_8):=(kc_ BK175.out 8).trans rfl;have hcz30_9 : wc.cell? ⟨gb175,9,none⟩ = some (.slice A0_9 l0_9.length c0_9):=(kc_ BK175.out 9).trans rfl;have hcz30_10 : wc.cell? ⟨gb175,10,none⟩ = some (.string a0_10):=(kc_ BK175.out 10).trans rfl;have hcz30_11 : wc.cell? ⟨gb175,11,none⟩ = some (.bool a0_11):=(kc_ BK175.out 11).trans rfl;have hfz30_0:=kf_ BK175.out 0;have hfz30_1:=kf_ BK175.out 1;have hfz30_2:=kf_ BK175.out 2;have hfz30_3:=kf_ BK175.out 3;have hfz30_4:=kf_ BK175.out 4;have hfz30_5:=kf_ BK175.out 5;have hfz30_6:=kf_ BK175.out 6;have hfz30_7:=kf_ BK175.out 7;have hfz30_8:=kf_ BK175.out 8;have hfz30_9:=kf_ BK175.out 9;have hfz30_10:=kf_ BK175.out 10;have hfz30_11:=kf_ BK175.out 11;go_wp2
         go_meet
         case rel => exact ⟨_,(true),(by first|rfl|(simp;done)|(simp [*];done)),H',⟨by have:=HJ1.out;have:=HJ14.out;first|omega|exact Nat.le_refl _⟩,⟨by (with_reducible repeat (first|refine kn_ ?_ _|refine kd_ ?_|refine ka_ ?_ _));exact BK175.out⟩,⟨by repeat (first|(with_reducible first|exact HB.out|apply pa_|apply pn_|apply pd_|refine ps_ ?_ GE175.out)|exact HB.out)⟩⟩
        ·rw [if_neg c29] at H;have c29b0 : decide (4 < (l0_8.length : Int)) = false:=decide_eq_false c29;have c29b1 : decide (4 < l0_8.length) = false:=decide_eq_false (by omega);clear c29
         (first|rw [c29b0]|(simp only [i64_w,i32_w];rw [c29b0])|skip)
         by_cases c31 : (l0_8.length : Int) > 0
         ·rw [if_pos c31] at H;have c31b0 : decide (0 < (l0_8.length : Int)) = true:=de_ c31;have c31b1 : decide (0 < l0_8.length) = true:=de_ (by omega);clear c31;have H':=A_ H;clear H;have hcz32_0 : wc.cell? ⟨gb175,0,none⟩ = some (.int .i64 a0_0):=(kc_ BK175.out 0).trans rfl;have hcz32_1 : wc.cell? ⟨gb175,1,none⟩ = some (.int .i64 a0_1):=(kc_ BK175.out 1).trans rfl;have hcz32_2 : wc.cell? ⟨gb175,2,none⟩ = some (.int .i64 a0_2):=(kc_ BK175.out 2).trans rfl;have hcz32_3 : wc.cell? ⟨gb175,3,none⟩ = some (.int .i64 a0_3):=(kc_ BK175.out 3).trans rfl;have hcz32_4 : wc.cell? ⟨gb175,4,none⟩ = some (.int .i64 a0_4):=(kc_ BK175.out 4).trans rfl;have hcz32_5 : wc.cell? ⟨gb175,5,none⟩ = some (.int .i64 a0_5):=(kc_ BK175.out 5).trans rfl;have hcz32_6 : wc.cell? ⟨gb175,6,none⟩ = some (.int .i64 a0_6):=(kc_ BK175.out 6).trans rfl;have hcz32_7 : wc.cell? ⟨gb175,7,none⟩ = some (.bool a0_7):=(kc_ BK175.out 7).trans rfl;have hcz32_8 : wc.cell? ⟨gb175,8,none⟩ = some (.slice A0_8 l0_8.length c0_8):=(kc_ BK175.out 8).trans rfl;have hcz32_9 : wc.cell? ⟨gb175,9,none⟩ = some (.slice A0_9 l0_9.length c0_9):=(kc_ BK175.out 9).trans rfl;have hcz32_10 : wc.cell? ⟨gb175,10,none⟩ = some (.string a0_10):=(kc_ BK175.out 10).trans rfl;have hcz32_11 : wc.cell? ⟨gb175,11,none⟩ = some (.bool a0_11):=(kc_ BK175.out 11).trans rfl;have hfz32_0:=kf_ BK175.out 0;have hfz32_1:=kf_ BK175.out 1;have hfz32_2:=kf_ BK175.out 2;have hfz32_3:=kf_ BK175.out 3;have hfz32_4:=kf_ BK175.out 4;have hfz32_5:=kf_ BK175.out 5;have hfz32_6:=kf_ BK175.out 6;have hfz32_7:=kf_ BK175.out 7;have hfz32_8:=kf_ BK175.out 8;have hfz32_9:=kf_ BK175.out 9;have hfz32_10:=kf_ BK175.out 10;have hfz32_11:=kf_ BK175.out 11;go_wp2
          go_meet
          case rel => exact ⟨_,((a0_0 != 3)),(by first|rfl|(simp;done)|(simp [*];done)),H',⟨by have:=HJ1.out;have:=HJ14.out;first|omega|exact Nat.le_refl _⟩,⟨by (with_reducible repeat (first|refine kn_ ?_ _|refine kd_ ?_|refine ka_ ?_ _));exact BK175.out⟩,⟨by repeat (first|(with_reducible first|exact HB.out|apply pa_|apply pn_|apply pd_|refine ps_ ?_ GE175.out)|exact HB.out)⟩⟩
         ·rw [if_neg c31] at H;have c31b0 : decide (0 < (l0_8.length : Int)) = false:=decide_eq_false c31;have c31b1 : decide (0 < l0_8.length) = false:=decide_eq_false (by omega);clear c31;have H':=A_ H;clear H;have hcz33_0 : wc.cell? ⟨gb175,0,none⟩ = some (.int .i64 a0_0):=(kc_ BK175.out 0).trans rfl;have hcz33_1 : wc.cell? ⟨gb175,1,none⟩ = some (.int .i64 a0_1):=(kc_ BK175.out 1).trans rfl;have hcz33_2 : wc.cell? ⟨gb175,2,none⟩ = some (.int .i64 a0_2):=(kc_ BK175.out 2).trans rfl;have hcz33_3 : wc.cell? ⟨gb175,3,none⟩ = some (.int .i64 a0_3):=(kc_ BK175.out 3).trans rfl;have hcz33_4 : wc.cell? ⟨gb175,4,none⟩ = some (.int .i64 a0_4):=(kc_ BK175.out 4).trans rfl;have hcz33_5 : wc.cell? ⟨gb175,5,none⟩ = some (.int .i64 a0_5):=(kc_ BK175.out 5).trans rfl;have hcz33_6 : wc.cell? ⟨gb175,6,none⟩ = some (.int .i64 a0_6):=(kc_ BK175.out 6).trans rfl;have hcz33_7 : wc.cell? ⟨gb175,7,none⟩ = some (.bool a0_7):=(kc_ BK175.out 7).trans rfl;have hcz33_8 : wc.cell? ⟨gb175,8,none⟩ = some (.slice A0_8 l0_8.length c0_8):=(kc_ BK175.out 8).trans rfl;have hcz33_9 : wc.cell? ⟨gb175,9,none⟩ = some (.slice A0_9 l0_9.length c0_9):=(kc_ BK175.out 9).trans rfl;have hcz33_10 : wc.cell? ⟨gb175,10,none⟩ = some (.string a0_10):=(kc_ BK175.out 10).trans rfl;have hcz33_11 : wc.cell? ⟨gb175,11,none⟩ = some (.bool a0_11):=(kc_ BK175.out 11).trans rfl;have hfz33_0:=kf_ BK175.out 0;have hfz33_1:=kf_ BK175.out 1;have hfz33_2:=kf_ BK175.out 2;have hfz33_3:=kf_ BK175.out 3;have hfz33_4:=kf_ BK175.out 4;have hfz33_5:=kf_ BK175.out 5;have hfz33_6:=kf_ BK175.out 6;have hfz33_7:=kf_ BK175.out 7;have hfz33_8:=kf_ BK175.out 8;have hfz33_9:=kf_ BK175.out 9;have hfz33_10:=kf_ BK175.out 10;have hfz33_11:=kf_ BK175.out 11;go_wp2
          go_meet
          case rel => exact ⟨_,(false),(by first|rfl|(simp;done)|(simp [*];done)),H',⟨by have:=HJ1.out;have:=HJ14.out;first|omega|exact Nat.le_refl _⟩,⟨by (with_reducible repeat (first|refine kn_ ?_ _|refine kd_ ?_|refine ka_ ?_ _));exact BK175.out⟩,⟨by repeat (first|(with_reducible first|exact HB.out|apply pa_|apply pn_|apply pd_|refine ps_ ?_ GE175.out)|exact HB.out)⟩⟩
       case rest =>
        clear HC28
        try clear c1
        try clear c2
        try clear p2
        try clear c3
        try clear c5
        try clear c7
        try clear c9
        try clear c14
        try clear c17
        try clear c19
        try clear c21
        try clear c27
        try clear c29
        try clear c29b0
        try clear c29b1
        try clear c31
        try clear c31b0
        try clear c31b1
        try clear hcz10_0
        try clear hcz10_1
        try clear hcz10_10
        try clear hcz10_11
        try clear hcz10_2
        try clear hcz10_3
        try clear hcz10_4
        try clear hcz10_5
        try clear hcz10_6
        try clear hcz10_7
        try clear hcz10_8
        try clear hcz10_9
        try clear hcz11_0
        try clear hcz11_1
        try clear hcz11_10
        try clear hcz11_11
        try clear hcz11_2
        try clear hcz11_3
        try clear hcz11_4
        try clear hcz11_5
        try clear hcz11_6
        try clear hcz11_7
        try clear hcz11_8
        try clear hcz11_9
        try clear hcz12_0
        try clear hcz12_1
        try clear hcz12_10
        try clear hcz12_11
        try clear hcz12_2
        try clear hcz12_3
        try clear hcz12_4
        try clear hcz12_5
        try clear hcz12_6
        try clear hcz12_7
        try clear hcz12_8
        try clear hcz12_9
        try clear hcz13_0
        try clear hcz13_1
        try clear hcz13_10
        try clear hcz13_11
        try clear hcz13_2
        try clear hcz13_3
        try clear hcz13_4
        try clear hcz13_5
        try clear hcz13_6
        try clear hcz13_7
        try clear hcz13_8
        try clear hcz13_9
        try clear hcz23_0
        try clear hcz23_1
        try clear hcz23_10
        try clear hcz23_11
        try clear hcz23_2
        try clear hcz23_3
        try clear hcz23_4
        try clear hcz23_5
        try clear hcz23_6
        try clear hcz23_7
        try clear hcz23_8
        try clear hcz23_9
        try clear hcz24_0
        try clear hcz24_1
        try clear hcz24_10
        try clear hcz24_11
        try clear hcz24_2
        try clear hcz24_3
        try clear hcz24_4
        try clear hcz24_5
        try clear hcz24_6
        try clear hcz24_7
        try clear hcz24_8
        try clear hcz24_9
        try clear hcz25_0
        try clear hcz25_1
        try clear hcz25_10
        try clear hcz25_11
        try clear hcz25_2
        try clear hcz25_3
        try clear hcz25_4
        try clear hcz25_5
        try clear hcz25_6
        try clear hcz25_7
        try clear hcz25_8
        try clear hcz25_9
        try clear hcz26_0
        try clear hcz26_1
        try clear hcz26_10
        try clear hcz26_11
        try clear hcz26_2
        try clear hcz26_3
        try clear hcz26_4
        try clear hcz26_5
        try clear hcz26_6
        try clear hcz26_7
        try clear hcz26_8
        try clear hcz26_9
        try clear hcz30_0
        try clear hcz30_1
        try clear hcz30_10
        try clear hcz30_11
        try clear hcz30_2
        try clear hcz30_3
        try clear hcz30_4
        try clear hcz30_5
        try clear hcz30_6
        try clear hcz30_7
        try clear hcz30_8
        try clear hcz30_9
        try clear hcz32_0
        try clear hcz32_1
        try clear hcz32_10
        try clear hcz32_11
        try clear hcz32_2
        try clear hcz32_3
        try clear hcz32_4
        try clear hcz32_5
        try clear hcz32_6
        try clear hcz32_7
        try clear hcz32_8
        try clear hcz32_9
        try clear hcz33_0
        try clear hcz33_1
        try clear hcz33_10
        try clear hcz33_11
        try clear hcz33_2
        try clear hcz33_3
        try clear hcz33_4
        try clear hcz33_5
        try clear hcz33_6
        try clear hcz33_7
        try clear hcz33_8
        try clear hcz33_9
        try clear hfz10_0
        try clear hfz10_1
        try clear hfz10_10
        try clear hfz10_11
        try clear hfz10_2
        try clear hfz10_3
        try clear hfz10_4
        try clear hfz10_5
        try clear hfz10_6
        try clear hfz10_7
        try clear hfz10_8
        try clear hfz10_9
        try clear hfz11_0
        try clear hfz11_1
        try clear hfz11_10
        try clear hfz11_11
        try clear hfz11_2
        try clear hfz11_3
        try clear hfz11_4
        try clear hfz11_5
        try clear hfz11_6
        try clear hfz11_7
        try clear hfz11_8
        try clear hfz11_9
        try clear hfz12_0
        try clear hfz12_1
        try clear hfz12_10
        try clear hfz12_11
        try clear hfz12_2
        try clear hfz12_3
        try clear hfz12_4
        try clear hfz12_5
        try clear hfz12_6
        try clear hfz12_7
        try clear hfz12_8
        try clear hfz12_9
        try clear hfz13_0
        try clear hfz13_1
        try clear hfz13_10
        try clear hfz13_11
        try clear hfz13_2
        try clear hfz13_3
        try clear hfz13_4
        try clear hfz13_5
        try clear hfz13_6
        try clear hfz13_7
        try clear hfz13_8
        try clear hfz13_9
        try clear hfz23_0
        try clear hfz23_1
        try clear hfz23_10
        try clear hfz23_11
        try clear hfz23_2
        try clear hfz23_3
        try clear hfz23_4
        try clear hfz23_5
        try clear hfz23_6
        try clear hfz23_7
        try clear hfz23_8
        try clear hfz23_9
        try clear hfz24_0
        try clear hfz24_1
        try clear hfz24_10
        try clear hfz24_11
        try clear hfz24_2
        try clear hfz24_3
        try clear hfz24_4
        try clear hfz24_5
        try clear hfz24_6
        try clear hfz24_7
        try clear hfz24_8
        try clear hfz24_9
        try clear hfz25_0
        try clear hfz25_1
        try clear hfz25_10
        try clear hfz25_11
        try clear hfz25_2
        try clear hfz25_3
        try clear hfz25_4
        try clear hfz25_5
        try clear hfz25_6
        try clear hfz25_7
        try clear hfz25_8
        try clear hfz25_9
        try clear hfz26_0
        try clear hfz26_1
        try clear hfz26_10
        try clear hfz26_11
        try clear hfz26_2
        try clear hfz26_3
        try clear hfz26_4
        try clear hfz26_5
        try clear hfz26_6
        try clear hfz26_7
        try clear hfz26_8
        try clear hfz26_9
        try clear hfz30_0
        try clear hfz30_1
        try clear hfz30_10
        try clear hfz30_11
        try clear hfz30_2
        try clear hfz30_3
        try clear hfz30_4
        try clear hfz30_5
        try clear hfz30_6
        try clear hfz30_7
        try clear hfz30_8
        try clear hfz30_9
        try clear hfz32_0
        try clear hfz32_1
        try clear hfz32_10
        try clear hfz32_11
        try clear hfz32_2
        try clear hfz32_3
        try clear hfz32_4
        try clear hfz32_5
        try clear hfz32_6
        try clear hfz32_7
        try clear hfz32_8
        try clear hfz32_9
        try clear hfz33_0
        try clear hfz33_1
        try clear hfz33_10
        try clear hfz33_11
        try clear hfz33_2
        try clear hfz33_3
        try clear hfz33_4
        try clear hfz33_5
        try clear hfz33_6
        try clear hfz33_7
        try clear hfz33_8
        try clear hfz33_9
        try clear p2
        obtain ⟨kq,x64_27,rfl,HA,HJ27,BK175,HB⟩:=hcut
        cases kq with
        | zero => exact absurd HA.out (by simp [spec_MessageOk.j2])
        | succ kj27 =>
         have H:=HA.out;clear HA;simp only [spec_MessageOk.j2] at H
         by_cases c34 : x64_27 = true
         ·subst c34
          have H1 : (some false) = some r:=by rw [if_pos rfl] at H;exact H
          clear H;have H:=H1;clear H1;obtain rfl:=Option.some.inj H;go_wp2;go_ret;exact ⟨by first|rfl|(simp [*,errW_none,errW_some] <;> rfl),by repeat (first|(with_reducible first|exact HB.out|apply pa_|apply pn_|apply pd_|refine ps_ ?_ GE175.out)|exact HB.out)⟩
         ·replace c34:=Bool.eq_false_iff.mpr c34;subst c34
          have H1 : (spec_MessageOk.l0 kj27 a0_5 0 a0_0 a0_1 a0_2 a0_3 a0_4 a0_5 a0_6 a0_7 l0_8 l0_9 a0_10 a0_11) = some r:=by rw [if_neg (show ¬ (false = true) by decide)] at H;exact H
          clear H;have H:=H1;clear H1;have H':=A_ H;clear H;have hcz35_0 : wc.cell? ⟨gb175,0,none⟩ = some (.int .i64 a0_0):=(kc_ BK175.out 0).trans rfl;have hcz35_1 : wc.cell? ⟨gb175,1,none⟩ = some (.int .i64 a0_1):=(kc_ BK175.out 1).trans rfl;have hcz35_2 : wc.cell? ⟨gb175,2,none⟩ = some (.int .i64 a0_2):=(kc_ BK175.out 2).trans rfl;have hcz35_3 : wc.cell? ⟨gb175,3,none⟩ = some (.int .i64 a0_3):=(kc_ BK175.out 3).trans rfl;have hcz35_4 : wc.cell? ⟨gb175,4,none⟩ = some (.int .i64 a0_4):=(kc_ BK175.out 4).trans rfl;have hcz35_5 : wc.cell? ⟨gb175,5,none⟩ = some (.int .i64 a0_5):=(kc_ BK175.out 5).trans rfl;have hcz35_6 : wc.cell? ⟨gb175,6,none⟩ = some (.int .i64 a0_6):=(kc_ BK175.out 6).trans rfl;have hcz35_7 : wc.cell? ⟨gb175,7,none⟩ = some (.bool a0_7):=(kc_ BK175.out 7).trans rfl;have hcz35_8 : wc.cell? ⟨gb175,8,none⟩ = some (.slice A0_8 l0_8.length c0_8):=(kc_ BK175.out 8).trans rfl;have hcz35_9 : wc.cell? ⟨gb175,9,none⟩ = some (.slice A0_9 l0_9.length c0_9):=(kc_ BK175.out 9).trans rfl;have hcz35_10 : wc.cell? ⟨gb175,10,none⟩ = some (.string a0_10):=(kc_ BK175.out 10).trans rfl;have hcz35_11 : wc.cell? ⟨gb175,11,none⟩ = some (.bool a0_11):=(kc_ BK175.out 11).trans rfl;have hfz35_0:=kf_ BK175.out 0;have hfz35_1:=kf_ BK175.out 1;have hfz35_2:=kf_ BK175.out 2;have hfz35_3:=kf_ BK175.out 3;have hfz35_4:=kf_ BK175.out 4;have hfz35_5:=kf_ BK175.out 5;have hfz35_6:=kf_ BK175.out 6;have hfz35_7:=kf_ BK175.out 7;have hfz35_8:=kf_ BK175.out 8;have hfz35_9:=kf_ BK175.out 9;have hfz35_10:=kf_ BK175.out 10;have hfz35_11:=kf_ BK175.out 11;go_wp2
          go_loopg [3,4] kj27 (fun kq v3 v4 w' => ∃ (x3_4 : Int) (x4_4 : Int),v3 = .int .i64 x3_4 ∧ v4 = .int .i64 x4_4 ∧ Aside0 (spec_MessageOk.l0 kq x3_4 x4_4 a0_0 a0_1 a0_2 a0_3 a0_4 a0_5 a0_6 a0_7 l0_8 l0_9 a0_10 a0_11 = some r) ∧ Aside0 (kq ≤ kj27) ∧ Aside0 (w'.heap[gb175]? = some (.cells #[.int .i64 a0_0,.int .i64 a0_1,.int .i64 a0_2,.int .i64 a0_3,.int .i64 a0_4,.int .i64 a0_5,.int .i64 a0_6,.bool a0_7,(.slice A0_8 l0_8.length c0_8),(.slice A0_9 l0_9.length c0_9),.string a0_10,.bool a0_11] 52 (0,0))) ∧ Aside0 (Below w.heap.size w w'))
          case atStart => exact ⟨(a0_5),(0),(by first|rfl|(simp;done)|(simp [*];done)),(by first|rfl|(simp;done)|(simp [*];done)),H',⟨Nat.le_refl _⟩,⟨by (with_reducible repeat (first|refine kn_ ?_ _|refine kd_ ?_|refine ka_ ?_ _));exact BK175.out⟩,⟨by repeat (first|(with_reducible first|exact HB.out|apply pa_|apply pn_|apply pd_|refine ps_ ?_ GE175.out)|exact HB.out)⟩⟩
          case round =>
           clear H'
           try clear c1
           try clear c2
           try clear p2
           try clear c3
           try clear c5
           try clear c7
           try clear c9
           try clear c14
           try clear c17
           try clear c19
           try clear c21
           try clear c27
           try clear c29
           try clear c29b0
           try clear c29b1
           try clear c31
           try clear c31b0
           try clear c31b1
           try clear c34
           try clear hcz10_0
           try clear hcz10_1
           try clear hcz10_10
           try clear hcz10_11
           try clear hcz10_2
           try clear hcz10_3
           try clear hcz10_4
           try clear hcz10_5
           try clear hcz10_6
           try clear hcz10_7
           try clear hcz10_8
           try clear hcz10_9
           try clear hcz11_0
           try clear hcz11_1
           try clear hcz11_10
           try clear hcz11_11
           try clear hcz11_2
           try clear hcz11_3
           try clear hcz11_4
           try clear hcz11_5
           try clear hcz11_6
           try clear hcz11_7
           try clear hcz11_8
           try clear hcz11_9
           try clear hcz12_0
           try clear hcz12_1
           try clear hcz12_10
           try clear hcz12_11
           try clear hcz12_2
           try clear hcz12_3
           try clear hcz12_4
           try clear hcz12_5
           try clear hcz12_6
           try clear hcz12_7
           try clear hcz12_8
           try clear hcz12_9
           try clear hcz13_0
           try clear hcz13_1
           try clear hcz13_10
           try clear hcz13_11
           try clear hcz13_2
           try clear hcz13_3
           try clear hcz13_4
           try clear hcz13_5
           try clear hcz13_6
           try clear hcz13_7
           try clear hcz13_8
           try clear hcz13_9
           try clear hcz23_0
           try clear hcz23_1
           try clear hcz23_10
           try clear hcz23_11
           try clear hcz23_2
           try clear hcz23_3
           try clear hcz23_4
           try clear hcz23_5
           try clear hcz23_6
           try clear hcz23_7
           try clear hcz23_8
           try clear hcz23_9
           try clear hcz24_0
           try clear hcz24_1
           try clear hcz24_10
           try clear hcz24_11
           try clear hcz24_2
           try clear hcz24_3
           try clear hcz24_4
           try clear hcz24_5
           try clear hcz24_6
           try clear hcz24_7
           try clear hcz24_8
           try clear hcz24_9
           try clear hcz25_0
           try clear hcz25_1
           try clear hcz25_10
           try clear hcz25_11
           try clear hcz25_2
           try clear hcz25_3
           try clear hcz25_4
           try clear hcz25_5
           try clear hcz25_6
           try clear hcz25_7
           try clear hcz25_8
           try clear hcz25_9
           try clear hcz26_0
           try clear hcz26_1
           try clear hcz26_10
           try clear hcz26_11
           try clear hcz26_2
           try clear hcz26_3
           try clear hcz26_4
           try clear hcz26_5
           try clear hcz26_6
           try clear hcz26_7
           try clear hcz26_8
           try clear hcz26_9
           try clear hcz30_0
           try clear hcz30_1
           try clear hcz30_10
           try clear hcz30_11
           try clear hcz30_2
           try clear hcz30_3
           try clear hcz30_4
           try clear hcz30_5
           try clear hcz30_6
           try clear hcz30_7
           try clear hcz30_8
           try clear hcz30_9
           try clear hcz32_0
           try clear hcz32_1
           try clear hcz32_10
           try clear hcz32_11
           try clear hcz32_2
           try clear hcz32_3
           try clear hcz32_4
           try clear hcz32_5
           try clear hcz32_6
           try clear hcz32_7
           try clear hcz32_8
           try clear hcz32_9
           try clear hcz33_0
           try clear hcz33_1
           try clear hcz33_10
           try clear hcz33_11
           try clear hcz33_2
           try clear hcz33_3
           try clear hcz33_4
           try clear hcz33_5
           try clear hcz33_6
           try clear hcz33_7
           try clear hcz33_8
           try clear hcz33_9
           try clear hcz35_0
           try clear hcz35_1
           try clear hcz35_10
           try clear hcz35_11
           try clear hcz35_2
           try clear hcz35_3
           try clear hcz35_4
           try clear hcz35_5
           try clear hcz35_6
           try clear hcz35_7
           try clear hcz35_8
           try clear hcz35_9
           try clear hfz10_0
           try clear hfz10_1
           try clear hfz10_10
           try clear hfz10_11
           try clear hfz10_2
           try clear hfz10_3
           try clear hfz10_4
           try clear hfz10_5
           try clear hfz10_6
           try clear hfz10_7
           try clear hfz10_8
           try clear hfz10_9
           try clear hfz11_0
           try clear hfz11_1
           try clear hfz11_10
           try clear hfz11_11
           try clear hfz11_2
           try clear hfz11_3
           try clear hfz11_4
           try clear hfz11_5
           try clear hfz11_6
           try clear hfz11_7
           try clear hfz11_8
           try clear hfz11_9
           try clear hfz12_0
           try clear hfz12_1
           try clear hfz12_10
           try clear hfz12_11
           try clear hfz12_2
           try clear hfz12_3
           try clear hfz12_4
           try clear hfz12_5
           try clear hfz12_6
           try clear hfz12_7
           try clear hfz12_8
           try clear hfz12_9
           try clear hfz13_0
           try clear hfz13_1
           try clear hfz13_10
           try clear hfz13_11
           try clear hfz13_2
           try clear hfz13_3
           try clear hfz13_4
           try clear hfz13_5
           try clear hfz13_6
           try clear hfz13_7
           try clear hfz13_8
           try clear hfz13_9
           try clear hfz23_0
           try clear hfz23_1
           try clear hfz23_10
           try clear hfz23_11
           try clear hfz23_2
           try clear hfz23_3
           try clear hfz23_4
           try clear hfz23_5
           try clear hfz23_6
           try clear hfz23_7
           try clear hfz23_8
           try clear hfz23_9
           try clear hfz24_0
           try clear hfz24_1
           try clear hfz24_10
           try clear hfz24_11
           try clear hfz24_2
           try clear hfz24_3
           try clear hfz24_4
           try clear hfz24_5
           try clear hfz24_6
           try clear hfz24_7
           try clear hfz24_8
           try clear hfz24_9
           try clear hfz25_0
           try clear hfz25_1
           try clear hfz25_10
           try clear hfz25_11
           try clear hfz25_2
           try clear hfz25_3
           try clear hfz25_4
           try clear hfz25_5
           try clear hfz25_6
           try clear hfz25_7
           try clear hfz25_8
           try clear hfz25_9
           try clear hfz26_0
           try clear hfz26_1
           try clear hfz26_10
           try clear hfz26_11
           try clear hfz26_2
           try clear hfz26_3
           try clear hfz26_4
           try clear hfz26_5
           try clear hfz26_6
           try clear hfz26_7
           try clear hfz26_8
           try clear hfz26_9
           try clear hfz30_0
           try clear hfz30_1
           try clear hfz30_10
           try clear hfz30_11
           try clear hfz30_2
           try clear hfz30_3
           try clear hfz30_4
           try clear hfz30_5
           try clear hfz30_6
           try clear hfz30_7
           try clear hfz30_8
           try clear hfz30_9
           try clear hfz32_0
           try clear hfz32_1
           try clear hfz32_10
           try clear hfz32_11
           try clear hfz32_2
           try clear hfz32_3
           try clear hfz32_4
           try clear hfz32_5
           try clear hfz32_6
           try clear hfz32_7
           try clear hfz32_8
           try clear hfz32_9
           try clear hfz33_0
           try clear hfz33_1
           try clear hfz33_10
           try clear hfz33_11
           try clear hfz33_2
           try clear hfz33_3
           try clear hfz33_4
           try clear hfz33_5
           try clear hfz33_6
           try clear hfz33_7
           try clear hfz33_8
           try clear hfz33_9
           try clear hfz35_0
           try clear hfz35_1
           try clear hfz35_10
           try clear hfz35_11
           try clear hfz35_2
           try clear hfz35_3
           try clear hfz35_4
           try clear hfz35_5
           try clear hfz35_6
           try clear hfz35_7
           try clear hfz35_8
           try clear hfz35_9
           try clear p2
           obtain ⟨x3_4,x4_4,rfl,rfl,HA,HK4,BK175,HB⟩:=hrel
           cases gk with
           | zero => exact absurd HA.out (by simp [spec_MessageOk.l0])
           | succ k4 =>
            have H:=HA.out;clear HA;simp only [spec_MessageOk.l0] at H
            by_cases c36 : x4_4 < (l0_8.length : Int)
            ·rw [if_pos c36] at H;have c36b0 : decide (x4_4 < (l0_8.length : Int)) = true:=de_ c36;clear c36
             by_cases c37 : 0 ≤ x4_4
             ·rw [if_pos c37] at H;have c37b0 : decide (0 ≤ x4_4) = true:=de_ c37;clear c37;replace H:=ob_.mp H;obtain ⟨t184,A380,H⟩:=H;replace H : (if t184 = true then (if ((rd_T37 l0_8 x4_4).f0) < x3_4 then (some false) else (if ((rd_T37 l0_8 x4_4).f0) > a0_3 then (some false) else (spec_MessageOk.l0 k4 ((rd_T37 l0_8 x4_4).f0) (wrap64 (x4_4 + 1)) a0_0 a0_1 a0_2 a0_3 a0_4 a0_5 a0_6 a0_7 l0_8 l0_9 a0_10 a0_11))) else (some false)) = some r:=H;have A38:=A_ A380;clear A380
              by_cases c39 : t184 = true
              ·subst c39
               have H1 : (if ((rd_T37 l0_8 x4_4).f0) < x3_4 then (some false) else (if ((rd_T37 l0_8 x4_4).f0) > a0_3 then (some false) else (spec_MessageOk.l0 k4 ((rd_T37 l0_8 x4_4).f0) (wrap64 (x4_4 + 1)) a0_0 a0_1 a0_2 a0_3 a0_4 a0_5 a0_6 a0_7 l0_8 l0_9 a0_10 a0_11))) = some r:=by rw [if_pos rfl] at H;exact H
               clear H;have H:=H1;clear H1
               by_cases c40 : ((rd_T37 l0_8 x4_4).f0) < x3_4
               ·rw [if_pos c40] at H;have c40b0 : decide (((rd_T37 l0_8 x4_4).f0) < x3_4) = true:=de_ c40;clear c40;obtain rfl:=Option.some.inj H;have hcz41_0 : wr.cell? ⟨gb175,0,none⟩ = some (.int .i64 a0_0):=(kc_ BK175.out 0).trans rfl;have hcz41_1 : wr.cell? ⟨gb175,1,none⟩ = some (.int .i64 a0_1):=(kc_ BK175.out 1).trans rfl;have hcz41_2 : wr.cell? ⟨gb175,2,none⟩ = some (.int .i64 a0_2):=(kc_ BK175.out 2).trans rfl;have hcz41_3 : wr.cell? ⟨gb175,3,none⟩ = some (.int .i64 a0_3):=(kc_ BK175.out 3).trans rfl;have hcz41_4 : wr.cell? ⟨gb175,4,none⟩ = some (.int .i64 a0_4):=(kc_ BK175.out 4).trans rfl;have hcz41_5 : wr.cell? ⟨gb175,5,none⟩ = some (.int .i64 a0_5):=(kc_ BK175.out 5).trans rfl;have hcz41_6 : wr.cell? ⟨gb175,6,none⟩ = some (.int .i64 a0_6):=(kc_ BK175.out 6).trans rfl;have hcz41_7 : wr.cell? ⟨gb175,7,none⟩ = some (.bool a0_7):=(kc_ BK175.out 7).trans rfl;have hcz41_8 : wr.cell? ⟨gb175,8,none⟩ = some (.slice A0_8 l0_8.length c0_8):=(kc_ BK175.out 8).trans rfl;have hcz41_9 : wr.cell? ⟨gb175,9,none⟩ = some (.slice A0_9 l0_9.length c0_9):=(kc_ BK175.out 9).trans rfl;have hcz41_10 : wr.cell? ⟨gb175,10,none⟩ = some (.string a0_10):=(kc_ BK175.out 10).trans rfl;have hcz41_11 : wr.cell? ⟨gb175,11,none⟩ = some (.bool a0_11):=(kc_ BK175.out 11).trans rfl;have hfz41_0:=kf_ BK175.out 0;have hfz41_1:=kf_ BK175.out 1;have hfz41_2:=kf_ BK175.out 2;have hfz41_3:=kf_ BK175.out 3;have hfz41_4:=kf_ BK175.out 4;have hfz41_5:=kf_ BK175.out 5;have hfz41_6:=kf_ BK175.out 6;have hfz41_7:=kf_ BK175.out 7;have hfz41_8:=kf_ BK175.out 8;have hfz41_9:=kf_ BK175.out 9;have hfz41_10:=kf_ BK175.out 10;have hfz41_11:=kf_ BK175.out 11
                try go_wp2
                replace BK175:=A_ (kd_ BK175.out);replace HB:=A_ (pd_ HB.out);have p183 : 0 ≤ (x4_4 : Int):=oda_;have q183 : x4_4 < (l0_8.length : Int):=oda_;obtain ⟨ad183,e183,hx183_0,hx183_1,hx183_2⟩:=at_T37 HR0_8.out x4_4 p183 q183;have hw183_2:=hx183_2;have hw183_1:=hx183_1;have hw183_0:=hx183_0
                cases e183
                replace hx183_0:=(HB.out.cell (wb_ w _ hx183_0)).trans hx183_0;replace hx183_1:=(HB.out.cell (wb_ w _ hx183_1)).trans hx183_1;replace hx183_2:=(HB.out.cell (wb_ w _ hx183_2)).trans hx183_2;replace p183:=eq_true p183;replace q183:=eq_true q183;have p185 : 0 ≤ (x4_4 : Int):=oda_;have q185 : x4_4 < (l0_8.length : Int):=oda_;obtain ⟨ad185,e185,hx185_0,hx185_1,hx185_2⟩:=at_T37 HR0_8.out x4_4 p185 q185;have hw185_2:=hx185_2;have hw185_1:=hx185_1;have hw185_0:=hx185_0;obtain rfl : ad183 = ad185:=(by injection e185);replace hx185_0:=(HB.out.cell (wb_ w _ hx185_0)).trans hx185_0;replace hx185_1:=(HB.out.cell (wb_ w _ hx185_1)).trans hx185_1;replace hx185_2:=(HB.out.cell (wb_ w _ hx185_2)).trans hx185_2;replace p185:=eq_true p185;replace q185:=eq_true q185;refine start_ (n:=28) (S:=fun w' => w'.cell? ⟨gb175,0,none⟩ = some (.int .i64 a0_0) ∧ w'.cell? ⟨gb175,1,none⟩ = some (.int .i64 a0_1) ∧ w'.cell? ⟨gb175,2,none⟩ = some (.int .i64 a0_2) ∧ w'.cell? ⟨gb175,3,none⟩ = some (.int .i64 a0_3) ∧ w'.cell? ⟨gb175,4,none⟩ = some (.int .i64 a0_4) ∧ w'.cell? ⟨gb175,5,none⟩ = some (.int .i64 a0_5) ∧ w'.cell? ⟨gb175,6,none⟩ = some (.int .i64 a0_6) ∧ w'.cell? ⟨gb175,7,none⟩ = some (.bool a0_7) ∧ w'.cell? ⟨gb175,8,none⟩ = some (.slice (some ad183) l0_8.length c0_8) ∧ w'.cell? ⟨gb175,9,none⟩ = some (.slice A0_9 l0_9.length c0_9) ∧ w'.cell? ⟨gb175,10,none⟩ = some (.string a0_10) ∧ w'.cell? ⟨gb175,11,none⟩ = some (.bool a0_11) ∧ w'.cell? (ad183.add ((x4_4).toNat * 3)) = some (.int .i64 ((rd_T37 l0_8 x4_4).f0)) ∧ w'.cell? ⟨(ad183.add ((x4_4).toNat * 3)).block,(ad183.add ((x4_4).toNat * 3)).off + 1,none⟩ = some (.int .i64 ((rd_T37 l0_8 x4_4).f1)) ∧ w'.cell? ⟨(ad183.add ((x4_4).toNat * 3)).block,(ad183.add ((x4_4).toNat * 3)).off + 2,none⟩ = some (.string ((rd_T37 l0_8 x4_4).f2)) ∧ w'.cell? (ad183.add ((x4_4).toNat * 3)) = some (.int .i64 ((rd_T37 l0_8 x4_4).f0)) ∧ w'.cell? ⟨(ad183.add ((x4_4).toNat * 3)).block,(ad183.add ((x4_4).toNat * 3)).off + 1,none⟩ = some (.int .i64 ((rd_T37 l0_8 x4_4).f1)) ∧ w'.cell? ⟨(ad183.add ((x4_4).toNat * 3)).block,(ad183.add ((x4_4).toNat * 3)).off + 2,none⟩ = some (.string ((rd_T37 l0_8 x4_4).f2))) (ds:=[]) #[false,false,false,false,false,false,false,false,false,false,false,false,false,false,false,false,false,false,false,false,false,false,false,false,false,false,false,false] (by kernel_rfl) rfl rfl ⟨(kc_ BK175.out 0).trans rfl,(kc_ BK175.out 1).trans rfl,(kc_ BK175.out 2).trans rfl,(kc_ BK175.out 3).trans rfl,(kc_ BK175.out 4).trans rfl,(kc_ BK175.out 5).trans rfl,(kc_ BK175.out 6).trans rfl,(kc_ BK175.out 7).trans rfl,(kc_ BK175.out 8).trans rfl,(kc_ BK175.out 9).trans rfl,(kc_ BK175.out 10).trans rfl,(kc_ BK175.out 11).trans rfl,((HB.out.cell (wb_ w _ hw183_0)).trans hw183_0),((HB.out.cell (wb_ w _ hw183_1)).trans hw183_1),((HB.out.cell (wb_ w _ hw183_2)).trans hw183_2),((HB.out.cell (wb_ w _ hw185_0)).trans hw185_0),((HB.out.cell (wb_ w _ hw185_1)).trans hw185_1),((HB.out.cell (wb_ w _ hw185_2)).trans hw185_2)⟩ (fun hHeld => ?_);refine with_tabW spec_MessageOk.tab11 spec_MessageOk.bits11 (fun HT_ HW_ => ?_);generalize wr.drew = w42 at BK175 HB hx183_0 hx183_1 hx183_2 hx185_0 hx185_1 hx185_2 hHeld ⊢;refine pure_ (i:=0) (N:=some 74) (v:=?_) (a':=?_) #[true,false,false,false,false,false,false,false,false,false,false,false,false,false,false,false,false,false,false,false,false,false,false,false,false,false,false,false] rfl rfl (any_of HT_.out (by kernel_rfl)) (fun _ _ _ h => h) (Or.inl ⟨by rfl,?_⟩) ?_ ?_;rotate_left
                ·intro w';go_simp;with_reducible rfl
                rotate_left
                ·simp only [Act.put,s1_,s2_,s3_,i64_w,i32_w];rfl
                refine pure_ (i:=2) (N:=some 76) (v:=?_) (a':=?_) #[true,false,true,false,false,false,false,false,false,false,false,false,false,false,false,false,false,false,false,false,false,false,false,false,false,false,false,false] rfl rfl (any_of HT_.out (by kernel_rfl)) (fun _ _ _ h => h) (Or.inl ⟨by rfl,?_⟩) ?_ ?_;rotate_left
                ·intro w';go_simp;with_reducible rfl
                rotate_left
                ·simp only [Act.put,s1_,s2_,s3_,i64_w,i32_w];rfl
                refine take_ (i:=1) (N:=some 75) (v:=?_) (a':=?_) #[true,true,true,false,false,false,false,false,false,false,false,false,false,false,false,false,false,false,false,false,false,false,false,false,false,false,false,false] rfl rfl (take_ofW HT_.out HW_.out (by kernel_rfl)) (fun _ _ _ h => h) (Or.inl ⟨by rfl,?_⟩) hHeld ?_ ?_;rotate_left
                ·rintro w' ⟨s0,s1,s2,s3,s4,s5,s6,s7,s8,s9,s10,s11,s12,s13,s14,s15,s16,s17⟩;go_simp;with_reducible rfl
                rotate_left
                ·simp only [Act.put,s1_,s2_,s3_,i64_w,i32_w];rfl
                refine pure_ (i:=3) (N:=some 77) (v:=?_) (a':=?_) #[true,true,true,true,false,false,false,false,false,false,false,false,false,false,false,false,false,false,false,false,false,false,false,false,false,false,false,false] rfl rfl (any_of HT_.out (by kernel_rfl)) (fun _ _ _ h => h) (Or.inl ⟨by rfl,?_⟩) ?_ ?_;rotate_left
                ·intro w';go_simp;with_reducible rfl
                rotate_left
                ·simp only [Act.put,s1_,s2_,s3_,i64_w,i32_w];rfl
                refine take_ (i:=4) (N:=some 78) (v:=?_) (a':=?_) #[true,true,true,true,true,false,false,false,false,false,false,false,false,false,false,false,false,false,false,false,false,false,false,false,false,false,false,false] rfl rfl (take_ofW HT_.out HW_.out (by kernel_rfl)) (fun _ _ _ h => h) (Or.inl ⟨by rfl,?_⟩) hHeld ?_ ?_;rotate_left
                ·rintro w' ⟨s0,s1,s2,s3,s4,s5,s6,s7,s8,s9,s10,s11,s12,s13,s14,s15,s16,s17⟩;go_simp;with_reducible rfl
                rotate_left
                ·simp only [Act.put,s1_,s2_,s3_,i64_w,i32_w];rfl
                refine one_ (i:=5) (N:=some 79) #[true,true,true,true,true,true,false,false,false,false,false,false,false,false,false,false,false,false,false,false,false,false,false,false,false,false,false,false] rfl rfl (one_of HT_.out (by kernel_rfl)) (by decide) (fun K hK => ?_);refine goes_ Try.func95 (by kernel_rfl) rfl #[.agg #[.int .i64 ((rd_T37 l0_8 x4_4).f0),.int .i64 ((rd_T37 l0_8 x4_4).f1),.string ((rd_T37 l0_8 x4_4).f2)]] (by rfl) rfl rfl (by (try simp only [s4_,s5_,s6_]);first|done|rfl|(simp only [List.length_drop,List.length_take];rfl)) ?_;with_reducible refine (spec_EntryOk.calls k4 ((rd_T37 l0_8 x4_4).f0) ((rd_T37 l0_8 x4_4).f1) ((rd_T37 l0_8 x4_4).f2) true _ A38.out).mono ?_;rintro e w43 ⟨rfl,hb⟩;refine ⟨_,rfl,?_⟩;replace BK175:=A_ (kb_ (by (with_reducible repeat (first|refine kn_ ?_ _|refine kd_ ?_|refine ka_ ?_ _));exact BK175.out) hb);replace HB:=A_ (bs_ (by repeat (first|(with_reducible first|exact HB.out|apply pa_|apply pn_|apply pd_|refine ps_ ?_ GE175.out)|exact HB.out)) hb)
                (try clear hb)
                (try clear hb2)
                (try clear hk)
                (try clear hi)
                refine hK.out _ _ ⟨(kc_ BK175.out 0).trans rfl,(kc_ BK175.out 1).trans rfl,(kc_ BK175.out 2).trans rfl,(kc_ BK175.out 3).trans rfl,(kc_ BK175.out 4).trans rfl,(kc_ BK175.out 5).trans rfl,(kc_ BK175.out 6).trans rfl,(kc_ BK175.out 7).trans rfl,(kc_ BK175.out 8).trans rfl,(kc_ BK175.out 9).trans rfl,(kc_ BK175.out 10).trans rfl,(kc_ BK175.out 11).trans rfl,((HB.out.cell (wb_ w _ hw183_0)).trans hw183_0),((HB.out.cell (wb_ w _ hw183_1)).trans hw183_1),((HB.out.cell (wb_ w _ hw183_2)).trans hw183_2),((HB.out.cell (wb_ w _ hw185_0)).trans hw185_0),((HB.out.cell (wb_ w _ hw185_1)).trans hw185_1),((HB.out.cell (wb_ w _ hw185_2)).trans hw185_2)⟩ (fun hHeld => ?_);clear hK K;refine norm_ (a':=?_) ?_ ?_;rotate_left
                ·show Act.put _ (some 79) _ = _;simp only [Act.put,s1_,s2_,s3_,i64_w,i32_w];rfl
                refine pure_ (i:=6) (N:=some 80) (v:=?_) (a':=?_) #[true,true,true,true,true,true,true,false,false,false,false,false,false,false,false,false,false,false,false,false,false,false,false,false,false,false,false,false] rfl rfl (any_of HT_.out (by kernel_rfl)) (fun _ _ _ h => h) (Or.inl ⟨by rfl,?_⟩) ?_ ?_;rotate_left
                ·intro w';go_simp;with_reducible rfl
                rotate_left
                ·simp only [Act.put,s1_,s2_,s3_,i64_w,i32_w];rfl
                refine pure_ (i:=7) (N:=some 81) (v:=?_) (a':=?_) #[true,true,true,true,true,true,true,true,false,false,false,false,false,false,false,false,false,false,false,false,false,false,false,false,false,false,false,false] rfl rfl (any_of HT_.out (by kernel_rfl)) (fun _ _ _ h => h) (Or.inl ⟨by rfl,?_⟩) ?_ ?_;rotate_left
                ·intro w';go_simp;with_reducible rfl
                rotate_left
                ·simp only [Act.put,s1_,s2_,s3_,i64_w,i32_w];rfl
                refine pure_ (i:=8) (N:=some 82) (v:=?_) (a':=?_) #[true,true,true,true,true,true,true,true,true,false,false,false,false,false,false,false,false,false,false,false,false,false,false,false,false,false,false,false] rfl rfl (any_of HT_.out (by kernel_rfl)) (fun _ _ _ h => h) (Or.inl ⟨by rfl,?_⟩) ?_ ?_;rotate_left
                ·intro w';go_simp;with_reducible rfl
                rotate_left
                ·simp only [Act.put,s1_,s2_,s3_,i64_w,i32_w];rfl
                refine pure_ (i:=10) (N:=some 84) (v:=?_) (a':=?_) #[true,true,true,true,true,true,true,true,true,false,true,false,false,false,false,false,false,false,false,false,false,false,false,false,false,false,false,false] rfl rfl (any_of HT_.out (by kernel_rfl)) (fun _ _ _ h => h) (Or.inl ⟨by rfl,?_⟩) ?_ ?_;rotate_left
                ·intro w';go_simp;with_reducible rfl
                rotate_left
                ·simp only [Act.put,s1_,s2_,s3_,i64_w,i32_w];rfl
                refine pure_ (i:=14) (N:=some 88) (v:=?_) (a':=?_) #[true,true,true,true,true,true,true,true,true,false,true,false,false,false,true,false,false,false,false,false,false,false,false,false,false,false,false,false] rfl rfl (any_of HT_.out (by kernel_rfl)) (fun _ _ _ h => h) (Or.inl ⟨by rfl,?_⟩) ?_ ?_;rotate_left
                ·intro w';go_simp;with_reducible rfl
                rotate_left
                ·simp only [Act.put,s1_,s2_,s3_,i64_w,i32_w];rfl
                refine take_ (i:=9) (N:=some 83) (v:=?_) (a':=?_) #[true,true,true,true,true,true,true,true,true,true,true,false,false,false,true,false,false,false,false,false,false,false,false,false,false,false,false,false] rfl rfl (take_ofW HT_.out HW_.out (by kernel_rfl)) (fun _ _ _ h => h) (Or.inl ⟨by rfl,?_⟩) hHeld ?_ ?_;rotate_left
                ·rintro w' ⟨s0,s1,s2,s3,s4,s5,s6,s7,s8,s9,s10,s11,s12,s13,s14,s15,s16,s17⟩;go_simp;with_reducible rfl
                rotate_left
                ·simp only [Act.put,s1_,s2_,s3_,i64_w,i32_w];rfl
                refine pure_ (i:=11) (N:=some 85) (v:=?_) (a':=?_) #[true,true,true,true,true,true,true,true,true,true,true,true,false,false,true,false,false,false,false,false,false,false,false,false,false,false,false,false] rfl rfl (any_of HT_.out (by kernel_rfl)) (fun _ _ _ h => h) (Or.inl ⟨by rfl,?_⟩) ?_ ?_;rotate_left
                ·intro w';go_simp;with_reducible rfl
                rotate_left
                ·simp only [Act.put,s1_,s2_,s3_,i64_w,i32_w];rfl
                refine pure_ (i:=12) (N:=some 86) (v:=?_) (a':=?_) #[true,true,true,true,true,true,true,true,true,true,true,true,true,false,true,false,false,false,false,false,false,false,false,false,false,false,false,false] rfl rfl (any_of HT_.out (by kernel_rfl)) (fun _ _ _ h => h) (Or.inl ⟨by rfl,?_⟩) ?_ ?_;rotate_left
                ·intro w';go_simp;with_reducible rfl
                rotate_left
                ·simp only [Act.put,s1_,s2_,s3_,i64_w,i32_w];rfl
                refine take_ (i:=13) (N:=some 87) (v:=?_) (a':=?_) #[true,true,true,true,true,true,true,true,true,true,true,true,true,true,true,false,false,false,false,false,false,false,false,false,false,false,false,false] rfl rfl (take_ofW HT_.out HW_.out (by kernel_rfl)) (fun _ _ _ h => h) (Or.inl ⟨by rfl,?_⟩) hHeld ?_ ?_;rotate_left
                ·rintro w' ⟨s0,s1,s2,s3,s4,s5,s6,s7,s8,s9,s10,s11,s12,s13,s14,s15,s16,s17⟩;go_simp;with_reducible rfl
                rotate_left
                ·simp only [Act.put,s1_,s2_,s3_,i64_w,i32_w];rfl
                refine pure_ (i:=15) (N:=some 89) (v:=?_) (a':=?_) #[true,true,true,true,true,true,true,true,true,true,true,true,true,true,true,true,false,false,false,false,false,false,false,false,false,false,false,false] rfl rfl (any_of HT_.out (by kernel_rfl)) (fun _ _ _ h => h) (Or.inl ⟨by rfl,?_⟩) ?_ ?_;rotate_left
                ·intro w';go_simp;with_reducible rfl
                rotate_left
                ·simp only [Act.put,s1_,s2_,s3_,i64_w,i32_w];rfl
                refine pure_ (i:=16) (N:=some 90) (v:=?_) (a':=?_) #[true,true,true,true,true,true,true,true,true,true,true,true,true,true,true,true,true,false,false,false,false,false,false,false,false,false,false,false] rfl rfl (any_of HT_.out (by kernel_rfl)) (fun _ _ _ h => h) (Or.inl ⟨by rfl,?_⟩) ?_ ?_;rotate_left
                ·intro w';go_simp;with_reducible rfl
                rotate_left
                ·simp only [Act.put,s1_,s2_,s3_,i64_w,i32_w];rfl
                refine pure_ (i:=17) (N:=some 91) (v:=?_) (a':=?_) #[true,true,true,true,true,true,true,true,true,true,true,true,true,true,true,true,true,true,false,false,false,false,false,false,false,false,false,false] rfl rfl (any_of HT_.out (by kernel_rfl)) (fun _ _ _ h => h) (Or.inl ⟨by rfl,?_⟩) ?_ ?_;rotate_left
                ·intro w';go_simp;with_reducible rfl
                rotate_left
                ·simp only [Act.put,s1_,s2_,s3_,i64_w,i32_w];rfl
                refine pure_ (i:=18) (N:=some 92) (v:=undef) (a':=?_) #[true,true,true,true,true,true,true,true,true,true,true,true,true,true,true,true,true,true,true,false,false,false,false,false,false,false,false,false] rfl rfl (any_of HT_.out (by kernel_rfl)) (fun _ _ _ h => h) (Or.inr ⟨by rfl,rfl⟩) ?_ ?_;rotate_left
                ·simp only [Act.put,s1_,s2_,s3_,i64_w,i32_w];rfl
                refine pure_ (i:=19) (N:=some 93) (v:=undef) (a':=?_) #[true,true,true,true,true,true,true,true,true,true,true,true,true,true,true,true,true,true,true,true,false,false,false,false,false,false,false,false] rfl rfl (any_of HT_.out (by kernel_rfl)) (fun _ _ _ h => h) (Or.inr ⟨by rfl,rfl⟩) ?_ ?_;rotate_left
                ·simp only [Act.put,s1_,s2_,s3_,i64_w,i32_w];rfl
                refine pure_ (i:=20) (N:=some 94) (v:=undef) (a':=?_) #[true,true,true,true,true,true,true,true,true,true,true,true,true,true,true,true,true,true,true,true,true,false,false,false,false,false,false,false] rfl rfl (any_of HT_.out (by kernel_rfl)) (fun _ _ _ h => h) (Or.inr ⟨by rfl,rfl⟩) ?_ ?_;rotate_left
                ·simp only [Act.put,s1_,s2_,s3_,i64_w,i32_w];rfl
                refine pure_ (i:=21) (N:=some 95) (v:=undef) (a':=?_) #[true,true,true,true,true,true,true,true,true,true,true,true,true,true,true,true,true,true,true,true,true,true,false,false,false,false,false,false] rfl rfl (any_of HT_.out (by kernel_rfl)) (fun _ _ _ h => h) (Or.inr ⟨by rfl,rfl⟩) ?_ ?_;rotate_left
                ·simp only [Act.put,s1_,s2_,s3_,i64_w,i32_w];rfl
                refine pure_ (i:=22) (N:=some 96) (v:=undef) (a':=?_) #[true,true,true,true,true,true,true,true,true,true,true,true,true,true,true,true,true,true,true,true,true,true,true,false,false,false,false,false] rfl rfl (any_of HT_.out (by kernel_rfl)) (fun _ _ _ h => h) (Or.inr ⟨by rfl,rfl⟩) ?_ ?_;rotate_left
                ·simp only [Act.put,s1_,s2_,s3_,i64_w,i32_w];rfl
                refine pure_ (i:=23) (N:=some 97) (v:=undef) (a':=?_) #[true,true,true,true,true,true,true,true,true,true,true,true,true,true,true,true,true,true,true,true,true,true,true,true,false,false,false,false] rfl rfl (any_of HT_.out (by kernel_rfl)) (fun _ _ _ h => h) (Or.inr ⟨by rfl,rfl⟩) ?_ ?_;rotate_left
                ·simp only [Act.put,s1_,s2_,s3_,i64_w,i32_w];rfl
                refine pure_ (i:=24) (N:=some 98) (v:=undef) (a':=?_) #[true,true,true,true,true,true,true,true,true,true,true,true,true,true,true,true,true,true,true,true,true,true,true,true,true,false,false,false] rfl rfl (any_of HT_.out (by kernel_rfl)) (fun _ _ _ h => h) (Or.inr ⟨by rfl,rfl⟩) ?_ ?_;rotate_left
                ·simp only [Act.put,s1_,s2_,s3_,i64_w,i32_w];rfl
                refine pure_ (i:=25) (N:=some 99) (v:=undef) (a':=?_) #[true,true,true,true,true,true,true,true,true,true,true,true,true,true,true,true,true,true,true,true,true,true,true,true,true,true,false,false] rfl rfl (any_of HT_.out (by kernel_rfl)) (fun _ _ _ h => h) (Or.inr ⟨by rfl,rfl⟩) ?_ ?_;rotate_left
                ·simp only [Act.put,s1_,s2_,s3_,i64_w,i32_w];rfl
                refine pure_ (i:=26) (N:=some 100) (v:=undef) (a':=?_) #[true,true,true,true,true,true,true,true,true,true,true,true,true,true,true,true,true,true,true,true,true,true,true,true,true,true,true,false] rfl rfl (any_of HT_.out (by kernel_rfl)) (fun _ _ _ h => h) (Or.inr ⟨by rfl,rfl⟩) ?_ ?_;rotate_left
                ·simp only [Act.put,s1_,s2_,s3_,i64_w,i32_w];rfl
                refine pure_ (i:=27) (N:=some 101) (v:=?_) (a':=?_) #[true,true,true,true,true,true,true,true,true,true,true,true,true,true,true,true,true,true,true,true,true,true,true,true,true,true,true,true] rfl rfl (any_of HT_.out (by kernel_rfl)) (fun _ _ _ h => h) (Or.inl ⟨by rfl,?_⟩) ?_ ?_;rotate_left
                ·intro w';go_simp;with_reducible rfl
                rotate_left
                ·simp only [Act.put,s1_,s2_,s3_,i64_w,i32_w];rfl
                refine done_ (done_of HT_.out (by kernel_rfl)) ?_
                try go_wp2
                go_ret;exact ⟨by first|rfl|(simp [*,errW_none,errW_some] <;> rfl),by repeat (first|(with_reducible first|exact HB.out|apply pa_|apply pn_|apply pd_|refine ps_ ?_ GE175.out)|exact HB.out)⟩
               ·rw [if_neg c40] at H;have c40b0 : decide (((rd_T37 l0_8 x4_4).f0) < x3_4) = false:=decide_eq_false c40;clear c40
                by_cases c44 : ((rd_T37 l0_8 x4_4).f0) > a0_3
                ·rw [if_pos c44] at H;have c44b0 : decide (a0_3 < ((rd_T37 l0_8 x4_4).f0)) = true:=de_ c44;clear c44;obtain rfl:=Option.some.inj H;have hcz45_0 : wr.cell? ⟨gb175,0,none⟩ = some (.int .i64 a0_0):=(kc_ BK175.out 0).trans rfl;have hcz45_1 : wr.cell? ⟨gb175,1,none⟩ = some (.int .i64 a0_1):=(kc_ BK175.out 1).trans rfl;have hcz45_2 : wr.cell? ⟨gb175,2,none⟩ = some (.int .i64 a0_2):=(kc_ BK175.out 2).trans rfl;have hcz45_3 : wr.cell? ⟨gb175,3,none⟩ = some (.int .i64 a0_3):=(kc_ BK175.out 3).trans rfl;have hcz45_4 : wr.cell? ⟨gb175,4,none⟩ = some (.int .i64 a0_4):=(kc_ BK175.out 4).trans rfl;have hcz45_5 : wr.cell? ⟨gb175,5,none⟩ = some (.int .i64 a0_5):=(kc_ BK175.out 5).trans rfl;have hcz45_6 : wr.cell? ⟨gb175,6,none⟩ = some (.int .i64 a0_6):=(kc_ BK175.out 6).trans rfl;have hcz45_7 : wr.cell? ⟨gb175,7,none⟩ = some (.bool a0_7):=(kc_ BK175.out 7).trans rfl;have hcz45_8 : wr.cell? ⟨gb175,8,none⟩ = some (.slice A0_8 l0_8.length c0_8):=(kc_ BK175.out 8).trans rfl;have hcz45_9 : wr.cell? ⟨gb175,9,none⟩ = some (.slice A0_9 l0_9.length c0_9):=(kc_ BK175.out 9).trans rfl;have hcz45_10 : wr.cell? ⟨gb175,10,none⟩ = some (.string a0_10):=(kc_ BK175.out 10).trans rfl;have hcz45_11 : wr.cell? ⟨gb175,11,none⟩ = some (.bool a0_11):=(kc_ BK175.out 11).trans rfl;have hfz45_0:=kf_ BK175.out 0;have hfz45_1:=kf_ BK175.out 1;have hfz45_2:=kf_ BK175.out 2;have hfz45_3:=kf_ BK175.out 3;have hfz45_4:=kf_ BK175.out 4;have hfz45_5:=kf_ BK175.out 5;have hfz45_6:=kf_ BK175.out 6;have hfz45_7:=kf_ BK175.out 7;have hfz45_8:=kf_ BK175.out 8;have hfz45_9:=kf_ BK175.out 9;have hfz45_10:=kf_ BK175.out 10;have hfz45_11:=kf_ BK175.out 11
                 try go_wp2
                 replace BK175:=A_ (kd_ BK175.out);replace HB:=A_ (pd_ HB.out);have p183 : 0 ≤ (x4_4 : Int):=oda_;have q183 : x4_4 < (l0_8.length : Int):=oda_;obtain ⟨ad183,e183,hx183_0,hx183_1,hx183_2⟩:=at_T37 HR0_8.out x4_4 p183 q183;have hw183_2:=hx183_2;have hw183_1:=hx183_1;have hw183_0:=hx183_0
                 cases e183
                 replace hx183_0:=(HB.out.cell (wb_ w _ hx183_0)).trans hx183_0;replace hx183_1:=(HB.out.cell (wb_ w _ hx183_1)).trans hx183_1;replace hx183_2:=(HB.out.cell (wb_ w _ hx183_2)).trans hx183_2;replace p183:=eq_true p183;replace q183:=eq_true q183;have p185 : 0 ≤ (x4_4 : Int):=oda_;have q185 : x4_4 < (l0_8.length : Int):=oda_;obtain ⟨ad185,e185,hx185_0,hx185_1,hx185_2⟩:=at_T37 HR0_8.out x4_4 p185 q185;have hw185_2:=hx185_2;have hw185_1:=hx185_1;have hw185_0:=hx185_0;obtain rfl : ad183 = ad185:=(by injection e185);replace hx185_0:=(HB.out.cell (wb_ w _ hx185_0)).trans hx185_0;replace hx185_1:=(HB.out.cell (wb_ w _ hx185_1)).trans hx185_1;replace hx185_2:=(HB.out.cell (wb_ w _ hx185_2)).trans hx185_2;replace p185:=eq_true p185;replace q185:=eq_true q185;have p186 : 0 ≤ (x4_4 : Int):=oda_;have q186 : x4_4 < (l0_8.length : Int):=oda_;obtain ⟨ad186,e186,hx186_0,hx186_1,hx186_2⟩:=at_T37 HR0_8.out x4_4 p186 q186;have hw186_2:=hx186_2;have hw186_1:=hx186_1;have hw186_0:=hx186_0;obtain rfl : ad183 = ad186:=(by injection e186);replace hx186_0:=(HB.out.cell (wb_ w _ hx186_0)).trans hx186_0;replace hx186_1:=(HB.out.cell (wb_ w _ hx186_1)).trans hx186_1;replace hx186_2:=(HB.out.cell (wb_ w _ hx186_2)).trans hx186_2;replace p186:=eq_true p186;replace q186:=eq_true q186;refine start_ (n:=28) (S:=fun w' => w'.cell? ⟨gb175,0,none⟩ = some (.int .i64 a0_0) ∧ w'.cell? ⟨gb175,1,none⟩ = some (.int .i64 a0_1) ∧ w'.cell? ⟨gb175,2,none⟩ = some (.int .i64 a0_2) ∧ w'.cell? ⟨gb175,3,none⟩ = some (.int .i64 a0_3) ∧ w'.cell? ⟨gb175,4,none⟩ = some (.int .i64 a0_4) ∧ w'.cell? ⟨gb175,5,none⟩ = some (.int .i64 a0_5) ∧ w'.cell? ⟨gb175,6,none⟩ = some (.int .i64 a0_6) ∧ w'.cell? ⟨gb175,7,none⟩ = some (.bool a0_7) ∧ w'.cell? ⟨gb175,8,none⟩ = some (.slice (some ad183) l0_8.length c0_8) ∧ w'.cell? ⟨gb175,9,none⟩ = some (.slice A0_9 l0_9.length c0_9) ∧ w'.cell? ⟨gb175,10,none⟩ = some (.string a0_10) ∧ w'.cell? ⟨gb175,11,none⟩ = some (.bool a0_11) ∧ w'.cell? (ad183.add ((x4_4).toNat * 3)) = some (.int .i64 ((rd_T37 l0_8 x4_4).f0)) ∧ w'.cell? ⟨(ad183.add ((x4_4).toNat * 3)).block,(ad183.add ((x4_4).toNat * 3)).off + 1,none⟩ = some (.int .i64 ((rd_T37 l0_8 x4_4).f1)) ∧ w'.cell? ⟨(ad183.add ((x4_4).toNat * 3)).block,(ad183.add ((x4_4).toNat * 3)).off + 2,none⟩ = some (.string ((rd_T37 l0_8 x4_4).f2)) ∧ w'.cell? (ad183.add ((x4_4).toNat * 3)) = some (.int .i64 ((rd_T37 l0_8 x4_4).f0)) ∧ w'.cell? ⟨(ad183.add ((x4_4).toNat * 3)).block,(ad183.add ((x4_4).toNat * 3)).off + 1,none⟩ = some (.int .i64 ((rd_T37 l0_8 x4_4).f1)) ∧ w'.cell? ⟨(ad183.add ((x4_4).toNat * 3)).block,(ad183.add ((x4_4).toNat * 3)).off + 2,none⟩ = some (.string ((rd_T37 l0_8 x4_4).f2)) ∧ w'.cell? (ad183.add ((x4_4).toNat * 3)) = some (.int .i64 ((rd_T37 l0_8 x4_4).f0)) ∧ w'.cell? ⟨(ad183.add ((x4_4).toNat * 3)).block,(ad183.add ((x4_4).toNat * 3)).off + 1,none⟩ = some (.int .i64 ((rd_T37 l0_8 x4_4).f1)) ∧ w'.cell? ⟨(ad183.add ((x4_4).toNat * 3)).block,(ad183.add ((x4_4).toNat * 3)).off + 2,none⟩ = some (.string ((rd_T37 l0_8 x4_4).f2))) (ds:=[]) #[false,false,false,false,false,false,false,false,false,false,false,false,false,false,false,false,false,false,false,false,false,false,false,false,false,false,false,false] (by kernel_rfl) rfl rfl ⟨(kc_ BK175.out 0).trans rfl,(kc_ BK175.out 1).trans rfl,(kc_ BK175.out 2).trans rfl,(kc_ BK175.out 3).trans rfl,(kc_ BK175.out 4).trans rfl,(kc_ BK175.out 5).trans rfl,(kc_ BK175.out 6).trans rfl,(kc_ BK175.out 7).trans rfl,(kc_ BK175.out 8).trans rfl,(kc_ BK175.out 9).trans rfl,(kc_ BK175.out 10).trans rfl,(kc_ BK175.out 11).trans rfl,((HB.out.cell (wb_ w _ hw183_0)).trans hw183_0),((HB.out.cell (wb_ w _ hw183_1)).trans hw183_1),((HB.out.cell (wb_ w _ hw183_2)).trans hw183_2),((HB.out.cell (wb_ w _ hw185_0)).trans hw185_0),((HB.out.cell (wb_ w _ hw185_1)).trans hw185_1),((HB.out.cell (wb_ w _ hw185_2)).trans hw185_2),((HB.out.cell (wb_ w _ hw186_0)).trans hw186_0),((HB.out.cell (wb_ w _ hw186_1)).trans hw186_1),((HB.out.cell (wb_ w _ hw186_2)).trans hw186_2)⟩ (fun hHeld => ?_);refine with_tabW spec_MessageOk.tab11 spec_MessageOk.bits11 (fun HT_ HW_ => ?_);generalize wr.drew = w46 at BK175 HB hx183_0 hx183_1 hx183_2 hx185_0 hx185_1 hx185_2 hx186_0 hx186_1 hx186_2 hHeld ⊢;refine pure_ (i:=0) (N:=some 74) (v:=?_) (a':=?_) #[true,false,false,false,false,false,false,false,false,false,false,false,false,false,false,false,false,false,false,false,false,false,false,false,false,false,false,false] rfl rfl (any_of HT_.out (by kernel_rfl)) (fun _ _ _ h => h) (Or.inl ⟨by rfl,?_⟩) ?_ ?_;rotate_left
                 ·intro w';go_simp;with_reducible rfl
                 rotate_left
                 ·simp only [Act.put,s1_,s2_,s3_,i64_w,i32_w];rfl
                 refine pure_ (i:=2) (N:=some 76) (v:=?_) (a':=?_) #[true,false,true,false,false,false,false,false,false,false,false,false,false,false,false,false,false,false,false,false,false,false,false,false,false,false,false,false] rfl rfl (any_of HT_.out (by kernel_rfl)) (fun _ _ _ h => h) (Or.inl ⟨by rfl,?_⟩) ?_ ?_;rotate_left
                 ·intro w';go_simp;with_reducible rfl
                 rotate_left
                 ·simp only [Act.put,s1_,s2_,s3_,i64_w,i32_w];rfl
                 refine take_ (i:=1) (N:=some 75) (v:=?_) (a':=?_) #[true,true,true,false,false,false,false,false,false,false,false,false,false,false,false,false,false,false,false,false,false,false,false,false,false,false,false,false] rfl rfl (take_ofW HT_.out HW_.out (by kernel_rfl)) (fun _ _ _ h => h) (Or.inl ⟨by rfl,?_⟩) hHeld ?_ ?_;rotate_left
                 ·rintro w' ⟨s0,s1,s2,s3,s4,s5,s6,s7,s8,s9,s10,s11,s12,s13,s14,s15,s16,s17,s18,s19,s20⟩;go_simp;with_reducible rfl
                 rotate_left
                 ·simp only [Act.put,s1_,s2_,s3_,i64_w,i32_w];rfl
                 refine pure_ (i:=3) (N:=some 77) (v:=?_) (a':=?_) #[true,true,true,true,false,false,false,false,false,false,false,false,false,false,false,false,false,false,false,false,false,false,false,false,false,false,false,false] rfl rfl (any_of HT_.out (by kernel_rfl)) (fun _ _ _ h => h) (Or.inl ⟨by rfl,?_⟩) ?_ ?_;rotate_left
                 ·intro w';go_simp;with_reducible rfl
                 rotate_left
                 ·simp only [Act.put,s1_,s2_,s3_,i64_w,i32_w];rfl
                 refine take_ (i:=4) (N:=some 78) (v:=?_) (a':=?_) #[true,true,true,true,true,false,false,false,false,false,false,false,false,false,false,false,false,false,false,false,false,false,false,false,false,false,false,false] rfl rfl (take_ofW HT_.out HW_.out (by kernel_rfl)) (fun _ _ _ h => h) (Or.inl ⟨by rfl,?_⟩) hHeld ?_ ?_;rotate_left
                 ·rintro w' ⟨s0,s1,s2,s3,s4,s5,s6,s7,s8,s9,s10,s11,s12,s13,s14,s15,s16,s17,s18,s19,s20⟩;go_simp;with_reducible rfl
                 rotate_left
                 ·simp only [Act.put,s1_,s2_,s3_,i64_w,i32_w];rfl
                 refine one_ (i:=5) (N:=some 79) #[true,true,true,true,true,true,false,false,false,false,false,false,false,false,false,false,false,false,false,false,false,false,false,false,false,false,false,false] rfl rfl (one_of HT_.out (by kernel_rfl)) (by decide) (fun K hK => ?_);refine goes_ Try.func95 (by kernel_rfl) rfl #[.agg #[.int .i64 ((rd_T37 l0_8 x4_4).f0),.int .i64 ((rd_T37 l0_8 x4_4).f1),.string ((rd_T37 l0_8 x4_4).f2)]] (by rfl) rfl rfl (by (try simp only [s4_,s5_,s6_]);first|done|rfl|(simp only [List.length_drop,List.length_take];rfl)) ?_;with_reducible refine (spec_EntryOk.calls k4 ((rd_T37 l0_8 x4_4).f0) ((rd_T37 l0_8 x4_4).f1) ((rd_T37 l0_8 x4_4).f2) true _ A38.out).mono ?_;rintro e w47 ⟨rfl,hb⟩;refine ⟨_,rfl,?_⟩;replace BK175:=A_ (kb_ (by (with_reducible repeat (first|refine kn_ ?_ _|refine kd_ ?_|refine ka_ ?_ _));exact BK175.out) hb);replace HB:=A_ (bs_ (by repeat (first|(with_reducible first|exact HB.out|apply pa_|apply pn_|apply pd_|refine ps_ ?_ GE175.out)|exact HB.out)) hb)
                 (try clear hb)
                 (try clear hb2)
                 (try clear hk)
                 (try clear hi)
                 refine hK.out _ _ ⟨(kc_ BK175.out 0).trans rfl,(kc_ BK175.out 1).trans rfl,(kc_ BK175.out 2).trans rfl,(kc_ BK175.out 3).trans rfl,(kc_ BK175.out 4).trans rfl,(kc_ BK175.out 5).trans rfl,(kc_ BK175.out 6).trans rfl,(kc_ BK175.out 7).trans rfl,(kc_ BK175.out 8).trans rfl,(kc_ BK175.out 9).trans rfl,(kc_ BK175.out 10).trans rfl,(kc_ BK175.out 11).trans rfl,((HB.out.cell (wb_ w _ hw183_0)).trans hw183_0),((HB.out.cell (wb_ w _ hw183_1)).trans hw183_1),((HB.out.cell (wb_ w _ hw183_2)).trans hw183_2),((HB.out.cell (wb_ w _ hw185_0)).trans hw185_0),((HB.out.cell (wb_ w _ hw185_1)).trans hw185_1),((HB.out.cell (wb_ w _ hw185_2)).trans hw185_2),((HB.out.cell (wb_ w _ hw186_0)).trans hw186_0),((HB.out.cell (wb_ w _ hw186_1)).trans hw186_1),((HB.out.cell (wb_ w _ hw186_2)).trans hw186_2)⟩ (fun hHeld => ?_);clear hK K;refine norm_ (a':=?_) ?_ ?_;rotate_left
                 ·show Act.put _ (some 79) _ = _;simp only [Act.put,s1_,s2_,s3_,i64_w,i32_w];rfl
                 refine pure_ (i:=6) (N:=some 80) (v:=?_) (a':=?_) #[true,true,true,true,true,true,true,false,false,false,false,false,false,false,false,false,false,false,false,false,false,false,false,false,false,false,false,false] rfl rfl (any_of HT_.out (by kernel_rfl)) (fun _ _ _ h => h) (Or.inl ⟨by rfl,?_⟩) ?_ ?_;rotate_left
                 ·intro w';go_simp;with_reducible rfl
                 rotate_left
                 ·simp only [Act.put,s1_,s2_,s3_,i64_w,i32_w];rfl
                 refine pure_ (i:=7) (N:=some 81) (v:=?_) (a':=?_) #[true,true,true,true,true,true,true,true,false,false,false,false,false,false,false,false,false,false,false,false,false,false,false,false,false,false,false,false] rfl rfl (any_of HT_.out (by kernel_rfl)) (fun _ _ _ h => h) (Or.inl ⟨by rfl,?_⟩) ?_ ?_;rotate_left
                 ·intro w';go_simp;with_reducible rfl
                 rotate_left
                 ·simp only [Act.put,s1_,s2_,s3_,i64_w,i32_w];rfl
                 refine pure_ (i:=8) (N:=some 82) (v:=?_) (a':=?_) #[true,true,true,true,true,true,true,true,true,false,false,false,false,false,false,false,false,false,false,false,false,false,false,false,false,false,false,false] rfl rfl (any_of HT_.out (by kernel_rfl)) (fun _ _ _ h => h) (Or.inl ⟨by rfl,?_⟩) ?_ ?_;rotate_left
                 ·intro w';go_simp;with_reducible rfl
                 rotate_left
                 ·simp only [Act.put,s1_,s2_,s3_,i64_w,i32_w];rfl
                 refine pure_ (i:=10) (N:=some 84) (v:=?_) (a':=?_) #[true,true,true,true,true,true,true,true,true,false,true,false,false,false,false,false,false,false,false,false,false,false,false,false,false,false,false,false] rfl rfl (any_of HT_.out (by kernel_rfl)) (fun _ _ _ h => h) (Or.inl ⟨by rfl,?_⟩) ?_ ?_;rotate_left
                 ·intro w';go_simp;with_reducible rfl
                 rotate_left
                 ·simp only [Act.put,s1_,s2_,s3_,i64_w,i32_w];rfl
                 refine pure_ (i:=14) (N:=some 88) (v:=?_) (a':=?_) #[true,true,true,true,true,true,true,true,true,false,true,false,false,false,true,false,false,false,false,false,false,false,false,false,false,false,false,false] rfl rfl (any_of HT_.out (by kernel_rfl)) (fun _ _ _ h => h) (Or.inl ⟨by rfl,?_⟩) ?_ ?_;rotate_left
                 ·intro w';go_simp;with_reducible rfl
                 rotate_left
                 ·simp only [Act.put,s1_,s2_,s3_,i64_w,i32_w];rfl
                 refine take_ (i:=9) (N:=some 83) (v:=?_) (a':=?_) #[true,true,true,true,true,true,true,true,true,true,true,false,false,false,true,false,false,false,false,false,false,false,false,false,false,false,false,false] rfl rfl (take_ofW HT_.out HW_.out (by kernel_rfl)) (fun _ _ _ h => h) (Or.inl ⟨by rfl,?_⟩) hHeld ?_ ?_;rotate_left
                 ·rintro w' ⟨s0,s1,s2,s3,s4,s5,s6,s7,s8,s9,s10,s11,s12,s13,s14,s15,s16,s17,s18,s19,s20⟩;go_simp;with_reducible rfl
                 rotate_left
                 ·simp only [Act.put,s1_,s2_,s3_,i64_w,i32_w];rfl
                 refine pure_ (i:=11) (N:=some 85) (v:=?_) (a':=?_) #[true,true,true,true,true,true,true,true,true,true,true,true,false,false,true,false,false,false,false,false,false,false,false,false,false,false,false,false] rfl rfl (any_of HT_.out (by kernel_rfl)) (fun _ _ _ h => h) (Or.inl ⟨by rfl,?_⟩) ?_ ?_;rotate_left
                 ·intro w';go_simp;with_reducible rfl
                 rotate_left
                 ·simp only [Act.put,s1_,s2_,s3_,i64_w,i32_w];rfl
                 refine pure_ (i:=12) (N:=some 86) (v:=?_) (a':=?_) #[true,true,true,true,true,true,true,true,true,true,true,true,true,false,true,false,false,false,false,false,false,false,false,false,false,false,false,false] rfl rfl (any_of HT_.out (by kernel_rfl)) (fun _ _ _ h => h) (Or.inl ⟨by rfl,?_⟩) ?_ ?_;rotate_left
                 ·intro w';go_simp;with_reducible rfl
                 rotate_left
                 ·simp only [Act.put,s1_,s2_,s3_,i64_w,i32_w];rfl
                 refine take_ (i:=13) (N:=some 87) (v:=?_) (a':=?_) #[true,true,true,true,true,true,true,true,true,true,true,true,true,true,true,false,false,false,false,false,false,false,false,false,false,false,false,false] rfl rfl (take_ofW HT_.out HW_.out (by kernel_rfl)) (fun _ _ _ h => h) (Or.inl ⟨by rfl,?_⟩) hHeld ?_ ?_;rotate_left
                 ·rintro w' ⟨s0,s1,s2,s3,s4,s5,s6,s7,s8,s9,s10,s11,s12,s13,s14,s15,s16,s17,s18,s19,s20⟩;go_simp;with_reducible rfl
                 rotate_left
                 ·simp only [Act.put,s1_,s2_,s3_,i64_w,i32_w];rfl
                 refine pure_ (i:=15) (N:=some 89) (v:=?_) (a':=?_) #[true,true,true,true,true,true,true,true,true,true,true,true,true,true,true,true,false,false,false,false,false,false,false,false,false,false,false,false] rfl rfl (any_of HT_.out (by kernel_rfl)) (fun _ _ _ h => h) (Or.inl ⟨by rfl,?_⟩) ?_ ?_;rotate_left
                 ·intro w';go_simp;with_reducible rfl
                 rotate_left
                 ·simp only [Act.put,s1_,s2_,s3_,i64_w,i32_w];rfl
                 refine pure_ (i:=16) (N:=some 90) (v:=?_) (a':=?_) #[true,true,true,true,true,true,true,true,true,true,true,true,true,true,true,true,true,false,false,false,false,false,false,false,false,false,false,false] rfl rfl (any_of HT_.out (by kernel_rfl)) (fun _ _ _ h => h) (Or.inl ⟨by rfl,?_⟩) ?_ ?_;rotate_left
                 ·intro w';go_simp;with_reducible rfl
                 rotate_left
                 ·simp only [Act.put,s1_,s2_,s3_,i64_w,i32_w];rfl
                 refine pure_ (i:=17) (N:=some 91) (v:=?_) (a':=?_) #[true,true,true,true,true,true,true,true,true,true,true,true,true,true,true,true,true,true,false,false,false,false,false,false,false,false,false,false] rfl rfl (any_of HT_.out (by kernel_rfl)) (fun _ _ _ h => h) (Or.inl ⟨by rfl,?_⟩) ?_ ?_;rotate_left
                 ·intro w';go_simp;with_reducible rfl
                 rotate_left
                 ·simp only [Act.put,s1_,s2_,s3_,i64_w,i32_w];rfl
                 refine pure_ (i:=18) (N:=some 92) (v:=?_) (a':=?_) #[true,true,true,true,true,true,true,true,true,true,true,true,true,true,true,true,true,true,true,false,false,false,false,false,false,false,false,false] rfl rfl (any_of HT_.out (by kernel_rfl)) (fun _ _ _ h => h) (Or.inl ⟨by rfl,?_⟩) ?_ ?_;rotate_left
                 ·intro w';go_simp;with_reducible rfl
                 rotate_left
                 ·simp only [Act.put,s1_,s2_,s3_,i64_w,i32_w];rfl
                 refine pure_ (i:=20) (N:=some 94) (v:=?_) (a':=?_) #[true,true,true,true,true,true,true,true,true,true,true,true,true,true,true,true,true,true,true,false,true,false,false,false,false,false,false,false] rfl rfl (any_of HT_.out (by kernel_rfl)) (fun _ _ _ h => h) (Or.inl ⟨by rfl,?_⟩) ?_ ?_;rotate_left
                 ·intro w';go_simp;with_reducible rfl
                 rotate_left
                 ·simp only [Act.put,s1_,s2_,s3_,i64_w,i32_w];rfl
                 refine pure_ (i:=24) (N:=some 98) (v:=?_) (a':=?_) #[true,true,true,true,true,true,true,true,true,true,true,true,true,true,true,true,true,true,true,false,true,false,false,false,true,false,false,false] rfl rfl (any_of HT_.out (by kernel_rfl)) (fun _ _ _ h => h) (Or.inl ⟨by rfl,?_⟩) ?_ ?_;rotate_left
                 ·intro w';go_simp;with_reducible rfl
                 rotate_left
                 ·simp only [Act.put,s1_,s2_,s3_,i64_w,i32_w];rfl
                 refine take_ (i:=19) (N:=some 93) (v:=?_) (a':=?_) #[true,true,true,true,true,true,true,true,true,true,true,true,true,true,true,true,true,true,true,true,true,false,false,false,true,false,false,false] rfl rfl (take_ofW HT_.out HW_.out (by kernel_rfl)) (fun _ _ _ h => h) (Or.inl ⟨by rfl,?_⟩) hHeld ?_ ?_;rotate_left
                 ·rintro w' ⟨s0,s1,s2,s3,s4,s5,s6,s7,s8,s9,s10,s11,s12,s13,s14,s15,s16,s17,s18,s19,s20⟩;go_simp;with_reducible rfl
                 rotate_left
                 ·simp only [Act.put,s1_,s2_,s3_,i64_w,i32_w];rfl
                 refine pure_ (i:=21) (N:=some 95) (v:=?_) (a':=?_) #[true,true,true,true,true,true,true,true,true,true,true,true,true,true,true,true,true,true,true,true,true,true,false,false,true,false,false,false] rfl rfl (any_of HT_.out (by kernel_rfl)) (fun _ _ _ h => h) (Or.inl ⟨by rfl,?_⟩) ?_ ?_;rotate_left
                 ·intro w';go_simp;with_reducible rfl
                 rotate_left
                 ·simp only [Act.put,s1_,s2_,s3_,i64_w,i32_w];rfl
                 refine pure_ (i:=22) (N:=some 96) (v:=?_) (a':=?_) #[true,true,true,true,true,true,true,true,true,true,true,true,true,true,true,true,true,true,true,true,true,true,true,false,true,false,false,false] rfl rfl (any_of HT_.out (by kernel_rfl)) (fun _ _ _ h => h) (Or.inl ⟨by rfl,?_⟩) ?_ ?_;rotate_left
                 ·intro w';go_simp;with_reducible rfl
                 rotate_left
                 ·simp only [Act.put,s1_,s2_,s3_,i64_w,i32_w];rfl
                 refine take_ (i:=23) (N:=some 97) (v:=?_) (a':=?_) #[true,true,true,true,true,true,true,true,true,true,true,true,true,true,true,true,true,true,true,true,true,true,true,true,true,false,false,false] rfl rfl (take_ofW HT_.out HW_.out (by kernel_rfl)) (fun _ _ _ h => h) (Or.inl ⟨by rfl,?_⟩) hHeld ?_ ?_;rotate_left
                 ·rintro w' ⟨s0,s1,s2,s3,s4,s5,s6,s7,s8,s9,s10,s11,s12,s13,s14,s15,s16,s17,s18,s19,s20⟩;go_simp;with_reducible rfl
                 rotate_left
                 ·simp only [Act.put,s1_,s2_,s3_,i64_w,i32_w];rfl
                 refine take_ (i:=25) (N:=some 99) (v:=?_) (a':=?_) #[true,true,true,true,true,true,true,true,true,true,true,true,true,true,true,true,true,true,true,true,true,true,true,true,true,true,false,false] rfl rfl (take_ofW HT_.out HW_.out (by kernel_rfl)) (fun _ _ _ h => h) (Or.inl ⟨by rfl,?_⟩) hHeld ?_ ?_;rotate_left
                 ·rintro w' ⟨s0,s1,s2,s3,s4,s5,s6,s7,s8,s9,s10,s11,s12,s13,s14,s15,s16,s17,s18,s19,s20⟩;go_simp;with_reducible rfl
                 rotate_left
                 ·simp only [Act.put,s1_,s2_,s3_,i64_w,i32_w];rfl
                 refine pure_ (i:=26) (N:=some 100) (v:=?_) (a':=?_) #[true,true,true,true,true,true,true,true,true,true,true,true,true,true,true,true,true,true,true,true,true,true,true,true,true,true,true,false] rfl rfl (any_of HT_.out (by kernel_rfl)) (fun _ _ _ h => h) (Or.inl ⟨by rfl,?_⟩) ?_ ?_;rotate_left
                 ·intro w';go_simp;with_reducible rfl
                 rotate_left
                 ·simp only [Act.put,s1_,s2_,s3_,i64_w,i32_w];rfl
                 refine pure_ (i:=27) (N:=some 101) (v:=?_) (a':=?_) #[true,true,true,true,true,true,true,true,true,true,true,true,true,true,true,true,true,true,true,true,true,true,true,true,true,true,true,true] rfl rfl (any_of HT_.out (by kernel_rfl)) (fun _ _ _ h => h) (Or.inl ⟨by rfl,?_⟩) ?_ ?_;rotate_left
                 ·intro w';go_simp;with_reducible rfl
                 rotate_left
                 ·simp only [Act.put,s1_,s2_,s3_,i64_w,i32_w];rfl
                 refine done_ (done_of HT_.out (by kernel_rfl)) ?_
                 try go_wp2
                 go_ret;exact ⟨by first|rfl|(simp [*,errW_none,errW_some] <;> rfl),by repeat (first|(with_reducible first|exact HB.out|apply pa_|apply pn_|apply pd_|refine ps_ ?_ GE175.out)|exact HB.out)⟩
                ·rw [if_neg c44] at H;have c44b0 : decide (a0_3 < ((rd_T37 l0_8 x4_4).f0)) = false:=decide_eq_false c44;clear c44;have H':=A_ H;clear H;have hcz48_0 : wr.cell? ⟨gb175,0,none⟩ = some (.int .i64 a0_0):=(kc_ BK175.out 0).trans rfl;have hcz48_1 : wr.cell? ⟨gb175,1,none⟩ = some (.int .i64 a0_1):=(kc_ BK175.out 1).trans rfl;have hcz48_2 : wr.cell? ⟨gb175,2,none⟩ = some (.int .i64 a0_2):=(kc_ BK175.out 2).trans rfl;have hcz48_3 : wr.cell? ⟨gb175,3,none⟩ = some (.int .i64 a0_3):=(kc_ BK175.out 3).trans rfl;have hcz48_4 : wr.cell? ⟨gb175,4,none⟩ = some (.int .i64 a0_4):=(kc_ BK175.out 4).trans rfl;have hcz48_5 : wr.cell? ⟨gb175,5,none⟩ = some (.int .i64 a0_5):=(kc_ BK175.out 5).trans rfl;have hcz48_6 : wr.cell? ⟨gb175,6,none⟩ = some (.int .i64 a0_6):=(kc_ BK175.out 6).trans rfl;have hcz48_7 : wr.cell? ⟨gb175,7,none⟩ = some (.bool a0_7):=(kc_ BK175.out 7).trans rfl;have hcz48_8 : wr.cell? ⟨gb175,8,none⟩ = some (.slice A0_8 l0_8.length c0_8):=(kc_ BK175.out 8).trans rfl;have hcz48_9 : wr.cell? ⟨gb175,9,none⟩ = some (.slice A0_9 l0_9.length c0_9):=(kc_ BK175.out 9).trans rfl;have hcz48_10 : wr.cell? ⟨gb175,10,none⟩ = some (.string a0_10):=(kc_ BK175.out 10).trans rfl;have hcz48_11 : wr.cell? ⟨gb175,11,none⟩ = some (.bool a0_11):=(kc_ BK175.out 11).trans rfl;have hfz48_0:=kf_ BK175.out 0;have hfz48_1:=kf_ BK175.out 1;have hfz48_2:=kf_ BK175.out 2;have hfz48_3:=kf_ BK175.out 3;have hfz48_4:=kf_ BK175.out 4;have hfz48_5:=kf_ BK175.out 5;have hfz48_6:=kf_ BK175.out 6;have hfz48_7:=kf_ BK175.out 7;have hfz48_8:=kf_ BK175.out 8;have hfz48_9:=kf_ BK175.out 9;have hfz48_10:=kf_ BK175.out 10;have hfz48_11:=kf_ BK175.out 11
                 try go_wp2
                 replace BK175:=A_ (kd_ BK175.out);replace HB:=A_ (pd_ HB.out);have p183 : 0 ≤ (x4_4 : Int):=oda_;have q183 : x4_4 < (l0_8.length : Int):=oda_;obtain ⟨ad183,e183,hx183_0,hx183_1,hx183_2⟩:=at_T37 HR0_8.out x4_4 p183 q183;have hw183_2:=hx183_2;have hw183_1:=hx183_1;have hw183_0:=hx183_0
                 cases e183
                 replace hx183_0:=(HB.out.cell (wb_ w _ hx183_0)).trans hx183_0;replace hx183_1:=(HB.out.cell (wb_ w _ hx183_1)).trans hx183_1;replace hx183_2:=(HB.out.cell (wb_ w _ hx183_2)).trans hx183_2;replace p183:=eq_true p183;replace q183:=eq_true q183;have p185 : 0 ≤ (x4_4 : Int):=oda_;have q185 : x4_4 < (l0_8.length : Int):=oda_;obtain ⟨ad185,e185,hx185_0,hx185_1,hx185_2⟩:=at_T37 HR0_8.out x4_4 p185 q185;have hw185_2:=hx185_2;have hw185_1:=hx185_1;have hw185_0:=hx185_0;obtain rfl : ad183 = ad185:=(by injection e185);replace hx185_0:=(HB.out.cell (wb_ w _ hx185_0)).trans hx185_0;replace hx185_1:=(HB.out.cell (wb_ w _ hx185_1)).trans hx185_1;replace hx185_2:=(HB.out.cell (wb_ w _ hx185_2)).trans hx185_2;replace p185:=eq_true p185;replace q185:=eq_true q185;have p186 : 0 ≤ (x4_4 : Int):=oda_;have q186 : x4_4 < (l0_8.length : Int):=oda_;obtain ⟨ad186,e186,hx186_0,hx186_1,hx186_2⟩:=at_T37 HR0_8.out x4_4 p186 q186;have hw186_2:=hx186_2;have hw186_1:=hx186_1;have hw186_0:=hx186_0;obtain rfl : ad183 = ad186:=(by injection e186);replace hx186_0:=(HB.out.cell (wb_ w _ hx186_0)).trans hx186_0;replace hx186_1:=(HB.out.cell (wb_ w _ hx186_1)).trans hx186_1;replace hx186_2:=(HB.out.cell (wb_ w _ hx186_2)).trans hx186_2;replace p186:=eq_true p186;replace q186:=eq_true q186;refine start_ (n:=28) (S:=fun w' => w'.cell? ⟨gb175,0,none⟩ = some (.int .i64 a0_0) ∧ w'.cell? ⟨gb175,1,none⟩ = some (.int .i64 a0_1) ∧ w'.cell? ⟨gb175,2,none⟩ = some (.int .i64 a0_2) ∧ w'.cell? ⟨gb175,3,none⟩ = some (.int .i64 a0_3) ∧ w'.cell? ⟨gb175,4,none⟩ = some (.int .i64 a0_4) ∧ w'.cell? ⟨gb175,5,none⟩ = some (.int .i64 a0_5) ∧ w'.cell? ⟨gb175,6,none⟩ = some (.int .i64 a0_6) ∧ w'.cell? ⟨gb175,7,none⟩ = some (.bool a0_7) ∧ w'.cell? ⟨gb175,8,none⟩ = some (.slice (some ad183) l0_8.length c0_8) ∧ w'.cell? ⟨gb175,9,none⟩ = some (.slice A0_9 l0_9.length c0_9) ∧ w'.cell? ⟨gb175,10,none⟩ = some (.string a0_10) ∧ w'.cell? ⟨gb175,11,none⟩ = some (.bool a0_11) ∧ w'.cell? (ad183.add ((x4_4).toNat * 3)) = some (.int .i64 ((rd_T37 l0_8 x4_4).f0)) ∧ w'.cell? ⟨(ad183.add ((x4_4).toNat * 3)).block,(ad183.add ((x4_4).toNat * 3)).off + 1,none⟩ = some (.int .i64 ((rd_T37 l0_8 x4_4).f1)) ∧ w'.cell? ⟨(ad183.add ((x4_4).toNat * 3)).block,(ad183.add ((x4_4).toNat * 3)).off + 2,none⟩ = some (.string ((rd_T37 l0_8 x4_4).f2)) ∧ w'.cell? (ad183.add ((x4_4).toNat * 3)) = some (.int .i64 ((rd_T37 l0_8 x4_4).f0)) ∧ w'.cell? ⟨(ad183.add ((x4_4).toNat * 3)).block,(ad183.add ((x4_4).toNat * 3)).off + 1,none⟩ = some (.int .i64 ((rd_T37 l0_8 x4_4).f1)) ∧ w'.cell? ⟨(ad183.add ((x4_4).toNat * 3)).block,(ad183.add ((x4_4).toNat * 3)).off + 2,none⟩ = some (.string ((rd_T37 l0_8 x4_4).f2)) ∧ w'.cell? (ad183.add ((x4_4).toNat * 3)) = some (.int .i64 ((rd_T37 l0_8 x4_4).f0)) ∧ w'.cell? ⟨(ad183.add ((x4_4).toNat * 3)).block,(ad183.add ((x4_4).toNat * 3)).off + 1,none⟩ = some (.int .i64 ((rd_T37 l0_8 x4_4).f1)) ∧ w'.cell? ⟨(ad183.add ((x4_4).toNat * 3)).block,(ad183.add ((x4_4).toNat * 3)).off + 2,none⟩ = some (.string ((rd_T37 l0_8 x4_4).f2))) (ds:=[]) #[false,false,false,false,false,false,false,false,false,false,false,false,false,false,false,false,false,false,false,false,false,false,false,false,false,false,false,false] (by kernel_rfl) rfl rfl ⟨(kc_ BK175.out 0).trans rfl,(kc_ BK175.out 1).trans rfl,(kc_ BK175.out 2).trans rfl,(kc_ BK175.out 3).trans rfl,(kc_ BK175.out 4).trans rfl,(kc_ BK175.out 5).trans rfl,(kc_ BK175.out 6).trans rfl,(kc_ BK175.out 7).trans rfl,(kc_ BK175.out 8).trans rfl,(kc_ BK175.out 9).trans rfl,(kc_ BK175.out 10).trans rfl,(kc_ BK175.out 11).trans rfl,((HB.out.cell (wb_ w _ hw183_0)).trans hw183_0),((HB.out.cell (wb_ w _ hw183_1)).trans hw183_1),((HB.out.cell (wb_ w _ hw183_2)).trans hw183_2),((HB.out.cell (wb_ w _ hw185_0)).trans hw185_0),((HB.out.cell (wb_ w _ hw185_1)).trans hw185_1),((HB.out.cell (wb_ w _ hw185_2)).trans hw185_2),((HB.out.cell (wb_ w _ hw186_0)).trans hw186_0),((HB.out.cell (wb_ w _ hw186_1)).trans hw186_1),((HB.out.cell (wb_ w _ hw186_2)).trans hw186_2)⟩ (fun hHeld => ?_);refine with_tabW spec_MessageOk.tab11 spec_MessageOk.bits11 (fun HT_ HW_ => ?_);generalize wr.drew = w49 at BK175 HB hx183_0 hx183_1 hx183_2 hx185_0 hx185_1 hx185_2 hx186_0 hx186_1 hx186_2 hHeld ⊢;refine pure_ (i:=0) (N:=some 74) (v:=?_) (a':=?_) #[true,false,false,false,false,false,false,false,false,false,false,false,false,false,false,false,false,false,false,false,false,false,false,false,false,false,false,false] rfl rfl (any_of HT_.out (by kernel_rfl)) (fun _ _ _ h => h) (Or.inl ⟨by rfl,?_⟩) ?_ ?_;rotate_left
                 ·intro w';go_simp;with_reducible rfl
                 rotate_left
                 ·simp only [Act.put,s1_,s2_,s3_,i64_w,i32_w];rfl
                 refine pure_ (i:=2) (N:=some 76) (v:=?_) (a':=?_) #[true,false,true,false,false,false,false,false,false,false,false,false,false,false,false,false,false,false,false,false,false,false,false,false,false,false,false,false] rfl rfl (any_of HT_.out (by kernel_rfl)) (fun _ _ _ h => h) (Or.inl ⟨by rfl,?_⟩) ?_ ?_;rotate_left
                 ·intro w';go_simp;with_reducible rfl
                 rotate_left
                 ·simp only [Act.put,s1_,s2_,s3_,i64_w,i32_w];rfl
                 refine take_ (i:=1) (N:=some 75) (v:=?_) (a':=?_) #[true,true,true,false,false,false,false,false,false,false,false,false,false,false,false,false,false,false,false,false,false,false,false,false,false,false,false,false] rfl rfl (take_ofW HT_.out HW_.out (by kernel_rfl)) (fun _ _ _ h => h) (Or.inl ⟨by rfl,?_⟩) hHeld ?_ ?_;rotate_left
                 ·rintro w' ⟨s0,s1,s2,s3,s4,s5,s6,s7,s8,s9,s10,s11,s12,s13,s14,s15,s16,s17,s18,s19,s20⟩;go_simp;with_reducible rfl
                 rotate_left
                 ·simp only [Act.put,s1_,s2_,s3_,i64_w,i32_w];rfl
                 refine pure_ (i:=3) (N:=some 77) (v:=?_) (a':=?_) #[true,true,true,true,false,false,false,false,false,false,false,false,false,false,false,false,false,false,false,false,false,false,false,false,false,false,false,false] rfl rfl (any_of HT_.out (by kernel_rfl)) (fun _ _ _ h => h) (Or.inl ⟨by rfl,?_⟩) ?_ ?_;rotate_left
                 ·intro w';go_simp;with_reducible rfl
                 rotate_left
                 ·simp only [Act.put,s1_,s2_,s3_,i64_w,i32_w];rfl
                 refine take_ (i:=4) (N:=some 78) (v:=?_) (a':=?_) #[true,true,true,true,true,false,false,false,false,false,false,false,false,false,false,false,false,false,false,false,false,false,false,false,false,false,false,false] rfl rfl (take_ofW HT_.out HW_.out (by kernel_rfl)) (fun _ _ _ h => h) (Or.inl ⟨by rfl,?_⟩) hHeld ?_ ?_;rotate_left
                 ·rintro w' ⟨s0,s1,s2,s3,s4,s5,s6,s7,s8,s9,s10,s11,s12,s13,s14,s15,s16,s17,s18,s19,s20⟩;go_simp;with_reducible rfl
                 rotate_left
                 ·simp only [Act.put,s1_,s2_,s3_,i64_w,i32_w];rfl
                 refine one_ (i:=5) (N:=some 79) #[true,true,true,true,true,true,false,false,false,false,false,false,false,false,false,false,false,false,false,false,false,false,false,false,false,false,false,false] rfl rfl (one_of HT_.out (by kernel_rfl)) (by decide) (fun K hK => ?_);refine goes_ Try.func95 (by kernel_rfl) rfl #[.agg #[.int .i64 ((rd_T37 l0_8 x4_4).f0),.int .i64 ((rd_T37 l0_8 x4_4).f1),.string ((rd_T37 l0_8 x4_4).f2)]] (by rfl) rfl rfl (by (try simp only [s4_,s5_,s6_]);first|done|rfl|(simp only [List.length_drop,List.length_take];rfl)) ?_;with_reducible refine (spec_EntryOk.calls k4 ((rd_T37 l0_8 x4_4).f0) ((rd_T37 l0_8 x4_4).f1) ((rd_T37 l0_8 x4_4).f2) true _ A38.out).mono ?_;rintro e w50 ⟨rfl,hb⟩;refine ⟨_,rfl,?_⟩;replace BK175:=A_ (kb_ (by (with_reducible repeat (first|refine kn_ ?_ _|refine kd_ ?_|refine ka_ ?_ _));exact BK175.out) hb);replace HB:=A_ (bs_ (by repeat (first|(with_reducible first|exact HB.out|apply pa_|apply pn_|apply pd_|refine ps_ ?_ GE175.out)|exact HB.out)) hb)
                 (try clear hb)
                 (try clear hb2)
                 (try clear hk)
                 (try clear hi)
                 refine hK.out _ _ ⟨(kc_ BK175.out 0).trans rfl,(kc_ BK175.out 1).trans rfl,(kc_ BK175.out 2).trans rfl,(kc_ BK175.out 3).trans rfl,(kc_ BK175.out 4).trans rfl,(kc_ BK175.out 5).trans rfl,(kc_ BK175.out 6).trans rfl,(kc_ BK175.out 7).trans rfl,(kc_ BK175.out 8).trans rfl,(kc_ BK175.out 9).trans rfl,(kc_ BK175.out 10).trans rfl,(kc_ BK175.out 11).trans rfl,((HB.out.cell (wb_ w _ hw183_0)).trans hw183_0),((HB.out.cell (wb_ w _ hw183_1)).trans hw183_1),((HB.out.cell (wb_ w _ hw183_2)).trans hw183_2),((HB.out.cell (wb_ w _ hw185_0)).trans hw185_0),((HB.out.cell (wb_ w _ hw185_1)).trans hw185_1),((HB.out.cell (wb_ w _ hw185_2)).trans hw185_2),((HB.out.cell (wb_ w _ hw186_0)).trans hw186_0),((HB.out.cell (wb_ w _ hw186_1)).trans hw186_1),((HB.out.cell (wb_ w _ hw186_2)).trans hw186_2)⟩ (fun hHeld => ?_);clear hK K;refine norm_ (a':=?_) ?_ ?_;rotate_left
                 ·show Act.put _ (some 79) _ = _;simp only [Act.put,s1_,s2_,s3_,i64_w,i32_w];rfl
                 refine pure_ (i:=6) (N:=some 80) (v:=?_) (a':=?_) #[true,true,true,true,true,true,true,false,false,false,false,false,false,false,false,false,false,false,false,false,false,false,false,false,false,false,false,false] rfl rfl (any_of HT_.out (by kernel_rfl)) (fun _ _ _ h => h) (Or.inl ⟨by rfl,?_⟩) ?_ ?_;rotate_left
                 ·intro w';go_simp;with_reducible rfl
                 rotate_left
                 ·simp only [Act.put,s1_,s2_,s3_,i64_w,i32_w];rfl
                 refine pure_ (i:=7) (N:=some 81) (v:=?_) (a':=?_) #[true,true,true,true,true,true,true,true,false,false,false,false,false,false,false,false,false,false,false,false,false,false,false,false,false,false,false,false] rfl rfl (any_of HT_.out (by kernel_rfl)) (fun _ _ _ h => h) (Or.inl ⟨by rfl,?_⟩) ?_ ?_;rotate_left
                 ·intro w';go_simp;with_reducible rfl
                 rotate_left
                 ·simp only [Act.put,s1_,s2_,s3_,i64_w,i32_w];rfl
                 refine pure_ (i:=8) (N:=some 82) (v:=?_) (a':=?_) #[true,true,true,true,true,true,true,true,true,false,false,false,false,false,false,false,false,false,false,false,false,false,false,false,false,false,false,false] rfl rfl (any_of HT_.out (by kernel_rfl)) (fun _ _ _ h => h) (Or.inl ⟨by rfl,?_⟩) ?_ ?_;rotate_left
                 ·intro w';go_simp;with_reducible rfl
                 rotate_left
                 ·simp only [Act.put,s1_,s2_,s3_,i64_w,i32_w];rfl
                 refine pure_ (i:=10) (N:=some 84) (v:=?_) (a':=?_) #[true,true,true,true,true,true,true,true,true,false,true,false,false,false,false,false,false,false,false,false,false,false,false,false,false,false,false,false] rfl rfl (any_of HT_.out (by kernel_rfl)) (fun _ _ _ h => h) (Or.inl ⟨by rfl,?_⟩) ?_ ?_;rotate_left
                 ·intro w';go_simp;with_reducible rfl
                 rotate_left
                 ·simp only [Act.put,s1_,s2_,s3_,i64_w,i32_w];rfl
                 refine pure_ (i:=14) (N:=some 88) (v:=?_) (a':=?_) #[true,true,true,true,true,true,true,true,true,false,true,false,false,false,true,false,false,false,false,false,false,false,false,false,false,false,false,false] rfl rfl (any_of HT_.out (by kernel_rfl)) (fun _ _ _ h => h) (Or.inl ⟨by rfl,?_⟩) ?_ ?_;rotate_left
                 ·intro w';go_simp;with_reducible rfl
                 rotate_left
                 ·simp only [Act.put,s1_,s2_,s3_,i64_w,i32_w];rfl
                 refine take_ (i:=9) (N:=some 83) (v:=?_) (a':=?_) #[true,true,true,true,true,true,true,true,true,true,true,false,false,false,true,false,false,false,false,false,false,false,false,false,false,false,false,false] rfl rfl (take_ofW HT_.out HW_.out (by kernel_rfl)) (fun _ _ _ h => h) (Or.inl ⟨by rfl,?_⟩) hHeld ?_ ?_;rotate_left
                 ·rintro w' ⟨s0,s1,s2,s3,s4,s5,s6,s7,s8,s9,s10,s11,s12,s13,s14,s15,s16,s17,s18,s19,s20⟩;go_simp;with_reducible rfl
                 rotate_left
                 ·simp only [Act.put,s1_,s2_,s3_,i64_w,i32_w];rfl
                 refine pure_ (i:=11) (N:=some 85) (v:=?_) (a':=?_) #[true,true,true,true,true,true,true,true,true,true,true,true,false,false,true,false,false,false,false,false,false,false,false,false,false,false,false,false] rfl rfl (any_of HT_.out (by kernel_rfl)) (fun _ _ _ h => h) (Or.inl ⟨by rfl,?_⟩) ?_ ?_;rotate_left
                 ·intro w';go_simp;with_reducible rfl
                 rotate_left
                 ·simp only [Act.put,s1_,s2_,s3_,i64_w,i32_w];rfl
                 refine pure_ (i:=12) (N:=some 86) (v:=?_) (a':=?_) #[true,true,true,true,true,true,true,true,true,true,true,true,true,false,true,false,false,false,false,false,false,false,false,false,false,false,false,false] rfl rfl (any_of HT_.out (by kernel_rfl)) (fun _ _ _ h => h) (Or.inl ⟨by rfl,?_⟩) ?_ ?_;rotate_left
                 ·intro w';go_simp;with_reducible rfl
                 rotate_left
                 ·simp only [Act.put,s1_,s2_,s3_,i64_w,i32_w];rfl
                 refine take_ (i:=13) (N:=some 87) (v:=?_) (a':=?_) #[true,true,true,true,true,true,true,true,true,true,true,true,true,true,true,false,false,false,false,false,false,false,false,false,false,false,false,false] rfl rfl (take_ofW HT_.out HW_.out (by kernel_rfl)) (fun _ _ _ h => h) (Or.inl ⟨by rfl,?_⟩) hHeld ?_ ?_;rotate_left
                 ·rintro w' ⟨s0,s1,s2,s3,s4,s5,s6,s7,s8,s9,s10,s11,s12,s13,s14,s15,s16,s17,s18,s19,s20⟩;go_simp;with_reducible rfl
                 rotate_left
                 ·simp only [Act.put,s1_,s2_,s3_,i64_w,i32_w];rfl
                 refine pure_ (i:=15) (N:=some 89) (v:=?_) (a':=?_) #[true,true,true,true,true,true,true,true,true,true,true,true,true,true,true,true,false,false,false,false,false,false,false,false,false,false,false,false] rfl rfl (any_of HT_.out (by kernel_rfl)) (fun _ _ _ h => h) (Or.inl ⟨by rfl,?_⟩) ?_ ?_;rotate_left
                 ·intro w';go_simp;with_reducible rfl
                 rotate_left
                 ·simp only [Act.put,s1_,s2_,s3_,i64_w,i32_w];rfl
                 refine pure_ (i:=16) (N:=some 90) (v:=?_) (a':=?_) #[true,true,true,true,true,true,true,true,true,true,true,true,true,true,true,true,true,false,false,false,false,false,false,false,false,false,false,false] rfl rfl (any_of HT_.out (by kernel_rfl)) (fun _ _ _ h => h) (Or.inl ⟨by rfl,?_⟩) ?_ ?_;rotate_left
                 ·intro w';go_simp;with_reducible rfl
                 rotate_left
                 ·simp only [Act.put,s1_,s2_,s3_,i64_w,i32_w];rfl
                 refine pure_ (i:=17) (N:=some 91) (v:=?_) (a':=?_) #[true,true,true,true,true,true,true,true,true,true,true,true,true,true,true,true,true,true,false,false,false,false,false,false,false,false,false,false] rfl rfl (any_of HT_.out (by kernel_rfl)) (fun _ _ _ h => h) (Or.inl ⟨by rfl,?_⟩) ?_ ?_;rotate_left
                 ·intro w';go_simp;with_reducible rfl
                 rotate_left
                 ·simp only [Act.put,s1_,s2_,s3_,i64_w,i32_w];rfl
                 refine pure_ (i:=18) (N:=some 92) (v:=?_) (a':=?_) #[true,true,true,true,true,true,true,true,true,true,true,true,true,true,true,true,true,true,true,false,false,false,false,false,false,false,false,false] rfl rfl (any_of HT_.out (by kernel_rfl)) (fun _ _ _ h => h) (Or.inl ⟨by rfl,?_⟩) ?_ ?_;rotate_left
                 ·intro w';go_simp;with_reducible rfl
                 rotate_left
                 ·simp only [Act.put,s1_,s2_,s3_,i64_w,i32_w];rfl
                 refine pure_ (i:=20) (N:=some 94) (v:=?_) (a':=?_) #[true,true,true,true,true,true,true,true,true,true,true,true,true,true,true,true,true,true,true,false,true,false,false,false,false,false,false,false] rfl rfl (any_of HT_.out (by kernel_rfl)) (fun _ _ _ h => h) (Or.inl ⟨by rfl,?_⟩) ?_ ?_;rotate_left
                 ·intro w';go_simp;with_reducible rfl
                 rotate_left
                 ·simp only [Act.put,s1_,s2_,s3_,i64_w,i32_w];rfl
                 refine pure_ (i:=24) (N:=some 98) (v:=?_) (a':=?_) #[true,true,true,true,true,true,true,true,true,true,true,true,true,true,true,true,true,true,true,false,true,false,false,false,true,false,false,false] rfl rfl (any_of HT_.out (by kernel_rfl)) (fun _ _ _ h => h) (Or.inl ⟨by rfl,?_⟩) ?_ ?_;rotate_left
                 ·intro w';go_simp;with_reducible rfl
                 rotate_left
                 ·simp only [Act.put,s1_,s2_,s3_,i64_w,i32_w];rfl
                 refine take_ (i:=19) (N:=some 93) (v:=?_) (a':=?_) #[true,true,true,true,true,true,true,true,true,true,true,true,true,true,true,true,true,true,true,true,true,false,false,false,true,false,false,false] rfl rfl (take_ofW HT_.out HW_.out (by kernel_rfl)) (fun _ _ _ h => h) (Or.inl ⟨by rfl,?_⟩) hHeld ?_ ?_;rotate_left
                 ·rintro w' ⟨s0,s1,s2,s3,s4,s5,s6,s7,s8,s9,s10,s11,s12,s13,s14,s15,s16,s17,s18,s19,s20⟩;go_simp;with_reducible rfl
                 rotate_left
                 ·simp only [Act.put,s1_,s2_,s3_,i64_w,i32_w];rfl
                 refine pure_ (i:=21) (N:=some 95) (v:=?_) (a':=?_) #[true,true,true,true,true,true,true,true,true,true,true,true,true,true,true,true,true,true,true,true,true,true,false,false,true,false,false,false] rfl rfl (any_of HT_.out (by kernel_rfl)) (fun _ _ _ h => h) (Or.inl ⟨by rfl,?_⟩) ?_ ?_;rotate_left
                 ·intro w';go_simp;with_reducible rfl
                 rotate_left
                 ·simp only [Act.put,s1_,s2_,s3_,i64_w,i32_w];rfl
                 refine pure_ (i:=22) (N:=some 96) (v:=?_) (a':=?_) #[true,true,true,true,true,true,true,true,true,true,true,true,true,true,true,true,true,true,true,true,true,true,true,false,true,false,false,false] rfl rfl (any_of HT_.out (by kernel_rfl)) (fun _ _ _ h => h) (Or.inl ⟨by rfl,?_⟩) ?_ ?_;rotate_left
                 ·intro w';go_simp;with_reducible rfl
                 rotate_left
                 ·simp only [Act.put,s1_,s2_,s3_,i64_w,i32_w];rfl
                 refine take_ (i:=23) (N:=some 97) (v:=?_) (a':=?_) #[true,true,true,true,true,true,true,true,true,true,true,true,true,true,true,true,true,true,true,true,true,true,true,true,true,false,false,false] rfl rfl (take_ofW HT_.out HW_.out (by kernel_rfl)) (fun _ _ _ h => h) (Or.inl ⟨by rfl,?_⟩) hHeld ?_ ?_;rotate_left
                 ·rintro w' ⟨s0,s1,s2,s3,s4,s5,s6,s7,s8,s9,s10,s11,s12,s13,s14,s15,s16,s17,s18,s19,s20⟩;go_simp;with_reducible rfl
                 rotate_left
                 ·simp only [Act.put,s1_,s2_,s3_,i64_w,i32_w];rfl
                 refine take_ (i:=25) (N:=some 99) (v:=?_) (a':=?_) #[true,true,true,true,true,true,true,true,true,true,true,true,true,true,true,true,true,true,true,true,true,true,true,true,true,true,false,false] rfl rfl (take_ofW HT_.out HW_.out (by kernel_rfl)) (fun _ _ _ h => h) (Or.inl ⟨by rfl,?_⟩) hHeld ?_ ?_;rotate_left
                 ·rintro w' ⟨s0,s1,s2,s3,s4,s5,s6,s7,s8,s9,s10,s11,s12,s13,s14,s15,s16,s17,s18,s19,s20⟩;go_simp;with_reducible rfl
                 rotate_left
                 ·simp only [Act.put,s1_,s2_,s3_,i64_w,i32_w];rfl
                 refine pure_ (i:=26) (N:=some 100) (v:=?_) (a':=?_) #[true,true,true,true,true,true,true,true,true,true,true,true,true,true,true,true,true,true,true,true,true,true,true,true,true,true,true,false] rfl rfl (any_of HT_.out (by kernel_rfl)) (fun _ _ _ h => h) (Or.inl ⟨by rfl,?_⟩) ?_ ?_;rotate_left
                 ·intro w';go_simp;with_reducible rfl
                 rotate_left
                 ·simp only [Act.put,s1_,s2_,s3_,i64_w,i32_w];rfl
                 refine pure_ (i:=27) (N:=some 101) (v:=?_) (a':=?_) #[true,true,true,true,true,true,true,true,true,true,true,true,true,true,true,true,true,true,true,true,true,true,true,true,true,true,true,true] rfl rfl (any_of HT_.out (by kernel_rfl)) (fun _ _ _ h => h) (Or.inl ⟨by rfl,?_⟩) ?_ ?_;rotate_left
                 ·intro w';go_simp;with_reducible rfl
                 rotate_left
                 ·simp only [Act.put,s1_,s2_,s3_,i64_w,i32_w];rfl
                 refine done_ (done_of HT_.out (by kernel_rfl)) ?_;have hcz51_0 : w50.cell? ⟨gb175,0,none⟩ = some (.int .i64 a0_0):=(kc_ BK175.out 0).trans rfl;have hcz51_1 : w50.cell? ⟨gb175,1,none⟩ = some (.int .i64 a0_1):=(kc_ BK175.out 1).trans rfl;have hcz51_2 : w50.cell? ⟨gb175,2,none⟩ = some (.int .i64 a0_2):=(kc_ BK175.out 2).trans rfl;have hcz51_3 : w50.cell? ⟨gb175,3,none⟩ = some (.int .i64 a0_3):=(kc_ BK175.out 3).trans rfl;have hcz51_4 : w50.cell? ⟨gb175,4,none⟩ = some (.int .i64 a0_4):=(kc_ BK175.out 4).trans rfl;have hcz51_5 : w50.cell? ⟨gb175,5,none⟩ = some (.int .i64 a0_5):=(kc_ BK175.out 5).trans rfl;have hcz51_6 : w50.cell? ⟨gb175,6,none⟩ = some (.int .i64 a0_6):=(kc_ BK175.out 6).trans rfl;have hcz51_7 : w50.cell? ⟨gb175,7,none⟩ = some (.bool a0_7):=(kc_ BK175.out 7).trans rfl;have hcz51_8 : w50.cell? ⟨gb175,8,none⟩ = some (.slice (some ad183) l0_8.length c0_8):=(kc_ BK175.out 8).trans rfl;have hcz51_9 : w50.cell? ⟨gb175,9,none⟩ = some (.slice A0_9 l0_9.length c0_9):=(kc_ BK175.out 9).trans rfl;have hcz51_10 : w50.cell? ⟨gb175,10,none⟩ = some (.string a0_10):=(kc_ BK175.out 10).trans rfl;have hcz51_11 : w50.cell? ⟨gb175,11,none⟩ = some (.bool a0_11):=(kc_ BK175.out 11).trans rfl;have hfz51_0:=kf_ BK175.out 0;have hfz51_1:=kf_ BK175.out 1;have hfz51_2:=kf_ BK175.out 2;have hfz51_3:=kf_ BK175.out 3;have hfz51_4:=kf_ BK175.out 4;have hfz51_5:=kf_ BK175.out 5;have hfz51_6:=kf_ BK175.out 6;have hfz51_7:=kf_ BK175.out 7;have hfz51_8:=kf_ BK175.out 8;have hfz51_9:=kf_ BK175.out 9;have hfz51_10:=kf_ BK175.out 10;have hfz51_11:=kf_ BK175.out 11;have p187 : 0 ≤ (x4_4 : Int):=oda_;have q187 : x4_4 < (l0_8.length : Int):=oda_;obtain ⟨ad187,e187,hx187_0,hx187_1,hx187_2⟩:=at_T37 HR0_8.out x4_4 p187 q187;obtain rfl : ad183 = ad187:=(by injection e187);replace hx187_0:=(HB.out.cell (wb_ w _ hx187_0)).trans hx187_0;replace hx187_1:=(HB.out.cell (wb_ w _ hx187_1)).trans hx187_1;replace hx187_2:=(HB.out.cell (wb_ w _ hx187_2)).trans hx187_2;replace p187:=eq_true p187;replace q187:=eq_true q187
                 try go_wp2
                 go_roundg k4
                 case measure => have:=HJ1.out;have:=HJ14.out;have:=HJ27.out;have:=HK4.out;omega
                 case rel => exact ⟨((rd_T37 l0_8 x4_4).f0),(wrap64 (x4_4 + 1)),(by first|rfl|(simp;done)|(simp [*];done)),(by first|rfl|(simp;done)|(simp [*];done)),H',⟨by have:=HJ1.out;have:=HJ14.out;have:=HJ27.out;have:=HK4.out;omega⟩,⟨by (with_reducible repeat (first|refine kn_ ?_ _|refine kd_ ?_|refine ka_ ?_ _));exact BK175.out⟩,⟨by repeat (first|(with_reducible first|exact HB.out|apply pa_|apply pn_|apply pd_|refine ps_ ?_ GE175.out)|exact HB.out)⟩⟩
              ·replace c39:=Bool.eq_false_iff.mpr c39;subst c39
               have H1 : (some false) = some r:=by rw [if_neg (show ¬ (false = true) by decide)] at H;exact H
               clear H;have H:=H1;clear H1;obtain rfl:=Option.some.inj H;have hcz52_0 : wr.cell? ⟨gb175,0,none⟩ = some (.int .i64 a0_0):=(kc_ BK175.out 0).trans rfl;have hcz52_1 : wr.cell? ⟨gb175,1,none⟩ = some (.int .i64 a0_1):=(kc_ BK175.out 1).trans rfl;have hcz52_2 : wr.cell? ⟨gb175,2,none⟩ = some (.int .i64 a0_2):=(kc_ BK175.out 2).trans rfl;have hcz52_3 : wr.cell? ⟨gb175,3,none⟩ = some (.int .i64 a0_3):=(kc_ BK175.out 3).trans rfl;have hcz52_4 : wr.cell? ⟨gb175,4,none⟩ = some (.int .i64 a0_4):=(kc_ BK175.out 4).trans rfl;have hcz52_5 : wr.cell? ⟨gb175,5,none⟩ = some (.int .i64 a0_5):=(kc_ BK175.out 5).trans rfl;have hcz52_6 : wr.cell? ⟨gb175,6,none⟩ = some (.int .i64 a0_6):=(kc_ BK175.out 6).trans rfl;have hcz52_7 : wr.cell? ⟨gb175,7,none⟩ = some (.bool a0_7):=(kc_ BK175.out 7).trans rfl;have hcz52_8 : wr.cell? ⟨gb175,8,none⟩ = some (.slice A0_8 l0_8.length c0_8):=(kc_ BK175.out 8).trans rfl;have hcz52_9 : wr.cell? ⟨gb175,9,none⟩ = some (.slice A0_9 l0_9.length c0_9):=(kc_ BK175.out 9).trans rfl;have hcz52_10 : wr.cell? ⟨gb175,10,none⟩ = some (.string a0_10):=(kc_ BK175.out 10).trans rfl;have hcz52_11 : wr.cell? ⟨gb175,11,none⟩ = some (.bool a0_11):=(kc_ BK175.out 11).trans rfl;have hfz52_0:=kf_ BK175.out 0;have hfz52_1:=kf_ BK175.out 1;have hfz52_2:=kf_ BK175.out 2;have hfz52_3:=kf_ BK175.out 3;have hfz52_4:=kf_ BK175.out 4;have hfz52_5:=kf_ BK175.out 5;have hfz52_6:=kf_ BK175.out 6;have hfz52_7:=kf_ BK175.out 7;have hfz52_8:=kf_ BK175.out 8;have hfz52_9:=kf_ BK175.out 9;have hfz52_10:=kf_ BK175.out 10;have hfz52_11:=kf_ BK175.out 11
               try go_wp2
               replace BK175:=A_ (kd_ BK175.out);replace HB:=A_ (pd_ HB.out);have p183 : 0 ≤ (x4_4 : Int):=oda_;have q183 : x4_4 < (l0_8.length : Int):=oda_;obtain ⟨ad183,e183,hx183_0,hx183_1,hx183_2⟩:=at_T37 HR0_8.out x4_4 p183 q183;have hw183_2:=hx183_2;have hw183_1:=hx183_1;have hw183_0:=hx183_0
               cases e183
               replace hx183_0:=(HB.out.cell (wb_ w _ hx183_0)).trans hx183_0;replace hx183_1:=(HB.out.cell (wb_ w _ hx183_1)).trans hx183_1;replace hx183_2:=(HB.out.cell (wb_ w _ hx183_2)).trans hx183_2;replace p183:=eq_true p183;replace q183:=eq_true q183;refine start_ (n:=28) (S:=fun w' => w'.cell? ⟨gb175,0,none⟩ = some (.int .i64 a0_0) ∧ w'.cell? ⟨gb175,1,none⟩ = some (.int .i64 a0_1) ∧ w'.cell? ⟨gb175,2,none⟩ = some (.int .i64 a0_2) ∧ w'.cell? ⟨gb175,3,none⟩ = some (.int .i64 a0_3) ∧ w'.cell? ⟨gb175,4,none⟩ = some (.int .i64 a0_4) ∧ w'.cell? ⟨gb175,5,none⟩ = some (.int .i64 a0_5) ∧ w'.cell? ⟨gb175,6,none⟩ = some (.int .i64 a0_6) ∧ w'.cell? ⟨gb175,7,none⟩ = some (.bool a0_7) ∧ w'.cell? ⟨gb175,8,none⟩ = some (.slice (some ad183) l0_8.length c0_8) ∧ w'.cell? ⟨gb175,9,none⟩ = some (.slice A0_9 l0_9.length c0_9) ∧ w'.cell? ⟨gb175,10,none⟩ = some (.string a0_10) ∧ w'.cell? ⟨gb175,11,none⟩ = some (.bool a0_11) ∧ w'.cell? (ad183.add ((x4_4).toNat * 3)) = some (.int .i64 ((rd_T37 l0_8 x4_4).f0)) ∧ w'.cell? ⟨(ad183.add ((x4_4).toNat * 3)).block,(ad183.add ((x4_4).toNat * 3)).off + 1,none⟩ = some (.int .i64 ((rd_T37 l0_8 x4_4).f1)) ∧ w'.cell? ⟨(ad183.add ((x4_4).toNat * 3)).block,(ad183.add ((x4_4).toNat * 3)).off + 2,none⟩ = some (.string ((rd_T37 l0_8 x4_4).f2))) (ds:=[]) #[false,false,false,false,false,false,false,false,false,false,false,false,false,false,false,false,false,false,false,false,false,false,false,false,false,false,false,false] (by kernel_rfl) rfl rfl ⟨(kc_ BK175.out 0).trans rfl,(kc_ BK175.out 1).trans rfl,(kc_ BK175.out 2).trans rfl,(kc_ BK175.out 3).trans rfl,(kc_ BK175.out 4).trans rfl,(kc_ BK175.out 5).trans rfl,(kc_ BK175.out 6).trans rfl,(kc_ BK175.out 7).trans rfl,(kc_ BK175.out 8).trans rfl,(kc_ BK175.out 9).trans rfl,(kc_ BK175.out 10).trans rfl,(kc_ BK175.out 11).trans rfl,((HB.out.cell (wb_ w _ hw183_0)).trans hw183_0),((HB.out.cell (wb_ w _ hw183_1)).trans hw183_1),((HB.out.cell (wb_ w _ hw183_2)).trans hw183_2)⟩ (fun hHeld => ?_);refine with_tabW spec_MessageOk.tab11 spec_MessageOk.bits11 (fun HT_ HW_ => ?_);generalize wr.drew = w53 at BK175 HB hx183_0 hx183_1 hx183_2 hHeld ⊢;refine pure_ (i:=0) (N:=some 74) (v:=?_) (a':=?_) #[true,false,false,false,false,false,false,false,false,false,false,false,false,false,false,false,false,false,false,false,false,false,false,false,false,false,false,false] rfl rfl (any_of HT_.out (by kernel_rfl)) (fun _ _ _ h => h) (Or.inl ⟨by rfl,?_⟩) ?_ ?_;rotate_left
               ·intro w';go_simp;with_reducible rfl
               rotate_left
               ·simp only [Act.put,s1_,s2_,s3_,i64_w,i32_w];rfl
               refine pure_ (i:=2) (N:=some 76) (v:=?_) (a':=?_) #[true,false,true,false,false,false,false,false,false,false,false,false,false,false,false,false,false,false,false,false,false,false,false,false,false,false,false,false] rfl rfl (any_of HT_.out (by kernel_rfl)) (fun _ _ _ h => h) (Or.inl ⟨by rfl,?_⟩) ?_ ?_;rotate_left
               ·intro w';go_simp;with_reducible rfl
               rotate_left
               ·simp only [Act.put,s1_,s2_,s3_,i64_w,i32_w];rfl
               refine take_ (i:=1) (N:=some 75) (v:=?_) (a':=?_) #[true,true,true,false,false,false,false,false,false,false,false,false,false,false,false,false,false,false,false,false,false,false,false,false,false,false,false,false] rfl rfl (take_ofW HT_.out HW_.out (by kernel_rfl)) (fun _ _ _ h => h) (Or.inl ⟨by rfl,?_⟩) hHeld ?_ ?_;rotate_left
               ·rintro w' ⟨s0,s1,s2,s3,s4,s5,s6,s7,s8,s9,s10,s11,s12,s13,s14⟩;go_simp;with_reducible rfl
               rotate_left
               ·simp only [Act.put,s1_,s2_,s3_,i64_w,i32_w];rfl
               refine pure_ (i:=3) (N:=some 77) (v:=?_) (a':=?_) #[true,true,true,true,false,false,false,false,false,false,false,false,false,false,false,false,false,false,false,false,false,false,false,false,false,false,false,false] rfl rfl (any_of HT_.out (by kernel_rfl)) (fun _ _ _ h => h) (Or.inl ⟨by rfl,?_⟩) ?_ ?_;rotate_left
               ·intro w';go_simp;with_reducible rfl
               rotate_left
               ·simp only [Act.put,s1_,s2_,s3_,i64_w,i32_w];rfl
               refine take_ (i:=4) (N:=some 78) (v:=?_) (a':=?_) #[true,true,true,true,true,false,false,false,false,false,false,false,false,false,false,false,false,false,false,false,false,false,false,false,false,false,false,false] rfl rfl (take_ofW HT_.out HW_.out (by kernel_rfl)) (fun _ _ _ h => h) (Or.inl ⟨by rfl,?_⟩) hHeld ?_ ?_;rotate_left
               ·rintro w' ⟨s0,s1,s2,s3,s4,s5,s6,s7,s8,s9,s10,s11,s12,s13,s14⟩;go_simp;with_reducible rfl
               rotate_left
               ·simp only [Act.put,s1_,s2_,s3_,i64_w,i32_w];rfl
               refine one_ (i:=5) (N:=some 79) #[true,true,true,true,true,true,false,false,false,false,false,false,false,false,false,false,false,false,false,false,false,false,false,false,false,false,false,false] rfl rfl (one_of HT_.out (by kernel_rfl)) (by decide) (fun K hK => ?_);refine goes_ Try.func95 (by kernel_rfl) rfl #[.agg #[.int .i64 ((rd_T37 l0_8 x4_4).f0),.int .i64 ((rd_T37 l0_8 x4_4).f1),.string ((rd_T37 l0_8 x4_4).f2)]] (by rfl) rfl rfl (by (try simp only [s4_,s5_,s6_]);first|done|rfl|(simp only [List.length_drop,List.length_take];rfl)) ?_;with_reducible refine (spec_EntryOk.calls k4 ((rd_T37 l0_8 x4_4).f0) ((rd_T37 l0_8 x4_4).f1) ((rd_T37 l0_8 x4_4).f2) false _ A38.out).mono ?_;rintro e w54 ⟨rfl,hb⟩;refine ⟨_,rfl,?_⟩;replace BK175:=A_ (kb_ (by (with_reducible repeat (first|refine kn_ ?_ _|refine kd_ ?_|refine ka_ ?_ _));exact BK175.out) hb);replace HB:=A_ (bs_ (by repeat (first|(with_reducible first|exact HB.out|apply pa_|apply pn_|apply pd_|refine ps_ ?_ GE175.out)|exact HB.out)) hb)
               (try clear hb)
               (try clear hb2)
               (try clear hk)
               (try clear hi)
               refine hK.out _ _ ⟨(kc_ BK175.out 0).trans rfl,(kc_ BK175.out 1).trans rfl,(kc_ BK175.out 2).trans rfl,(kc_ BK175.out 3).trans rfl,(kc_ BK175.out 4).trans rfl,(kc_ BK175.out 5).trans rfl,(kc_ BK175.out 6).trans rfl,(kc_ BK175.out 7).trans rfl,(kc_ BK175.out 8).trans rfl,(kc_ BK175.out 9).trans rfl,(kc_ BK175.out 10).trans rfl,(kc_ BK175.out 11).trans rfl,((HB.out.cell (wb_ w _ hw183_0)).trans hw183_0),((HB.out.cell (wb_ w _ hw183_1)).trans hw183_1),((HB.out.cell (wb_ w _ hw183_2)).trans hw183_2)⟩ (fun hHeld => ?_);clear hK K;refine norm_ (a':=?_) ?_ ?_;rotate_left
               ·show Act.put _ (some 79) _ = _;simp only [Act.put,s1_,s2_,s3_,i64_w,i32_w];rfl
               refine pure_ (i:=6) (N:=some 80) (v:=?_) (a':=?_) #[true,true,true,true,true,true,true,false,false,false,false,false,false,false,false,false,false,false,false,false,false,false,false,false,false,false,false,false] rfl rfl (any_of HT_.out (by kernel_rfl)) (fun _ _ _ h => h) (Or.inl ⟨by rfl,?_⟩) ?_ ?_;rotate_left
               ·intro w';go_simp;with_reducible rfl
               rotate_left
               ·simp only [Act.put,s1_,s2_,s3_,i64_w,i32_w];rfl
               refine pure_ (i:=7) (N:=some 81) (v:=?_) (a':=?_) #[true,true,true,true,true,true,true,true,false,false,false,false,false,false,false,false,false,false,false,false,false,false,false,false,false,false,false,false] rfl rfl (any_of HT_.out (by kernel_rfl)) (fun _ _ _ h => h) (Or.inl ⟨by rfl,?_⟩) ?_ ?_;rotate_left
               ·intro w';go_simp;with_reducible rfl
               rotate_left
               ·simp only [Act.put,s1_,s2_,s3_,i64_w,i32_w];rfl
               refine pure_ (i:=8) (N:=some 82) (v:=undef) (a':=?_) #[true,true,true,true,true,true,true,true,true,false,false,false,false,false,false,false,false,false,false,false,false,false,false,false,false,false,false,false] rfl rfl (any_of HT_.out (by kernel_rfl)) (fun _ _ _ h => h) (Or.inr ⟨by rfl,rfl⟩) ?_ ?_;rotate_left
               ·simp only [Act.put,s1_,s2_,s3_,i64_w,i32_w];rfl
               refine pure_ (i:=9) (N:=some 83) (v:=undef) (a':=?_) #[true,true,true,true,true,true,true,true,true,true,false,false,false,false,false,false,false,false,false,false,false,false,false,false,false,false,false,false] rfl rfl (any_of HT_.out (by kernel_rfl)) (fun _ _ _ h => h) (Or.inr ⟨by rfl,rfl⟩) ?_ ?_;rotate_left
               ·simp only [Act.put,s1_,s2_,s3_,i64_w,i32_w];rfl
               refine pure_ (i:=10) (N:=some 84) (v:=undef) (a':=?_) #[true,true,true,true,true,true,true,true,true,true,true,false,false,false,false,false,false,false,false,false,false,false,false,false,false,false,false,false] rfl rfl (any_of HT_.out (by kernel_rfl)) (fun _ _ _ h => h) (Or.inr ⟨by rfl,rfl⟩) ?_ ?_;rotate_left
               ·simp only [Act.put,s1_,s2_,s3_,i64_w,i32_w];rfl
               refine pure_ (i:=11) (N:=some 85) (v:=undef) (a':=?_) #[true,true,true,true,true,true,true,true,true,true,true,true,false,false,false,false,false,false,false,false,false,false,false,false,false,false,false,false] rfl rfl (any_of HT_.out (by kernel_rfl)) (fun _ _ _ h => h) (Or.inr ⟨by rfl,rfl⟩) ?_ ?_;rotate_left
               ·simp only [Act.put,s1_,s2_,s3_,i64_w,i32_w];rfl
               refine pure_ (i:=12) (N:=some 86) (v:=undef) (a':=?_) #[true,true,true,true,true,true,true,true,true,true,true,true,true,false,false,false,false,false,false,false,false,false,false,false,false,false,false,false] rfl rfl (any_of HT_.out (by kernel_rfl)) (fun _ _ _ h => h) (Or.inr ⟨by rfl,rfl⟩) ?_ ?_;rotate_left
               ·simp only [Act.put,s1_,s2_,s3_,i64_w,i32_w];rfl
               refine pure_ (i:=13) (N:=some 87) (v:=undef) (a':=?_) #[true,true,true,true,true,true,true,true,true,true,true,true,true,true,false,false,false,false,false,false,false,false,false,false,false,false,false,false] rfl rfl (any_of HT_.out (by kernel_rfl)) (fun _ _ _ h => h) (Or.inr ⟨by rfl,rfl⟩) ?_ ?_;rotate_left
               ·simp only [Act.put,s1_,s2_,s3_,i64_w,i32_w];rfl
               refine pure_ (i:=14) (N:=some 88) (v:=undef) (a':=?_) #[true,true,true,true,true,true,true,true,true,true,true,true,true,true,true,false,false,false,false,false,false,false,false,false,false,false,false,false] rfl rfl (any_of HT_.out (by kernel_rfl)) (fun _ _ _ h => h) (Or.inr ⟨by rfl,rfl⟩) ?_ ?_;rotate_left
               ·simp only [Act.put,s1_,s2_,s3_,i64_w,i32_w];rfl
               refine pure_ (i:=15) (N:=some 89) (v:=undef) (a':=?_) #[true,true,true,true,true,true,true,true,true,true,true,true,true,true,true,true,false,false,false,false,false,false,false,false,false,false,false,false] rfl rfl (any_of HT_.out (by kernel_rfl)) (fun _ _ _ h => h) (Or.inr ⟨by rfl,rfl⟩) ?_ ?_;rotate_left
               ·simp only [Act.put,s1_,s2_,s3_,i64_w,i32_w];rfl
               refine pure_ (i:=16) (N:=some 90) (v:=?_) (a':=?_) #[true,true,true,true,true,true,true,true,true,true,true,true,true,true,true,true,true,false,false,false,false,false,false,false,false,false,false,false] rfl rfl (any_of HT_.out (by kernel_rfl)) (fun _ _ _ h => h) (Or.inl ⟨by rfl,?_⟩) ?_ ?_;rotate_left
               ·intro w';go_simp;with_reducible rfl
               rotate_left
               ·simp only [Act.put,s1_,s2_,s3_,i64_w,i32_w];rfl
               refine pure_ (i:=17) (N:=some 91) (v:=?_) (a':=?_) #[true,true,true,true,true,true,true,true,true,true,true,true,true,true,true,true,true,true,false,false,false,false,false,false,false,false,false,false] rfl rfl (any_of HT_.out (by kernel_rfl)) (fun _ _ _ h => h) (Or.inl ⟨by rfl,?_⟩) ?_ ?_;rotate_left
               ·intro w';go_simp;with_reducible rfl
               rotate_left
               ·simp only [Act.put,s1_,s2_,s3_,i64_w,i32_w];rfl
               refine pure_ (i:=18) (N:=some 92) (v:=undef) (a':=?_) #[true,true,true,true,true,true,true,true,true,true,true,true,true,true,true,true,true,true,true,false,false,false,false,false,false,false,false,false] rfl rfl (any_of HT_.out (by kernel_rfl)) (fun _ _ _ h => h) (Or.inr ⟨by rfl,rfl⟩) ?_ ?_;rotate_left
               ·simp only [Act.put,s1_,s2_,s3_,i64_w,i32_w];rfl
               refine pure_ (i:=19) (N:=some 93) (v:=undef) (a':=?_) #[true,true,true,true,true,true,true,true,true,true,true,true,true,true,true,true,true,true,true,true,false,false,false,false,false,false,false,false] rfl rfl (any_of HT_.out (by kernel_rfl)) (fun _ _ _ h => h) (Or.inr ⟨by rfl,rfl⟩) ?_ ?_;rotate_left
               ·simp only [Act.put,s1_,s2_,s3_,i64_w,i32_w];rfl
               refine pure_ (i:=20) (N:=some 94) (v:=undef) (a':=?_) #[true,true,true,true,true,true,true,true,true,true,true,true,true,true,true,true,true,true,true,true,true,false,false,false,false,false,false,false] rfl rfl (any_of HT_.out (by kernel_rfl)) (fun _ _ _ h => h) (Or.inr ⟨by rfl,rfl⟩) ?_ ?_;rotate_left
               ·simp only [Act.put,s1_,s2_,s3_,i64_w,i32_w];rfl
               refine pure_ (i:=21) (N:=some 95) (v:=undef) (a':=?_) #[true,true,true,true,true,true,true,true,true,true,true,true,true,true,true,true,true,true,true,true,true,true,false,false,false,false,false,false] rfl rfl (any_of HT_.out (by kernel_rfl)) (fun _ _ _ h => h) (Or.inr ⟨by rfl,rfl⟩) ?_ ?_;rotate_left
               ·simp only [Act.put,s1_,s2_,s3_,i64_w,i32_w];rfl
               refine pure_ (i:=22) (N:=some 96) (v:=undef) (a':=?_) #[true,true,true,true,true,true,true,true,true,true,true,true,true,true,true,true,true,true,true,true,true,true,true,false,false,false,false,false] rfl rfl (any_of HT_.out (by kernel_rfl)) (fun _ _ _ h => h) (Or.inr ⟨by rfl,rfl⟩) ?_ ?_;rotate_left
               ·simp only [Act.put,s1_,s2_,s3_,i64_w,i32_w];rfl
               refine pure_ (i:=23) (N:=some 97) (v:=undef) (a':=?_) #[true,true,true,true,true,true,true,true,true,true,true,true,true,true,true,true,true,true,true,true,true,true,true,true,false,false,false,false] rfl rfl (any_of HT_.out (by kernel_rfl)) (fun _ _ _ h => h) (Or.inr ⟨by rfl,rfl⟩) ?_ ?_;rotate_left
               ·simp only [Act.put,s1_,s2_,s3_,i64_w,i32_w];rfl
               refine pure_ (i:=24) (N:=some 98) (v:=undef) (a':=?_) #[true,true,true,true,true,true,true,true,true,true,true,true,true,true,true,true,true,true,true,true,true,true,true,true,true,false,false,false] rfl rfl (any_of HT_.out (by kernel_rfl)) (fun _ _ _ h => h) (Or.inr ⟨by rfl,rfl⟩) ?_ ?_;rotate_left
               ·simp only [Act.put,s1_,s2_,s3_,i64_w,i32_w];rfl
               refine pure_ (i:=25) (N:=some 99) (v:=undef) (a':=?_) #[true,true,true,true,true,true,true,true,true,true,true,true,true,true,true,true,true,true,true,true,true,true,true,true,true,true,false,false] rfl rfl (any_of HT_.out (by kernel_rfl)) (fun _ _ _ h => h) (Or.inr ⟨by rfl,rfl⟩) ?_ ?_;rotate_left
               ·simp only [Act.put,s1_,s2_,s3_,i64_w,i32_w];rfl
               refine pure_ (i:=26) (N:=some 100) (v:=undef) (a':=?_) #[true,true,true,true,true,true,true,true,true,true,true,true,true,true,true,true,true,true,true,true,true,true,true,true,true,true,true,false] rfl rfl (any_of HT_.out (by kernel_rfl)) (fun _ _ _ h => h) (Or.inr ⟨by rfl,rfl⟩) ?_ ?_;rotate_left
               ·simp only [Act.put,s1_,s2_,s3_,i64_w,i32_w];rfl
               refine pure_ (i:=27) (N:=some 101) (v:=?_) (a':=?_) #[true,true,true,true,true,true,true,true,true,true,true,true,true,true,true,true,true,true,true,true,true,true,true,true,true,true,true,true] rfl rfl (any_of HT_.out (by kernel_rfl)) (fun _ _ _ h => h) (Or.inl ⟨by rfl,?_⟩) ?_ ?_;rotate_left
               ·intro w';go_simp;with_reducible rfl
               rotate_left
               ·simp only [Act.put,s1_,s2_,s3_,i64_w,i32_w];rfl
               refine done_ (done_of HT_.out (by kernel_rfl)) ?_
               try go_wp2
               go_ret;exact ⟨by first|rfl|(simp [*,errW_none,errW_some] <;> rfl),by repeat (first|(with_reducible first|exact HB.out|apply pa_|apply pn_|apply pd_|refine ps_ ?_ GE175.out)|exact HB.out)⟩
             ·rw [if_neg c37] at H;exact absurd H (by simp)
            ·rw [if_neg c36] at H;have c36b0 : decide (x4_4 < (l0_8.length : Int)) = false:=decide_eq_false c36;clear c36
             by_cases c55 : a0_0 = 5
             ·rw [if_pos c55] at H;have c55b0 : (a0_0 == 5) = true:=beq_iff_eq.mpr c55;have c55b1 : (a0_0 != 5) = false:=bne_eq_false_iff_eq.mpr c55;clear c55;replace H:=ob_.mp H;obtain ⟨t188,A560,H⟩:=H;replace H : (if t188 = true then (some (decide ((a0_10.size : Int) ≤ 60))) else (some false)) = some r:=H;have A56:=A_ A560;clear A560
              by_cases c57 : t188 = true
              ·subst c57
               have H1 : (some (decide ((a0_10.size : Int) ≤ 60))) = some r:=by rw [if_pos rfl] at H;exact H
               clear H;have H:=H1;clear H1;obtain rfl:=Option.some.inj H;have hcz58_0 : wr.cell? ⟨gb175,0,none⟩ = some (.int .i64 a0_0):=(kc_ BK175.out 0).trans rfl;have hcz58_1 : wr.cell? ⟨gb175,1,none⟩ = some (.int .i64 a0_1):=(kc_ BK175.out 1).trans rfl;have hcz58_2 : wr.cell? ⟨gb175,2,none⟩ = some (.int .i64 a0_2):=(kc_ BK175.out 2).trans rfl;have hcz58_3 : wr.cell? ⟨gb175,3,none⟩ = some (.int .i64 a0_3):=(kc_ BK175.out 3).trans rfl;have hcz58_4 : wr.cell? ⟨gb175,4,none⟩ = some (.int .i64 a0_4):=(kc_ BK175.out 4).trans rfl;have hcz58_5 : wr.cell? ⟨gb175,5,none⟩ = some (.int .i64 a0_5):=(kc_ BK175.out 5).trans rfl;have hcz58_6 : wr.cell? ⟨gb175,6,none⟩ = some (.int .i64 a0_6):=(kc_ BK175.out 6).trans rfl;have hcz58_7 : wr.cell? ⟨gb175,7,none⟩ = some (.bool a0_7):=(kc_ BK175.out 7).trans rfl;have hcz58_8 : wr.cell? ⟨gb175,8,none⟩ = some (.slice A0_8 l0_8.length c0_8):=(kc_ BK175.out 8).trans rfl;have hcz58_9 : wr.cell? ⟨gb175,9,none⟩ = some (.slice A0_9 l0_9.length c0_9):=(kc_ BK175.out 9).trans rfl;have hcz58_10 : wr.cell? ⟨gb175,10,none⟩ = some (.string a0_10):=(kc_ BK175.out 10).trans rfl;have hcz58_11 : wr.cell? ⟨gb175,11,none⟩ = some (.bool a0_11):=(kc_ BK175.out 11).trans rfl;have hfz58_0:=kf_ BK175.out 0;have hfz58_1:=kf_ BK175.out 1;have hfz58_2:=kf_ BK175.out 2;have hfz58_3:=kf_ BK175.out 3;have hfz58_4:=kf_ BK175.out 4;have hfz58_5:=kf_ BK175.out 5;have hfz58_6:=kf_ BK175.out 6;have hfz58_7:=kf_ BK175.out 7;have hfz58_8:=kf_ BK175.out 8;have hfz58_9:=kf_ BK175.out 9;have hfz58_10:=kf_ BK175.out 10;have hfz58_11:=kf_ BK175.out 11
               go_wp2_with (first|((with_reducible refine gate_callee (f:=59) rfl ?_);refine goesL_ (some 113) rfl rfl Try.func59 (by kernel_rfl) rfl #[.slice A0_9 l0_9.length c0_9] rfl (by (try simp only [s4_,s5_,s6_]);first|done|rfl|(simp only [List.length_drop,List.length_take];rfl)) ?_;(with_reducible refine (spec_ConfOk.calls k4 _ _ l0_9 true _ ?side1 ?side2 A56.out).mono ?_);(case side1 => repeat (first|exact (Kd.C_below HR0_9.out HB.out)|(with_reducible refine Kd.C_alloc ?_ _)|(with_reducible refine Kd.C_drewN ?_ _)|(with_reducible refine Kd.C_drew ?_)));(case side2 => exact HC0_9.out);rintro e w' ⟨rfl,⟨nd,rfl⟩⟩;refine ⟨_,rfl,?_⟩))
               go_ret;exact ⟨by first|rfl|(simp [*,errW_none,errW_some] <;> rfl),by repeat (first|(with_reducible first|exact HB.out|apply pa_|apply pn_|apply pd_|refine ps_ ?_ GE175.out)|exact HB.out)⟩
              ·replace c57:=Bool.eq_false_iff.mpr c57;subst c57
               have H1 : (some false) = some r:=by rw [if_neg (show ¬ (false = true) by decide)] at H;exact H
               clear H;have H:=H1;clear H1;obtain rfl:=Option.some.inj H;have hcz59_0 : wr.cell? ⟨gb175,0,none⟩ = some (.int .i64 a0_0):=(kc_ BK175.out 0).trans rfl;have hcz59_1 : wr.cell? ⟨gb175,1,none⟩ = some (.int .i64 a0_1):=(kc_ BK175.out 1).trans rfl;have hcz59_2 : wr.cell? ⟨gb175,2,none⟩ = some (.int .i64 a0_2):=(kc_ BK175.out 2).trans rfl;have hcz59_3 : wr.cell? ⟨gb175,3,none⟩ = some (.int .i64 a0_3):=(kc_ BK175.out 3).trans rfl;have hcz59_4 : wr.cell? ⟨gb175,4,none⟩ = some (.int .i64 a0_4):=(kc_ BK175.out 4).trans rfl;have hcz59_5 : wr.cell? ⟨gb175,5,none⟩ = some (.int .i64 a0_5):=(kc_ BK175.out 5).trans rfl;have hcz59_6 : wr.cell? ⟨gb175,6,none⟩ = some (.int .i64 a0_6):=(kc_ BK175.out 6).trans rfl;have hcz59_7 : wr.cell? ⟨gb175,7,none⟩ = some (.bool a0_7):=(kc_ BK175.out 7).trans rfl;have hcz59_8 : wr.cell? ⟨gb175,8,none⟩ = some (.slice A0_8 l0_8.length c0_8):=(kc_ BK175.out 8).trans rfl;have hcz59_9 : wr.cell? ⟨gb175,9,none⟩ = some (.slice A0_9 l0_9.length c0_9):=(kc_ BK175.out 9).trans rfl;have hcz59_10 : wr.cell? ⟨gb175,10,none⟩ = some (.string a0_10):=(kc_ BK175.out 10).trans rfl;have hcz59_11 : wr.cell? ⟨gb175,11,none⟩ = some (.bool a0_11):=(kc_ BK175.out 11).trans rfl;have hfz59_0:=kf_ BK175.out 0;have hfz59_1:=kf_ BK175.out 1;have hfz59_2:=kf_ BK175.out 2;have hfz59_3:=kf_ BK175.out 3;have hfz59_4:=kf_ BK175.out 4;have hfz59_5:=kf_ BK175.out 5;have hfz59_6:=kf_ BK175.out 6;have hfz59_7:=kf_ BK175.out 7;have hfz59_8:=kf_ BK175.out 8;have hfz59_9:=kf_ BK175.out 9;have hfz59_10:=kf_ BK175.out 10;have hfz59_11:=kf_ BK175.out 11
               go_wp2_with (first|((with_reducible refine gate_callee (f:=59) rfl ?_);refine goesL_ (some 113) rfl rfl Try.func59 (by kernel_rfl) rfl #[.slice A0_9 l0_9.length c0_9] rfl (by (try simp only [s4_,s5_,s6_]);first|done|rfl|(simp only [List.length_drop,List.length_take];rfl)) ?_;(with_reducible refine (spec_ConfOk.calls k4 _ _ l0_9 false _ ?side1 ?side2 A56.out).mono ?_);(case side1 => repeat (first|exact (Kd.C_below HR0_9.out HB.out)|(with_reducible refine Kd.C_alloc ?_ _)|(with_reducible refine Kd.C_drewN ?_ _)|(with_reducible refine Kd.C_drew ?_)));(case side2 => exact HC0_9.out);rintro e w' ⟨rfl,⟨nd,rfl⟩⟩;refine ⟨_,rfl,?_⟩))
               go_ret;exact ⟨by first|rfl|(simp [*,errW_none,errW_some] <;> rfl),by repeat (first|(with_reducible first|exact HB.out|apply pa_|apply pn_|apply pd_|refine ps_ ?_ GE175.out)|exact HB.out)⟩
             ·rw [if_neg c55] at H;have c55b0 : (a0_0 == 5) = false:=beq_eq_false_iff_ne.mpr c55;have c55b1 : (a0_0 != 5) = true:=bne_iff_ne.mpr c55
              by_cases c60 : (l0_9.length : Int) = 0
              ·rw [if_pos c60] at H;have c60b0 : ((l0_9.length : Int) == 0) = true:=beq_iff_eq.mpr c60;have c60b1 : ((l0_9.length : Int) != 0) = false:=bne_eq_false_iff_eq.mpr c60;clear c60
               by_cases c61 : a0_10.toList = ([] : List UInt8)
               ·rw [if_pos c61] at H;have c61b0 : (a0_10.toList == ([] : List UInt8)) = true:=beq_iff_eq.mpr c61;have c61b1 : (a0_10.toList != ([] : List UInt8)) = false:=bne_eq_false_iff_eq.mpr c61;clear c61;obtain rfl:=Option.some.inj H;have hcz62_0 : wr.cell? ⟨gb175,0,none⟩ = some (.int .i64 a0_0):=(kc_ BK175.out 0).trans rfl;have hcz62_1 : wr.cell? ⟨gb175,1,none⟩ = some (.int .i64 a0_1):=(kc_ BK175.out 1).trans rfl;have hcz62_2 : wr.cell? ⟨gb175,2,none⟩ = some (.int .i64 a0_2):=(kc_ BK175.out 2).trans rfl;have hcz62_3 : wr.cell? ⟨gb175,3,none⟩ = some (.int .i64 a0_3):=(kc_ BK175.out 3).trans rfl;have hcz62_4 : wr.cell? ⟨gb175,4,none⟩ = some (.int .i64 a0_4):=(kc_ BK175.out 4).trans rfl;have hcz62_5 : wr.cell? ⟨gb175,5,none⟩ = some (.int .i64 a0_5):=(kc_ BK175.out 5).trans rfl;have hcz62_6 : wr.cell? ⟨gb175,6,none⟩ = some (.int .i64 a0_6):=(kc_ BK175.out 6).trans rfl;have hcz62_7 : wr.cell? ⟨gb175,7,none⟩ = some (.bool a0_7):=(kc_ BK175.out 7).trans rfl;have hcz62_8 : wr.cell? ⟨gb175,8,none⟩ = some (.slice A0_8 l0_8.length c0_8):=(kc_ BK175.out 8).trans rfl;have hcz62_9 : wr.cell? ⟨gb175,9,none⟩ = some (.slice A0_9 l0_9.length c0_9):=(kc_ BK175.out 9).trans rfl;have hcz62_10 : wr.cell? ⟨gb175,10,none⟩ = some (.string a0_10):=(kc_ BK175.out 10).trans rfl;have hcz62_11 : wr.cell? ⟨gb175,11,none⟩ = some (.bool a0_11):=(kc_ BK175.out 11).trans rfl;have hfz62_0:=kf_ BK175.out 0;have hfz62_1:=kf_ BK175.out 1;have hfz62_2:=kf_ BK175.out 2;have hfz62_3:=kf_ BK175.out 3;have hfz62_4:=kf_ BK175.out 4;have hfz62_5:=kf_ BK175.out 5;have hfz62_6:=kf_ BK175.out 6;have hfz62_7:=kf_ BK175.out 7;have hfz62_8:=kf_ BK175.out 8;have hfz62_9:=kf_ BK175.out 9;have hfz62_10:=kf_ BK175.out 10;have hfz62_11:=kf_ BK175.out 11;go_wp2;go_ret;exact ⟨by first|rfl|(simp [*,errW_none,errW_some] <;> rfl),by repeat (first|(with_reducible first|exact HB.out|apply pa_|apply pn_|apply pd_|refine ps_ ?_ GE175.out)|exact HB.out)⟩
               ·rw [if_neg c61] at H;have c61b0 : (a0_10.toList == ([] : List UInt8)) = false:=beq_eq_false_iff_ne.mpr c61;have c61b1 : (a0_10.toList != ([] : List UInt8)) = true:=bne_iff_ne.mpr c61;obtain rfl:=Option.some.inj H;have hcz63_0 : wr.cell? ⟨gb175,0,none⟩ = some (.int .i64 a0_0):=(kc_ BK175.out 0).trans rfl;have hcz63_1 : wr.cell? ⟨gb175,1,none⟩ = some (.int .i64 a0_1):=(kc_ BK175.out 1).trans rfl;have hcz63_2 : wr.cell? ⟨gb175,2,none⟩ = some (.int .i64 a0_2):=(kc_ BK175.out 2).trans rfl;have hcz63_3 : wr.cell? ⟨gb175,3,none⟩ = some (.int .i64 a0_3):=(kc_ BK175.out 3).trans rfl;have hcz63_4 : wr.cell? ⟨gb175,4,none⟩ = some (.int .i64 a0_4):=(kc_ BK175.out 4).trans rfl;have hcz63_5 : wr.cell? ⟨gb175,5,none⟩ = some (.int .i64 a0_5):=(kc_ BK175.out 5).trans rfl;have hcz63_6 : wr.cell? ⟨gb175,6,none⟩ = some (.int .i64 a0_6):=(kc_ BK175.out 6).trans rfl;have hcz63_7 : wr.cell? ⟨gb175,7,none⟩ = some (.bool a0_7):=(kc_ BK175.out 7).trans rfl;have hcz63_8 : wr.cell? ⟨gb175,8,none⟩ = some (.slice A0_8 l0_8.length c0_8):=(kc_ BK175.out 8).trans rfl;have hcz63_9 : wr.cell? ⟨gb175,9,none⟩ = some (.slice A0_9 l0_9.length c0_9):=(kc_ BK175.out 9).trans rfl;have hcz63_10 : wr.cell? ⟨gb175,10,none⟩ = some (.string a0_10):=(kc_ BK175.out 10).trans rfl;have hcz63_11 : wr.cell? ⟨gb175,11,none⟩ = some (.bool a0_11):=(kc_ BK175.out 11).trans rfl;have hfz63_0:=kf_ BK175.out 0;have hfz63_1:=kf_ BK175.out 1;have hfz63_2:=kf_ BK175.out 2;have hfz63_3:=kf_ BK175.out 3;have hfz63_4:=kf_ BK175.out 4;have hfz63_5:=kf_ BK175.out 5;have hfz63_6:=kf_ BK175.out 6;have hfz63_7:=kf_ BK175.out 7;have hfz63_8:=kf_ BK175.out 8;have hfz63_9:=kf_ BK175.out 9;have hfz63_10:=kf_ BK175.out 10;have hfz63_11:=kf_ BK175.out 11;go_wp2;go_ret;exact ⟨by first|rfl|(simp [*,errW_none,errW_some] <;> rfl),by repeat (first|(with_reducible first|exact HB.out|apply pa_|apply pn_|apply pd_|refine ps_ ?_ GE175.out)|exact HB.out)⟩
              ·rw [if_neg c60] at H;have c60b0 : ((l0_9.length : Int) == 0) = false:=beq_eq_false_iff_ne.mpr c60;have c60b1 : ((l0_9.length : Int) != 0) = true:=bne_iff_ne.mpr c60
               have c60b2 : ¬ (l0_9 = []):=fun h_ => c60 (by rw [h_];rfl)
               obtain rfl:=Option.some.inj H;have hcz64_0 : wr.cell? ⟨gb175,0,none⟩ = some (.int .i64 a0_0):=(kc_ BK175.out 0).trans rfl;have hcz64_1 : wr.cell? ⟨gb175,1,none⟩ = some (.int .i64 a0_1):=(kc_ BK175.out 1).trans rfl;have hcz64_2 : wr.cell? ⟨gb175,2,none⟩ = some (.int .i64 a0_2):=(kc_ BK175.out 2).trans rfl;have hcz64_3 : wr.cell? ⟨gb175,3,none⟩ = some (.int .i64 a0_3):=(kc_ BK175.out 3).trans rfl;have hcz64_4 : wr.cell? ⟨gb175,4,none⟩ = some (.int .i64 a0_4):=(kc_ BK175.out 4).trans rfl;have hcz64_5 : wr.cell? ⟨gb175,5,none⟩ = some (.int .i64 a0_5):=(kc_ BK175.out 5).trans rfl;have hcz64_6 : wr.cell? ⟨gb175,6,none⟩ = some (.int .i64 a0_6):=(kc_ BK175.out 6).trans rfl;have hcz64_7 : wr.cell? ⟨gb175,7,none⟩ = some (.bool a0_7):=(kc_ BK175.out 7).trans rfl;have hcz64_8 : wr.cell? ⟨gb175,8,none⟩ = some (.slice A0_8 l0_8.length c0_8):=(kc_ BK175.out 8).trans rfl;have hcz64_9 : wr.cell? ⟨gb175,9,none⟩ = some (.slice A0_9 l0_9.length c0_9):=(kc_ BK175.out 9).trans rfl;have hcz64_10 : wr.cell? ⟨gb175,10,none⟩ = some (.string a0_10):=(kc_ BK175.out 10).trans rfl;have hcz64_11 : wr.cell? ⟨gb175,11,none⟩ = some (.bool a0_11):=(kc_ BK175.out 11).trans rfl;have hfz64_0:=kf_ BK175.out 0;have hfz64_1:=kf_ BK175.out 1;have hfz64_2:=kf_ BK175.out 2;have hfz64_3:=kf_ BK175.out 3;have hfz64_4:=kf_ BK175.out 4;have hfz64_5:=kf_ BK175.out 5;have hfz64_6:=kf_ BK175.out 6;have hfz64_7:=kf_ BK175.out 7;have hfz64_8:=kf_ BK175.out 8;have hfz64_9:=kf_ BK175.out 9;have hfz64_10:=kf_ BK175.out 10;have hfz64_11:=kf_ BK175.out 11;go_wp2;go_ret;exact ⟨by first|rfl|(simp [*,errW_none,errW_some] <;> rfl),by repeat (first|(with_reducible first|exact HB.out|apply pa_|apply pn_|apply pd_|refine ps_ ?_ GE175.out)|exact HB.out)⟩
end Go.Proofs.Ytgpafelepkhdoaa.PFnExactEncode
