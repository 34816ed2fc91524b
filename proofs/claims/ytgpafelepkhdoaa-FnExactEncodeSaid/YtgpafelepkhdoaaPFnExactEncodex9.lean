/- The contracts of the Go functions that this law reaches: what each call returns, by a plain Lean function of its arguments. No conditions but those each contract names. By the kit's print.py, run by this session's wip/gen/pp.py with facts and hand proofs beside it: not to the letter what print.sh prints. -/
import Derived.Test.YtgpafelepkhdoaaPFnExactEncodex0
import Derived.Test.YtgpafelepkhdoaaPFnExactEncodex8
namespace Go.Proofs.Ytgpafelepkhdoaa.PFnExactEncode
open Go.RowKit Go.Proofs.YtgpafelepkhdoaaW.PrintWords Go.Proofs.YtgpafelepkhdoaaW.PrintLast Go.Proofs.YtgpafelepkhdoaaW.PrintMore
attribute [local go_sem] max2_int min2_int max_two min_two max_three min_three max_four min_four
set_option linter.unusedVariables false
set_option linter.unusedSimpArgs false
mutual
def impl_MessageOk.j0 : Nat → Bool → Int → Int → Int → Int → Int → Int → Int → Bool → List (S37) → List Int → ByteArray → Bool → Option (Bool)
 | 0,_,_,_,_,_,_,_,_,_,_,_,_,_ => none
 | k + 1,x28,x250000,x250001,x250002,x250003,x250004,x250005,x250006,x250007,x250008,x250009,x250010,x250011 => if x28 = true then (some false) else ((impl_within.f x250003 0 100000).bind fun t253 => (if t253 = true then ((impl_within.f x250005 0 100000).bind fun t254 => (if t254 = true then ((impl_within.f x250004 0 100000).bind fun t255 => (if t255 = true then ((impl_within.f x250006 0 100000).bind fun t256 => (if t256 = true then (if (x250008.length : Int) > 4 then (impl_MessageOk.j1 k true x250000 x250001 x250002 x250003 x250004 x250005 x250006 x250007 x250008 x250009 x250010 x250011) else (impl_MessageOk.j1 k (decide ((x250010.size : Int) > 60)) x250000 x250001 x250002 x250003 x250004 x250005 x250006 x250007 x250008 x250009 x250010 x250011)) else (impl_MessageOk.j1 k true x250000 x250001 x250002 x250003 x250004 x250005 x250006 x250007 x250008 x250009 x250010 x250011))) else (impl_MessageOk.j1 k true x250000 x250001 x250002 x250003 x250004 x250005 x250006 x250007 x250008 x250009 x250010 x250011))) else (impl_MessageOk.j1 k true x250000 x250001 x250002 x250003 x250004 x250005 x250006 x250007 x250008 x250009 x250010 x250011))) else (impl_MessageOk.j1 k true x250000 x250001 x250002 x250003 x250004 x250005 x250006 x250007 x250008 x250009 x250010 x250011)))
def impl_MessageOk.j1 : Nat → Bool → Int → Int → Int → Int → Int → Int → Int → Bool → List (S37) → List Int → ByteArray → Bool → Option (Bool)
 | 0,_,_,_,_,_,_,_,_,_,_,_,_,_ => none
 | k + 1,x62,x250000,x250001,x250002,x250003,x250004,x250005,x250006,x250007,x250008,x250009,x250010,x250011 => if x62 = true then (some false) else (impl_MessageOk.l0 k x250005 x250008 (x250008.length : Int) 0 x250000 x250001 x250002 x250003 x250004 x250005 x250006 x250007 x250008 x250009 x250010 x250011)
def impl_MessageOk.l0 : Nat → Int → List (S37) → Int → Int → Int → Int → Int → Int → Int → Int → Int → Bool → List (S37) → List Int → ByteArray → Bool → Option (Bool)
 | 0,_,_,_,_,_,_,_,_,_,_,_,_,_,_,_,_ => none
 | k + 1,x3,x66,x67,x68,x250000,x250001,x250002,x250003,x250004,x250005,x250006,x250007,x250008,x250009,x250010,x250011 => if x68 < x67 then (if 0 ≤ x68 then (if x68 < (x66.length : Int) then (if x250000 = 3 then ((impl_EntryOk.f k ((rd_T37 x66 x68).f0) ((rd_T37 x66 x68).f1) ((rd_T37 x66 x68).f2)).bind fun t260 => (if t260 = true then ((impl_within.f ((rd_T37 x66 x68).f0) x3 x250003).bind fun t261 => (if t261 = true then (impl_MessageOk.l0 k ((rd_T37 x66 x68).f0) x66 x67 (wrap64 (x68 + 1)) x250000 x250001 x250002 x250003 x250004 x250005 x250006 x250007 x250008 x250009 x250010 x250011) else (some false))) else (some false))) else (some false)) else (none)) else (none)) else (if x250000 = 5 then ((impl_ConfOk.f k x250009).bind fun t257 => (some t257)) else (if (x250009.length : Int) = 0 then (if x250010.toList = ([] : List UInt8) then (some (!x250011)) else (some false)) else (some false)))
end
def impl_MessageOk.f (k : Nat) (a0_0 : Int) (a0_1 : Int) (a0_2 : Int) (a0_3 : Int) (a0_4 : Int) (a0_5 : Int) (a0_6 : Int) (a0_7 : Bool) (l0_8 : List (S37)) (l0_9 : List Int) (a0_10 : ByteArray) (a0_11 : Bool) : Option (Bool) := (impl_within.f a0_0 1 6).bind fun t250 => (if t250 = true then ((impl_within.f a0_1 1 4).bind fun t251 => (if t251 = true then ((impl_within.f a0_2 1 4).bind fun t252 => (if t252 = true then (impl_MessageOk.j0 k (a0_1 == a0_2) a0_0 a0_1 a0_2 a0_3 a0_4 a0_5 a0_6 a0_7 l0_8 l0_9 a0_10 a0_11) else (impl_MessageOk.j0 k true a0_0 a0_1 a0_2 a0_3 a0_4 a0_5 a0_6 a0_7 l0_8 l0_9 a0_10 a0_11))) else (impl_MessageOk.j0 k true a0_0 a0_1 a0_2 a0_3 a0_4 a0_5 a0_6 a0_7 l0_8 l0_9 a0_10 a0_11))) else (impl_MessageOk.j0 k true a0_0 a0_1 a0_2 a0_3 a0_4 a0_5 a0_6 a0_7 l0_8 l0_9 a0_10 a0_11))
theorem impl_MessageOk.mono_l : ∀ k, (∀ y0 y1 y2 y3 y4 y5 y6 y7 y8 y9 y10 y11 y12, LeO (impl_MessageOk.j0 k y0 y1 y2 y3 y4 y5 y6 y7 y8 y9 y10 y11 y12) (impl_MessageOk.j0 (k + 1) y0 y1 y2 y3 y4 y5 y6 y7 y8 y9 y10 y11 y12)) ∧ (∀ y0 y1 y2 y3 y4 y5 y6 y7 y8 y9 y10 y11 y12, LeO (impl_MessageOk.j1 k y0 y1 y2 y3 y4 y5 y6 y7 y8 y9 y10 y11 y12) (impl_MessageOk.j1 (k + 1) y0 y1 y2 y3 y4 y5 y6 y7 y8 y9 y10 y11 y12)) ∧ (∀ y0 y1 y2 y3 y4 y5 y6 y7 y8 y9 y10 y11 y12 y13 y14 y15, LeO (impl_MessageOk.l0 k y0 y1 y2 y3 y4 y5 y6 y7 y8 y9 y10 y11 y12 y13 y14 y15) (impl_MessageOk.l0 (k + 1) y0 y1 y2 y3 y4 y5 y6 y7 y8 y9 y10 y11 y12 y13 y14 y15))
 | 0 => ⟨fun _ _ _ _ _ _ _ _ _ _ _ _ _ r h => by simp [impl_MessageOk.j0] at h,fun _ _ _ _ _ _ _ _ _ _ _ _ _ r h => by simp [impl_MessageOk.j1] at h,fun _ _ _ _ _ _ _ _ _ _ _ _ _ _ _ _ r h => by simp [impl_MessageOk.l0] at h⟩
 | k + 1 => by
  obtain ⟨ih0,ih1,ih2⟩:=impl_MessageOk.mono_l k;refine ⟨?_,?_,?_⟩
  ·intro y0 y1 y2 y3 y4 y5 y6 y7 y8 y9 y10 y11 y12
   unfold impl_MessageOk.j0
   repeat' first
   | (with_reducible exact ih0 _ _ _ _ _ _ _ _ _ _ _ _ _)
   | (with_reducible exact ih1 _ _ _ _ _ _ _ _ _ _ _ _ _)
   | (with_reducible exact ih2 _ _ _ _ _ _ _ _ _ _ _ _ _ _ _ _)
   | (with_reducible exact impl_ConfOk.mono _ _)
   | (with_reducible exact impl_EntryOk.mono _ _ _ _)
   | (with_reducible exact LeO.refl _)
   | (with_reducible exact LeO.none _)
   | (with_reducible refine LeO.ite ?_ ?_)
   | (with_reducible refine LeO.bind ?_ (fun _ => ?_))
  ·intro y0 y1 y2 y3 y4 y5 y6 y7 y8 y9 y10 y11 y12
   unfold impl_MessageOk.j1
   repeat' first
   | (with_reducible exact ih0 _ _ _ _ _ _ _ _ _ _ _ _ _)
   | (with_reducible exact ih1 _ _ _ _ _ _ _ _ _ _ _ _ _)
   | (with_reducible exact ih2 _ _ _ _ _ _ _ _ _ _ _ _ _ _ _ _)
   | (with_reducible exact impl_ConfOk.mono _ _)
   | (with_reducible exact impl_EntryOk.mono _ _ _ _)
   | (with_reducible exact LeO.refl _)
   | (with_reducible exact LeO.none _)
   | (with_reducible refine LeO.ite ?_ ?_)
   | (with_reducible refine LeO.bind ?_ (fun _ => ?_))
  ·intro y0 y1 y2 y3 y4 y5 y6 y7 y8 y9 y10 y11 y12 y13 y14 y15
   unfold impl_MessageOk.l0
   repeat' first
   | (with_reducible exact ih0 _ _ _ _ _ _ _ _ _ _ _ _ _)
   | (with_reducible exact ih1 _ _ _ _ _ _ _ _ _ _ _ _ _)
   | (with_reducible exact ih2 _ _ _ _ _ _ _ _ _ _ _ _ _ _ _ _)
   | (with_reducible exact impl_ConfOk.mono _ _)
   | (with_reducible exact impl_EntryOk.mono _ _ _ _)
   | (with_reducible exact LeO.refl _)
   | (with_reducible exact LeO.none _)
   | (with_reducible refine LeO.ite ?_ ?_)
   | (with_reducible refine LeO.bind ?_ (fun _ => ?_))
theorem impl_MessageOk.mono : ∀ a0 a1 a2 a3 a4 a5 a6 a7 a8 a9 a10 a11 k, LeO (impl_MessageOk.f k a0 a1 a2 a3 a4 a5 a6 a7 a8 a9 a10 a11) (impl_MessageOk.f (k + 1) a0 a1 a2 a3 a4 a5 a6 a7 a8 a9 a10 a11) := by
 intro a0 a1 a2 a3 a4 a5 a6 a7 a8 a9 a10 a11 k;obtain ⟨ih0,ih1,ih2⟩:=impl_MessageOk.mono_l k
 unfold impl_MessageOk.f
 repeat' first
   | (with_reducible exact ih0 _ _ _ _ _ _ _ _ _ _ _ _ _)
   | (with_reducible exact ih1 _ _ _ _ _ _ _ _ _ _ _ _ _)
   | (with_reducible exact ih2 _ _ _ _ _ _ _ _ _ _ _ _ _ _ _ _)
   | (with_reducible exact impl_ConfOk.mono _ _)
   | (with_reducible exact impl_EntryOk.mono _ _ _ _)
   | (with_reducible exact LeO.refl _)
   | (with_reducible exact LeO.none _)
   | (with_reducible refine LeO.ite ?_ ?_)
   | (with_reducible refine LeO.bind ?_ (fun _ => ?_))
set_option maxHeartbeats 8000000 in
set_option maxRecDepth 100000 in
theorem impl_MessageOk.calls (k : Nat) (a0_0 : Int) (a0_1 : Int) (a0_2 : Int) (a0_3 : Int) (a0_4 : Int) (a0_5 : Int) (a0_6 : Int) (a0_7 : Bool) (A0_8 : Option Addr) (c0_8 : Nat) (l0_8 : List (S37)) (A0_9 : Option Addr) (c0_9 : Nat) (l0_9 : List Int) (a0_10 : ByteArray) (a0_11 : Bool) (r : Bool) (w : World) (hr0_8 : Kd.C k37 w A0_8 l0_8.length l0_8) (hc0_8 : l0_8.length ≤ c0_8) (hr0_9 : Kd.C (Kd.int .i64) w A0_9 l0_9.length l0_9) (hc0_9 : l0_9.length ≤ c0_9) (h : impl_MessageOk.f k a0_0 a0_1 a0_2 a0_3 a0_4 a0_5 a0_6 a0_7 l0_8 l0_9 a0_10 a0_11 = some r) :
  Calls Try.prog 33 #[.agg #[.int .i64 a0_0,.int .i64 a0_1,.int .i64 a0_2,.int .i64 a0_3,.int .i64 a0_4,.int .i64 a0_5,.int .i64 a0_6,.bool a0_7,.slice A0_8 l0_8.length c0_8,.slice A0_9 l0_9.length c0_9,.string a0_10,.bool a0_11]] w fun e w' => e = .returned (.bool r) ∧ Below w.heap.size w w':=by
 have hu52:=Try.underlying52;have hu37:=Try.underlying37;have HR0_8:=A_ hr0_8;have HC0_8:=A_ hc0_8;clear hr0_8 hc0_8;have HR0_9:=A_ hr0_9;have HC0_9:=A_ hc0_9;clear hr0_9 hc0_9;have HB:=A_ (Below.refl w.heap.size w);have H : ((impl_within.f a0_0 1 6).bind fun t250 => (if t250 = true then ((impl_within.f a0_1 1 4).bind fun t251 => (if t251 = true then ((impl_within.f a0_2 1 4).bind fun t252 => (if t252 = true then (impl_MessageOk.j0 k (a0_1 == a0_2) a0_0 a0_1 a0_2 a0_3 a0_4 a0_5 a0_6 a0_7 l0_8 l0_9 a0_10 a0_11) else (impl_MessageOk.j0 k true a0_0 a0_1 a0_2 a0_3 a0_4 a0_5 a0_6 a0_7 l0_8 l0_9 a0_10 a0_11))) else (impl_MessageOk.j0 k true a0_0 a0_1 a0_2 a0_3 a0_4 a0_5 a0_6 a0_7 l0_8 l0_9 a0_10 a0_11))) else (impl_MessageOk.j0 k true a0_0 a0_1 a0_2 a0_3 a0_4 a0_5 a0_6 a0_7 l0_8 l0_9 a0_10 a0_11))) = some r:=h;clear h;have HC2:=A_ H;clear H;go_enter Try.func33,Try.ntmps33
 go_upto_region 1 with (first|((with_reducible refine gate_dst (N:=1) rfl ?_);(try (refine gate_guard (by rfl) ?_;dsimp only));refine box_event ?hg (N:=1) ?hd (cs:=#[.int .i64 a0_0,.int .i64 a0_1,.int .i64 a0_2,.int .i64 a0_3,.int .i64 a0_4,.int .i64 a0_5,.int .i64 a0_6,.bool a0_7,.slice A0_8 l0_8.length c0_8,.slice A0_9 l0_9.length c0_9,.string a0_10,.bool a0_11]) (t:=52) ?hr ?_;(case hd => rfl);(case hg => rfl);(case hr => first|(go_simp;done)|(go_simp;rfl));intro gb249 hg w3 hbox hb;have BK249:=A_ (hbox);have GW249:=A_ ((by rw [hg];exact (bz_ (by repeat (first|(with_reducible first|exact HB.out|apply pa_|apply pn_|apply pd_)|exact HB.out))) : w.heap.size ≤ gb249));have GE249:=A_ ((by rw [hg];exact (bz_ (by repeat (first|(with_reducible first|exact HB.out|apply pa_|apply pn_|apply pd_)|exact HB.out))) : w.heap.size ≤ gb249));replace HB:=A_ (bs_ (by repeat (first|(with_reducible first|exact HB.out|apply pa_|apply pn_|apply pd_)|exact HB.out)) hb);clear hb hbox hg))
 (try simp only [Act.put,s1_,s2_,s3_])
 go_cut [28] (fun v28 wc => ∃ (kq : Nat) (x28_1 : Bool),v28 = .bool x28_1 ∧ Aside0 (impl_MessageOk.j0 kq x28_1 a0_0 a0_1 a0_2 a0_3 a0_4 a0_5 a0_6 a0_7 l0_8 l0_9 a0_10 a0_11 = some r) ∧ Aside0 (kq ≤ k) ∧ Aside0 (wc.heap[gb249]? = some (.cells #[.int .i64 a0_0,.int .i64 a0_1,.int .i64 a0_2,.int .i64 a0_3,.int .i64 a0_4,.int .i64 a0_5,.int .i64 a0_6,.bool a0_7,(.slice A0_8 l0_8.length c0_8),(.slice A0_9 l0_9.length c0_9),.string a0_10,.bool a0_11] 52 (0,0))) ∧ Aside0 (Below w.heap.size w wc))
 case first =>
  have H:=HC2.out;clear HC2;replace H:=ob_.mp H;obtain ⟨t250,A40,H⟩:=H;replace H : (if t250 = true then ((impl_within.f a0_1 1 4).bind fun t251 => (if t251 = true then ((impl_within.f a0_2 1 4).bind fun t252 => (if t252 = true then (impl_MessageOk.j0 k (a0_1 == a0_2) a0_0 a0_1 a0_2 a0_3 a0_4 a0_5 a0_6 a0_7 l0_8 l0_9 a0_10 a0_11) else (impl_MessageOk.j0 k true a0_0 a0_1 a0_2 a0_3 a0_4 a0_5 a0_6 a0_7 l0_8 l0_9 a0_10 a0_11))) else (impl_MessageOk.j0 k true a0_0 a0_1 a0_2 a0_3 a0_4 a0_5 a0_6 a0_7 l0_8 l0_9 a0_10 a0_11))) else (impl_MessageOk.j0 k true a0_0 a0_1 a0_2 a0_3 a0_4 a0_5 a0_6 a0_7 l0_8 l0_9 a0_10 a0_11)) = some r:=H;have A4:=A_ A40;clear A40
  by_cases c5 : t250 = true
  ·subst c5
   have H1 : ((impl_within.f a0_1 1 4).bind fun t251 => (if t251 = true then ((impl_within.f a0_2 1 4).bind fun t252 => (if t252 = true then (impl_MessageOk.j0 k (a0_1 == a0_2) a0_0 a0_1 a0_2 a0_3 a0_4 a0_5 a0_6 a0_7 l0_8 l0_9 a0_10 a0_11) else (impl_MessageOk.j0 k true a0_0 a0_1 a0_2 a0_3 a0_4 a0_5 a0_6 a0_7 l0_8 l0_9 a0_10 a0_11))) else (impl_MessageOk.j0 k true a0_0 a0_1 a0_2 a0_3 a0_4 a0_5 a0_6 a0_7 l0_8 l0_9 a0_10 a0_11))) = some r:=by rw [if_pos rfl] at H;exact H
   clear H;have H:=H1;clear H1;replace H:=ob_.mp H;obtain ⟨t251,A60,H⟩:=H;replace H : (if t251 = true then ((impl_within.f a0_2 1 4).bind fun t252 => (if t252 = true then (impl_MessageOk.j0 k (a0_1 == a0_2) a0_0 a0_1 a0_2 a0_3 a0_4 a0_5 a0_6 a0_7 l0_8 l0_9 a0_10 a0_11) else (impl_MessageOk.j0 k true a0_0 a0_1 a0_2 a0_3 a0_4 a0_5 a0_6 a0_7 l0_8 l0_9 a0_10 a0_11))) else (impl_MessageOk.j0 k true a0_0 a0_1 a0_2 a0_3 a0_4 a0_5 a0_6 a0_7 l0_8 l0_9 a0_10 a0_11)) = some r:=H;have A6:=A_ A60;clear A60
   by_cases c7 : t251 = true
   ·subst c7
    have H1 : ((impl_within.f a0_2 1 4).bind fun t252 => (if t252 = true then (impl_MessageOk.j0 k (a0_1 == a0_2) a0_0 a0_1 a0_2 a0_3 a0_4 a0_5 a0_6 a0_7 l0_8 l0_9 a0_10 a0_11) else (impl_MessageOk.j0 k true a0_0 a0_1 a0_2 a0_3 a0_4 a0_5 a0_6 a0_7 l0_8 l0_9 a0_10 a0_11))) = some r:=by rw [if_pos rfl] at H;exact H
    clear H;have H:=H1;clear H1;replace H:=ob_.mp H;obtain ⟨t252,A80,H⟩:=H;replace H : (if t252 = true then (impl_MessageOk.j0 k (a0_1 == a0_2) a0_0 a0_1 a0_2 a0_3 a0_4 a0_5 a0_6 a0_7 l0_8 l0_9 a0_10 a0_11) else (impl_MessageOk.j0 k true a0_0 a0_1 a0_2 a0_3 a0_4 a0_5 a0_6 a0_7 l0_8 l0_9 a0_10 a0_11)) = some r:=H;have A8:=A_ A80;clear A80
    by_cases c9 : t252 = true
    ·subst c9
     have H1 : (impl_MessageOk.j0 k (a0_1 == a0_2) a0_0 a0_1 a0_2 a0_3 a0_4 a0_5 a0_6 a0_7 l0_8 l0_9 a0_10 a0_11) = some r:=by rw [if_pos rfl] at H;exact H
     clear H;have H:=H1;clear H1;have H':=A_ H;clear H;have hcz10_0 : w3.cell? ⟨gb249,0,none⟩ = some (.int .i64 a0_0):=(kc_ BK249.out 0).trans rfl;have hcz10_1 : w3.cell? ⟨gb249,1,none⟩ = some (.int .i64 a0_1):=(kc_ BK249.out 1).trans rfl;have hcz10_2 : w3.cell? ⟨gb249,2,none⟩ = some (.int .i64 a0_2):=(kc_ BK249.out 2).trans rfl;have hcz10_3 : w3.cell? ⟨gb249,3,none⟩ = some (.int .i64 a0_3):=(kc_ BK249.out 3).trans rfl;have hcz10_4 : w3.cell? ⟨gb249,4,none⟩ = some (.int .i64 a0_4):=(kc_ BK249.out 4).trans rfl;have hcz10_5 : w3.cell? ⟨gb249,5,none⟩ = some (.int .i64 a0_5):=(kc_ BK249.out 5).trans rfl;have hcz10_6 : w3.cell? ⟨gb249,6,none⟩ = some (.int .i64 a0_6):=(kc_ BK249.out 6).trans rfl;have hcz10_7 : w3.cell? ⟨gb249,7,none⟩ = some (.bool a0_7):=(kc_ BK249.out 7).trans rfl;have hcz10_8 : w3.cell? ⟨gb249,8,none⟩ = some (.slice A0_8 l0_8.length c0_8):=(kc_ BK249.out 8).trans rfl;have hcz10_9 : w3.cell? ⟨gb249,9,none⟩ = some (.slice A0_9 l0_9.length c0_9):=(kc_ BK249.out 9).trans rfl;have hcz10_10 : w3.cell? ⟨gb249,10,none⟩ = some (.string a0_10):=(kc_ BK249.out 10).trans rfl;have hcz10_11 : w3.cell? ⟨gb249,11,none⟩ = some (.bool a0_11):=(kc_ BK249.out 11).trans rfl;have hfz10_0:=kf_ BK249.out 0;have hfz10_1:=kf_ BK249.out 1;have hfz10_2:=kf_ BK249.out 2;have hfz10_3:=kf_ BK249.out 3;have hfz10_4:=kf_ BK249.out 4;have hfz10_5:=kf_ BK249.out 5;have hfz10_6:=kf_ BK249.out 6;have hfz10_7:=kf_ BK249.out 7;have hfz10_8:=kf_ BK249.out 8;have hfz10_9:=kf_ BK249.out 9;have hfz10_10:=kf_ BK249.out 10;have hfz10_11:=kf_ BK249.out 11
     go_wp2_with (first|((with_reducible refine gate_callee (f:=75) rfl ?_);refine goesL_ (some 8) rfl rfl Try.func75 (by kernel_rfl) rfl #[.int .i64 a0_0,.int .i64 1,.int .i64 6] rfl (by (try simp only [s4_,s5_,s6_]);first|done|rfl|(simp only [List.length_drop,List.length_take];rfl)) ?_;(with_reducible refine (impl_within.calls a0_0 1 6 true _ A4.out).mono ?_);rintro e w' ⟨rfl,⟨nd,rfl⟩⟩;refine ⟨_,rfl,?_⟩)|(go_at_call 75;(with_reducible refine (impl_within.calls a0_1 1 4 true _ A6.out).mono ?_);rintro e w' ⟨rfl,⟨nd,rfl⟩⟩)|(go_at_call 75;(with_reducible refine (impl_within.calls a0_2 1 4 true _ A8.out).mono ?_);rintro e w' ⟨rfl,⟨nd,rfl⟩⟩))
     go_meet
     case rel => exact ⟨_,((a0_1 == a0_2)),(by first|rfl|(simp;done)|(simp [*];done)),H',⟨by first|omega|exact Nat.le_refl _⟩,⟨by (with_reducible repeat (first|refine kn_ ?_ _|refine kd_ ?_|refine ka_ ?_ _));exact BK249.out⟩,⟨by repeat (first|(with_reducible first|exact HB.out|apply pa_|apply pn_|apply pd_|refine ps_ ?_ GE249.out)|exact HB.out)⟩⟩
    ·replace c9:=Bool.eq_false_iff.mpr c9;subst c9
     have H1 : (impl_MessageOk.j0 k true a0_0 a0_1 a0_2 a0_3 a0_4 a0_5 a0_6 a0_7 l0_8 l0_9 a0_10 a0_11) = some r:=by rw [if_neg (show ¬ (false = true) by decide)] at H;exact H
     clear H;have H:=H1;clear H1;have H':=A_ H;clear H;have hcz11_0 : w3.cell? ⟨gb249,0,none⟩ = some (.int .i64 a0_0):=(kc_ BK249.out 0).trans rfl;have hcz11_1 : w3.cell? ⟨gb249,1,none⟩ = some (.int .i64 a0_1):=(kc_ BK249.out 1).trans rfl;have hcz11_2 : w3.cell? ⟨gb249,2,none⟩ = some (.int .i64 a0_2):=(kc_ BK249.out 2).trans rfl;have hcz11_3 : w3.cell? ⟨gb249,3,none⟩ = some (.int .i64 a0_3):=(kc_ BK249.out 3).trans rfl;have hcz11_4 : w3.cell? ⟨gb249,4,none⟩ = some (.int .i64 a0_4):=(kc_ BK249.out 4).trans rfl;have hcz11_5 : w3.cell? ⟨gb249,5,none⟩ = some (.int .i64 a0_5):=(kc_ BK249.out 5).trans rfl;have hcz11_6 : w3.cell? ⟨gb249,6,none⟩ = some (.int .i64 a0_6):=(kc_ BK249.out 6).trans rfl;have hcz11_7 : w3.cell? ⟨gb249,7,none⟩ = some (.bool a0_7):=(kc_ BK249.out 7).trans rfl;have hcz11_8 : w3.cell? ⟨gb249,8,none⟩ = some (.slice A0_8 l0_8.length c0_8):=(kc_ BK249.out 8).trans rfl;have hcz11_9 : w3.cell? ⟨gb249,9,none⟩ = some (.slice A0_9 l0_9.length c0_9):=(kc_ BK249.out 9).trans rfl;have hcz11_10 : w3.cell? ⟨gb249,10,none⟩ = some (.string a0_10):=(kc_ BK249.out 10).trans rfl;have hcz11_11 : w3.cell? ⟨gb249,11,none⟩ = some (.bool a0_11):=(kc_ BK249.out 11).trans rfl;have hfz11_0:=kf_ BK249.out 0;have hfz11_1:=kf_ BK249.out 1;have hfz11_2:=kf_ BK249.out 2;have hfz11_3:=kf_ BK249.out 3;have hfz11_4:=kf_ BK249.out 4;have hfz11_5:=kf_ BK249.out 5;have hfz11_6:=kf_ BK249.out 6;have hfz11_7:=kf_ BK249.out 7;have hfz11_8:=kf_ BK249.out 8;have hfz11_9:=kf_ BK249.out 9;have hfz11_10:=kf_ BK249.out 10;have hfz11_11:=kf_ BK249.out 11
     go_wp2_with (first|((with_reducible refine gate_callee (f:=75) rfl ?_);refine goesL_ (some 8) rfl rfl Try.func75 (by kernel_rfl) rfl #[.int .i64 a0_0,.int .i64 1,.int .i64 6] rfl (by (try simp only [s4_,s5_,s6_]);first|done|rfl|(simp only [List.length_drop,List.length_take];rfl)) ?_;(with_reducible refine (impl_within.calls a0_0 1 6 true _ A4.out).mono ?_);rintro e w' ⟨rfl,⟨nd,rfl⟩⟩;refine ⟨_,rfl,?_⟩)|(go_at_call 75;(with_reducible refine (impl_within.calls a0_1 1 4 true _ A6.out).mono ?_);rintro e w' ⟨rfl,⟨nd,rfl⟩⟩)|(go_at_call 75;(with_reducible refine (impl_within.calls a0_2 1 4 false _ A8.out).mono ?_);rintro e w' ⟨rfl,⟨nd,rfl⟩⟩))
     go_meet
     case rel => exact ⟨_,(true),(by first|rfl|(simp;done)|(simp [*];done)),H',⟨by first|omega|exact Nat.le_refl _⟩,⟨by (with_reducible repeat (first|refine kn_ ?_ _|refine kd_ ?_|refine ka_ ?_ _));exact BK249.out⟩,⟨by repeat (first|(with_reducible first|exact HB.out|apply pa_|apply pn_|apply pd_|refine ps_ ?_ GE249.out)|exact HB.out)⟩⟩
   ·replace c7:=Bool.eq_false_iff.mpr c7;subst c7
    have H1 : (impl_MessageOk.j0 k true a0_0 a0_1 a0_2 a0_3 a0_4 a0_5 a0_6 a0_7 l0_8 l0_9 a0_10 a0_11) = some r:=by rw [if_neg (show ¬ (false = true) by decide)] at H;exact H
    clear H;have H:=H1;clear H1;have H':=A_ H;clear H;have hcz12_0 : w3.cell? ⟨gb249,0,none⟩ = some (.int .i64 a0_0):=(kc_ BK249.out 0).trans rfl;have hcz12_1 : w3.cell? ⟨gb249,1,none⟩ = some (.int .i64 a0_1):=(kc_ BK249.out 1).trans rfl;have hcz12_2 : w3.cell? ⟨gb249,2,none⟩ = some (.int .i64 a0_2):=(kc_ BK249.out 2).trans rfl;have hcz12_3 : w3.cell? ⟨gb249,3,none⟩ = some (.int .i64 a0_3):=(kc_ BK249.out 3).trans rfl;have hcz12_4 : w3.cell? ⟨gb249,4,none⟩ = some (.int .i64 a0_4):=(kc_ BK249.out 4).trans rfl;have hcz12_5 : w3.cell? ⟨gb249,5,none⟩ = some (.int .i64 a0_5):=(kc_ BK249.out 5).trans rfl;have hcz12_6 : w3.cell? ⟨gb249,6,none⟩ = some (.int .i64 a0_6):=(kc_ BK249.out 6).trans rfl;have hcz12_7 : w3.cell? ⟨gb249,7,none⟩ = some (.bool a0_7):=(kc_ BK249.out 7).trans rfl;have hcz12_8 : w3.cell? ⟨gb249,8,none⟩ = some (.slice A0_8 l0_8.length c0_8):=(kc_ BK249.out 8).trans rfl;have hcz12_9 : w3.cell? ⟨gb249,9,none⟩ = some (.slice A0_9 l0_9.length c0_9):=(kc_ BK249.out 9).trans rfl;have hcz12_10 : w3.cell? ⟨gb249,10,none⟩ = some (.string a0_10):=(kc_ BK249.out 10).trans rfl;have hcz12_11 : w3.cell? ⟨gb249,11,none⟩ = some (.bool a0_11):=(kc_ BK249.out 11).trans rfl;have hfz12_0:=kf_ BK249.out 0;have hfz12_1:=kf_ BK249.out 1;have hfz12_2:=kf_ BK249.out 2;have hfz12_3:=kf_ BK249.out 3;have hfz12_4:=kf_ BK249.out 4;have hfz12_5:=kf_ BK249.out 5;have hfz12_6:=kf_ BK249.out 6;have hfz12_7:=kf_ BK249.out 7;have hfz12_8:=kf_ BK249.out 8;have hfz12_9:=kf_ BK249.out 9;have hfz12_10:=kf_ BK249.out 10;have hfz12_11:=kf_ BK249.out 11
    go_wp2_with (first|((with_reducible refine gate_callee (f:=75) rfl ?_);refine goesL_ (some 8) rfl rfl Try.func75 (by kernel_rfl) rfl #[.int .i64 a0_0,.int .i64 1,.int .i64 6] rfl (by (try simp only [s4_,s5_,s6_]);first|done|rfl|(simp only [List.length_drop,List.length_take];rfl)) ?_;(with_reducible refine (impl_within.calls a0_0 1 6 true _ A4.out).mono ?_);rintro e w' ⟨rfl,⟨nd,rfl⟩⟩;refine ⟨_,rfl,?_⟩)|(go_at_call 75;(with_reducible refine (impl_within.calls a0_1 1 4 false _ A6.out).mono ?_);rintro e w' ⟨rfl,⟨nd,rfl⟩⟩))
    go_meet
    case rel => exact ⟨_,(true),(by first|rfl|(simp;done)|(simp [*];done)),H',⟨by first|omega|exact Nat.le_refl _⟩,⟨by (with_reducible repeat (first|refine kn_ ?_ _|refine kd_ ?_|refine ka_ ?_ _));exact BK249.out⟩,⟨by repeat (first|(with_reducible first|exact HB.out|apply pa_|apply pn_|apply pd_|refine ps_ ?_ GE249.out)|exact HB.out)⟩⟩
  ·replace c5:=Bool.eq_false_iff.mpr c5;subst c5
   have H1 : (impl_MessageOk.j0 k true a0_0 a0_1 a0_2 a0_3 a0_4 a0_5 a0_6 a0_7 l0_8 l0_9 a0_10 a0_11) = some r:=by rw [if_neg (show ¬ (false = true) by decide)] at H;exact H
   clear H;have H:=H1;clear H1;have H':=A_ H;clear H;have hcz13_0 : w3.cell? ⟨gb249,0,none⟩ = some (.int .i64 a0_0):=(kc_ BK249.out 0).trans rfl;have hcz13_1 : w3.cell? ⟨gb249,1,none⟩ = some (.int .i64 a0_1):=(kc_ BK249.out 1).trans rfl;have hcz13_2 : w3.cell? ⟨gb249,2,none⟩ = some (.int .i64 a0_2):=(kc_ BK249.out 2).trans rfl;have hcz13_3 : w3.cell? ⟨gb249,3,none⟩ = some (.int .i64 a0_3):=(kc_ BK249.out 3).trans rfl;have hcz13_4 : w3.cell? ⟨gb249,4,none⟩ = some (.int .i64 a0_4):=(kc_ BK249.out 4).trans rfl;have hcz13_5 : w3.cell? ⟨gb249,5,none⟩ = some (.int .i64 a0_5):=(kc_ BK249.out 5).trans rfl;have hcz13_6 : w3.cell? ⟨gb249,6,none⟩ = some (.int .i64 a0_6):=(kc_ BK249.out 6).trans rfl;have hcz13_7 : w3.cell? ⟨gb249,7,none⟩ = some (.bool a0_7):=(kc_ BK249.out 7).trans rfl;have hcz13_8 : w3.cell? ⟨gb249,8,none⟩ = some (.slice A0_8 l0_8.length c0_8):=(kc_ BK249.out 8).trans rfl;have hcz13_9 : w3.cell? ⟨gb249,9,none⟩ = some (.slice A0_9 l0_9.length c0_9):=(kc_ BK249.out 9).trans rfl;have hcz13_10 : w3.cell? ⟨gb249,10,none⟩ = some (.string a0_10):=(kc_ BK249.out 10).trans rfl;have hcz13_11 : w3.cell? ⟨gb249,11,none⟩ = some (.bool a0_11):=(kc_ BK249.out 11).trans rfl;have hfz13_0:=kf_ BK249.out 0;have hfz13_1:=kf_ BK249.out 1;have hfz13_2:=kf_ BK249.out 2;have hfz13_3:=kf_ BK249.out 3;have hfz13_4:=kf_ BK249.out 4;have hfz13_5:=kf_ BK249.out 5;have hfz13_6:=kf_ BK249.out 6;have hfz13_7:=kf_ BK249.out 7;have hfz13_8:=kf_ BK249.out 8;have hfz13_9:=kf_ BK249.out 9;have hfz13_10:=kf_ BK249.out 10;have hfz13_11:=kf_ BK249.out 11
   go_wp2_with (first|((with_reducible refine gate_callee (f:=75) rfl ?_);refine goesL_ (some 8) rfl rfl Try.func75 (by kernel_rfl) rfl #[.int .i64 a0_0,.int .i64 1,.int .i64 6] rfl (by (try simp only [s4_,s5_,s6_]);first|done|rfl|(simp only [List.length_drop,List.length_take];rfl)) ?_;(with_reducible refine (impl_within.calls a0_0 1 6 false _ A4.out).mono ?_);rintro e w' ⟨rfl,⟨nd,rfl⟩⟩;refine ⟨_,rfl,?_⟩))
   go_meet
   case rel => exact ⟨_,(true),(by first|rfl|(simp;done)|(simp [*];done)),H',⟨by first|omega|exact Nat.le_refl _⟩,⟨by (with_reducible repeat (first|refine kn_ ?_ _|refine kd_ ?_|refine ka_ ?_ _));exact BK249.out⟩,⟨by repeat (first|(with_reducible first|exact HB.out|apply pa_|apply pn_|apply pd_|refine ps_ ?_ GE249.out)|exact HB.out)⟩⟩
 case rest =>
  clear HC2
  try clear p2
  try clear c3
  try clear c5
  try clear c7
  try clear c9
  try clear hcz10_0
  try clear hcz10_1
  try clear hcz10_10
  try clear hcz10_11
  try clear hcz10_2
  try clear hcz10_3
  try clear hcz10_4
  try clear hcz10_5
  try clear hcz10_6
  try clear hcz10_7
  try clear hcz10_8
  try clear hcz10_9
  try clear hcz11_0
  try clear hcz11_1
  try clear hcz11_10
  try clear hcz11_11
  try clear hcz11_2
  try clear hcz11_3
  try clear hcz11_4
  try clear hcz11_5
  try clear hcz11_6
  try clear hcz11_7
  try clear hcz11_8
  try clear hcz11_9
  try clear hcz12_0
  try clear hcz12_1
  try clear hcz12_10
  try clear hcz12_11
  try clear hcz12_2
  try clear hcz12_3
  try clear hcz12_4
  try clear hcz12_5
  try clear hcz12_6
  try clear hcz12_7
  try clear hcz12_8
  try clear hcz12_9
  try clear hcz13_0
  try clear hcz13_1
  try clear hcz13_10
  try clear hcz13_11
  try clear hcz13_2
  try clear hcz13_3
  try clear hcz13_4
  try clear hcz13_5
  try clear hcz13_6
  try clear hcz13_7
  try clear hcz13_8
  try clear hcz13_9
  try clear hfz10_0
  try clear hfz10_1
  try clear hfz10_10
  try clear hfz10_11
  try clear hfz10_2
  try clear hfz10_3
  try clear hfz10_4
  try clear hfz10_5
  try clear hfz10_6
  try clear hfz10_7
  try clear hfz10_8
  try clear hfz10_9
  try clear hfz11_0
  try clear hfz11_1
  try clear hfz11_10
  try clear hfz11_11
  try clear hfz11_2
  try clear hfz11_3
  try clear hfz11_4
  try clear hfz11_5
  try clear hfz11_6
  try clear hfz11_7
  try clear hfz11_8
  try clear hfz11_9
  try clear hfz12_0
  try clear hfz12_1
  try clear hfz12_10
  try clear hfz12_11
  try clear hfz12_2
  try clear hfz12_3
  try clear hfz12_4
  try clear hfz12_5
  try clear hfz12_6
  try clear hfz12_7
  try clear hfz12_8
  try clear hfz12_9
  try clear hfz13_0
  try clear hfz13_1
  try clear hfz13_10
  try clear hfz13_11
  try clear hfz13_2
  try clear hfz13_3
  try clear hfz13_4
  try clear hfz13_5
  try clear hfz13_6
  try clear hfz13_7
  try clear hfz13_8
  try clear hfz13_9
  obtain ⟨kq,x28_1,rfl,HA,HJ1,BK249,HB⟩:=hcut
  cases kq with
  | zero => exact absurd HA.out (by simp [impl_MessageOk.j0])
  | succ kj1 =>
   have H:=HA.out;clear HA;simp only [impl_MessageOk.j0] at H
   by_cases c14 : x28_1 = true
   ·subst c14
    have H1 : (some false) = some r:=by rw [if_pos rfl] at H;exact H
    clear H;have H:=H1;clear H1;obtain rfl:=Option.some.inj H;go_wp2;go_ret;exact ⟨by first|rfl|(simp [*,errW_none,errW_some] <;> rfl),by repeat (first|(with_reducible first|exact HB.out|apply pa_|apply pn_|apply pd_|refine ps_ ?_ GE249.out)|exact HB.out)⟩
   ·replace c14:=Bool.eq_false_iff.mpr c14;subst c14
    have H1 : ((impl_within.f a0_3 0 100000).bind fun t253 => (if t253 = true then ((impl_within.f a0_5 0 100000).bind fun t254 => (if t254 = true then ((impl_within.f a0_4 0 100000).bind fun t255 => (if t255 = true then ((impl_within.f a0_6 0 100000).bind fun t256 => (if t256 = true then (if (l0_8.length : Int) > 4 then (impl_MessageOk.j1 kj1 true a0_0 a0_1 a0_2 a0_3 a0_4 a0_5 a0_6 a0_7 l0_8 l0_9 a0_10 a0_11) else (impl_MessageOk.j1 kj1 (decide ((a0_10.size : Int) > 60)) a0_0 a0_1 a0_2 a0_3 a0_4 a0_5 a0_6 a0_7 l0_8 l0_9 a0_10 a0_11)) else (impl_MessageOk.j1 kj1 true a0_0 a0_1 a0_2 a0_3 a0_4 a0_5 a0_6 a0_7 l0_8 l0_9 a0_10 a0_11))) else (impl_MessageOk.j1 kj1 true a0_0 a0_1 a0_2 a0_3 a0_4 a0_5 a0_6 a0_7 l0_8 l0_9 a0_10 a0_11))) else (impl_MessageOk.j1 kj1 true a0_0 a0_1 a0_2 a0_3 a0_4 a0_5 a0_6 a0_7 l0_8 l0_9 a0_10 a0_11))) else (impl_MessageOk.j1 kj1 true a0_0 a0_1 a0_2 a0_3 a0_4 a0_5 a0_6 a0_7 l0_8 l0_9 a0_10 a0_11))) = some r:=by rw [if_neg (show ¬ (false = true) by decide)] at H;exact H
    clear H;have H:=H1;clear H1;have HC15:=A_ H;clear H
    go_upto_region 3 with (fail)
    go_cut [62] (fun v62 wc => ∃ (kq : Nat) (x62_14 : Bool),v62 = .bool x62_14 ∧ Aside0 (impl_MessageOk.j1 kq x62_14 a0_0 a0_1 a0_2 a0_3 a0_4 a0_5 a0_6 a0_7 l0_8 l0_9 a0_10 a0_11 = some r) ∧ Aside0 (kq ≤ kj1) ∧ Aside0 (wc.heap[gb249]? = some (.cells #[.int .i64 a0_0,.int .i64 a0_1,.int .i64 a0_2,.int .i64 a0_3,.int .i64 a0_4,.int .i64 a0_5,.int .i64 a0_6,.bool a0_7,(.slice A0_8 l0_8.length c0_8),(.slice A0_9 l0_9.length c0_9),.string a0_10,.bool a0_11] 52 (0,0))) ∧ Aside0 (Below w.heap.size w wc))
    case first =>
     have H:=HC15.out;clear HC15;replace H:=ob_.mp H;obtain ⟨t253,A160,H⟩:=H;replace H : (if t253 = true then ((impl_within.f a0_5 0 100000).bind fun t254 => (if t254 = true then ((impl_within.f a0_4 0 100000).bind fun t255 => (if t255 = true then ((impl_within.f a0_6 0 100000).bind fun t256 => (if t256 = true then (if (l0_8.length : Int) > 4 then (impl_MessageOk.j1 kj1 true a0_0 a0_1 a0_2 a0_3 a0_4 a0_5 a0_6 a0_7 l0_8 l0_9 a0_10 a0_11) else (impl_MessageOk.j1 kj1 (decide ((a0_10.size : Int) > 60)) a0_0 a0_1 a0_2 a0_3 a0_4 a0_5 a0_6 a0_7 l0_8 l0_9 a0_10 a0_11)) else (impl_MessageOk.j1 kj1 true a0_0 a0_1 a0_2 a0_3 a0_4 a0_5 a0_6 a0_7 l0_8 l0_9 a0_10 a0_11))) else (impl_MessageOk.j1 kj1 true a0_0 a0_1 a0_2 a0_3 a0_4 a0_5 a0_6 a0_7 l0_8 l0_9 a0_10 a0_11))) else (impl_MessageOk.j1 kj1 true a0_0 a0_1 a0_2 a0_3 a0_4 a0_5 a0_6 a0_7 l0_8 l0_9 a0_10 a0_11))) else (impl_MessageOk.j1 kj1 true a0_0 a0_1 a0_2 a0_3 a0_4 a0_5 a0_6 a0_7 l0_8 l0_9 a0_10 a0_11)) = some r:=H;have A16:=A_ A160;clear A160
     by_cases c17 : t253 = true
     ·subst c17
      have H1 : ((impl_within.f a0_5 0 100000).bind fun t254 => (if t254 = true then ((impl_within.f a0_4 0 100000).bind fun t255 => (if t255 = true then ((impl_within.f a0_6 0 100000).bind fun t256 => (if t256 = true then (if (l0_8.length : Int) > 4 then (impl_MessageOk.j1 kj1 true a0_0 a0_1 a0_2 a0_3 a0_4 a0_5 a0_6 a0_7 l0_8 l0_9 a0_10 a0_11) else (impl_MessageOk.j1 kj1 (decide ((a0_10.size : Int) > 60)) a0_0 a0_1 a0_2 a0_3 a0_4 a0_5 a0_6 a0_7 l0_8 l0_9 a0_10 a0_11)) else (impl_MessageOk.j1 kj1 true a0_0 a0_1 a0_2 a0_3 a0_4 a0_5 a0_6 a0_7 l0_8 l0_9 a0_10 a0_11))) else (impl_MessageOk.j1 kj1 true a0_0 a0_1 a0_2 a0_3 a0_4 a0_5 a0_6 a0_7 l0_8 l0_9 a0_10 a0_11))) else (impl_MessageOk.j1 kj1 true a0_0 a0_1 a0_2 a0_3 a0_4 a0_5 a0_6 a0_7 l0_8 l0_9 a0_10 a0_11))) = some r:=by rw [if_pos rfl] at H;exact H
      clear H;have H:=H1;clear H1;replace H:=ob_.mp H;obtain ⟨t254,A180,H⟩:=H;replace H : (if t254 = true then ((impl_within.f a0_4 0 100000).bind fun t255 => (if t255 = true then ((impl_within.f a0_6 0 100000).bind fun t256 => (if t256 = true then (if (l0_8.length : Int) > 4 then (impl_MessageOk.j1 kj1 true a0_0 a0_1 a0_2 a0_3 a0_4 a0_5 a0_6 a0_7 l0_8 l0_9 a0_10 a0_11) else (impl_MessageOk.j1 kj1 (decide ((a0_10.size : Int) > 60)) a0_0 a0_1 a0_2 a0_3 a0_4 a0_5 a0_6 a0_7 l0_8 l0_9 a0_10 a0_11)) else (impl_MessageOk.j1 kj1 true a0_0 a0_1 a0_2 a0_3 a0_4 a0_5 a0_6 a0_7 l0_8 l0_9 a0_10 a0_11))) else (impl_MessageOk.j1 kj1 true a0_0 a0_1 a0_2 a0_3 a0_4 a0_5 a0_6 a0_7 l0_8 l0_9 a0_10 a0_11))) else (impl_MessageOk.j1 kj1 true a0_0 a0_1 a0_2 a0_3 a0_4 a0_5 a0_6 a0_7 l0_8 l0_9 a0_10 a0_11)) = some r:=H;have A18:=A_ A180;clear A180
      by_cases c19 : t254 = true
      ·subst c19
       have H1 : ((impl_within.f a0_4 0 100000).bind fun t255 => (if t255 = true then ((impl_within.f a0_6 0 100000).bind fun t256 => (if t256 = true then (if (l0_8.length : Int) > 4 then (impl_MessageOk.j1 kj1 true a0_0 a0_1 a0_2 a0_3 a0_4 a0_5 a0_6 a0_7 l0_8 l0_9 a0_10 a0_11) else (impl_MessageOk.j1 kj1 (decide ((a0_10.size : Int) > 60)) a0_0 a0_1 a0_2 a0_3 a0_4 a0_5 a0_6 a0_7 l0_8 l0_9 a0_10 a0_11)) else (impl_MessageOk.j1 kj1 true a0_0 a0_1 a0_2 a0_3 a0_4 a0_5 a0_6 a0_7 l0_8 l0_9 a0_10 a0_11))) else (impl_MessageOk.j1 kj1 true a0_0 a0_1 a0_2 a0_3 a0_4 a0_5 a0_6 a0_7 l0_8 l0_9 a0_10 a0_11))) = some r:=by rw [if_pos rfl] at H;exact H
       clear H;have H:=H1;clear H1;replace H:=ob_.mp H;obtain ⟨t255,A200,H⟩:=H;replace H : (if t255 = true then ((impl_within.f a0_6 0 100000).bind fun t256 => (if t256 = true then (if (l0_8.length : Int) > 4 then (impl_MessageOk.j1 kj1 true a0_0 a0_1 a0_2 a0_3 a0_4 a0_5 a0_6 a0_7 l0_8 l0_9 a0_10 a0_11) else (impl_MessageOk.j1 kj1 (decide ((a0_10.size : Int) > 60)) a0_0 a0_1 a0_2 a0_3 a0_4 a0_5 a0_6 a0_7 l0_8 l0_9 a0_10 a0_11)) else (impl_MessageOk.j1 kj1 true a0_0 a0_1 a0_2 a0_3 a0_4 a0_5 a0_6 a0_7 l0_8 l0_9 a0_10 a0_11))) else (impl_MessageOk.j1 kj1 true a0_0 a0_1 a0_2 a0_3 a0_4 a0_5 a0_6 a0_7 l0_8 l0_9 a0_10 a0_11)) = some r:=H;have A20:=A_ A200;clear A200
       by_cases c21 : t255 = true
       ·subst c21
        have H1 : ((impl_within.f a0_6 0 100000).bind fun t256 => (if t256 = true then (if (l0_8.length : Int) > 4 then (impl_MessageOk.j1 kj1 true a0_0 a0_1 a0_2 a0_3 a0_4 a0_5 a0_6 a0_7 l0_8 l0_9 a0_10 a0_11) else (impl_MessageOk.j1 kj1 (decide ((a0_10.size : Int) > 60)) a0_0 a0_1 a0_2 a0_3 a0_4 a0_5 a0_6 a0_7 l0_8 l0_9 a0_10 a0_11)) else (impl_MessageOk.j1 kj1 true a0_0 a0_1 a0_2 a0_3 a0_4 a0_5 a0_6 a0_7 l0_8 l0_9 a0_10 a0_11))) = some r:=by rw [if_pos rfl] at H;exact H
        clear H;have H:=H1;clear H1;replace H:=ob_.mp H;obtain ⟨t256,A220,H⟩:=H;replace H : (if t256 = true then (if (l0_8.length : Int) > 4 then (impl_MessageOk.j1 kj1 true a0_0 a0_1 a0_2 a0_3 a0_4 a0_5 a0_6 a0_7 l0_8 l0_9 a0_10 a0_11) else (impl_MessageOk.j1 kj1 (decide ((a0_10.size : Int) > 60)) a0_0 a0_1 a0_2 a0_3 a0_4 a0_5 a0_6 a0_7 l0_8 l0_9 a0_10 a0_11)) else (impl_MessageOk.j1 kj1 true a0_0 a0_1 a0_2 a0_3 a0_4 a0_5 a0_6 a0_7 l0_8 l0_9 a0_10 a0_11)) = some r:=H;have A22:=A_ A220;clear A220
        by_cases c23 : t256 = true
        ·subst c23
         have H1 : (if (l0_8.length : Int) > 4 then (impl_MessageOk.j1 kj1 true a0_0 a0_1 a0_2 a0_3 a0_4 a0_5 a0_6 a0_7 l0_8 l0_9 a0_10 a0_11) else (impl_MessageOk.j1 kj1 (decide ((a0_10.size : Int) > 60)) a0_0 a0_1 a0_2 a0_3 a0_4 a0_5 a0_6 a0_7 l0_8 l0_9 a0_10 a0_11)) = some r:=by rw [if_pos rfl] at H;exact H
         clear H;have H:=H1;clear H1
         by_cases c24 : (l0_8.length : Int) > 4
         ·rw [if_pos c24] at H;have c24b0 : decide (4 < (l0_8.length : Int)) = true:=de_ c24;have c24b1 : decide (4 < l0_8.length) = true:=de_ (by omega);clear c24
          (first|rw [c24b0]|(simp only [i64_w,i32_w];rw [c24b0])|skip)
          have H':=A_ H;clear H;have hcz25_0 : wc.cell? ⟨gb249,0,none⟩ = some (.int .i64 a0_0):=(kc_ BK249.out 0).trans rfl;have hcz25_1 : wc.cell? ⟨gb249,1,none⟩ = some (.int .i64 a0_1):=(kc_ BK249.out 1).trans rfl;have hcz25_2 : wc.cell? ⟨gb249,2,none⟩ = some (.int .i64 a0_2):=(kc_ BK249.out 2).trans rfl;have hcz25_3 : wc.cell? ⟨gb249,3,none⟩ = some (.int .i64 a0_3):=(kc_ BK249.out 3).trans rfl;have hcz25_4 : wc.cell? ⟨gb249,4,none⟩ = some (.int .i64 a0_4):=(kc_ BK249.out 4).trans rfl;have hcz25_5 : wc.cell? ⟨gb249,5,none⟩ = some (.int .i64 a0_5):=(kc_ BK249.out 5).trans rfl;have hcz25_6 : wc.cell? ⟨gb249,6,none⟩ = some (.int .i64 a0_6):=(kc_ BK249.out 6).trans rfl;have hcz25_7 : wc.cell? ⟨gb249,7,none⟩ = some (.bool a0_7):=(kc_ BK249.out 7).trans rfl;have hcz25_8 : wc.cell? ⟨gb249,8,none⟩ = some (.slice A0_8 l0_8.length c0_8):=(kc_ BK249.out 8).trans rfl;have hcz25_9 : wc.cell? ⟨gb249,9,none⟩ = some (.slice A0_9 l0_9.length c0_9):=(kc_ BK249.out 9).trans rfl;have hcz25_10 : wc.cell? ⟨gb249,10,none⟩ = some (.string a0_10):=(kc_ BK249.out 10).trans rfl;have hcz25_11 : wc.cell? ⟨gb249,11,none⟩ = some (.bool a0_11):=(kc_ BK249.out 11).trans rfl;have hfz25_0:=kf_ BK249.out 0;have hfz25_1:=kf_ BK249.out 1;have hfz25_2:=kf_ BK249.out 2;have hfz25_3:=kf_ BK249.out 3;have hfz25_4:=kf_ BK249.out 4;have hfz25_5:=kf_ BK249.out 5;have hfz25_6:=kf_ BK249.out 6;have hfz25_7:=kf_ BK249.out 7;have hfz25_8:=kf_ BK249.out 8;have hfz25_9:=kf_ BK249.out 9;have hfz25_10:=kf_ BK249.out 10;have hfz25_11:=kf_ BK249.out 11
          go_wp2_with (first|((with_reducible refine gate_callee (f:=75) rfl ?_);refine goesL_ (some 31) rfl rfl Try.func75 (by kernel_rfl) rfl #[.int .i64 a0_3,.int .i64 0,.int .i64 100000] rfl (by (try simp only [s4_,s5_,s6_]);first|done|rfl|(simp only [List.length_drop,List.length_take];rfl)) ?_;(with_reducible refine (impl_within.calls a0_3 0 100000 true _ A16.out).mono ?_);rintro e w' ⟨rfl,⟨nd,rfl⟩⟩;refine ⟨_,rfl,?_⟩)|(go_at_call 75;(with_reducible refine (impl_within.calls a0_5 0 100000 true _ A18.out).mono ?_);rintro e w' ⟨rfl,⟨nd,rfl⟩⟩)|(go_at_call 75;(with_reducible refine (impl_within.calls a0_4 0 100000 true _ A20.out).mono ?_);rintro e w' ⟨rfl,⟨nd,rfl⟩⟩)|(go_at_call 75;(with_reducible refine (impl_within.calls a0_6 0 100000 true _ A22.out).mono ?_);rintro e w' ⟨rfl,⟨nd,rfl⟩⟩))
          go_meet
          case rel => exact ⟨_,(true),(by first|rfl|(simp;done)|(simp [*];done)),H',⟨by have:=HJ1.out;first|omega|exact Nat.le_refl _⟩,⟨by (with_reducible repeat (first|refine kn_ ?_ _|refine kd_ ?_|refine ka_ ?_ _));exact BK249.out⟩,⟨by repeat (first|(with_reducible first|exact HB.out|apply pa_|apply pn_|apply pd_|refine ps_ ?_ GE249.out)|exact HB.out)⟩⟩
         ·rw [if_neg c24] at H;have c24b0 : decide (4 < (l0_8.length : Int)) = false:=decide_eq_false c24;have c24b1 : decide (4 < l0_8.length) = false:=decide_eq_false (by omega);clear c24
          (first|rw [c24b0]|(simp only [i64_w,i32_w];rw [c24b0])|skip)
          have H':=A_ H;clear H;have hcz26_0 : wc.cell? ⟨gb249,0,none⟩ = some (.int .i64 a0_0):=(kc_ BK249.out 0).trans rfl;have hcz26_1 : wc.cell? ⟨gb249,1,none⟩ = some (.int .i64 a0_1):=(kc_ BK249.out 1).trans rfl;have hcz26_2 : wc.cell? ⟨gb249,2,none⟩ = some (.int .i64 a0_2):=(kc_ BK249.out 2).trans rfl;have hcz26_3 : wc.cell? ⟨gb249,3,none⟩ = some (.int .i64 a0_3):=(kc_ BK249.out 3).trans rfl;have hcz26_4 : wc.cell? ⟨gb249,4,none⟩ = some (.int .i64 a0_4):=(kc_ BK249.out 4).trans rfl;have hcz26_5 : wc.cell? ⟨gb249,5,none⟩ = some (.int .i64 a0_5):=(kc_ BK249.out 5).trans rfl;have hcz26_6 : wc.cell? ⟨gb249,6,none⟩ = some (.int .i64 a0_6):=(kc_ BK249.out 6).trans rfl;have hcz26_7 : wc.cell? ⟨gb249,7,none⟩ = some (.bool a0_7):=(kc_ BK249.out 7).trans rfl;have hcz26_8 : wc.cell? ⟨gb249,8,none⟩ = some (.slice A0_8 l0_8.length c0_8):=(kc_ BK249.out 8).trans rfl;have hcz26_9 : wc.cell? ⟨gb249,9,none⟩ = some (.slice A0_9 l0_9.length c0_9):=(kc_ BK249.out 9).trans rfl;have hcz26_10 : wc.cell? ⟨gb249,10,none⟩ = some (.string a0_10):=(kc_ BK249.out 10).trans rfl;have hcz26_11 : wc.cell? ⟨gb249,11,none⟩ = some (.bool a0_11):=(kc_ BK249.out 11).trans rfl;have hfz26_0:=kf_ BK249.out 0;have hfz26_1:=kf_ BK249.out 1;have hfz26_2:=kf_ BK249.out 2;have hfz26_3:=kf_ BK249.out 3;have hfz26_4:=kf_ BK249.out 4;have hfz26_5:=kf_ BK249.out 5;have hfz26_6:=kf_ BK249.out 6;have hfz26_7:=kf_ BK249.out 7;have hfz26_8:=kf_ BK249.out 8;have hfz26_9:=kf_ BK249.out 9;have hfz26_10:=kf_ BK249.out 10;have hfz26_11:=kf_ BK249.out 11
          go_wp2_with (first|((with_reducible refine gate_callee (f:=75) rfl ?_);refine goesL_ (some 31) rfl rfl Try.func75 (by kernel_rfl) rfl #[.int .i64 a0_3,.int .i64 0,.int .i64 100000] rfl (by (try simp only [s4_,s5_,s6_]);first|done|rfl|(simp only [List.length_drop,List.length_take];rfl)) ?_;(with_reducible refine (impl_within.calls a0_3 0 100000 true _ A16.out).mono ?_);rintro e w' ⟨rfl,⟨nd,rfl⟩⟩;refine ⟨_,rfl,?_⟩)|(go_at_call 75;(with_reducible refine (impl_within.calls a0_5 0 100000 true _ A18.out).mono ?_);rintro e w' ⟨rfl,⟨nd,rfl⟩⟩)|(go_at_call 75;(with_reducible refine (impl_within.calls a0_4 0 100000 true _ A20.out).mono ?_);rintro e w' ⟨rfl,⟨nd,rfl⟩⟩)|(go_at_call 75;(with_reducible refine (impl_within.calls a0_6 0 100000 true _ A22.out).mono ?_);rintro e w' ⟨rfl,⟨nd,rfl⟩⟩))
          go_meet
          case rel => exact ⟨_,(decide ((a0_10.size : Int) > 60)),(by first|rfl|(simp;done)|(simp [*];done)),H',⟨by have:=HJ1.out;first|omega|exact Nat.le_refl _⟩,⟨by (with_reducible repeat (first|refine kn_ ?_ _|refine kd_ ?_|refine ka_ ?_ _));exact BK249.out⟩,⟨by repeat (first|(with_reducible first|exact HB.out|apply pa_|apply pn_|apply pd_|refine ps_ ?_ GE249.out)|exact HB.out)⟩⟩
        ·replace c23:=Bool.eq_false_iff.mpr c23;subst c23
         have H1 : (impl_MessageOk.j1 kj1 true a0_0 a0_1 a0_2 a0_3 a0_4 a0_5 a0_6 a0_7 l0_8 l0_9 a0_10 a0_11) = some r:=by rw [if_neg (show ¬ (false = true) by decide)] at H;exact H
         clear H;have H:=H1;clear H1;have H':=A_ H;clear H;have hcz27_0 : wc.cell? ⟨gb249,0,none⟩ = some (.int .i64 a0_0):=(kc_ BK249.out 0).trans rfl;have hcz27_1 : wc.cell? ⟨gb249,1,none⟩ = some (.int .i64 a0_1):=(kc_ BK249.out 1).trans rfl;have hcz27_2 : wc.cell? ⟨gb249,2,none⟩ = some (.int .i64 a0_2):=(kc_ BK249.out 2).trans rfl;have hcz27_3 : wc.cell? ⟨gb249,3,none⟩ = some (.int .i64 a0_3):=(kc_ BK249.out 3).trans rfl;have hcz27_4 : wc.cell? ⟨gb249,4,none⟩ = some (.int .i64 a0_4):=(kc_ BK249.out 4).trans rfl;have hcz27_5 : wc.cell? ⟨gb249,5,none⟩ = some (.int .i64 a0_5):=(kc_ BK249.out 5).trans rfl;have hcz27_6 : wc.cell? ⟨gb249,6,none⟩ = some (.int .i64 a0_6):=(kc_ BK249.out 6).trans rfl;have hcz27_7 : wc.cell? ⟨gb249,7,none⟩ = some (.bool a0_7):=(kc_ BK249.out 7).trans rfl;have hcz27_8 : wc.cell? ⟨gb249,8,none⟩ = some (.slice A0_8 l0_8.length c0_8):=(kc_ BK249.out 8).trans rfl;have hcz27_9 : wc.cell? ⟨gb249,9,none⟩ = some (.slice A0_9 l0_9.length c0_9):=(kc_ BK249.out 9).trans rfl;have hcz27_10 : wc.cell? ⟨gb249,10,none⟩ = some (.string a0_10):=(kc_ BK249.out 10).trans rfl;have hcz27_11 : wc.cell? ⟨gb249,11,none⟩ = some (.bool a0_11):=(kc_ BK249.out 11).trans rfl;have hfz27_0:=kf_ BK249.out 0;have hfz27_1:=kf_ BK249.out 1;have hfz27_2:=kf_ BK249.out 2;have hfz27_3:=kf_ BK249.out 3;have hfz27_4:=kf_ BK249.out 4;have hfz27_5:=kf_ BK249.out 5;have hfz27_6:=kf_ BK249.out 6;have hfz27_7:=kf_ BK249.out 7;have hfz27_8:=kf_ BK249.out 8;have hfz27_9:=kf_ BK249.out 9;have hfz27_10:=kf_ BK249.out 10;have hfz27_11:=kf_ BK249.out 11
         go_wp2_with (first|((with_reducible refine gate_callee (f:=75) rfl ?_);refine goesL_ (some 31) rfl rfl Try.func75 (by kernel_rfl) rfl #[.int .i64 a0_3,.int .i64 0,.int .i64 100000] rfl (by (try simp only [s4_,s5_,s6_]);first|done|rfl|(simp only [List.length_drop,List.length_take];rfl)) ?_;(with_reducible refine (impl_within.calls a0_3 0 100000 true _ A16.out).mono ?_);rintro e w' ⟨rfl,⟨nd,rfl⟩⟩;refine ⟨_,rfl,?_⟩)|(go_at_call 75;(with_reducible refine (impl_within.calls a0_5 0 100000 true _ A18.out).mono ?_);rintro e w' ⟨rfl,⟨nd,rfl⟩⟩)|(go_at_call 75;(with_reducible refine (impl_within.calls a0_4 0 100000 true _ A20.out).mono ?_);rintro e w' ⟨rfl,⟨nd,rfl⟩⟩)|(go_at_call 75;(with_reducible refine (impl_within.calls a0_6 0 100000 false _ A22.out).mono ?_);rintro e w' ⟨rfl,⟨nd,rfl⟩⟩))
         go_meet
         case rel => exact ⟨_,(true),(by first|rfl|(simp;done)|(simp [*];done)),H',⟨by have:=HJ1.out;first|omega|exact Nat.le_refl _⟩,⟨by (with_reducible repeat (first|refine kn_ ?_ _|refine kd_ ?_|refine ka_ ?_ _));exact BK249.out⟩,⟨by repeat (first|(with_reducible first|exact HB.out|apply pa_|apply pn_|apply pd_|refine ps_ ?_ GE249.out)|exact HB.out)⟩⟩
       ·replace c21:=Bool.eq_false_iff.mpr c21;subst c21
        have H1 : (impl_MessageOk.j1 kj1 true a0_0 a0_1 a0_2 a0_3 a0_4 a0_5 a0_6 a0_7 l0_8 l0_9 a0_10 a0_11) = some r:=by rw [if_neg (show ¬ (false = true) by decide)] at H;exact H
        clear H;have H:=H1;clear H1;have H':=A_ H;clear H;have hcz28_0 : wc.cell? ⟨gb249,0,none⟩ = some (.int .i64 a0_0):=(kc_ BK249.out 0).trans rfl;have hcz28_1 : wc.cell? ⟨gb249,1,none⟩ = some (.int .i64 a0_1):=(kc_ BK249.out 1).trans rfl;have hcz28_2 : wc.cell? ⟨gb249,2,none⟩ = some (.int .i64 a0_2):=(kc_ BK249.out 2).trans rfl;have hcz28_3 : wc.cell? ⟨gb249,3,none⟩ = some (.int .i64 a0_3):=(kc_ BK249.out 3).trans rfl;have hcz28_4 : wc.cell? ⟨gb249,4,none⟩ = some (.int .i64 a0_4):=(kc_ BK249.out 4).trans rfl;have hcz28_5 : wc.cell? ⟨gb249,5,none⟩ = some (.int .i64 a0_5):=(kc_ BK249.out 5).trans rfl;have hcz28_6 : wc.cell? ⟨gb249,6,none⟩ = some (.int .i64 a0_6):=(kc_ BK249.out 6).trans rfl;have hcz28_7 : wc.cell? ⟨gb249,7,none⟩ = some (.bool a0_7):=(kc_ BK249.out 7).trans rfl;have hcz28_8 : wc.cell? ⟨gb249,8,none⟩ = some (.slice A0_8 l0_8.length c0_8):=(kc_ BK249.out 8).trans rfl;have hcz28_9 : wc.cell? ⟨gb249,9,none⟩ = some (.slice A0_9 l0_9.length c0_9):=(kc_ BK249.out 9).trans rfl;have hcz28_10 : wc.cell? ⟨gb249,10,none⟩ = some (.string a0_10):=(kc_ BK249.out 10).trans rfl;have hcz28_11 : wc.cell? ⟨gb249,11,none⟩ = some (.bool a0_11):=(kc_ BK249.out 11).trans rfl;have hfz28_0:=kf_ BK249.out 0;have hfz28_1:=kf_ BK249.out 1;have hfz28_2:=kf_ BK249.out 2;have hfz28_3:=kf_ BK249.out 3;have hfz28_4:=kf_ BK249.out 4;have hfz28_5:=kf_ BK249.out 5;have hfz28_6:=kf_ BK249.out 6;have hfz28_7:=kf_ BK249.out 7;have hfz28_8:=kf_ BK249.out 8;have hfz28_9:=kf_ BK249.out 9;have hfz28_10:=kf_ BK249.out 10;have hfz28_11:=kf_ BK249.out 11
        go_wp2_with (first|((with_reducible refine gate_callee (f:=75) rfl ?_);refine goesL_ (some 31) rfl rfl Try.func75 (by kernel_rfl) rfl #[.int .i64 a0_3,.int .i64 0,.int .i64 100000] rfl (by (try simp only [s4_,s5_,s6_]);first|done|rfl|(simp only [List.length_drop,List.length_take];rfl)) ?_;(with_reducible refine (impl_within.calls a0_3 0 100000 true _ A16.out).mono ?_);rintro e w' ⟨rfl,⟨nd,rfl⟩⟩;refine ⟨_,rfl,?_⟩)|(go_at_call 75;(with_reducible refine (impl_within.calls a0_5 0 100000 true _ A18.out).mono ?_);rintro e w' ⟨rfl,⟨nd,rfl⟩⟩)|(go_at_call 75;(with_reducible refine (impl_within.calls a0_4 0 100000 false _ A20.out).mono ?_);rintro e w' ⟨rfl,⟨nd,rfl⟩⟩))
        go_meet
        case rel => exact ⟨_,(true),(by first|rfl|(simp;done)|(simp [*];done)),H',⟨by have:=HJ1.out;first|omega|exact Nat.le_refl _⟩,⟨by (with_reducible repeat (first|refine kn_ ?_ _|refine kd_ ?_|refine ka_ ?_ _));exact BK249.out⟩,⟨by repeat (first|(with_reducible first|exact HB.out|apply pa_|apply pn_|apply pd_|refine ps_ ?_ GE249.out)|exact HB.out)⟩⟩
      ·replace c19:=Bool.eq_false_iff.mpr c19;subst c19
       have H1 : (impl_MessageOk.j1 kj1 true a0_0 a0_1 a0_2 a0_3 a0_4 a0_5 a0_6 a0_7 l0_8 l0_9 a0_10 a0_11) = some r:=by rw [if_neg (show ¬ (false = true) by decide)] at H;exact H
       clear H;have H:=H1;clear H1;have H':=A_ H;clear H;have hcz29_0 : wc.cell? ⟨gb249,0,none⟩ = some (.int .i64 a0_0):=(kc_ BK249.out 0).trans rfl;have hcz29_1 : wc.cell? ⟨gb249,1,none⟩ = some (.int .i64 a0_1):=(kc_ BK249.out 1).trans rfl;have hcz29_2 : wc.cell? ⟨gb249,2,none⟩ = some (.int .i64 a0_2):=(kc_ BK249.out 2).trans rfl;have hcz29_3 : wc.cell? ⟨gb249,3,none⟩ = some (.int .i64 a0_3):=(kc_ BK249.out 3).trans rfl;have hcz29_4 : wc.cell? ⟨gb249,4,none⟩ = some (.int .i64 a0_4):=(kc_ BK249.out 4).trans rfl;have hcz29_5 : wc.cell? ⟨gb249,5,none⟩ = some (.int .i64 a0_5):=(kc_ BK249.out 5).trans rfl;have hcz29_6 : wc.cell? ⟨gb249,6,none⟩ = some (.int .i64 a0_6):=(kc_ BK249.out 6).trans rfl;have hcz29_7 : wc.cell? ⟨gb249,7,none⟩ = some (.bool a0_7):=(kc_ BK249.out 7).trans rfl;have hcz29_8 : wc.cell? ⟨gb249,8,none⟩ = some (.slice A0_8 l0_8.length c0_8):=(kc_ BK249.out 8).trans rfl;have hcz29_9 : wc.cell? ⟨gb249,9,none⟩ = some (.slice A0_9 l0_9.length c0_9):=(kc_ BK249.out 9).trans rfl;have hcz29_10 : wc.cell? ⟨gb249,10,none⟩ = some (.string a0_10):=(kc_ BK249.out 10).trans rfl;have hcz29_11 : wc.cell? ⟨gb249,11,none⟩ = some (.bool a0_11):=(kc_ BK249.out 11).trans rfl;have hfz29_0:=kf_ BK249.out 0;have hfz29_1:=kf_ BK249.out 1;have hfz29_2:=kf_ BK249.out 2;have hfz29_3:=kf_ BK249.out 3;have hfz29_4:=kf_ BK249.out 4;have hfz29_5:=kf_ BK249.out 5;have hfz29_6:=kf_ BK249.out 6;have hfz29_7:=kf_ BK249.out 7;have hfz29_8:=kf_ BK249.out 8;have hfz29_9:=kf_ BK249.out 9;have hfz29_10:=kf_ BK249.out 10;have hfz29_11:=kf_ BK249.out 11
       go_wp2_with (first|((with_reducible refine gate_callee (f:=75) rfl ?_);refine goesL_ (some 31) rfl rfl Try.func75 (by kernel_rfl) rfl #[.int .i64 a0_3,.int .i64 0,.int .i64 100000] rfl (by (try simp only [s4_,s5_,s6_]);first|done|rfl|(simp only [List.length_drop,List.length_take];rfl)) ?_;(with_reducible refine (impl_within.calls a0_3 0 100000 true _ A16.out).mono ?_);rintro e w' ⟨rfl,⟨nd,rfl⟩⟩;refine ⟨_,rfl,?_⟩)|(go_at_call 75;(with_reducible refine (impl_within.calls a0_5 0 100000 false _ A18.out).mono ?_);rintro e w' ⟨rfl,⟨nd,rfl⟩⟩))
       go_meet
       case rel => exact ⟨_,(true),(by first|rfl|(simp;done)|(simp [*];done)),H',⟨by have:=HJ1.out;first|omega|exact Nat.le_refl _⟩,⟨by (with_reducible repeat (first|refine kn_ ?_ _|refine kd_ ?_|refine ka_ ?_ _));exact BK249.out⟩,⟨by repeat (first|(with_reducible first|exact HB.out|apply pa_|apply pn_|apply pd_|refine ps_ ?_ GE249.out)|exact HB.out)⟩⟩
     ·replace c17:=Bool.eq_false_iff.mpr c17;subst c17
      have H1 : (impl_MessageOk.j1 kj1 true a0_0 a0_1 a0_2 a0_3 a0_4 a0_5 a0_6 a0_7 l0_8 l0_9 a0_10 a0_11) = some r:=by rw [if_neg (show ¬ (false = true) by decide)] at H;exact H
      clear H;have H:=H1;clear H1;have H':=A_ H;clear H;have hcz30_0 : wc.cell? ⟨gb249,0,none⟩ = some (.int .i64 a0_0):=(kc_ BK249.out 0).trans rfl;have hcz30_1 : wc.cell? ⟨gb249,1,none⟩ = some (.int .i64 a0_1):=(kc_ BK249.out 1).trans rfl;have hcz30_2 : wc.cell? ⟨gb249,2,none⟩ = some (.int .i64 a0_2):=(kc_ BK249.out 2).trans rfl;have hcz30_3 : wc.cell? ⟨gb249,3,none⟩ = some (.int .i64 a0_3):=(kc_ BK249.out 3).trans rfl;have hcz30_4 : wc.cell? ⟨gb249,4,none⟩ = some (.int .i64 a0_4):=(kc_ BK249.out 4).trans rfl;have hcz30_5 : wc.cell? ⟨gb249,5,none⟩ = some (.int .i64 a0_5):=(kc_ BK249.out 5).trans rfl;have hcz30_6 : wc.cell? ⟨gb249,6,none⟩ = some (.int .i64 a0_6):=(kc_ BK249.out 6).trans rfl;have hcz30_7 : wc.cell? ⟨gb249,7,none⟩ = some (.bool a0_7):=(kc_ BK249.out 7).trans rfl;have hcz30_8 : wc.cell? ⟨gb249,8,none⟩ = some (.slice A0_8 l0_8.length c0_8):=(kc_ BK249.out 8).trans rfl;have hcz30_9 : wc.cell? ⟨gb249,9,none⟩ = some (.slice A0_9 l0_9.length c0_9):=(kc_ BK249.out 9).trans rfl;have hcz30_10 : wc.cell? ⟨gb249,10,none⟩ = some (.string a0_10):=(kc_ BK249.out 10).trans rfl;have hcz30_11 : wc.cell? ⟨gb249,11,none⟩ = some (.bool a0_11):=(kc_ BK249.out 11).trans rfl;have hfz30_0:=kf_ BK249.out 0;have hfz30_1:=kf_ BK249.out 1;have hfz30_2:=kf_ BK249.out 2;have hfz30_3:=kf_ BK249.out 3;have hfz30_4:=kf_ BK249.out 4;have hfz30_5:=kf_ BK249.out 5;have hfz30_6:=kf_ BK249.out 6;have hfz30_7:=kf_ BK249.out 7;have hfz30_8:=kf_ BK249.out 8;have hfz30_9:=kf_ BK249.out 9;have hfz30_10:=kf_ BK249.out 10;have hfz30_11:=kf_ BK249.out 11
      go_wp2_with (first|((with_reducible refine gate_callee (f:=75) rfl ?_);refine goesL_ (some 31) rfl rfl Try.func75 (by kernel_rfl) rfl #[.int .i64 a0_3,.int .i64 0,.int .i64 100000] rfl (by (try simp only [s4_,s5_,s6_]);first|done|rfl|(simp only [List.length_drop,List.length_take];rfl)) ?_;(with_reducible refine (impl_within.calls a0_3 0 100000 false _ A16.out).mono ?_);rintro e w' ⟨rfl,⟨nd,rfl⟩⟩;refine ⟨_,rfl,?_⟩))
      go_meet
      case rel => exact ⟨_,(true),(by first|rfl|(simp;done)|(simp [*];done)),H',⟨by have:=HJ1.out;first|omega|exact Nat.le_refl _⟩,⟨by (with_reducible repeat (first|refine kn_ ?_ _|refine kd_ ?_|refine ka_ ?_ _));exact BK249.out⟩,⟨by repeat (first|(with_reducible first|exact HB.out|apply pa_|apply pn_|apply pd_|refine ps_ ?_ GE249.out)|exact HB.out)⟩⟩
    case rest =>
     clear HC15
     try clear c1
     try clear c2
     try clear p2
     try clear c3
     try clear c5
     try clear c7
     try clear c9
     try clear c14
     try clear c17
     try clear c19
     try clear c21
     try clear c23
     try clear c24
     try clear c24b0
     try clear c24b1
     try clear hcz10_0
     try clear hcz10_1
     try clear hcz10_10
     try clear hcz10_11
     try clear hcz10_2
     try clear hcz10_3
     try clear hcz10_4
     try clear hcz10_5
     try clear hcz10_6
     try clear hcz10_7
     try clear hcz10_8
     try clear hcz10_9
     try clear hcz11_0
     try clear hcz11_1
     try clear hcz11_10
     try clear hcz11_11
     try clear hcz11_2
     try clear hcz11_3
     try clear hcz11_4
     try clear hcz11_5
     try clear hcz11_6
     try clear hcz11_7
     try clear hcz11_8
     try clear hcz11_9
     try clear hcz12_0
     try clear hcz12_1
     try clear hcz12_10
     try clear hcz12_11
     try clear hcz12_2
     try clear hcz12_3
     try clear hcz12_4
     try clear hcz12_5
     try clear hcz12_6
     try clear hcz12_7
     try clear hcz12_8
     try clear hcz12_9
     try clear hcz13_0
     try clear hcz13_1
     try clear hcz13_10
     try clear hcz13_11
     try clear hcz13_2
     try clear hcz13_3
     try clear hcz13_4
     try clear hcz13_5
     try clear hcz13_6
     try clear hcz13_7
     try clear hcz13_8
     try clear hcz13_9
     try clear hcz25_0
     try clear hcz25_1
     try clear hcz25_10
     try clear hcz25_11
     try clear hcz25_2
     try clear hcz25_3
     try clear hcz25_4
     try clear hcz25_5
     try clear hcz25_6
     try clear hcz25_7
     try clear hcz25_8
     try clear hcz25_9
     try clear hcz26_0
     try clear hcz26_1
     try clear hcz26_10
     try clear hcz26_11
     try clear hcz26_2
     try clear hcz26_3
     try clear hcz26_4
     try clear hcz26_5
     try clear hcz26_6
     try clear hcz26_7
     try clear hcz26_8
     try clear hcz26_9
     try clear hcz27_0
     try clear hcz27_1
     try clear hcz27_10
     try clear hcz27_11
     try clear hcz27_2
     try clear hcz27_3
     try clear hcz27_4
     try clear hcz27_5
     try clear hcz27_6
     try clear hcz27_7
     try clear hcz27_8
     try clear hcz27_9
     try clear hcz28_0
     try clear hcz28_1
     try clear hcz28_10
     try clear hcz28_11
     try clear hcz28_2
     try clear hcz28_3
     try clear hcz28_4
     try clear hcz28_5
     try clear hcz28_6
     try clear hcz28_7
     try clear hcz28_8
     try clear hcz28_9
     try clear hcz29_0
     try clear hcz29_1
     try clear hcz29_10
     try clear hcz29_11
     try clear hcz29_2
     try clear hcz29_3
     try clear hcz29_4
     try clear hcz29_5
     try clear hcz29_6
     try clear hcz29_7
     try clear hcz29_8
     try clear hcz29_9
     try clear hcz30_0
     try clear hcz30_1
     try clear hcz30_10
     try clear hcz30_11
     try clear hcz30_2
     try clear hcz30_3
     try clear hcz30_4
     try clear hcz30_5
     try clear hcz30_6
     try clear hcz30_7
     try clear hcz30_8
     try clear hcz30_9
     try clear hfz10_0
     try clear hfz10_1
     try clear hfz10_10
     try clear hfz10_11
     try clear hfz10_2
     try clear hfz10_3
     try clear hfz10_4
     try clear hfz10_5
     try clear hfz10_6
     try clear hfz10_7
     try clear hfz10_8
     try clear hfz10_9
     try clear hfz11_0
     try clear hfz11_1
     try clear hfz11_10
     try clear hfz11_11
     try clear hfz11_2
     try clear hfz11_3
     try clear hfz11_4
     try clear hfz11_5
     try clear hfz11_6
     try clear hfz11_7
     try clear hfz11_8
     try clear hfz11_9
     try clear hfz12_0
     try clear hfz12_1
     try clear hfz12_10
     try clear hfz12_11
     try clear hfz12_2
     try clear hfz12_3
     try clear hfz12_4
     try clear hfz12_5
     try clear hfz12_6
     try clear hfz12_7
     try clear hfz12_8
     try clear hfz12_9
     try clear hfz13_0
     try clear hfz13_1
     try clear hfz13_10
     try clear hfz13_11
     try clear hfz13_2
     try clear hfz13_3
     try clear hfz13_4
     try clear hfz13_5
     try clear hfz13_6
     try clear hfz13_7
     try clear hfz13_8
     try clear hfz13_9
     try clear hfz25_0
     try clear hfz25_1
     try clear hfz25_10
     try clear hfz25_11
     try clear hfz25_2
     try clear hfz25_3
     try clear hfz25_4
     try clear hfz25_5
     try clear hfz25_6
     try clear hfz25_7
     try clear hfz25_8
     try clear hfz25_9
     try clear hfz26_0
     try clear hfz26_1
     try clear hfz26_10
     try clear hfz26_11
     try clear hfz26_2
     try clear hfz26_3
     try clear hfz26_4
     try clear hfz26_5
     try clear hfz26_6
     try clear hfz26_7
     try clear hfz26_8
     try clear hfz26_9
     try clear hfz27_0
     try clear hfz27_1
     try clear hfz27_10
     try clear hfz27_11
     try clear hfz27_2
     try clear hfz27_3
     try clear hfz27_4
     try clear hfz27_5
     try clear hfz27_6
     try clear hfz27_7
     try clear hfz27_8
     try clear hfz27_9
     try clear hfz28_0
     try clear hfz28_1
     try clear hfz28_10
     try clear hfz28_11
     try clear hfz28_2
     try clear hfz28_3
     try clear hfz28_4
     try clear hfz28_5
     try clear hfz28_6
     try clear hfz28_7
     try clear hfz28_8
     try clear hfz28_9
     try clear hfz29_0
     try clear hfz29_1
     try clear hfz29_10
     try clear hfz29_11
     try clear hfz29_2
     try clear hfz29_3
     try clear hfz29_4
     try clear hfz29_5
     try clear hfz29_6
     try clear hfz29_7
     try clear hfz29_8
     try clear hfz29_9
     try clear hfz30_0
     try clear hfz30_1
     try clear hfz30_10
     try clear hfz30_11
     try clear hfz30_2
     try clear hfz30_3
     try clear hfz30_4
     try clear hfz30_5
     try clear hfz30_6
     try clear hfz30_7
     try clear hfz30_8
     try clear hfz30_9
     try clear p2
     obtain ⟨kq,x62_14,rfl,HA,HJ14,BK249,HB⟩:=hcut
     cases kq with
     | zero => exact absurd HA.out (by simp [impl_MessageOk.j1])
     | succ kj14 =>
      have H:=HA.out;clear HA;simp only [impl_MessageOk.j1] at H
      by_cases c31 : x62_14 = true
      ·subst c31
       have H1 : (some false) = some r:=by rw [if_pos rfl] at H;exact H
       clear H;have H:=H1;clear H1;obtain rfl:=Option.some.inj H;go_wp2;go_ret;exact ⟨by first|rfl|(simp [*,errW_none,errW_some] <;> rfl),by repeat (first|(with_reducible first|exact HB.out|apply pa_|apply pn_|apply pd_|refine ps_ ?_ GE249.out)|exact HB.out)⟩
      ·replace c31:=Bool.eq_false_iff.mpr c31;subst c31
       have H1 : (impl_MessageOk.l0 kj14 a0_5 l0_8 (l0_8.length : Int) 0 a0_0 a0_1 a0_2 a0_3 a0_4 a0_5 a0_6 a0_7 l0_8 l0_9 a0_10 a0_11) = some r:=by rw [if_neg (show ¬ (false = true) by decide)] at H;exact H
       clear H;have H:=H1;clear H1;have H':=A_ H;clear H;have hcz32_0 : wc.cell? ⟨gb249,0,none⟩ = some (.int .i64 a0_0):=(kc_ BK249.out 0).trans rfl;have hcz32_1 : wc.cell? ⟨gb249,1,none⟩ = some (.int .i64 a0_1):=(kc_ BK249.out 1).trans rfl;have hcz32_2 : wc.cell? ⟨gb249,2,none⟩ = some (.int .i64 a0_2):=(kc_ BK249.out 2).trans rfl;have hcz32_3 : wc.cell? ⟨gb249,3,none⟩ = some (.int .i64 a0_3):=(kc_ BK249.out 3).trans rfl;have hcz32_4 : wc.cell? ⟨gb249,4,none⟩ = some (.int .i64 a0_4):=(kc_ BK249.out 4).trans rfl;have hcz32_5 : wc.cell? ⟨gb249,5,none⟩ = some (.int .i64 a0_5):=(kc_ BK249.out 5).trans rfl;have hcz32_6 : wc.cell? ⟨gb249,6,none⟩ = some (.int .i64 a0_6):=(kc_ BK249.out 6).trans rfl;have hcz32_7 : wc.cell? ⟨gb249,7,none⟩ = some (.bool a0_7):=(kc_ BK249.out 7).trans rfl;have hcz32_8 : wc.cell? ⟨gb249,8,none⟩ = some (.slice A0_8 l0_8.length c0_8):=(kc_ BK249.out 8).trans rfl;have hcz32_9 : wc.cell? ⟨gb249,9,none⟩ = some (.slice A0_9 l0_9.length c0_9):=(kc_ BK249.out 9).trans rfl;have hcz32_10 : wc.cell? ⟨gb249,10,none⟩ = some (.string a0_10):=(kc_ BK249.out 10).trans rfl;have hcz32_11 : wc.cell? ⟨gb249,11,none⟩ = some (.bool a0_11):=(kc_ BK249.out 11).trans rfl;have hfz32_0:=kf_ BK249.out 0;have hfz32_1:=kf_ BK249.out 1;have hfz32_2:=kf_ BK249.out 2;have hfz32_3:=kf_ BK249.out 3;have hfz32_4:=kf_ BK249.out 4;have hfz32_5:=kf_ BK249.out 5;have hfz32_6:=kf_ BK249.out 6;have hfz32_7:=kf_ BK249.out 7;have hfz32_8:=kf_ BK249.out 8;have hfz32_9:=kf_ BK249.out 9;have hfz32_10:=kf_ BK249.out 10;have hfz32_11:=kf_ BK249.out 11;go_wp2
       go_loopg [3,68] kj14 (fun kq v3 v68 w' => ∃ (x3_3 : Int) (x68_3 : Int),v3 = .int .i64 x3_3 ∧ v68 = .int .i64 x68_3 ∧ Aside0 (impl_MessageOk.l0 kq x3_3 l0_8 (l0_8.length : Int) x68_3 a0_0 a0_1 a0_2 a0_3 a0_4 a0_5 a0_6 a0_7 l0_8 l0_9 a0_10 a0_11 = some r) ∧ Aside0 (kq ≤ kj14) ∧ Aside0 (w'.heap[gb249]? = some (.cells #[.int .i64 a0_0,.int .i64 a0_1,.int .i64 a0_2,.int .i64 a0_3,.int .i64 a0_4,.int .i64 a0_5,.int .i64 a0_6,.bool a0_7,(.slice A0_8 l0_8.length c0_8),(.slice A0_9 l0_9.length c0_9),.string a0_10,.bool a0_11] 52 (0,0))) ∧ Aside0 (Below w.heap.size w w'))
       case atStart => exact ⟨(a0_5),(0),(by first|rfl|(simp;done)|(simp [*];done)),(by first|rfl|(simp;done)|(simp [*];done)),H',⟨Nat.le_refl _⟩,⟨by (with_reducible repeat (first|refine kn_ ?_ _|refine kd_ ?_|refine ka_ ?_ _));exact BK249.out⟩,⟨by repeat (first|(with_reducible first|exact HB.out|apply pa_|apply pn_|apply pd_|refine ps_ ?_ GE249.out)|exact HB.out)⟩⟩
       case round =>
        clear H'
        try clear c1
        try clear c2
        try clear p2
        try clear c3
        try clear c5
        try clear c7
        try clear c9
        try clear c14
        try clear c17
        try clear c19
        try clear c21
        try clear c23
        try clear c24
        try clear c24b0
        try clear c24b1
        try clear c31
        try clear hcz10_0
        try clear hcz10_1
        try clear hcz10_10
        try clear hcz10_11
        try clear hcz10_2
        try clear hcz10_3
        try clear hcz10_4
        try clear hcz10_5
        try clear hcz10_6
        try clear hcz10_7
        try clear hcz10_8
        try clear hcz10_9
        try clear hcz11_0
        try clear hcz11_1
        try clear hcz11_10
        try clear hcz11_11
        try clear hcz11_2
        try clear hcz11_3
        try clear hcz11_4
        try clear hcz11_5
        try clear hcz11_6
        try clear hcz11_7
        try clear hcz11_8
        try clear hcz11_9
        try clear hcz12_0
        try clear hcz12_1
        try clear hcz12_10
        try clear hcz12_11
        try clear hcz12_2
        try clear hcz12_3
        try clear hcz12_4
        try clear hcz12_5
        try clear hcz12_6
        try clear hcz12_7
        try clear hcz12_8
        try clear hcz12_9
        try clear hcz13_0
        try clear hcz13_1
        try clear hcz13_10
        try clear hcz13_11
        try clear hcz13_2
        try clear hcz13_3
        try clear hcz13_4
        try clear hcz13_5
        try clear hcz13_6
        try clear hcz13_7
        try clear hcz13_8
        try clear hcz13_9
        try clear hcz25_0
        try clear hcz25_1
        try clear hcz25_10
        try clear hcz25_11
        try clear hcz25_2
        try clear hcz25_3
        try clear hcz25_4
        try clear hcz25_5
        try clear hcz25_6
        try clear hcz25_7
        try clear hcz25_8
        try clear hcz25_9
        try clear hcz26_0
        try clear hcz26_1
        try clear hcz26_10
        try clear hcz26_11
        try clear hcz26_2
        try clear hcz26_3
        try clear hcz26_4
        try clear hcz26_5
        try clear hcz26_6
        try clear hcz26_7
        try clear hcz26_8
        try clear hcz26_9
        try clear hcz27_0
        try clear hcz27_1
        try clear hcz27_10
        try clear hcz27_11
        try clear hcz27_2
        try clear hcz27_3
        try clear hcz27_4
        try clear hcz27_5
        try clear hcz27_6
        try clear hcz27_7
        try clear hcz27_8
        try clear hcz27_9
        try clear hcz28_0
        try clear hcz28_1
        try clear hcz28_10
        try clear hcz28_11
        try clear hcz28_2
        try clear hcz28_3
        try clear hcz28_4
        try clear hcz28_5
        try clear hcz28_6
        try clear hcz28_7
        try clear hcz28_8
        try clear hcz28_9
        try clear hcz29_0
        try clear hcz29_1
        try clear hcz29_10
        try clear hcz29_11
        try clear hcz29_2
        try clear hcz29_3
        try clear hcz29_4
        try clear hcz29_5
        try clear hcz29_6
        try clear hcz29_7
        try clear hcz29_8
        try clear hcz29_9
        try clear hcz30_0
        try clear hcz30_1
        try clear hcz30_10
        try clear hcz30_11
        try clear hcz30_2
        try clear hcz30_3
        try clear hcz30_4
        try clear hcz30_5
        try clear hcz30_6
        try clear hcz30_7
        try clear hcz30_8
        try clear hcz30_9
        try clear hcz32_0
        try clear hcz32_1
        try clear hcz32_10
        try clear hcz32_11
        try clear hcz32_2
        try clear hcz32_3
        try clear hcz32_4
        try clear hcz32_5
        try clear hcz32_6
        try clear hcz32_7
        try clear hcz32_8
        try clear hcz32_9
        try clear hfz10_0
        try clear hfz10_1
        try clear hfz10_10
        try clear hfz10_11
        try clear hfz10_2
        try clear hfz10_3
        try clear hfz10_4
        try clear hfz10_5
        try clear hfz10_6
        try clear hfz10_7
        try clear hfz10_8
        try clear hfz10_9
        try clear hfz11_0
        try clear hfz11_1
        try clear hfz11_10
        try clear hfz11_11
        try clear hfz11_2
        try clear hfz11_3
        try clear hfz11_4
        try clear hfz11_5
        try clear hfz11_6
        try clear hfz11_7
        try clear hfz11_8
        try clear hfz11_9
        try clear hfz12_0
        try clear hfz12_1
        try clear hfz12_10
        try clear hfz12_11
        try clear hfz12_2
        try clear hfz12_3
        try clear hfz12_4
        try clear hfz12_5
        try clear hfz12_6
        try clear hfz12_7
        try clear hfz12_8
        try clear hfz12_9
        try clear hfz13_0
        try clear hfz13_1
        try clear hfz13_10
        try clear hfz13_11
        try clear hfz13_2
        try clear hfz13_3
        try clear hfz13_4
        try clear hfz13_5
        try clear hfz13_6
        try clear hfz13_7
        try clear hfz13_8
        try clear hfz13_9
        try clear hfz25_0
        try clear hfz25_1
        try clear hfz25_10
        try clear hfz25_11
        try clear hfz25_2
        try clear hfz25_3
        try clear hfz25_4
        try clear hfz25_5
        try clear hfz25_6
        try clear hfz25_7
        try clear hfz25_8
        try clear hfz25_9
        try clear hfz26_0
        try clear hfz26_1
        try clear hfz26_10
        try clear hfz26_11
        try clear hfz26_2
        try clear hfz26_3
        try clear hfz26_4
        try clear hfz26_5
        try clear hfz26_6
        try clear hfz26_7
        try clear hfz26_8
        try clear hfz26_9
        try clear hfz27_0
        try clear hfz27_1
        try clear hfz27_10
        try clear hfz27_11
        try clear hfz27_2
        try clear hfz27_3
        try clear hfz27_4
        try clear hfz27_5
        try clear hfz27_6
        try clear hfz27_7
        try clear hfz27_8
        try clear hfz27_9
        try clear hfz28_0
        try clear hfz28_1
        try clear hfz28_10
        try clear hfz28_11
        try clear hfz28_2
        try clear hfz28_3
        try clear hfz28_4
        try clear hfz28_5
        try clear hfz28_6
        try clear hfz28_7
        try clear hfz28_8
        try clear hfz28_9
        try clear hfz29_0
        try clear hfz29_1
        try clear hfz29_10
        try clear hfz29_11
        try clear hfz29_2
        try clear hfz29_3
        try clear hfz29_4
        try clear hfz29_5
        try clear hfz29_6
        try clear hfz29_7
        try clear hfz29_8
        try clear hfz29_9
        try clear hfz30_0
        try clear hfz30_1
        try clear hfz30_10
        try clear hfz30_11
        try clear hfz30_2
        try clear hfz30_3
        try clear hfz30_4
        try clear hfz30_5
        try clear hfz30_6
        try clear hfz30_7
        try clear hfz30_8
        try clear hfz30_9
        try clear hfz32_0
        try clear hfz32_1
        try clear hfz32_10
        try clear hfz32_11
        try clear hfz32_2
        try clear hfz32_3
        try clear hfz32_4
        try clear hfz32_5
        try clear hfz32_6
        try clear hfz32_7
        try clear hfz32_8
        try clear hfz32_9
        try clear p2
        obtain ⟨x3_3,x68_3,rfl,rfl,HA,HK3,BK249,HB⟩:=hrel
        cases gk with
        | zero => exact absurd HA.out (by simp [impl_MessageOk.l0])
        | succ k3 =>
         have H:=HA.out;clear HA;simp only [impl_MessageOk.l0] at H
         by_cases c33 : x68_3 < (l0_8.length : Int)
         ·rw [if_pos c33] at H;have c33b0 : decide (x68_3 < (l0_8.length : Int)) = true:=de_ c33;clear c33
          by_cases c34 : 0 ≤ x68_3
          ·rw [if_pos c34] at H;have c34b0 : decide (0 ≤ x68_3) = true:=de_ c34;clear c34
           by_cases c35 : x68_3 < (l0_8.length : Int)
           ·rw [if_pos c35] at H;have c35b0 : decide (x68_3 < (l0_8.length : Int)) = true:=de_ c35;clear c35
            by_cases c36 : a0_0 = 3
            ·rw [if_pos c36] at H;have c36b0 : (a0_0 == 3) = true:=beq_iff_eq.mpr c36;have c36b1 : (a0_0 != 3) = false:=bne_eq_false_iff_eq.mpr c36;clear c36;replace H:=ob_.mp H;obtain ⟨t260,A370,H⟩:=H;replace H : (if t260 = true then ((impl_within.f ((rd_T37 l0_8 x68_3).f0) x3_3 a0_3).bind fun t261 => (if t261 = true then (impl_MessageOk.l0 k3 ((rd_T37 l0_8 x68_3).f0) l0_8 (l0_8.length : Int) (wrap64 (x68_3 + 1)) a0_0 a0_1 a0_2 a0_3 a0_4 a0_5 a0_6 a0_7 l0_8 l0_9 a0_10 a0_11) else (some false))) else (some false)) = some r:=H;have A37:=A_ A370;clear A370
             by_cases c38 : t260 = true
             ·subst c38
              have H1 : ((impl_within.f ((rd_T37 l0_8 x68_3).f0) x3_3 a0_3).bind fun t261 => (if t261 = true then (impl_MessageOk.l0 k3 ((rd_T37 l0_8 x68_3).f0) l0_8 (l0_8.length : Int) (wrap64 (x68_3 + 1)) a0_0 a0_1 a0_2 a0_3 a0_4 a0_5 a0_6 a0_7 l0_8 l0_9 a0_10 a0_11) else (some false))) = some r:=by rw [if_pos rfl] at H;exact H
              clear H;have H:=H1;clear H1;replace H:=ob_.mp H;obtain ⟨t261,A390,H⟩:=H;replace H : (if t261 = true then (impl_MessageOk.l0 k3 ((rd_T37 l0_8 x68_3).f0) l0_8 (l0_8.length : Int) (wrap64 (x68_3 + 1)) a0_0 a0_1 a0_2 a0_3 a0_4 a0_5 a0_6 a0_7 l0_8 l0_9 a0_10 a0_11) else (some false)) = some r:=H;have A39:=A_ A390;clear A390
              by_cases c40 : t261 = true
              ·subst c40
               have H1 : (impl_MessageOk.l0 k3 ((rd_T37 l0_8 x68_3).f0) l0_8 (l0_8.length : Int) (wrap64 (x68_3 + 1)) a0_0 a0_1 a0_2 a0_3 a0_4 a0_5 a0_6 a0_7 l0_8 l0_9 a0_10 a0_11) = some r:=by rw [if_pos rfl] at H;exact H
               clear H;have H:=H1;clear H1;have H':=A_ H;clear H;have p258 : 0 ≤ (x68_3 : Int):=oda_;have q258 : x68_3 < (l0_8.length : Int):=oda_;obtain ⟨ad258,e258,hx258_0,hx258_1,hx258_2⟩:=at_T37 HR0_8.out x68_3 p258 q258
               cases e258
               replace hx258_0:=(HB.out.cell (wb_ w _ hx258_0)).trans hx258_0;replace hx258_1:=(HB.out.cell (wb_ w _ hx258_1)).trans hx258_1;replace hx258_2:=(HB.out.cell (wb_ w _ hx258_2)).trans hx258_2;replace p258:=eq_true p258;replace q258:=eq_true q258
               go_wp2_with (first|((with_reducible refine gate_dst (N:=5) rfl ?_);(try (refine gate_guard (by rfl) ?_;dsimp only));refine box_event ?hg (N:=5) ?hd (cs:=#[.int .i64 0,.int .i64 0,.string (⟨#[]⟩ : ByteArray)]) (t:=37) ?hr ?_;(case hd => rfl);(case hg => rfl);(case hr => first|(go_simp;done)|(go_simp;rfl));intro gb259 hg w41 hbox hb;have BK259:=A_ (hbox);have GW259:=A_ ((by rw [hg];exact (bz_ (by repeat (first|(with_reducible first|exact HB.out|apply pa_|apply pn_|apply pd_|refine ps_ ?_ GE249.out)|exact HB.out))) : w.heap.size ≤ gb259));have GE259:=A_ ((by rw [hg];exact (bz_ (by repeat (first|(with_reducible first|exact HB.out|apply pa_|apply pn_|apply pd_|refine ps_ ?_ GE249.out)|exact HB.out))) : w.heap.size ≤ gb259));replace HB:=A_ (bs_ (by repeat (first|(with_reducible first|exact HB.out|apply pa_|apply pn_|apply pd_|refine ps_ ?_ GE249.out)|exact HB.out)) hb);have NB249_259:=A_ ((by rw [hg];exact nl_ (kl_ (g:=gb249) (o:=.cells #[.int .i64 a0_0,.int .i64 a0_1,.int .i64 a0_2,.int .i64 a0_3,.int .i64 a0_4,.int .i64 a0_5,.int .i64 a0_6,.bool a0_7,.slice (some ad258) l0_8.length c0_8,.slice A0_9 l0_9.length c0_9,.string a0_10,.bool a0_11] 52 (0,0)) (by (with_reducible repeat (first|refine kn_ ?_ _|refine kd_ ?_|refine ka_ ?_ _));exact BK249.out)) : gb249 ≠ gb259));have NB259_249:=A_ ((by rw [hg];exact ng_ (kl_ (g:=gb249) (o:=.cells #[.int .i64 a0_0,.int .i64 a0_1,.int .i64 a0_2,.int .i64 a0_3,.int .i64 a0_4,.int .i64 a0_5,.int .i64 a0_6,.bool a0_7,.slice (some ad258) l0_8.length c0_8,.slice A0_9 l0_9.length c0_9,.string a0_10,.bool a0_11] 52 (0,0)) (by (with_reducible repeat (first|refine kn_ ?_ _|refine kd_ ?_|refine ka_ ?_ _));exact BK249.out)) : gb259 ≠ gb249));replace BK249:=A_ (kb_ (by (with_reducible repeat (first|refine kn_ ?_ _|refine kd_ ?_|refine ka_ ?_ _));exact BK249.out) hb);clear hb hbox hg;have hnb42:=NB259_249.out;have hnc42:=NB249_259.out;have hcz43_0 : w41.cell? ⟨gb259,0,none⟩ = some (.int .i64 0):=(kc_ BK259.out 0).trans rfl;have hcz43_1 : w41.cell? ⟨gb259,1,none⟩ = some (.int .i64 0):=(kc_ BK259.out 1).trans rfl;have hcz43_2 : w41.cell? ⟨gb259,2,none⟩ = some (.string (⟨#[]⟩ : ByteArray)):=(kc_ BK259.out 2).trans rfl;have hfz43_0:=kf_ BK259.out 0;have hfz43_1:=kf_ BK259.out 1;have hfz43_2:=kf_ BK259.out 2;have hcz44_0 : w41.cell? ⟨gb249,0,none⟩ = some (.int .i64 a0_0):=(kc_ BK249.out 0).trans rfl;have hcz44_1 : w41.cell? ⟨gb249,1,none⟩ = some (.int .i64 a0_1):=(kc_ BK249.out 1).trans rfl;have hcz44_2 : w41.cell? ⟨gb249,2,none⟩ = some (.int .i64 a0_2):=(kc_ BK249.out 2).trans rfl;have hcz44_3 : w41.cell? ⟨gb249,3,none⟩ = some (.int .i64 a0_3):=(kc_ BK249.out 3).trans rfl;have hcz44_4 : w41.cell? ⟨gb249,4,none⟩ = some (.int .i64 a0_4):=(kc_ BK249.out 4).trans rfl;have hcz44_5 : w41.cell? ⟨gb249,5,none⟩ = some (.int .i64 a0_5):=(kc_ BK249.out 5).trans rfl;have hcz44_6 : w41.cell? ⟨gb249,6,none⟩ = some (.int .i64 a0_6):=(kc_ BK249.out 6).trans rfl;have hcz44_7 : w41.cell? ⟨gb249,7,none⟩ = some (.bool a0_7):=(kc_ BK249.out 7).trans rfl;have hcz44_8 : w41.cell? ⟨gb249,8,none⟩ = some (.slice (some ad258) l0_8.length c0_8):=(kc_ BK249.out 8).trans rfl;have hcz44_9 : w41.cell? ⟨gb249,9,none⟩ = some (.slice A0_9 l0_9.length c0_9):=(kc_ BK249.out 9).trans rfl;have hcz44_10 : w41.cell? ⟨gb249,10,none⟩ = some (.string a0_10):=(kc_ BK249.out 10).trans rfl;have hcz44_11 : w41.cell? ⟨gb249,11,none⟩ = some (.bool a0_11):=(kc_ BK249.out 11).trans rfl;have hfz44_0:=kf_ BK249.out 0;have hfz44_1:=kf_ BK249.out 1;have hfz44_2:=kf_ BK249.out 2;have hfz44_3:=kf_ BK249.out 3;have hfz44_4:=kf_ BK249.out 4;have hfz44_5:=kf_ BK249.out 5;have hfz44_6:=kf_ BK249.out 6;have hfz44_7:=kf_ BK249.out 7;have hfz44_8:=kf_ BK249.out 8;have hfz44_9:=kf_ BK249.out 9;have hfz44_10:=kf_ BK249.out 10;have hfz44_11:=kf_ BK249.out 11)|(go_at_call 90;(with_reducible refine (impl_EntryOk.calls k3 ((rd_T37 l0_8 x68_3).f0) ((rd_T37 l0_8 x68_3).f1) ((rd_T37 l0_8 x68_3).f2) true _ A37.out).mono ?_);rintro e w45 ⟨rfl,hb⟩;replace BK249:=A_ (kb_ (g:=gb249) (o:=.cells #[.int .i64 a0_0,.int .i64 a0_1,.int .i64 a0_2,.int .i64 a0_3,.int .i64 a0_4,.int .i64 a0_5,.int .i64 a0_6,.bool a0_7,.slice (some ad258) l0_8.length c0_8,.slice A0_9 l0_9.length c0_9,.string a0_10,.bool a0_11] 52 (0,0)) (by (with_reducible repeat (first|refine kn_ ?_ _|refine kd_ ?_|refine ka_ ?_ _));refine kr_ ?_ NB249_259.out _;(with_reducible repeat (first|refine kn_ ?_ _|refine kd_ ?_|refine ka_ ?_ _));refine kr_ ?_ NB249_259.out _;(with_reducible repeat (first|refine kn_ ?_ _|refine kd_ ?_|refine ka_ ?_ _));refine kr_ ?_ NB249_259.out _;(with_reducible repeat (first|refine kn_ ?_ _|refine kd_ ?_|refine ka_ ?_ _));exact BK249.out) hb);replace BK259:=A_ (kb_ (g:=gb259) (o:=.cells #[.int .i64 ((rd_T37 l0_8 x68_3).f0),.int .i64 ((rd_T37 l0_8 x68_3).f1),.string ((rd_T37 l0_8 x68_3).f2)] 37 (0,0)) (by (with_reducible repeat (first|refine kn_ ?_ _|refine kd_ ?_|refine ka_ ?_ _));refine ku_ (cs:=#[.int .i64 ((rd_T37 l0_8 x68_3).f0),.int .i64 ((rd_T37 l0_8 x68_3).f1),.string (⟨#[]⟩ : ByteArray)]) ?_ 2 _ rfl;(with_reducible repeat (first|refine kn_ ?_ _|refine kd_ ?_|refine ka_ ?_ _));refine ku_ (cs:=#[.int .i64 ((rd_T37 l0_8 x68_3).f0),.int .i64 0,.string (⟨#[]⟩ : ByteArray)]) ?_ 1 _ rfl;(with_reducible repeat (first|refine kn_ ?_ _|refine kd_ ?_|refine ka_ ?_ _));refine ku_ (cs:=#[.int .i64 0,.int .i64 0,.string (⟨#[]⟩ : ByteArray)]) ?_ 0 _ rfl;(with_reducible repeat (first|refine kn_ ?_ _|refine kd_ ?_|refine ka_ ?_ _));exact BK259.out) hb);replace HB:=A_ (bs_ (by repeat (first|(with_reducible first|exact HB.out|apply pa_|apply pn_|apply pd_|refine ps_ ?_ GE249.out|refine ps_ ?_ GE259.out)|exact HB.out)) hb);(try clear hb);(try clear hb2);(try clear hk);(try clear hi);have hcz46_0 : w45.cell? ⟨gb259,0,none⟩ = some (.int .i64 ((rd_T37 l0_8 x68_3).f0)):=(kc_ BK259.out 0).trans rfl;have hcz46_1 : w45.cell? ⟨gb259,1,none⟩ = some (.int .i64 ((rd_T37 l0_8 x68_3).f1)):=(kc_ BK259.out 1).trans rfl;have hcz46_2 : w45.cell? ⟨gb259,2,none⟩ = some (.string ((rd_T37 l0_8 x68_3).f2)):=(kc_ BK259.out 2).trans rfl;have hfz46_0:=kf_ BK259.out 0;have hfz46_1:=kf_ BK259.out 1;have hfz46_2:=kf_ BK259.out 2;have hcz47_0 : w45.cell? ⟨gb249,0,none⟩ = some (.int .i64 a0_0):=(kc_ BK249.out 0).trans rfl;have hcz47_1 : w45.cell? ⟨gb249,1,none⟩ = some (.int .i64 a0_1):=(kc_ BK249.out 1).trans rfl;have hcz47_2 : w45.cell? ⟨gb249,2,none⟩ = some (.int .i64 a0_2):=(kc_ BK249.out 2).trans rfl;have hcz47_3 : w45.cell? ⟨gb249,3,none⟩ = some (.int .i64 a0_3):=(kc_ BK249.out 3).trans rfl;have hcz47_4 : w45.cell? ⟨gb249,4,none⟩ = some (.int .i64 a0_4):=(kc_ BK249.out 4).trans rfl;have hcz47_5 : w45.cell? ⟨gb249,5,none⟩ = some (.int .i64 a0_5):=(kc_ BK249.out 5).trans rfl;have hcz47_6 : w45.cell? ⟨gb249,6,none⟩ = some (.int .i64 a0_6):=(kc_ BK249.out 6).trans rfl;have hcz47_7 : w45.cell? ⟨gb249,7,none⟩ = some (.bool a0_7):=(kc_ BK249.out 7).trans rfl;have hcz47_8 : w45.cell? ⟨gb249,8,none⟩ = some (.slice (some ad258) l0_8.length c0_8):=(kc_ BK249.out 8).trans rfl;have hcz47_9 : w45.cell? ⟨gb249,9,none⟩ = some (.slice A0_9 l0_9.length c0_9):=(kc_ BK249.out 9).trans rfl;have hcz47_10 : w45.cell? ⟨gb249,10,none⟩ = some (.string a0_10):=(kc_ BK249.out 10).trans rfl;have hcz47_11 : w45.cell? ⟨gb249,11,none⟩ = some (.bool a0_11):=(kc_ BK249.out 11).trans rfl;have hfz47_0:=kf_ BK249.out 0;have hfz47_1:=kf_ BK249.out 1;have hfz47_2:=kf_ BK249.out 2;have hfz47_3:=kf_ BK249.out 3;have hfz47_4:=kf_ BK249.out 4;have hfz47_5:=kf_ BK249.out 5;have hfz47_6:=kf_ BK249.out 6;have hfz47_7:=kf_ BK249.out 7;have hfz47_8:=kf_ BK249.out 8;have hfz47_9:=kf_ BK249.out 9;have hfz47_10:=kf_ BK249.out 10;have hfz47_11:=kf_ BK249.out 11)|(go_at_call 75;(with_reducible refine (impl_within.calls ((rd_T37 l0_8 x68_3).f0) x3_3 a0_3 true _ A39.out).mono ?_);rintro e w' ⟨rfl,⟨nd,rfl⟩⟩))
               go_roundg k3
               case measure => have:=HJ1.out;have:=HJ14.out;have:=HK3.out;omega
               case rel => exact ⟨((rd_T37 l0_8 x68_3).f0),(wrap64 (x68_3 + 1)),(by first|rfl|(simp;done)|(simp [*];done)),(by first|rfl|(simp;done)|(simp [*];done)),H',⟨by have:=HJ1.out;have:=HJ14.out;have:=HK3.out;omega⟩,⟨by (with_reducible repeat (first|refine kn_ ?_ _|refine kd_ ?_|refine ka_ ?_ _));exact BK249.out⟩,⟨by repeat (first|(with_reducible first|exact HB.out|apply pa_|apply pn_|apply pd_|refine ps_ ?_ GE249.out|refine ps_ ?_ GE259.out)|exact HB.out)⟩⟩
              ·replace c40:=Bool.eq_false_iff.mpr c40;subst c40
               have H1 : (some false) = some r:=by rw [if_neg (show ¬ (false = true) by decide)] at H;exact H
               clear H;have H:=H1;clear H1;obtain rfl:=Option.some.inj H;have p258 : 0 ≤ (x68_3 : Int):=oda_;have q258 : x68_3 < (l0_8.length : Int):=oda_;obtain ⟨ad258,e258,hx258_0,hx258_1,hx258_2⟩:=at_T37 HR0_8.out x68_3 p258 q258
               cases e258
               replace hx258_0:=(HB.out.cell (wb_ w _ hx258_0)).trans hx258_0;replace hx258_1:=(HB.out.cell (wb_ w _ hx258_1)).trans hx258_1;replace hx258_2:=(HB.out.cell (wb_ w _ hx258_2)).trans hx258_2;replace p258:=eq_true p258;replace q258:=eq_true q258
               go_wp2_with (first|((with_reducible refine gate_dst (N:=5) rfl ?_);(try (refine gate_guard (by rfl) ?_;dsimp only));refine box_event ?hg (N:=5) ?hd (cs:=#[.int .i64 0,.int .i64 0,.string (⟨#[]⟩ : ByteArray)]) (t:=37) ?hr ?_;(case hd => rfl);(case hg => rfl);(case hr => first|(go_simp;done)|(go_simp;rfl));intro gb259 hg w48 hbox hb;have BK259:=A_ (hbox);have GW259:=A_ ((by rw [hg];exact (bz_ (by repeat (first|(with_reducible first|exact HB.out|apply pa_|apply pn_|apply pd_|refine ps_ ?_ GE249.out)|exact HB.out))) : w.heap.size ≤ gb259));have GE259:=A_ ((by rw [hg];exact (bz_ (by repeat (first|(with_reducible first|exact HB.out|apply pa_|apply pn_|apply pd_|refine ps_ ?_ GE249.out)|exact HB.out))) : w.heap.size ≤ gb259));replace HB:=A_ (bs_ (by repeat (first|(with_reducible first|exact HB.out|apply pa_|apply pn_|apply pd_|refine ps_ ?_ GE249.out)|exact HB.out)) hb);have NB249_259:=A_ ((by rw [hg];exact nl_ (kl_ (g:=gb249) (o:=.cells #[.int .i64 a0_0,.int .i64 a0_1,.int .i64 a0_2,.int .i64 a0_3,.int .i64 a0_4,.int .i64 a0_5,.int .i64 a0_6,.bool a0_7,.slice (some ad258) l0_8.length c0_8,.slice A0_9 l0_9.length c0_9,.string a0_10,.bool a0_11] 52 (0,0)) (by (with_reducible repeat (first|refine kn_ ?_ _|refine kd_ ?_|refine ka_ ?_ _));exact BK249.out)) : gb249 ≠ gb259));have NB259_249:=A_ ((by rw [hg];exact ng_ (kl_ (g:=gb249) (o:=.cells #[.int .i64 a0_0,.int .i64 a0_1,.int .i64 a0_2,.int .i64 a0_3,.int .i64 a0_4,.int .i64 a0_5,.int .i64 a0_6,.bool a0_7,.slice (some ad258) l0_8.length c0_8,.slice A0_9 l0_9.length c0_9,.string a0_10,.bool a0_11] 52 (0,0)) (by (with_reducible repeat (first|refine kn_ ?_ _|refine kd_ ?_|refine ka_ ?_ _));exact BK249.out)) : gb259 ≠ gb249));replace BK249:=A_ (kb_ (by (with_reducible repeat (first|refine kn_ ?_ _|refine kd_ ?_|refine ka_ ?_ _));exact BK249.out) hb);clear hb hbox hg;have hnb49:=NB259_249.out;have hnc49:=NB249_259.out;have hcz50_0 : w48.cell? ⟨gb259,0,none⟩ = some (.int .i64 0):=(kc_ BK259.out 0).trans rfl;have hcz50_1 : w48.cell? ⟨gb259,1,none⟩ = some (.int .i64 0):=(kc_ BK259.out 1).trans rfl;have hcz50_2 : w48.cell? ⟨gb259,2,none⟩ = some (.string (⟨#[]⟩ : ByteArray)):=(kc_ BK259.out 2).trans rfl;have hfz50_0:=kf_ BK259.out 0;have hfz50_1:=kf_ BK259.out 1;have hfz50_2:=kf_ BK259.out 2;have hcz51_0 : w48.cell? ⟨gb249,0,none⟩ = some (.int .i64 a0_0):=(kc_ BK249.out 0).trans rfl;have hcz51_1 : w48.cell? ⟨gb249,1,none⟩ = some (.int .i64 a0_1):=(kc_ BK249.out 1).trans rfl;have hcz51_2 : w48.cell? ⟨gb249,2,none⟩ = some (.int .i64 a0_2):=(kc_ BK249.out 2).trans rfl;have hcz51_3 : w48.cell? ⟨gb249,3,none⟩ = some (.int .i64 a0_3):=(kc_ BK249.out 3).trans rfl;have hcz51_4 : w48.cell? ⟨gb249,4,none⟩ = some (.int .i64 a0_4):=(kc_ BK249.out 4).trans rfl;have hcz51_5 : w48.cell? ⟨gb249,5,none⟩ = some (.int .i64 a0_5):=(kc_ BK249.out 5).trans rfl;have hcz51_6 : w48.cell? ⟨gb249,6,none⟩ = some (.int .i64 a0_6):=(kc_ BK249.out 6).trans rfl;have hcz51_7 : w48.cell? ⟨gb249,7,none⟩ = some (.bool a0_7):=(kc_ BK249.out 7).trans rfl;have hcz51_8 : w48.cell? ⟨gb249,8,none⟩ = some (.slice (some ad258) l0_8.length c0_8):=(kc_ BK249.out 8).trans rfl;have hcz51_9 : w48.cell? ⟨gb249,9,none⟩ = some (.slice A0_9 l0_9.length c0_9):=(kc_ BK249.out 9).trans rfl;have hcz51_10 : w48.cell? ⟨gb249,10,none⟩ = some (.string a0_10):=(kc_ BK249.out 10).trans rfl;have hcz51_11 : w48.cell? ⟨gb249,11,none⟩ = some (.bool a0_11):=(kc_ BK249.out 11).trans rfl;have hfz51_0:=kf_ BK249.out 0;have hfz51_1:=kf_ BK249.out 1;have hfz51_2:=kf_ BK249.out 2;have hfz51_3:=kf_ BK249.out 3;have hfz51_4:=kf_ BK249.out 4;have hfz51_5:=kf_ BK249.out 5;have hfz51_6:=kf_ BK249.out 6;have hfz51_7:=kf_ BK249.out 7;have hfz51_8:=kf_ BK249.out 8;have hfz51_9:=kf_ BK249.out 9;have hfz51_10:=kf_ BK249.out 10;have hfz51_11:=kf_ BK249.out 11)|(go_at_call 90;(with_reducible refine (impl_EntryOk.calls k3 ((rd_T37 l0_8 x68_3).f0) ((rd_T37 l0_8 x68_3).f1) ((rd_T37 l0_8 x68_3).f2) true _ A37.out).mono ?_);rintro e w52 ⟨rfl,hb⟩;replace BK249:=A_ (kb_ (g:=gb249) (o:=.cells #[.int .i64 a0_0,.int .i64 a0_1,.int .i64 a0_2,.int .i64 a0_3,.int .i64 a0_4,.int .i64 a0_5,.int .i64 a0_6,.bool a0_7,.slice (some ad258) l0_8.length c0_8,.slice A0_9 l0_9.length c0_9,.string a0_10,.bool a0_11] 52 (0,0)) (by (with_reducible repeat (first|refine kn_ ?_ _|refine kd_ ?_|refine ka_ ?_ _));refine kr_ ?_ NB249_259.out _;(with_reducible repeat (first|refine kn_ ?_ _|refine kd_ ?_|refine ka_ ?_ _));refine kr_ ?_ NB249_259.out _;(with_reducible repeat (first|refine kn_ ?_ _|refine kd_ ?_|refine ka_ ?_ _));refine kr_ ?_ NB249_259.out _;(with_reducible repeat (first|refine kn_ ?_ _|refine kd_ ?_|refine ka_ ?_ _));exact BK249.out) hb);replace BK259:=A_ (kb_ (g:=gb259) (o:=.cells #[.int .i64 ((rd_T37 l0_8 x68_3).f0),.int .i64 ((rd_T37 l0_8 x68_3).f1),.string ((rd_T37 l0_8 x68_3).f2)] 37 (0,0)) (by (with_reducible repeat (first|refine kn_ ?_ _|refine kd_ ?_|refine ka_ ?_ _));refine ku_ (cs:=#[.int .i64 ((rd_T37 l0_8 x68_3).f0),.int .i64 ((rd_T37 l0_8 x68_3).f1),.string (⟨#[]⟩ : ByteArray)]) ?_ 2 _ rfl;(with_reducible repeat (first|refine kn_ ?_ _|refine kd_ ?_|refine ka_ ?_ _));refine ku_ (cs:=#[.int .i64 ((rd_T37 l0_8 x68_3).f0),.int .i64 0,.string (⟨#[]⟩ : ByteArray)]) ?_ 1 _ rfl;(with_reducible repeat (first|refine kn_ ?_ _|refine kd_ ?_|refine ka_ ?_ _));refine ku_ (cs:=#[.int .i64 0,.int .i64 0,.string (⟨#[]⟩ : ByteArray)]) ?_ 0 _ rfl;(with_reducible repeat (first|refine kn_ ?_ _|refine kd_ ?_|refine ka_ ?_ _));exact BK259.out) hb);replace HB:=A_ (bs_ (by repeat (first|(with_reducible first|exact HB.out|apply pa_|apply pn_|apply pd_|refine ps_ ?_ GE249.out|refine ps_ ?_ GE259.out)|exact HB.out)) hb);(try clear hb);(try clear hb2);(try clear hk);(try clear hi);have hcz53_0 : w52.cell? ⟨gb259,0,none⟩ = some (.int .i64 ((rd_T37 l0_8 x68_3).f0)):=(kc_ BK259.out 0).trans rfl;have hcz53_1 : w52.cell? ⟨gb259,1,none⟩ = some (.int .i64 ((rd_T37 l0_8 x68_3).f1)):=(kc_ BK259.out 1).trans rfl;have hcz53_2 : w52.cell? ⟨gb259,2,none⟩ = some (.string ((rd_T37 l0_8 x68_3).f2)):=(kc_ BK259.out 2).trans rfl;have hfz53_0:=kf_ BK259.out 0;have hfz53_1:=kf_ BK259.out 1;have hfz53_2:=kf_ BK259.out 2;have hcz54_0 : w52.cell? ⟨gb249,0,none⟩ = some (.int .i64 a0_0):=(kc_ BK249.out 0).trans rfl;have hcz54_1 : w52.cell? ⟨gb249,1,none⟩ = some (.int .i64 a0_1):=(kc_ BK249.out 1).trans rfl;have hcz54_2 : w52.cell? ⟨gb249,2,none⟩ = some (.int .i64 a0_2):=(kc_ BK249.out 2).trans rfl;have hcz54_3 : w52.cell? ⟨gb249,3,none⟩ = some (.int .i64 a0_3):=(kc_ BK249.out 3).trans rfl;have hcz54_4 : w52.cell? ⟨gb249,4,none⟩ = some (.int .i64 a0_4):=(kc_ BK249.out 4).trans rfl;have hcz54_5 : w52.cell? ⟨gb249,5,none⟩ = some (.int .i64 a0_5):=(kc_ BK249.out 5).trans rfl;have hcz54_6 : w52.cell? ⟨gb249,6,none⟩ = some (.int .i64 a0_6):=(kc_ BK249.out 6).trans rfl;have hcz54_7 : w52.cell? ⟨gb249,7,none⟩ = some (.bool a0_7):=(kc_ BK249.out 7).trans rfl;have hcz54_8 : w52.cell? ⟨gb249,8,none⟩ = some (.slice (some ad258) l0_8.length c0_8):=(kc_ BK249.out 8).trans rfl;have hcz54_9 : w52.cell? ⟨gb249,9,none⟩ = some (.slice A0_9 l0_9.length c0_9):=(kc_ BK249.out 9).trans rfl;have hcz54_10 : w52.cell? ⟨gb249,10,none⟩ = some (.string a0_10):=(kc_ BK249.out 10).trans rfl;have hcz54_11 : w52.cell? ⟨gb249,11,none⟩ = some (.bool a0_11):=(kc_ BK249.out 11).trans rfl;have hfz54_0:=kf_ BK249.out 0;have hfz54_1:=kf_ BK249.out 1;have hfz54_2:=kf_ BK249.out 2;have hfz54_3:=kf_ BK249.out 3;have hfz54_4:=kf_ BK249.out 4;have hfz54_5:=kf_ BK249.out 5;have hfz54_6:=kf_ BK249.out 6;have hfz54_7:=kf_ BK249.out 7;have hfz54_8:=kf_ BK249.out 8;have hfz54_9:=kf_ BK249.out 9;have hfz54_10:=kf_ BK249.out 10;have hfz54_11:=kf_ BK249.out 11)|(go_at_call 75;(with_reducible refine (impl_within.calls ((rd_T37 l0_8 x68_3).f0) x3_3 a0_3 false _ A39.out).mono ?_);rintro e w' ⟨rfl,⟨nd,rfl⟩⟩))
               go_ret;exact ⟨by first|rfl|(simp [*,errW_none,errW_some] <;> rfl),by repeat (first|(with_reducible first|exact HB.out|apply pa_|apply pn_|apply pd_|refine ps_ ?_ GE249.out|refine ps_ ?_ GE259.out)|exact HB.out)⟩
             ·replace c38:=Bool.eq_false_iff.mpr c38;subst c38
              have H1 : (some false) = some r:=by rw [if_neg (show ¬ (false = true) by decide)] at H;exact H
              clear H;have H:=H1;clear H1;obtain rfl:=Option.some.inj H;have p258 : 0 ≤ (x68_3 : Int):=oda_;have q258 : x68_3 < (l0_8.length : Int):=oda_;obtain ⟨ad258,e258,hx258_0,hx258_1,hx258_2⟩:=at_T37 HR0_8.out x68_3 p258 q258
              cases e258
              replace hx258_0:=(HB.out.cell (wb_ w _ hx258_0)).trans hx258_0;replace hx258_1:=(HB.out.cell (wb_ w _ hx258_1)).trans hx258_1;replace hx258_2:=(HB.out.cell (wb_ w _ hx258_2)).trans hx258_2;replace p258:=eq_true p258;replace q258:=eq_true q258
              go_wp2_with (first|((with_reducible refine gate_dst (N:=5) rfl ?_);(try (refine gate_guard (by rfl) ?_;dsimp only));refine box_event ?hg (N:=5) ?hd (cs:=#[.int .i64 0,.int .i64 0,.string (⟨#[]⟩ : ByteArray)]) (t:=37) ?hr ?_;(case hd => rfl);(case hg => rfl);(case hr => first|(go_simp;done)|(go_simp;rfl));intro gb259 hg w55 hbox hb;have BK259:=A_ (hbox);have GW259:=A_ ((by rw [hg];exact (bz_ (by repeat (first|(with_reducible first|exact HB.out|apply pa_|apply pn_|apply pd_|refine ps_ ?_ GE249.out)|exact HB.out))) : w.heap.size ≤ gb259));have GE259:=A_ ((by rw [hg];exact (bz_ (by repeat (first|(with_reducible first|exact HB.out|apply pa_|apply pn_|apply pd_|refine ps_ ?_ GE249.out)|exact HB.out))) : w.heap.size ≤ gb259));replace HB:=A_ (bs_ (by repeat (first|(with_reducible first|exact HB.out|apply pa_|apply pn_|apply pd_|refine ps_ ?_ GE249.out)|exact HB.out)) hb);have NB249_259:=A_ ((by rw [hg];exact nl_ (kl_ (g:=gb249) (o:=.cells #[.int .i64 a0_0,.int .i64 a0_1,.int .i64 a0_2,.int .i64 a0_3,.int .i64 a0_4,.int .i64 a0_5,.int .i64 a0_6,.bool a0_7,.slice (some ad258) l0_8.length c0_8,.slice A0_9 l0_9.length c0_9,.string a0_10,.bool a0_11] 52 (0,0)) (by (with_reducible repeat (first|refine kn_ ?_ _|refine kd_ ?_|refine ka_ ?_ _));exact BK249.out)) : gb249 ≠ gb259));have NB259_249:=A_ ((by rw [hg];exact ng_ (kl_ (g:=gb249) (o:=.cells #[.int .i64 a0_0,.int .i64 a0_1,.int .i64 a0_2,.int .i64 a0_3,.int .i64 a0_4,.int .i64 a0_5,.int .i64 a0_6,.bool a0_7,.slice (some ad258) l0_8.length c0_8,.slice A0_9 l0_9.length c0_9,.string a0_10,.bool a0_11] 52 (0,0)) (by (with_reducible repeat (first|refine kn_ ?_ _|refine kd_ ?_|refine ka_ ?_ _));exact BK249.out)) : gb259 ≠ gb249));replace BK249:=A_ (kb_ (by (with_reducible repeat (first|refine kn_ ?_ _|refine kd_ ?_|refine ka_ ?_ _));exact BK249.out) hb);clear hb hbox hg;have hnb56:=NB259_249.out;have hnc56:=NB249_259.out;have hcz57_0 : w55.cell? ⟨gb259,0,none⟩ = some (.int .i64 0):=(kc_ BK259.out 0).trans rfl;have hcz57_1 : w55.cell? ⟨gb259,1,none⟩ = some (.int .i64 0):=(kc_ BK259.out 1).trans rfl;have hcz57_2 : w55.cell? ⟨gb259,2,none⟩ = some (.string (⟨#[]⟩ : ByteArray)):=(kc_ BK259.out 2).trans rfl;have hfz57_0:=kf_ BK259.out 0;have hfz57_1:=kf_ BK259.out 1;have hfz57_2:=kf_ BK259.out 2;have hcz58_0 : w55.cell? ⟨gb249,0,none⟩ = some (.int .i64 a0_0):=(kc_ BK249.out 0).trans rfl;have hcz58_1 : w55.cell? ⟨gb249,1,none⟩ = some (.int .i64 a0_1):=(kc_ BK249.out 1).trans rfl;have hcz58_2 : w55.cell? ⟨gb249,2,none⟩ = some (.int .i64 a0_2):=(kc_ BK249.out 2).trans rfl;have hcz58_3 : w55.cell? ⟨gb249,3,none⟩ = some (.int .i64 a0_3):=(kc_ BK249.out 3).trans rfl;have hcz58_4 : w55.cell? ⟨gb249,4,none⟩ = some (.int .i64 a0_4):=(kc_ BK249.out 4).trans rfl;have hcz58_5 : w55.cell? ⟨gb249,5,none⟩ = some (.int .i64 a0_5):=(kc_ BK249.out 5).trans rfl;have hcz58_6 : w55.cell? ⟨gb249,6,none⟩ = some (.int .i64 a0_6):=(kc_ BK249.out 6).trans rfl;have hcz58_7 : w55.cell? ⟨gb249,7,none⟩ = some (.bool a0_7):=(kc_ BK249.out 7).trans rfl;have hcz58_8 : w55.cell? ⟨gb249,8,none⟩ = some (.slice (some ad258) l0_8.length c0_8):=(kc_ BK249.out 8).trans rfl;have hcz58_9 : w55.cell? ⟨gb249,9,none⟩ = some (.slice A0_9 l0_9.length c0_9):=(kc_ BK249.out 9).trans rfl;have hcz58_10 : w55.cell? ⟨gb249,10,none⟩ = some (.string a0_10):=(kc_ BK249.out 10).trans rfl;have hcz58_11 : w55.cell? ⟨gb249,11,none⟩ = some (.bool a0_11):=(kc_ BK249.out 11).trans rfl;have hfz58_0:=kf_ BK249.out 0;have hfz58_1:=kf_ BK249.out 1;have hfz58_2:=kf_ BK249.out 2;have hfz58_3:=kf_ BK249.out 3;have hfz58_4:=kf_ BK249.out 4;have hfz58_5:=kf_ BK249.out 5;have hfz58_6:=kf_ BK249.out 6;have hfz58_7:=kf_ BK249.out 7;have hfz58_8:=kf_ BK249.out 8;have hfz58_9:=kf_ BK249.out 9;have hfz58_10:=kf_ BK249.out 10;have hfz58_11:=kf_ BK249.out 11)|(go_at_call 90;(with_reducible refine (impl_EntryOk.calls k3 ((rd_T37 l0_8 x68_3).f0) ((rd_T37 l0_8 x68_3).f1) ((rd_T37 l0_8 x68_3).f2) false _ A37.out).mono ?_);rintro e w59 ⟨rfl,hb⟩;replace BK249:=A_ (kb_ (g:=gb249) (o:=.cells #[.int .i64 a0_0,.int .i64 a0_1,.int .i64 a0_2,.int .i64 a0_3,.int .i64 a0_4,.int .i64 a0_5,.int .i64 a0_6,.bool a0_7,.slice (some ad258) l0_8.length c0_8,.slice A0_9 l0_9.length c0_9,.string a0_10,.bool a0_11] 52 (0,0)) (by (with_reducible repeat (first|refine kn_ ?_ _|refine kd_ ?_|refine ka_ ?_ _));refine kr_ ?_ NB249_259.out _;(with_reducible repeat (first|refine kn_ ?_ _|refine kd_ ?_|refine ka_ ?_ _));refine kr_ ?_ NB249_259.out _;(with_reducible repeat (first|refine kn_ ?_ _|refine kd_ ?_|refine ka_ ?_ _));refine kr_ ?_ NB249_259.out _;(with_reducible repeat (first|refine kn_ ?_ _|refine kd_ ?_|refine ka_ ?_ _));exact BK249.out) hb);replace BK259:=A_ (kb_ (g:=gb259) (o:=.cells #[.int .i64 ((rd_T37 l0_8 x68_3).f0),.int .i64 ((rd_T37 l0_8 x68_3).f1),.string ((rd_T37 l0_8 x68_3).f2)] 37 (0,0)) (by (with_reducible repeat (first|refine kn_ ?_ _|refine kd_ ?_|refine ka_ ?_ _));refine ku_ (cs:=#[.int .i64 ((rd_T37 l0_8 x68_3).f0),.int .i64 ((rd_T37 l0_8 x68_3).f1),.string (⟨#[]⟩ : ByteArray)]) ?_ 2 _ rfl;(with_reducible repeat (first|refine kn_ ?_ _|refine kd_ ?_|refine ka_ ?_ _));refine ku_ (cs:=#[.int .i64 ((rd_T37 l0_8 x68_3).f0),.int .i64 0,.string (⟨#[]⟩ : ByteArray)]) ?_ 1 _ rfl;(with_reducible repeat (first|refine kn_ ?_ _|refine kd_ ?_|refine ka_ ?_ _));refine ku_ (cs:=#[.int .i64 0,.int .i64 0,.string (⟨#[]⟩ : ByteArray)]) ?_ 0 _ rfl;(with_reducible repeat (first|refine kn_ ?_ _|refine kd_ ?_|refine ka_ ?_ _));exact BK259.out) hb);replace HB:=A_ (bs_ (by repeat (first|(with_reducible first|exact HB.out|apply pa_|apply pn_|apply pd_|refine ps_ ?_ GE249.out|refine ps_ ?_ GE259.out)|exact HB.out)) hb);(try clear hb);(try clear hb2);(try clear hk);(try clear hi)))
              go_ret;exact ⟨by first|rfl|(simp [*,errW_none,errW_some] <;> rfl),by repeat (first|(with_reducible first|exact HB.out|apply pa_|apply pn_|apply pd_|refine ps_ ?_ GE249.out|refine ps_ ?_ GE259.out)|exact HB.out)⟩
            ·rw [if_neg c36] at H;have c36b0 : (a0_0 == 3) = false:=beq_eq_false_iff_ne.mpr c36;have c36b1 : (a0_0 != 3) = true:=bne_iff_ne.mpr c36;obtain rfl:=Option.some.inj H;have p258 : 0 ≤ (x68_3 : Int):=oda_;have q258 : x68_3 < (l0_8.length : Int):=oda_;obtain ⟨ad258,e258,hx258_0,hx258_1,hx258_2⟩:=at_T37 HR0_8.out x68_3 p258 q258
             cases e258
             replace hx258_0:=(HB.out.cell (wb_ w _ hx258_0)).trans hx258_0;replace hx258_1:=(HB.out.cell (wb_ w _ hx258_1)).trans hx258_1;replace hx258_2:=(HB.out.cell (wb_ w _ hx258_2)).trans hx258_2;replace p258:=eq_true p258;replace q258:=eq_true q258
             go_wp2_with (first|((with_reducible refine gate_dst (N:=5) rfl ?_);(try (refine gate_guard (by rfl) ?_;dsimp only));refine box_event ?hg (N:=5) ?hd (cs:=#[.int .i64 0,.int .i64 0,.string (⟨#[]⟩ : ByteArray)]) (t:=37) ?hr ?_;(case hd => rfl);(case hg => rfl);(case hr => first|(go_simp;done)|(go_simp;rfl));intro gb259 hg w60 hbox hb;have BK259:=A_ (hbox);have GW259:=A_ ((by rw [hg];exact (bz_ (by repeat (first|(with_reducible first|exact HB.out|apply pa_|apply pn_|apply pd_|refine ps_ ?_ GE249.out)|exact HB.out))) : w.heap.size ≤ gb259));have GE259:=A_ ((by rw [hg];exact (bz_ (by repeat (first|(with_reducible first|exact HB.out|apply pa_|apply pn_|apply pd_|refine ps_ ?_ GE249.out)|exact HB.out))) : w.heap.size ≤ gb259));replace HB:=A_ (bs_ (by repeat (first|(with_reducible first|exact HB.out|apply pa_|apply pn_|apply pd_|refine ps_ ?_ GE249.out)|exact HB.out)) hb);have NB249_259:=A_ ((by rw [hg];exact nl_ (kl_ (g:=gb249) (o:=.cells #[.int .i64 a0_0,.int .i64 a0_1,.int .i64 a0_2,.int .i64 a0_3,.int .i64 a0_4,.int .i64 a0_5,.int .i64 a0_6,.bool a0_7,.slice (some ad258) l0_8.length c0_8,.slice A0_9 l0_9.length c0_9,.string a0_10,.bool a0_11] 52 (0,0)) (by (with_reducible repeat (first|refine kn_ ?_ _|refine kd_ ?_|refine ka_ ?_ _));exact BK249.out)) : gb249 ≠ gb259));have NB259_249:=A_ ((by rw [hg];exact ng_ (kl_ (g:=gb249) (o:=.cells #[.int .i64 a0_0,.int .i64 a0_1,.int .i64 a0_2,.int .i64 a0_3,.int .i64 a0_4,.int .i64 a0_5,.int .i64 a0_6,.bool a0_7,.slice (some ad258) l0_8.length c0_8,.slice A0_9 l0_9.length c0_9,.string a0_10,.bool a0_11] 52 (0,0)) (by (with_reducible repeat (first|refine kn_ ?_ _|refine kd_ ?_|refine ka_ ?_ _));exact BK249.out)) : gb259 ≠ gb249));replace BK249:=A_ (kb_ (by (with_reducible repeat (first|refine kn_ ?_ _|refine kd_ ?_|refine ka_ ?_ _));exact BK249.out) hb);clear hb hbox hg;have hnb61:=NB259_249.out;have hnc61:=NB249_259.out;have hcz62_0 : w60.cell? ⟨gb259,0,none⟩ = some (.int .i64 0):=(kc_ BK259.out 0).trans rfl;have hcz62_1 : w60.cell? ⟨gb259,1,none⟩ = some (.int .i64 0):=(kc_ BK259.out 1).trans rfl;have hcz62_2 : w60.cell? ⟨gb259,2,none⟩ = some (.string (⟨#[]⟩ : ByteArray)):=(kc_ BK259.out 2).trans rfl;have hfz62_0:=kf_ BK259.out 0;have hfz62_1:=kf_ BK259.out 1;have hfz62_2:=kf_ BK259.out 2;have hcz63_0 : w60.cell? ⟨gb249,0,none⟩ = some (.int .i64 a0_0):=(kc_ BK249.out 0).trans rfl;have hcz63_1 : w60.cell? ⟨gb249,1,none⟩ = some (.int .i64 a0_1):=(kc_ BK249.out 1).trans rfl;have hcz63_2 : w60.cell? ⟨gb249,2,none⟩ = some (.int .i64 a0_2):=(kc_ BK249.out 2).trans rfl;have hcz63_3 : w60.cell? ⟨gb249,3,none⟩ = some (.int .i64 a0_3):=(kc_ BK249.out 3).trans rfl;have hcz63_4 : w60.cell? ⟨gb249,4,none⟩ = some (.int .i64 a0_4):=(kc_ BK249.out 4).trans rfl;have hcz63_5 : w60.cell? ⟨gb249,5,none⟩ = some (.int .i64 a0_5):=(kc_ BK249.out 5).trans rfl;have hcz63_6 : w60.cell? ⟨gb249,6,none⟩ = some (.int .i64 a0_6):=(kc_ BK249.out 6).trans rfl;have hcz63_7 : w60.cell? ⟨gb249,7,none⟩ = some (.bool a0_7):=(kc_ BK249.out 7).trans rfl;have hcz63_8 : w60.cell? ⟨gb249,8,none⟩ = some (.slice (some ad258) l0_8.length c0_8):=(kc_ BK249.out 8).trans rfl;have hcz63_9 : w60.cell? ⟨gb249,9,none⟩ = some (.slice A0_9 l0_9.length c0_9):=(kc_ BK249.out 9).trans rfl;have hcz63_10 : w60.cell? ⟨gb249,10,none⟩ = some (.string a0_10):=(kc_ BK249.out 10).trans rfl;have hcz63_11 : w60.cell? ⟨gb249,11,none⟩ = some (.bool a0_11):=(kc_ BK249.out 11).trans rfl;have hfz63_0:=kf_ BK249.out 0;have hfz63_1:=kf_ BK249.out 1;have hfz63_2:=kf_ BK249.out 2;have hfz63_3:=kf_ BK249.out 3;have hfz63_4:=kf_ BK249.out 4;have hfz63_5:=kf_ BK249.out 5;have hfz63_6:=kf_ BK249.out 6;have hfz63_7:=kf_ BK249.out 7;have hfz63_8:=kf_ BK249.out 8;have hfz63_9:=kf_ BK249.out 9;have hfz63_10:=kf_ BK249.out 10;have hfz63_11:=kf_ BK249.out 11))
             go_ret;exact ⟨by first|rfl|(simp [*,errW_none,errW_some] <;> rfl),by repeat (first|(with_reducible first|exact HB.out|apply pa_|apply pn_|apply pd_|refine ps_ ?_ GE249.out|refine ps_ ?_ GE259.out)|exact HB.out)⟩
           ·rw [if_neg c35] at H;exact absurd H (by simp)
          ·rw [if_neg c34] at H;exact absurd H (by simp)
         ·rw [if_neg c33] at H;have c33b0 : decide (x68_3 < (l0_8.length : Int)) = false:=decide_eq_false c33;clear c33
          by_cases c64 : a0_0 = 5
          ·rw [if_pos c64] at H;have c64b0 : (a0_0 == 5) = true:=beq_iff_eq.mpr c64;have c64b1 : (a0_0 != 5) = false:=bne_eq_false_iff_eq.mpr c64;clear c64;replace H:=ob_.mp H;obtain ⟨t257,A650,H⟩:=H;replace H : (some t257) = some r:=H;have A65:=A_ A650;clear A650;obtain rfl:=Option.some.inj H;have hcz66_0 : wr.cell? ⟨gb249,0,none⟩ = some (.int .i64 a0_0):=(kc_ BK249.out 0).trans rfl;have hcz66_1 : wr.cell? ⟨gb249,1,none⟩ = some (.int .i64 a0_1):=(kc_ BK249.out 1).trans rfl;have hcz66_2 : wr.cell? ⟨gb249,2,none⟩ = some (.int .i64 a0_2):=(kc_ BK249.out 2).trans rfl;have hcz66_3 : wr.cell? ⟨gb249,3,none⟩ = some (.int .i64 a0_3):=(kc_ BK249.out 3).trans rfl;have hcz66_4 : wr.cell? ⟨gb249,4,none⟩ = some (.int .i64 a0_4):=(kc_ BK249.out 4).trans rfl;have hcz66_5 : wr.cell? ⟨gb249,5,none⟩ = some (.int .i64 a0_5):=(kc_ BK249.out 5).trans rfl;have hcz66_6 : wr.cell? ⟨gb249,6,none⟩ = some (.int .i64 a0_6):=(kc_ BK249.out 6).trans rfl;have hcz66_7 : wr.cell? ⟨gb249,7,none⟩ = some (.bool a0_7):=(kc_ BK249.out 7).trans rfl;have hcz66_8 : wr.cell? ⟨gb249,8,none⟩ = some (.slice A0_8 l0_8.length c0_8):=(kc_ BK249.out 8).trans rfl;have hcz66_9 : wr.cell? ⟨gb249,9,none⟩ = some (.slice A0_9 l0_9.length c0_9):=(kc_ BK249.out 9).trans rfl;have hcz66_10 : wr.cell? ⟨gb249,10,none⟩ = some (.string a0_10):=(kc_ BK249.out 10).trans rfl;have hcz66_11 : wr.cell? ⟨gb249,11,none⟩ = some (.bool a0_11):=(kc_ BK249.out 11).trans rfl;have hfz66_0:=kf_ BK249.out 0;have hfz66_1:=kf_ BK249.out 1;have hfz66_2:=kf_ BK249.out 2;have hfz66_3:=kf_ BK249.out 3;have hfz66_4:=kf_ BK249.out 4;have hfz66_5:=kf_ BK249.out 5;have hfz66_6:=kf_ BK249.out 6;have hfz66_7:=kf_ BK249.out 7;have hfz66_8:=kf_ BK249.out 8;have hfz66_9:=kf_ BK249.out 9;have hfz66_10:=kf_ BK249.out 10;have hfz66_11:=kf_ BK249.out 11
           go_wp2_with (first|((with_reducible refine gate_callee (f:=98) rfl ?_);refine goesL_ (some 97) rfl rfl Try.func98 (by kernel_rfl) rfl #[.slice A0_9 l0_9.length c0_9] rfl (by (try simp only [s4_,s5_,s6_]);first|done|rfl|(simp only [List.length_drop,List.length_take];rfl)) ?_;(with_reducible refine (impl_ConfOk.calls k3 _ _ l0_9 t257 _ ?side1 ?side2 A65.out).mono ?_);(case side1 => repeat (first|exact (Kd.C_below HR0_9.out HB.out)|(with_reducible refine Kd.C_alloc ?_ _)|(with_reducible refine Kd.C_drewN ?_ _)|(with_reducible refine Kd.C_drew ?_)));(case side2 => exact HC0_9.out);rintro e w' ⟨rfl,⟨nd,rfl⟩⟩;refine ⟨_,rfl,?_⟩))
           go_ret;exact ⟨by first|rfl|(simp [*,errW_none,errW_some] <;> rfl),by repeat (first|(with_reducible first|exact HB.out|apply pa_|apply pn_|apply pd_|refine ps_ ?_ GE249.out)|exact HB.out)⟩
          ·rw [if_neg c64] at H;have c64b0 : (a0_0 == 5) = false:=beq_eq_false_iff_ne.mpr c64;have c64b1 : (a0_0 != 5) = true:=bne_iff_ne.mpr c64
           by_cases c67 : (l0_9.length : Int) = 0
           ·rw [if_pos c67] at H;have c67b0 : ((l0_9.length : Int) == 0) = true:=beq_iff_eq.mpr c67;have c67b1 : ((l0_9.length : Int) != 0) = false:=bne_eq_false_iff_eq.mpr c67;clear c67
            by_cases c68 : a0_10.toList = ([] : List UInt8)
            ·rw [if_pos c68] at H;have c68b0 : (a0_10.toList == ([] : List UInt8)) = true:=beq_iff_eq.mpr c68;have c68b1 : (a0_10.toList != ([] : List UInt8)) = false:=bne_eq_false_iff_eq.mpr c68;clear c68;obtain rfl:=Option.some.inj H;have hcz69_0 : wr.cell? ⟨gb249,0,none⟩ = some (.int .i64 a0_0):=(kc_ BK249.out 0).trans rfl;have hcz69_1 : wr.cell? ⟨gb249,1,none⟩ = some (.int .i64 a0_1):=(kc_ BK249.out 1).trans rfl;have hcz69_2 : wr.cell? ⟨gb249,2,none⟩ = some (.int .i64 a0_2):=(kc_ BK249.out 2).trans rfl;have hcz69_3 : wr.cell? ⟨gb249,3,none⟩ = some (.int .i64 a0_3):=(kc_ BK249.out 3).trans rfl;have hcz69_4 : wr.cell? ⟨gb249,4,none⟩ = some (.int .i64 a0_4):=(kc_ BK249.out 4).trans rfl;have hcz69_5 : wr.cell? ⟨gb249,5,none⟩ = some (.int .i64 a0_5):=(kc_ BK249.out 5).trans rfl;have hcz69_6 : wr.cell? ⟨gb249,6,none⟩ = some (.int .i64 a0_6):=(kc_ BK249.out 6).trans rfl;have hcz69_7 : wr.cell? ⟨gb249,7,none⟩ = some (.bool a0_7):=(kc_ BK249.out 7).trans rfl;have hcz69_8 : wr.cell? ⟨gb249,8,none⟩ = some (.slice A0_8 l0_8.length c0_8):=(kc_ BK249.out 8).trans rfl;have hcz69_9 : wr.cell? ⟨gb249,9,none⟩ = some (.slice A0_9 l0_9.length c0_9):=(kc_ BK249.out 9).trans rfl;have hcz69_10 : wr.cell? ⟨gb249,10,none⟩ = some (.string a0_10):=(kc_ BK249.out 10).trans rfl;have hcz69_11 : wr.cell? ⟨gb249,11,none⟩ = some (.bool a0_11):=(kc_ BK249.out 11).trans rfl;have hfz69_0:=kf_ BK249.out 0;have hfz69_1:=kf_ BK249.out 1;have hfz69_2:=kf_ BK249.out 2;have hfz69_3:=kf_ BK249.out 3;have hfz69_4:=kf_ BK249.out 4;have hfz69_5:=kf_ BK249.out 5;have hfz69_6:=kf_ BK249.out 6;have hfz69_7:=kf_ BK249.out 7;have hfz69_8:=kf_ BK249.out 8;have hfz69_9:=kf_ BK249.out 9;have hfz69_10:=kf_ BK249.out 10;have hfz69_11:=kf_ BK249.out 11;go_wp2;go_ret;exact ⟨by first|rfl|(simp [*,errW_none,errW_some] <;> rfl),by repeat (first|(with_reducible first|exact HB.out|apply pa_|apply pn_|apply pd_|refine ps_ ?_ GE249.out)|exact HB.out)⟩
            ·rw [if_neg c68] at H;have c68b0 : (a0_10.toList == ([] : List UInt8)) = false:=beq_eq_false_iff_ne.mpr c68;have c68b1 : (a0_10.toList != ([] : List UInt8)) = true:=bne_iff_ne.mpr c68;obtain rfl:=Option.some.inj H;have hcz70_0 : wr.cell? ⟨gb249,0,none⟩ = some (.int .i64 a0_0):=(kc_ BK249.out 0).trans rfl;have hcz70_1 : wr.cell? ⟨gb249,1,none⟩ = some (.int .i64 a0_1):=(kc_ BK249.out 1).trans rfl;have hcz70_2 : wr.cell? ⟨gb249,2,none⟩ = some (.int .i64 a0_2):=(kc_ BK249.out 2).trans rfl;have hcz70_3 : wr.cell? ⟨gb249,3,none⟩ = some (.int .i64 a0_3):=(kc_ BK249.out 3).trans rfl;have hcz70_4 : wr.cell? ⟨gb249,4,none⟩ = some (.int .i64 a0_4):=(kc_ BK249.out 4).trans rfl;have hcz70_5 : wr.cell? ⟨gb249,5,none⟩ = some (.int .i64 a0_5):=(kc_ BK249.out 5).trans rfl;have hcz70_6 : wr.cell? ⟨gb249,6,none⟩ = some (.int .i64 a0_6):=(kc_ BK249.out 6).trans rfl;have hcz70_7 : wr.cell? ⟨gb249,7,none⟩ = some (.bool a0_7):=(kc_ BK249.out 7).trans rfl;have hcz70_8 : wr.cell? ⟨gb249,8,none⟩ = some (.slice A0_8 l0_8.length c0_8):=(kc_ BK249.out 8).trans rfl;have hcz70_9 : wr.cell? ⟨gb249,9,none⟩ = some (.slice A0_9 l0_9.length c0_9):=(kc_ BK249.out 9).trans rfl;have hcz70_10 : wr.cell? ⟨gb249,10,none⟩ = some (.string a0_10):=(kc_ BK249.out 10).trans rfl;have hcz70_11 : wr.cell? ⟨gb249,11,none⟩ = some (.bool a0_11):=(kc_ BK249.out 11).trans rfl;have hfz70_0:=kf_ BK249.out 0;have hfz70_1:=kf_ BK249.out 1;have hfz70_2:=kf_ BK249.out 2;have hfz70_3:=kf_ BK249.out 3;have hfz70_4:=kf_ BK249.out 4;have hfz70_5:=kf_ BK249.out 5;have hfz70_6:=kf_ BK249.out 6;have hfz70_7:=kf_ BK249.out 7;have hfz70_8:=kf_ BK249.out 8;have hfz70_9:=kf_ BK249.out 9;have hfz70_10:=kf_ BK249.out 10;have hfz70_11:=kf_ BK249.out 11;go_wp2;go_ret;exact ⟨by first|rfl|(simp [*,errW_none,errW_some] <;> rfl),by repeat (first|(with_reducible first|exact HB.out|apply pa_|apply pn_|apply pd_|refine ps_ ?_ GE249.out)|exact HB.out)⟩
           ·rw [if_neg c67] at H;have c67b0 : ((l0_9.length : Int) == 0) = false:=beq_eq_false_iff_ne.mpr c67;have c67b1 : ((l0_9.length : Int) != 0) = true:=bne_iff_ne.mpr c67
            have c67b2 : ¬ (l0_9 = []):=fun h_ => c67 (by rw [h_];rfl)
            obtain rfl:=Option.some.inj H;have hcz71_0 : wr.cell? ⟨gb249,0,none⟩ = some (.int .i64 a0_0):=(kc_ BK249.out 0).trans rfl;have hcz71_1 : wr.cell? ⟨gb249,1,none⟩ = some (.int .i64 a0_1):=(kc_ BK249.out 1).trans rfl;have hcz71_2 : wr.cell? ⟨gb249,2,none⟩ = some (.int .i64 a0_2):=(kc_ BK249.out 2).trans rfl;have hcz71_3 : wr.cell? ⟨gb249,3,none⟩ = some (.int .i64 a0_3):=(kc_ BK249.out 3).trans rfl;have hcz71_4 : wr.cell? ⟨gb249,4,none⟩ = some (.int .i64 a0_4):=(kc_ BK249.out 4).trans rfl;have hcz71_5 : wr.cell? ⟨gb249,5,none⟩ = some (.int .i64 a0_5):=(kc_ BK249.out 5).trans rfl;have hcz71_6 : wr.cell? ⟨gb249,6,none⟩ = some (.int .i64 a0_6):=(kc_ BK249.out 6).trans rfl;have hcz71_7 : wr.cell? ⟨gb249,7,none⟩ = some (.bool a0_7):=(kc_ BK249.out 7).trans rfl;have hcz71_8 : wr.cell? ⟨gb249,8,none⟩ = some (.slice A0_8 l0_8.length c0_8):=(kc_ BK249.out 8).trans rfl;have hcz71_9 : wr.cell? ⟨gb249,9,none⟩ = some (.slice A0_9 l0_9.length c0_9):=(kc_ BK249.out 9).trans rfl;have hcz71_10 : wr.cell? ⟨gb249,10,none⟩ = some (.string a0_10):=(kc_ BK249.out 10).trans rfl;have hcz71_11 : wr.cell? ⟨gb249,11,none⟩ = some (.bool a0_11):=(kc_ BK249.out 11).trans rfl;have hfz71_0:=kf_ BK249.out 0;have hfz71_1:=kf_ BK249.out 1;have hfz71_2:=kf_ BK249.out 2;have hfz71_3:=kf_ BK249.out 3;have hfz71_4:=kf_ BK249.out 4;have hfz71_5:=kf_ BK249.out 5;have hfz71_6:=kf_ BK249.out 6;have hfz71_7:=kf_ BK249.out 7;have hfz71_8:=kf_ BK249.out 8;have hfz71_9:=kf_ BK249.out 9;have hfz71_10:=kf_ BK249.out 10;have hfz71_11:=kf_ BK249.out 11;go_wp2;go_ret;exact ⟨by first|rfl|(simp [*,errW_none,errW_some] <;> rfl),by repeat (first|(with_reducible first|exact HB.out|apply pa_|apply pn_|apply pd_|refine ps_ ?_ GE249.out)|exact HB.out)⟩
end Go.Proofs.Ytgpafelepkhdoaa.PFnExactEncode
