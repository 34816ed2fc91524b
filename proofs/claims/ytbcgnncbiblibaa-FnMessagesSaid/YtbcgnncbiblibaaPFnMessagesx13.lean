/- The contracts of Go functions that this law reaches: what each call returns, by a plain Lean function of its arguments, under the conditions that each names. By the kit's print.py, run by this repo's wip/gen/pp.py: not to the letter what print.sh prints. -/
import Derived.Test.YtbcgnncbiblibaaPFnMessagesx0
import Derived.Test.YtbcgnncbiblibaaPFnMessagesx12
namespace Go.Proofs.Ytbcgnncbiblibaa.PFnMessages
open Go.RowKit Go.Proofs.YtbcgnncbiblibaaW.PrintWords Go.Proofs.YtbcgnncbiblibaaW.PrintLast Go.Proofs.YtbcgnncbiblibaaW.PrintMore
attribute [local go_sem] max2_int min2_int max_two min_two max_three min_three max_four min_four
set_option linter.unusedVariables false
set_option linter.unusedSimpArgs false
mutual
def impl_MessageOk.j0 : Nat → Bool → Int → Int → Int → Int → Int → Int → Int → Bool → List (S69) → List Int → ByteArray → Bool → Option (Bool)
 | 0,_,_,_,_,_,_,_,_,_,_,_,_,_ => none
 | k + 1,x28,x304000,x304001,x304002,x304003,x304004,x304005,x304006,x304007,x304008,x304009,x304010,x304011 => if x28 = true then (some false) else ((impl_within.f x304003 0 100000).bind fun t307 => (if t307 = true then ((impl_within.f x304005 0 100000).bind fun t308 => (if t308 = true then ((impl_within.f x304004 0 100000).bind fun t309 => (if t309 = true then ((impl_within.f x304006 0 100000).bind fun t310 => (if t310 = true then (if (x304008.length : Int) > 4 then (impl_MessageOk.j1 k true x304000 x304001 x304002 x304003 x304004 x304005 x304006 x304007 x304008 x304009 x304010 x304011) else (impl_MessageOk.j1 k (decide ((x304010.size : Int) > 60)) x304000 x304001 x304002 x304003 x304004 x304005 x304006 x304007 x304008 x304009 x304010 x304011)) else (impl_MessageOk.j1 k true x304000 x304001 x304002 x304003 x304004 x304005 x304006 x304007 x304008 x304009 x304010 x304011))) else (impl_MessageOk.j1 k true x304000 x304001 x304002 x304003 x304004 x304005 x304006 x304007 x304008 x304009 x304010 x304011))) else (impl_MessageOk.j1 k true x304000 x304001 x304002 x304003 x304004 x304005 x304006 x304007 x304008 x304009 x304010 x304011))) else (impl_MessageOk.j1 k true x304000 x304001 x304002 x304003 x304004 x304005 x304006 x304007 x304008 x304009 x304010 x304011)))
def impl_MessageOk.j1 : Nat → Bool → Int → Int → Int → Int → Int → Int → Int → Bool → List (S69) → List Int → ByteArray → Bool → Option (Bool)
 | 0,_,_,_,_,_,_,_,_,_,_,_,_,_ => none
 | k + 1,x62,x304000,x304001,x304002,x304003,x304004,x304005,x304006,x304007,x304008,x304009,x304010,x304011 => if x62 = true then (some false) else (impl_MessageOk.l0 k x304005 x304008 (x304008.length : Int) 0 x304000 x304001 x304002 x304003 x304004 x304005 x304006 x304007 x304008 x304009 x304010 x304011)
def impl_MessageOk.l0 : Nat → Int → List (S69) → Int → Int → Int → Int → Int → Int → Int → Int → Int → Bool → List (S69) → List Int → ByteArray → Bool → Option (Bool)
 | 0,_,_,_,_,_,_,_,_,_,_,_,_,_,_,_,_ => none
 | k + 1,x3,x66,x67,x68,x304000,x304001,x304002,x304003,x304004,x304005,x304006,x304007,x304008,x304009,x304010,x304011 => if x68 < x67 then (if 0 ≤ x68 then (if x68 < (x66.length : Int) then (if x304000 = 3 then ((impl_EntryOk.f k ((rd_T69 x66 x68).f0) ((rd_T69 x66 x68).f1) ((rd_T69 x66 x68).f2)).bind fun t314 => (if t314 = true then ((impl_within.f ((rd_T69 x66 x68).f0) x3 x304003).bind fun t315 => (if t315 = true then (impl_MessageOk.l0 k ((rd_T69 x66 x68).f0) x66 x67 (wrap64 (x68 + 1)) x304000 x304001 x304002 x304003 x304004 x304005 x304006 x304007 x304008 x304009 x304010 x304011) else (some false))) else (some false))) else (some false)) else (none)) else (none)) else (if x304000 = 5 then ((impl_ConfOk.f k x304009).bind fun t311 => (some t311)) else (if (x304009.length : Int) = 0 then (if x304010.toList = ([] : List UInt8) then (some (!x304011)) else (some false)) else (some false)))
end
def impl_MessageOk.f (k : Nat) (a0_0 a0_1 a0_2 a0_3 a0_4 a0_5 a0_6 : Int) (a0_7 : Bool) (l0_8 : List (S69)) (l0_9 : List Int) (a0_10 : ByteArray) (a0_11 : Bool) : Option (Bool) := (impl_within.f a0_0 1 6).bind fun t304 => (if t304 = true then ((impl_within.f a0_1 1 4).bind fun t305 => (if t305 = true then ((impl_within.f a0_2 1 4).bind fun t306 => (if t306 = true then (impl_MessageOk.j0 k (a0_1 == a0_2) a0_0 a0_1 a0_2 a0_3 a0_4 a0_5 a0_6 a0_7 l0_8 l0_9 a0_10 a0_11) else (impl_MessageOk.j0 k true a0_0 a0_1 a0_2 a0_3 a0_4 a0_5 a0_6 a0_7 l0_8 l0_9 a0_10 a0_11))) else (impl_MessageOk.j0 k true a0_0 a0_1 a0_2 a0_3 a0_4 a0_5 a0_6 a0_7 l0_8 l0_9 a0_10 a0_11))) else (impl_MessageOk.j0 k true a0_0 a0_1 a0_2 a0_3 a0_4 a0_5 a0_6 a0_7 l0_8 l0_9 a0_10 a0_11))
theorem impl_MessageOk.mono_l : ∀ k, (∀ y0 y1 y2 y3 y4 y5 y6 y7 y8 y9 y10 y11 y12, LeO (impl_MessageOk.j0 k y0 y1 y2 y3 y4 y5 y6 y7 y8 y9 y10 y11 y12) (impl_MessageOk.j0 (k + 1) y0 y1 y2 y3 y4 y5 y6 y7 y8 y9 y10 y11 y12)) ∧ (∀ y0 y1 y2 y3 y4 y5 y6 y7 y8 y9 y10 y11 y12, LeO (impl_MessageOk.j1 k y0 y1 y2 y3 y4 y5 y6 y7 y8 y9 y10 y11 y12) (impl_MessageOk.j1 (k + 1) y0 y1 y2 y3 y4 y5 y6 y7 y8 y9 y10 y11 y12)) ∧ (∀ y0 y1 y2 y3 y4 y5 y6 y7 y8 y9 y10 y11 y12 y13 y14 y15, LeO (impl_MessageOk.l0 k y0 y1 y2 y3 y4 y5 y6 y7 y8 y9 y10 y11 y12 y13 y14 y15) (impl_MessageOk.l0 (k + 1) y0 y1 y2 y3 y4 y5 y6 y7 y8 y9 y10 y11 y12 y13 y14 y15))
 | 0 => ⟨fun _ _ _ _ _ _ _ _ _ _ _ _ _ r h => by simp [impl_MessageOk.j0] at h,fun _ _ _ _ _ _ _ _ _ _ _ _ _ r h => by simp [impl_MessageOk.j1] at h,fun _ _ _ _ _ _ _ _ _ _ _ _ _ _ _ _ r h => by simp [impl_MessageOk.l0] at h⟩
 | k + 1 => by
  obtain ⟨ih0,ih1,ih2⟩:=impl_MessageOk.mono_l k;refine ⟨?_,?_,?_⟩
  ·intro y0 y1 y2 y3 y4 y5 y6 y7 y8 y9 y10 y11 y12
   unfold impl_MessageOk.j0
   repeat' first
   | (with_reducible exact ih1 _ _ _ _ _ _ _ _ _ _ _ _ _)
   | (with_reducible exact LeO.refl _)
   | (with_reducible refine LeO.ite ?_ ?_)
   | (with_reducible refine LeO.bind ?_ (fun _ => ?_))
  ·intro y0 y1 y2 y3 y4 y5 y6 y7 y8 y9 y10 y11 y12
   unfold impl_MessageOk.j1
   repeat' first
   | (with_reducible exact ih2 _ _ _ _ _ _ _ _ _ _ _ _ _ _ _ _)
   | (with_reducible exact LeO.refl _)
   | (with_reducible refine LeO.ite ?_ ?_)
  intro y0 y1 y2 y3 y4 y5 y6 y7 y8 y9 y10 y11 y12 y13 y14 y15
  unfold impl_MessageOk.l0
  repeat' first
  | (with_reducible exact ih2 _ _ _ _ _ _ _ _ _ _ _ _ _ _ _ _)
  | (with_reducible exact impl_ConfOk.mono _ _)
  | (with_reducible exact impl_EntryOk.mono _ _ _ _)
  | (with_reducible exact LeO.refl _)
  | (with_reducible refine LeO.ite ?_ ?_)
  | (with_reducible refine LeO.bind ?_ (fun _ => ?_))
theorem impl_MessageOk.mono : ∀ a0 a1 a2 a3 a4 a5 a6 a7 a8 a9 a10 a11 k, LeO (impl_MessageOk.f k a0 a1 a2 a3 a4 a5 a6 a7 a8 a9 a10 a11) (impl_MessageOk.f (k + 1) a0 a1 a2 a3 a4 a5 a6 a7 a8 a9 a10 a11) := by
 intro a0 a1 a2 a3 a4 a5 a6 a7 a8 a9 a10 a11 k;obtain ⟨ih0,ih1,ih2⟩:=impl_MessageOk.mono_l k
 unfold impl_MessageOk.f
 repeat' first
   | (with_reducible exact ih0 _ _ _ _ _ _ _ _ _ _ _ _ _)
   | (with_reducible exact LeO.refl _)
   | (with_reducible refine LeO.ite ?_ ?_)
   | (with_reducible refine LeO.bind ?_ (fun _ => ?_))
set_option maxHeartbeats 8000000 in
set_option maxRecDepth 100000 in
theorem impl_MessageOk.calls (k : Nat) (a0_0 a0_1 a0_2 a0_3 a0_4 a0_5 a0_6 : Int) (a0_7 : Bool) (A0_8 : Option Addr) (c0_8 : Nat) (l0_8 : List (S69)) (A0_9 : Option Addr) (c0_9 : Nat) (l0_9 : List Int) (a0_10 : ByteArray) (a0_11 r : Bool) (w : World) (hr0_8 : Kd.C k69 w A0_8 l0_8.length l0_8) (hc0_8 : l0_8.length ≤ c0_8) (hr0_9 : Kd.C (Kd.int .i64) w A0_9 l0_9.length l0_9) (hc0_9 : l0_9.length ≤ c0_9) (h : impl_MessageOk.f k a0_0 a0_1 a0_2 a0_3 a0_4 a0_5 a0_6 a0_7 l0_8 l0_9 a0_10 a0_11 = some r) :
  Calls Try.prog 75 #[.agg #[.int .i64 a0_0,.int .i64 a0_1,.int .i64 a0_2,.int .i64 a0_3,.int .i64 a0_4,.int .i64 a0_5,.int .i64 a0_6,.bool a0_7,.slice A0_8 l0_8.length c0_8,.slice A0_9 l0_9.length c0_9,.string a0_10,.bool a0_11]] w fun e w' => e = .returned (.bool r) ∧ Below w.heap.size w w':=by
 have hu41:=Try.underlying41;have hu69:=Try.underlying69;have HR0_8:=A_ hr0_8;have HC0_8:=A_ hc0_8;clear hr0_8 hc0_8;have HR0_9:=A_ hr0_9;have HC0_9:=A_ hc0_9;clear hr0_9 hc0_9;have HB:=A_ (Below.refl w.heap.size w);unfold impl_MessageOk.f at h;have H:=h;clear h;have HC2:=A_ H;clear H;go_enter Try.func75,Try.ntmps75
 go_upto_region 1 with (((with_reducible refine gate_dst (N:=1) rfl ?_);(try (refine gate_guard (by rfl) ?_;dsimp only));refine bE_ 1 #[.int .i64 a0_0,.int .i64 a0_1,.int .i64 a0_2,.int .i64 a0_3,.int .i64 a0_4,.int .i64 a0_5,.int .i64 a0_6,.bool a0_7,.slice A0_8 l0_8.length c0_8,.slice A0_9 l0_9.length c0_9,.string a0_10,.bool a0_11] 41 ?_;intro gb303 hg w3 hbox hb;have n0_:=bS_ HB hb;have n1_:=A_ hbox;have n3_:=gE_ hg HB;clear HB;have HB:=n0_;have BK303:=n1_;have GE303:=n3_;clear n0_ n1_ n3_;clear hb hbox hg))
 go_cut [28] (fun v28 wc => ∃ (kq : Nat) (x28_1 : Bool),v28 = .bool x28_1 ∧ Aside0 (impl_MessageOk.j0 kq x28_1 a0_0 a0_1 a0_2 a0_3 a0_4 a0_5 a0_6 a0_7 l0_8 l0_9 a0_10 a0_11 = some r) ∧ Aside0 (kq ≤ k) ∧ Aside0 (wc.heap[gb303]? = some (.cells #[.int .i64 a0_0,.int .i64 a0_1,.int .i64 a0_2,.int .i64 a0_3,.int .i64 a0_4,.int .i64 a0_5,.int .i64 a0_6,.bool a0_7,(.slice A0_8 l0_8.length c0_8),(.slice A0_9 l0_9.length c0_9),.string a0_10,.bool a0_11] 41 (0,0))) ∧ Aside0 (Below w.heap.size w wc))
 case first =>
  have H:=HC2.out;clear HC2;replace H:=ob_.mp H;obtain ⟨t304,A40,H⟩:=H;have A4:=A_ A40;clear A40
  by_cases c5 : t304 = true;rotate_left
  ·replace c5:=Bool.eq_false_iff.mpr c5;subst c5
   have H1 : (impl_MessageOk.j0 k true a0_0 a0_1 a0_2 a0_3 a0_4 a0_5 a0_6 a0_7 l0_8 l0_9 a0_10 a0_11) = some r:=by rw [if_neg (show ¬ (false = true) by decide)] at H;exact H
   clear H;have H:=H1;clear H1;have H':=A_ H;clear H;obtain ⟨hcz13_0,hcz13_1,hcz13_2,hcz13_3,hcz13_4,hcz13_5,hcz13_6,hcz13_7,hcz13_8,hcz13_9,hcz13_10,hcz13_11,hfz13_0,hfz13_1,hfz13_2,hfz13_3,hfz13_4,hfz13_5,hfz13_6,hfz13_7,hfz13_8,hfz13_9,hfz13_10,hfz13_11⟩:=k12f_ BK303
   go_wp2_with (((with_reducible refine gate_callee (f:=47) rfl ?_);refine gL_ (some 8) Try.func47 #[.int .i64 a0_0,.int .i64 1,.int .i64 6] ?_;(with_reducible refine (impl_within.calls a0_0 1 6 false _ A4.out).mono ?_);rintro e w' ⟨rfl,⟨nd,rfl⟩⟩;refine ⟨_,rfl,?_⟩))
   go_meet
   case rel => exact ⟨_,(true),(by rfl),H',⟨by omega⟩,⟨kq_ BK303⟩,⟨bq_ HB⟩⟩
  subst c5
  rw [if_pos rfl] at H;replace H:=ob_.mp H;obtain ⟨t305,A60,H⟩:=H;have A6:=A_ A60;clear A60
  by_cases c7 : t305 = true
  ·subst c7
   rw [if_pos rfl] at H;replace H:=ob_.mp H;obtain ⟨t306,A80,H⟩:=H;have A8:=A_ A80;clear A80
   by_cases c9 : t306 = true
   ·subst c9
    rw [if_pos rfl] at H;have H':=A_ H;clear H;obtain ⟨hcz10_0,hcz10_1,hcz10_2,hcz10_3,hcz10_4,hcz10_5,hcz10_6,hcz10_7,hcz10_8,hcz10_9,hcz10_10,hcz10_11,hfz10_0,hfz10_1,hfz10_2,hfz10_3,hfz10_4,hfz10_5,hfz10_6,hfz10_7,hfz10_8,hfz10_9,hfz10_10,hfz10_11⟩:=k12f_ BK303
    go_wp2_with (first|((with_reducible refine gate_callee (f:=47) rfl ?_);refine gL_ (some 8) Try.func47 #[.int .i64 a0_0,.int .i64 1,.int .i64 6] ?_;(with_reducible refine (impl_within.calls a0_0 1 6 true _ A4.out).mono ?_);rintro e w' ⟨rfl,⟨nd,rfl⟩⟩;refine ⟨_,rfl,?_⟩)|(go_at_call 47;(with_reducible refine (impl_within.calls a0_1 1 4 true _ A6.out).mono ?_);rintro e w' ⟨rfl,⟨nd,rfl⟩⟩)|(go_at_call 47;(with_reducible refine (impl_within.calls a0_2 1 4 true _ A8.out).mono ?_);rintro e w' ⟨rfl,⟨nd,rfl⟩⟩))
    go_meet
    case rel => exact ⟨_,((a0_1 == a0_2)),(by rfl),H',⟨by omega⟩,⟨kq_ BK303⟩,⟨bq_ HB⟩⟩
   replace c9:=Bool.eq_false_iff.mpr c9;subst c9
   have H1 : (impl_MessageOk.j0 k true a0_0 a0_1 a0_2 a0_3 a0_4 a0_5 a0_6 a0_7 l0_8 l0_9 a0_10 a0_11) = some r:=by rw [if_neg (show ¬ (false = true) by decide)] at H;exact H
   clear H;have H:=H1;clear H1;have H':=A_ H;clear H;obtain ⟨hcz11_0,hcz11_1,hcz11_2,hcz11_3,hcz11_4,hcz11_5,hcz11_6,hcz11_7,hcz11_8,hcz11_9,hcz11_10,hcz11_11,hfz11_0,hfz11_1,hfz11_2,hfz11_3,hfz11_4,hfz11_5,hfz11_6,hfz11_7,hfz11_8,hfz11_9,hfz11_10,hfz11_11⟩:=k12f_ BK303
   go_wp2_with (first|((with_reducible refine gate_callee (f:=47) rfl ?_);refine gL_ (some 8) Try.func47 #[.int .i64 a0_0,.int .i64 1,.int .i64 6] ?_;(with_reducible refine (impl_within.calls a0_0 1 6 true _ A4.out).mono ?_);rintro e w' ⟨rfl,⟨nd,rfl⟩⟩;refine ⟨_,rfl,?_⟩)|(go_at_call 47;(with_reducible refine (impl_within.calls a0_1 1 4 true _ A6.out).mono ?_);rintro e w' ⟨rfl,⟨nd,rfl⟩⟩)|(go_at_call 47;(with_reducible refine (impl_within.calls a0_2 1 4 false _ A8.out).mono ?_);rintro e w' ⟨rfl,⟨nd,rfl⟩⟩))
   go_meet
   case rel => exact ⟨_,(true),(by rfl),H',⟨by omega⟩,⟨kq_ BK303⟩,⟨bq_ HB⟩⟩
  replace c7:=Bool.eq_false_iff.mpr c7;subst c7
  have H1 : (impl_MessageOk.j0 k true a0_0 a0_1 a0_2 a0_3 a0_4 a0_5 a0_6 a0_7 l0_8 l0_9 a0_10 a0_11) = some r:=by rw [if_neg (show ¬ (false = true) by decide)] at H;exact H
  clear H;have H:=H1;clear H1;have H':=A_ H;clear H;obtain ⟨hcz12_0,hcz12_1,hcz12_2,hcz12_3,hcz12_4,hcz12_5,hcz12_6,hcz12_7,hcz12_8,hcz12_9,hcz12_10,hcz12_11,hfz12_0,hfz12_1,hfz12_2,hfz12_3,hfz12_4,hfz12_5,hfz12_6,hfz12_7,hfz12_8,hfz12_9,hfz12_10,hfz12_11⟩:=k12f_ BK303
  go_wp2_with (first|((with_reducible refine gate_callee (f:=47) rfl ?_);refine gL_ (some 8) Try.func47 #[.int .i64 a0_0,.int .i64 1,.int .i64 6] ?_;(with_reducible refine (impl_within.calls a0_0 1 6 true _ A4.out).mono ?_);rintro e w' ⟨rfl,⟨nd,rfl⟩⟩;refine ⟨_,rfl,?_⟩)|(go_at_call 47;(with_reducible refine (impl_within.calls a0_1 1 4 false _ A6.out).mono ?_);rintro e w' ⟨rfl,⟨nd,rfl⟩⟩))
  go_meet
  case rel => exact ⟨_,(true),(by rfl),H',⟨by omega⟩,⟨kq_ BK303⟩,⟨bq_ HB⟩⟩
 case rest =>
  clear HC2
  (try clear p2);(try clear c4);(try clear c5);(try clear c7);(try clear c9);(try clear hcz10_0);(try clear hcz10_1);(try clear hcz10_10);(try clear hcz10_11);(try clear hcz10_2);(try clear hcz10_3);(try clear hcz10_4);(try clear hcz10_5);(try clear hcz10_6);(try clear hcz10_7);(try clear hcz10_8);(try clear hcz10_9);(try clear hcz11_0);(try clear hcz11_1);(try clear hcz11_10);(try clear hcz11_11);(try clear hcz11_2);(try clear hcz11_3);(try clear hcz11_4);(try clear hcz11_5);(try clear hcz11_6);(try clear hcz11_7);(try clear hcz11_8);(try clear hcz11_9);(try clear hcz12_0);(try clear hcz12_1);(try clear hcz12_10);(try clear hcz12_11);(try clear hcz12_2);(try clear hcz12_3);(try clear hcz12_4);(try clear hcz12_5);(try clear hcz12_6);(try clear hcz12_7);(try clear hcz12_8);(try clear hcz12_9);(try clear hcz13_0);(try clear hcz13_1);(try clear hcz13_10);(try clear hcz13_11);(try clear hcz13_2);(try clear hcz13_3);(try clear hcz13_4);(try clear hcz13_5);(try clear hcz13_6);(try clear hcz13_7);(try clear hcz13_8);(try clear hcz13_9);(try clear hfz10_0);(try clear hfz10_1);(try clear hfz10_10);(try clear hfz10_11);(try clear hfz10_2);(try clear hfz10_3);(try clear hfz10_4);(try clear hfz10_5);(try clear hfz10_6);(try clear hfz10_7);(try clear hfz10_8);(try clear hfz10_9);(try clear hfz11_0);(try clear hfz11_1);(try clear hfz11_10);(try clear hfz11_11);(try clear hfz11_2);(try clear hfz11_3);(try clear hfz11_4);(try clear hfz11_5);(try clear hfz11_6);(try clear hfz11_7);(try clear hfz11_8);(try clear hfz11_9);(try clear hfz12_0);(try clear hfz12_1);(try clear hfz12_10);(try clear hfz12_11);(try clear hfz12_2);(try clear hfz12_3);(try clear hfz12_4);(try clear hfz12_5);(try clear hfz12_6);(try clear hfz12_7);(try clear hfz12_8);(try clear hfz12_9);(try clear hfz13_0);(try clear hfz13_1);(try clear hfz13_10);(try clear hfz13_11);(try clear hfz13_2);(try clear hfz13_3);(try clear hfz13_4);(try clear hfz13_5);(try clear hfz13_6);(try clear hfz13_7);(try clear hfz13_8);(try clear hfz13_9)
  obtain ⟨kq,x28_1,rfl,HA,HJ1,BK303,HB⟩:=hcut
  cases kq with
  | zero => exact absurd HA.out (by simp [impl_MessageOk.j0])
  | succ kj1 =>
   have H:=HA.out;clear HA;simp only [impl_MessageOk.j0] at H
   by_cases c14 : x28_1 = true
   ·subst c14
    rw [if_pos rfl] at H;obtain rfl:=Option.some.inj H;go_wp2;go_ret;exact ⟨ex_,bq_ HB⟩
   replace c14:=Bool.eq_false_iff.mpr c14;subst c14
   have H1 : ((impl_within.f a0_3 0 100000).bind fun t307 => (if t307 = true then ((impl_within.f a0_5 0 100000).bind fun t308 => (if t308 = true then ((impl_within.f a0_4 0 100000).bind fun t309 => (if t309 = true then ((impl_within.f a0_6 0 100000).bind fun t310 => (if t310 = true then (if (l0_8.length : Int) > 4 then (impl_MessageOk.j1 kj1 true a0_0 a0_1 a0_2 a0_3 a0_4 a0_5 a0_6 a0_7 l0_8 l0_9 a0_10 a0_11) else (impl_MessageOk.j1 kj1 (decide ((a0_10.size : Int) > 60)) a0_0 a0_1 a0_2 a0_3 a0_4 a0_5 a0_6 a0_7 l0_8 l0_9 a0_10 a0_11)) else (impl_MessageOk.j1 kj1 true a0_0 a0_1 a0_2 a0_3 a0_4 a0_5 a0_6 a0_7 l0_8 l0_9 a0_10 a0_11))) else (impl_MessageOk.j1 kj1 true a0_0 a0_1 a0_2 a0_3 a0_4 a0_5 a0_6 a0_7 l0_8 l0_9 a0_10 a0_11))) else (impl_MessageOk.j1 kj1 true a0_0 a0_1 a0_2 a0_3 a0_4 a0_5 a0_6 a0_7 l0_8 l0_9 a0_10 a0_11))) else (impl_MessageOk.j1 kj1 true a0_0 a0_1 a0_2 a0_3 a0_4 a0_5 a0_6 a0_7 l0_8 l0_9 a0_10 a0_11))) = some r:=by rw [if_neg (show ¬ (false = true) by decide)] at H;exact H
   clear H;have H:=H1;clear H1;have HC15:=A_ H;clear H
   go_upto_region 3 with (fail)
   go_cut [62] (fun v62 wc => ∃ (kq : Nat) (x62_14 : Bool),v62 = .bool x62_14 ∧ Aside0 (impl_MessageOk.j1 kq x62_14 a0_0 a0_1 a0_2 a0_3 a0_4 a0_5 a0_6 a0_7 l0_8 l0_9 a0_10 a0_11 = some r) ∧ Aside0 (kq ≤ kj1) ∧ Aside0 (wc.heap[gb303]? = some (.cells #[.int .i64 a0_0,.int .i64 a0_1,.int .i64 a0_2,.int .i64 a0_3,.int .i64 a0_4,.int .i64 a0_5,.int .i64 a0_6,.bool a0_7,(.slice A0_8 l0_8.length c0_8),(.slice A0_9 l0_9.length c0_9),.string a0_10,.bool a0_11] 41 (0,0))) ∧ Aside0 (Below w.heap.size w wc))
   case first =>
    have H:=HC15.out;clear HC15;replace H:=ob_.mp H;obtain ⟨t307,A160,H⟩:=H;have A16:=A_ A160;clear A160
    by_cases c17 : t307 = true;rotate_left
    ·replace c17:=Bool.eq_false_iff.mpr c17;subst c17
     have H1 : (impl_MessageOk.j1 kj1 true a0_0 a0_1 a0_2 a0_3 a0_4 a0_5 a0_6 a0_7 l0_8 l0_9 a0_10 a0_11) = some r:=by rw [if_neg (show ¬ (false = true) by decide)] at H;exact H
     clear H;have H:=H1;clear H1;have H':=A_ H;clear H;obtain ⟨hcz30_0,hcz30_1,hcz30_2,hcz30_3,hcz30_4,hcz30_5,hcz30_6,hcz30_7,hcz30_8,hcz30_9,hcz30_10,hcz30_11,hfz30_0,hfz30_1,hfz30_2,hfz30_3,hfz30_4,hfz30_5,hfz30_6,hfz30_7,hfz30_8,hfz30_9,hfz30_10,hfz30_11⟩:=k12f_ BK303
     go_wp2_with (((with_reducible refine gate_callee (f:=47) rfl ?_);refine gL_ (some 31) Try.func47 #[.int .i64 a0_3,.int .i64 0,.int .i64 100000] ?_;(with_reducible refine (impl_within.calls a0_3 0 100000 false _ A16.out).mono ?_);rintro e w' ⟨rfl,⟨nd,rfl⟩⟩;refine ⟨_,rfl,?_⟩))
     go_meet
     case rel => exact ⟨_,(true),(by rfl),H',⟨by have:=HJ1.out;omega⟩,⟨kq_ BK303⟩,⟨bq_ HB⟩⟩
    subst c17
    rw [if_pos rfl] at H;replace H:=ob_.mp H;obtain ⟨t308,A180,H⟩:=H;have A18:=A_ A180;clear A180
    by_cases c19 : t308 = true;rotate_left
    ·replace c19:=Bool.eq_false_iff.mpr c19;subst c19
     have H1 : (impl_MessageOk.j1 kj1 true a0_0 a0_1 a0_2 a0_3 a0_4 a0_5 a0_6 a0_7 l0_8 l0_9 a0_10 a0_11) = some r:=by rw [if_neg (show ¬ (false = true) by decide)] at H;exact H
     clear H;have H:=H1;clear H1;have H':=A_ H;clear H;obtain ⟨hcz29_0,hcz29_1,hcz29_2,hcz29_3,hcz29_4,hcz29_5,hcz29_6,hcz29_7,hcz29_8,hcz29_9,hcz29_10,hcz29_11,hfz29_0,hfz29_1,hfz29_2,hfz29_3,hfz29_4,hfz29_5,hfz29_6,hfz29_7,hfz29_8,hfz29_9,hfz29_10,hfz29_11⟩:=k12f_ BK303
     go_wp2_with (first|((with_reducible refine gate_callee (f:=47) rfl ?_);refine gL_ (some 31) Try.func47 #[.int .i64 a0_3,.int .i64 0,.int .i64 100000] ?_;(with_reducible refine (impl_within.calls a0_3 0 100000 true _ A16.out).mono ?_);rintro e w' ⟨rfl,⟨nd,rfl⟩⟩;refine ⟨_,rfl,?_⟩)|(go_at_call 47;(with_reducible refine (impl_within.calls a0_5 0 100000 false _ A18.out).mono ?_);rintro e w' ⟨rfl,⟨nd,rfl⟩⟩))
     go_meet
     case rel => exact ⟨_,(true),(by rfl),H',⟨by have:=HJ1.out;omega⟩,⟨kq_ BK303⟩,⟨bq_ HB⟩⟩
    subst c19
    rw [if_pos rfl] at H;replace H:=ob_.mp H;obtain ⟨t309,A200,H⟩:=H;have A20:=A_ A200;clear A200
    by_cases c21 : t309 = true;rotate_left
    ·replace c21:=Bool.eq_false_iff.mpr c21;subst c21
     have H1 : (impl_MessageOk.j1 kj1 true a0_0 a0_1 a0_2 a0_3 a0_4 a0_5 a0_6 a0_7 l0_8 l0_9 a0_10 a0_11) = some r:=by rw [if_neg (show ¬ (false = true) by decide)] at H;exact H
     clear H;have H:=H1;clear H1;have H':=A_ H;clear H;obtain ⟨hcz28_0,hcz28_1,hcz28_2,hcz28_3,hcz28_4,hcz28_5,hcz28_6,hcz28_7,hcz28_8,hcz28_9,hcz28_10,hcz28_11,hfz28_0,hfz28_1,hfz28_2,hfz28_3,hfz28_4,hfz28_5,hfz28_6,hfz28_7,hfz28_8,hfz28_9,hfz28_10,hfz28_11⟩:=k12f_ BK303
     go_wp2_with (first|((with_reducible refine gate_callee (f:=47) rfl ?_);refine gL_ (some 31) Try.func47 #[.int .i64 a0_3,.int .i64 0,.int .i64 100000] ?_;(with_reducible refine (impl_within.calls a0_3 0 100000 true _ A16.out).mono ?_);rintro e w' ⟨rfl,⟨nd,rfl⟩⟩;refine ⟨_,rfl,?_⟩)|(go_at_call 47;(with_reducible refine (impl_within.calls a0_5 0 100000 true _ A18.out).mono ?_);rintro e w' ⟨rfl,⟨nd,rfl⟩⟩)|(go_at_call 47;(with_reducible refine (impl_within.calls a0_4 0 100000 false _ A20.out).mono ?_);rintro e w' ⟨rfl,⟨nd,rfl⟩⟩))
     go_meet
     case rel => exact ⟨_,(true),(by rfl),H',⟨by have:=HJ1.out;omega⟩,⟨kq_ BK303⟩,⟨bq_ HB⟩⟩
    subst c21
    rw [if_pos rfl] at H;replace H:=ob_.mp H;obtain ⟨t310,A220,H⟩:=H;have A22:=A_ A220;clear A220
    by_cases c23 : t310 = true
    ·subst c23
     rw [if_pos rfl] at H
     by_cases c24 : (l0_8.length : Int) > 4
     ·rw [if_pos c24] at H;have c24b0:=de_ c24;have c24b1 : decide (4 < l0_8.length) = true:=de_ (by omega);clear c24
      (skip)
      have H':=A_ H;clear H;obtain ⟨hcz25_0,hcz25_1,hcz25_2,hcz25_3,hcz25_4,hcz25_5,hcz25_6,hcz25_7,hcz25_8,hcz25_9,hcz25_10,hcz25_11,hfz25_0,hfz25_1,hfz25_2,hfz25_3,hfz25_4,hfz25_5,hfz25_6,hfz25_7,hfz25_8,hfz25_9,hfz25_10,hfz25_11⟩:=k12f_ BK303
      go_wp2_with (first|((with_reducible refine gate_callee (f:=47) rfl ?_);refine gL_ (some 31) Try.func47 #[.int .i64 a0_3,.int .i64 0,.int .i64 100000] ?_;(with_reducible refine (impl_within.calls a0_3 0 100000 true _ A16.out).mono ?_);rintro e w' ⟨rfl,⟨nd,rfl⟩⟩;refine ⟨_,rfl,?_⟩)|(go_at_call 47;(with_reducible refine (impl_within.calls a0_5 0 100000 true _ A18.out).mono ?_);rintro e w' ⟨rfl,⟨nd,rfl⟩⟩)|(go_at_call 47;(with_reducible refine (impl_within.calls a0_4 0 100000 true _ A20.out).mono ?_);rintro e w' ⟨rfl,⟨nd,rfl⟩⟩)|(go_at_call 47;(with_reducible refine (impl_within.calls a0_6 0 100000 true _ A22.out).mono ?_);rintro e w' ⟨rfl,⟨nd,rfl⟩⟩))
      go_meet
      case rel => exact ⟨_,(true),(by rfl),H',⟨by have:=HJ1.out;omega⟩,⟨kq_ BK303⟩,⟨bq_ HB⟩⟩
     rw [if_neg c24] at H;have c24b0:=decide_eq_false c24;have c24b1 : decide (4 < l0_8.length) = false:=decide_eq_false (by omega);clear c24
     (skip)
     have H':=A_ H;clear H;obtain ⟨hcz26_0,hcz26_1,hcz26_2,hcz26_3,hcz26_4,hcz26_5,hcz26_6,hcz26_7,hcz26_8,hcz26_9,hcz26_10,hcz26_11,hfz26_0,hfz26_1,hfz26_2,hfz26_3,hfz26_4,hfz26_5,hfz26_6,hfz26_7,hfz26_8,hfz26_9,hfz26_10,hfz26_11⟩:=k12f_ BK303
     go_wp2_with (first|((with_reducible refine gate_callee (f:=47) rfl ?_);refine gL_ (some 31) Try.func47 #[.int .i64 a0_3,.int .i64 0,.int .i64 100000] ?_;(with_reducible refine (impl_within.calls a0_3 0 100000 true _ A16.out).mono ?_);rintro e w' ⟨rfl,⟨nd,rfl⟩⟩;refine ⟨_,rfl,?_⟩)|(go_at_call 47;(with_reducible refine (impl_within.calls a0_5 0 100000 true _ A18.out).mono ?_);rintro e w' ⟨rfl,⟨nd,rfl⟩⟩)|(go_at_call 47;(with_reducible refine (impl_within.calls a0_4 0 100000 true _ A20.out).mono ?_);rintro e w' ⟨rfl,⟨nd,rfl⟩⟩)|(go_at_call 47;(with_reducible refine (impl_within.calls a0_6 0 100000 true _ A22.out).mono ?_);rintro e w' ⟨rfl,⟨nd,rfl⟩⟩))
     go_meet
     case rel => exact ⟨_,(decide ((a0_10.size : Int) > 60)),(by rfl),H',⟨by have:=HJ1.out;omega⟩,⟨kq_ BK303⟩,⟨bq_ HB⟩⟩
    replace c23:=Bool.eq_false_iff.mpr c23;subst c23
    have H1 : (impl_MessageOk.j1 kj1 true a0_0 a0_1 a0_2 a0_3 a0_4 a0_5 a0_6 a0_7 l0_8 l0_9 a0_10 a0_11) = some r:=by rw [if_neg (show ¬ (false = true) by decide)] at H;exact H
    clear H;have H:=H1;clear H1;have H':=A_ H;clear H;obtain ⟨hcz27_0,hcz27_1,hcz27_2,hcz27_3,hcz27_4,hcz27_5,hcz27_6,hcz27_7,hcz27_8,hcz27_9,hcz27_10,hcz27_11,hfz27_0,hfz27_1,hfz27_2,hfz27_3,hfz27_4,hfz27_5,hfz27_6,hfz27_7,hfz27_8,hfz27_9,hfz27_10,hfz27_11⟩:=k12f_ BK303
    go_wp2_with (first|((with_reducible refine gate_callee (f:=47) rfl ?_);refine gL_ (some 31) Try.func47 #[.int .i64 a0_3,.int .i64 0,.int .i64 100000] ?_;(with_reducible refine (impl_within.calls a0_3 0 100000 true _ A16.out).mono ?_);rintro e w' ⟨rfl,⟨nd,rfl⟩⟩;refine ⟨_,rfl,?_⟩)|(go_at_call 47;(with_reducible refine (impl_within.calls a0_5 0 100000 true _ A18.out).mono ?_);rintro e w' ⟨rfl,⟨nd,rfl⟩⟩)|(go_at_call 47;(with_reducible refine (impl_within.calls a0_4 0 100000 true _ A20.out).mono ?_);rintro e w' ⟨rfl,⟨nd,rfl⟩⟩)|(go_at_call 47;(with_reducible refine (impl_within.calls a0_6 0 100000 false _ A22.out).mono ?_);rintro e w' ⟨rfl,⟨nd,rfl⟩⟩))
    go_meet
    case rel => exact ⟨_,(true),(by rfl),H',⟨by have:=HJ1.out;omega⟩,⟨kq_ BK303⟩,⟨bq_ HB⟩⟩
   case rest =>
    clear HC15
    (try clear c1);(try clear c2);(try clear p2);(try clear c4);(try clear c5);(try clear c7);(try clear c9);(try clear c14);(try clear c17);(try clear c19);(try clear c21);(try clear c23);(try clear c24);(try clear c24b0);(try clear c24b1);(try clear hcz10_0);(try clear hcz10_1);(try clear hcz10_10);(try clear hcz10_11);(try clear hcz10_2);(try clear hcz10_3);(try clear hcz10_4);(try clear hcz10_5);(try clear hcz10_6);(try clear hcz10_7);(try clear hcz10_8);(try clear hcz10_9);(try clear hcz11_0);(try clear hcz11_1);(try clear hcz11_10);(try clear hcz11_11);(try clear hcz11_2);(try clear hcz11_3);(try clear hcz11_4);(try clear hcz11_5);(try clear hcz11_6);(try clear hcz11_7);(try clear hcz11_8);(try clear hcz11_9);(try clear hcz12_0);(try clear hcz12_1);(try clear hcz12_10);(try clear hcz12_11);(try clear hcz12_2);(try clear hcz12_3);(try clear hcz12_4);(try clear hcz12_5);(try clear hcz12_6);(try clear hcz12_7);(try clear hcz12_8);(try clear hcz12_9);(try clear hcz13_0);(try clear hcz13_1);(try clear hcz13_10);(try clear hcz13_11);(try clear hcz13_2);(try clear hcz13_3);(try clear hcz13_4);(try clear hcz13_5);(try clear hcz13_6);(try clear hcz13_7);(try clear hcz13_8);(try clear hcz13_9);(try clear hcz25_0);(try clear hcz25_1);(try clear hcz25_10);(try clear hcz25_11);(try clear hcz25_2);(try clear hcz25_3);(try clear hcz25_4);(try clear hcz25_5);(try clear hcz25_6);(try clear hcz25_7);(try clear hcz25_8);(try clear hcz25_9);(try clear hcz26_0);(try clear hcz26_1);(try clear hcz26_10);(try clear hcz26_11);(try clear hcz26_2);(try clear hcz26_3);(try clear hcz26_4);(try clear hcz26_5);(try clear hcz26_6);(try clear hcz26_7);(try clear hcz26_8);(try clear hcz26_9);(try clear hcz27_0);(try clear hcz27_1);(try clear hcz27_10);(try clear hcz27_11);(try clear hcz27_2);(try clear hcz27_3);(try clear hcz27_4);(try clear hcz27_5);(try clear hcz27_6);(try clear hcz27_7);(try clear hcz27_8);(try clear hcz27_9);(try clear hcz28_0);(try clear hcz28_1);(try clear hcz28_10);(try clear hcz28_11);(try clear hcz28_2);(try clear hcz28_3);(try clear hcz28_4);(try clear hcz28_5);(try clear hcz28_6);(try clear hcz28_7);(try clear hcz28_8);(try clear hcz28_9);(try clear hcz29_0);(try clear hcz29_1);(try clear hcz29_10);(try clear hcz29_11);(try clear hcz29_2);(try clear hcz29_3);(try clear hcz29_4);(try clear hcz29_5);(try clear hcz29_6);(try clear hcz29_7);(try clear hcz29_8);(try clear hcz29_9);(try clear hcz30_0);(try clear hcz30_1);(try clear hcz30_10);(try clear hcz30_11);(try clear hcz30_2);(try clear hcz30_3);(try clear hcz30_4);(try clear hcz30_5);(try clear hcz30_6);(try clear hcz30_7);(try clear hcz30_8);(try clear hcz30_9);(try clear hfz10_0);(try clear hfz10_1);(try clear hfz10_10);(try clear hfz10_11);(try clear hfz10_2);(try clear hfz10_3);(try clear hfz10_4);(try clear hfz10_5);(try clear hfz10_6);(try clear hfz10_7);(try clear hfz10_8);(try clear hfz10_9);(try clear hfz11_0);(try clear hfz11_1);(try clear hfz11_10);(try clear hfz11_11);(try clear hfz11_2);(try clear hfz11_3);(try clear hfz11_4);(try clear hfz11_5);(try clear hfz11_6);(try clear hfz11_7);(try clear hfz11_8);(try clear hfz11_9);(try clear hfz12_0);(try clear hfz12_1);(try clear hfz12_10);(try clear hfz12_11);(try clear hfz12_2);(try clear hfz12_3);(try clear hfz12_4);(try clear hfz12_5);(try clear hfz12_6);(try clear hfz12_7);(try clear hfz12_8);(try clear hfz12_9);(try clear hfz13_0);(try clear hfz13_1);(try clear hfz13_10);(try clear hfz13_11);(try clear hfz13_2);(try clear hfz13_3);(try clear hfz13_4);(try clear hfz13_5);(try clear hfz13_6);(try clear hfz13_7);(try clear hfz13_8);(try clear hfz13_9);(try clear hfz25_0);(try clear hfz25_1);(try clear hfz25_10);(try clear hfz25_11);(try clear hfz25_2);(try clear hfz25_3);(try clear hfz25_4);(try clear hfz25_5);(try clear hfz25_6);(try clear hfz25_7);(try clear hfz25_8);(try clear hfz25_9);(try clear hfz26_0);(try clear hfz26_1);(try clear hfz26_10);(try clear hfz26_11);(try clear hfz26_2);(try clear hfz26_3);(try clear hfz26_4);(try clear hfz26_5);(try clear hfz26_6);(try clear hfz26_7);(try clear hfz26_8);(try clear hfz26_9);(try clear hfz27_0);(try clear hfz27_1);(try clear hfz27_10);(try clear hfz27_11);(try clear hfz27_2);(try clear hfz27_3);(try clear hfz27_4);(try clear hfz27_5);(try clear hfz27_6);(try clear hfz27_7);(try clear hfz27_8);(try clear hfz27_9);(try clear hfz28_0);(try clear hfz28_1);(try clear hfz28_10);(try clear hfz28_11);(try clear hfz28_2);(try clear hfz28_3);(try clear hfz28_4);(try clear hfz28_5);(try clear hfz28_6);(try clear hfz28_7);(try clear hfz28_8);(try clear hfz28_9);(try clear hfz29_0);(try clear hfz29_1);(try clear hfz29_10);(try clear hfz29_11);(try clear hfz29_2);(try clear hfz29_3);(try clear hfz29_4);(try clear hfz29_5);(try clear hfz29_6);(try clear hfz29_7);(try clear hfz29_8);(try clear hfz29_9);(try clear hfz30_0);(try clear hfz30_1);(try clear hfz30_10);(try clear hfz30_11);(try clear hfz30_2);(try clear hfz30_3);(try clear hfz30_4);(try clear hfz30_5);(try clear hfz30_6);(try clear hfz30_7);(try clear hfz30_8);(try clear hfz30_9);(try clear p2)
    obtain ⟨kq,x62_14,rfl,HA,HJ14,BK303,HB⟩:=hcut
    cases kq with
    | zero => exact absurd HA.out (by simp [impl_MessageOk.j1])
    | succ kj14 =>
     have H:=HA.out;clear HA;simp only [impl_MessageOk.j1] at H
     by_cases c31 : x62_14 = true
     ·subst c31
      rw [if_pos rfl] at H;obtain rfl:=Option.some.inj H;go_wp2;go_ret;exact ⟨ex_,bq_ HB⟩
     replace c31:=Bool.eq_false_iff.mpr c31;subst c31
     have H1 : (impl_MessageOk.l0 kj14 a0_5 l0_8 (l0_8.length : Int) 0 a0_0 a0_1 a0_2 a0_3 a0_4 a0_5 a0_6 a0_7 l0_8 l0_9 a0_10 a0_11) = some r:=by rw [if_neg (show ¬ (false = true) by decide)] at H;exact H
     clear H;have H:=H1;clear H1;have H':=A_ H;clear H;obtain ⟨hcz32_0,hcz32_1,hcz32_2,hcz32_3,hcz32_4,hcz32_5,hcz32_6,hcz32_7,hcz32_8,hcz32_9,hcz32_10,hcz32_11,hfz32_0,hfz32_1,hfz32_2,hfz32_3,hfz32_4,hfz32_5,hfz32_6,hfz32_7,hfz32_8,hfz32_9,hfz32_10,hfz32_11⟩:=k12f_ BK303;go_wp2
     go_loopg [3,68] kj14 (fun kq v3 v68 w' => ∃ (x3_3 : Int) (x68_3 : Int),v3 = .int .i64 x3_3 ∧ v68 = .int .i64 x68_3 ∧ Aside0 (impl_MessageOk.l0 kq x3_3 l0_8 (l0_8.length : Int) x68_3 a0_0 a0_1 a0_2 a0_3 a0_4 a0_5 a0_6 a0_7 l0_8 l0_9 a0_10 a0_11 = some r) ∧ Aside0 (kq ≤ kj14) ∧ Aside0 (w'.heap[gb303]? = some (.cells #[.int .i64 a0_0,.int .i64 a0_1,.int .i64 a0_2,.int .i64 a0_3,.int .i64 a0_4,.int .i64 a0_5,.int .i64 a0_6,.bool a0_7,(.slice A0_8 l0_8.length c0_8),(.slice A0_9 l0_9.length c0_9),.string a0_10,.bool a0_11] 41 (0,0))) ∧ Aside0 (Below w.heap.size w w'))
     case atStart => exact ⟨(a0_5),(0),(by rfl),(by rfl),H',⟨Nat.le_refl _⟩,⟨kq_ BK303⟩,⟨bq_ HB⟩⟩
     case round =>
      clear H'
      (try clear c1);(try clear c2);(try clear p2);(try clear c3);(try clear c4);(try clear c5);(try clear c7);(try clear c9);(try clear c14);(try clear c17);(try clear c19);(try clear c21);(try clear c23);(try clear c24);(try clear c24b0);(try clear c24b1);(try clear c31);(try clear hcz10_0);(try clear hcz10_1);(try clear hcz10_10);(try clear hcz10_11);(try clear hcz10_2);(try clear hcz10_3);(try clear hcz10_4);(try clear hcz10_5);(try clear hcz10_6);(try clear hcz10_7);(try clear hcz10_8);(try clear hcz10_9);(try clear hcz11_0);(try clear hcz11_1);(try clear hcz11_10);(try clear hcz11_11);(try clear hcz11_2);(try clear hcz11_3);(try clear hcz11_4);(try clear hcz11_5);(try clear hcz11_6);(try clear hcz11_7);(try clear hcz11_8);(try clear hcz11_9);(try clear hcz12_0);(try clear hcz12_1);(try clear hcz12_10);(try clear hcz12_11);(try clear hcz12_2);(try clear hcz12_3);(try clear hcz12_4);(try clear hcz12_5);(try clear hcz12_6);(try clear hcz12_7);(try clear hcz12_8);(try clear hcz12_9);(try clear hcz13_0);(try clear hcz13_1);(try clear hcz13_10);(try clear hcz13_11);(try clear hcz13_2);(try clear hcz13_3);(try clear hcz13_4);(try clear hcz13_5);(try clear hcz13_6);(try clear hcz13_7);(try clear hcz13_8);(try clear hcz13_9);(try clear hcz25_0);(try clear hcz25_1);(try clear hcz25_10);(try clear hcz25_11);(try clear hcz25_2);(try clear hcz25_3);(try clear hcz25_4);(try clear hcz25_5);(try clear hcz25_6);(try clear hcz25_7);(try clear hcz25_8);(try clear hcz25_9);(try clear hcz26_0);(try clear hcz26_1);(try clear hcz26_10);(try clear hcz26_11);(try clear hcz26_2);(try clear hcz26_3);(try clear hcz26_4);(try clear hcz26_5);(try clear hcz26_6);(try clear hcz26_7);(try clear hcz26_8);(try clear hcz26_9);(try clear hcz27_0);(try clear hcz27_1);(try clear hcz27_10);(try clear hcz27_11);(try clear hcz27_2);(try clear hcz27_3);(try clear hcz27_4);(try clear hcz27_5);(try clear hcz27_6);(try clear hcz27_7);(try clear hcz27_8);(try clear hcz27_9);(try clear hcz28_0);(try clear hcz28_1);(try clear hcz28_10);(try clear hcz28_11);(try clear hcz28_2);(try clear hcz28_3);(try clear hcz28_4);(try clear hcz28_5);(try clear hcz28_6);(try clear hcz28_7);(try clear hcz28_8);(try clear hcz28_9);(try clear hcz29_0);(try clear hcz29_1);(try clear hcz29_10);(try clear hcz29_11);(try clear hcz29_2);(try clear hcz29_3);(try clear hcz29_4);(try clear hcz29_5);(try clear hcz29_6);(try clear hcz29_7);(try clear hcz29_8);(try clear hcz29_9);(try clear hcz30_0);(try clear hcz30_1);(try clear hcz30_10);(try clear hcz30_11);(try clear hcz30_2);(try clear hcz30_3);(try clear hcz30_4);(try clear hcz30_5);(try clear hcz30_6);(try clear hcz30_7);(try clear hcz30_8);(try clear hcz30_9);(try clear hcz32_0);(try clear hcz32_1);(try clear hcz32_10);(try clear hcz32_11);(try clear hcz32_2);(try clear hcz32_3);(try clear hcz32_4);(try clear hcz32_5);(try clear hcz32_6);(try clear hcz32_7);(try clear hcz32_8);(try clear hcz32_9);(try clear hfz10_0);(try clear hfz10_1);(try clear hfz10_10);(try clear hfz10_11);(try clear hfz10_2);(try clear hfz10_3);(try clear hfz10_4);(try clear hfz10_5);(try clear hfz10_6);(try clear hfz10_7);(try clear hfz10_8);(try clear hfz10_9);(try clear hfz11_0);(try clear hfz11_1);(try clear hfz11_10);(try clear hfz11_11);(try clear hfz11_2);(try clear hfz11_3);(try clear hfz11_4);(try clear hfz11_5);(try clear hfz11_6);(try clear hfz11_7);(try clear hfz11_8);(try clear hfz11_9);(try clear hfz12_0);(try clear hfz12_1);(try clear hfz12_10);(try clear hfz12_11);(try clear hfz12_2);(try clear hfz12_3);(try clear hfz12_4);(try clear hfz12_5);(try clear hfz12_6);(try clear hfz12_7);(try clear hfz12_8);(try clear hfz12_9);(try clear hfz13_0);(try clear hfz13_1);(try clear hfz13_10);(try clear hfz13_11);(try clear hfz13_2);(try clear hfz13_3);(try clear hfz13_4);(try clear hfz13_5);(try clear hfz13_6);(try clear hfz13_7);(try clear hfz13_8);(try clear hfz13_9);(try clear hfz25_0);(try clear hfz25_1);(try clear hfz25_10);(try clear hfz25_11);(try clear hfz25_2);(try clear hfz25_3);(try clear hfz25_4);(try clear hfz25_5);(try clear hfz25_6);(try clear hfz25_7);(try clear hfz25_8);(try clear hfz25_9);(try clear hfz26_0);(try clear hfz26_1);(try clear hfz26_10);(try clear hfz26_11);(try clear hfz26_2);(try clear hfz26_3);(try clear hfz26_4);(try clear hfz26_5);(try clear hfz26_6);(try clear hfz26_7);(try clear hfz26_8);(try clear hfz26_9);(try clear hfz27_0);(try clear hfz27_1);(try clear hfz27_10);(try clear hfz27_11);(try clear hfz27_2);(try clear hfz27_3);(try clear hfz27_4);(try clear hfz27_5);(try clear hfz27_6);(try clear hfz27_7);(try clear hfz27_8);(try clear hfz27_9);(try clear hfz28_0);(try clear hfz28_1);(try clear hfz28_10);(try clear hfz28_11);(try clear hfz28_2);(try clear hfz28_3);(try clear hfz28_4);(try clear hfz28_5);(try clear hfz28_6);(try clear hfz28_7);(try clear hfz28_8);(try clear hfz28_9);(try clear hfz29_0);(try clear hfz29_1);(try clear hfz29_10);(try clear hfz29_11);(try clear hfz29_2);(try clear hfz29_3);(try clear hfz29_4);(try clear hfz29_5);(try clear hfz29_6);(try clear hfz29_7);(try clear hfz29_8);(try clear hfz29_9);(try clear hfz30_0);(try clear hfz30_1);(try clear hfz30_10);(try clear hfz30_11);(try clear hfz30_2);(try clear hfz30_3);(try clear hfz30_4);(try clear hfz30_5);(try clear hfz30_6);(try clear hfz30_7);(try clear hfz30_8);(try clear hfz30_9);(try clear hfz32_0);(try clear hfz32_1);(try clear hfz32_10);(try clear hfz32_11);(try clear hfz32_2);(try clear hfz32_3);(try clear hfz32_4);(try clear hfz32_5);(try clear hfz32_6);(try clear hfz32_7);(try clear hfz32_8);(try clear hfz32_9);(try clear p2)
      obtain ⟨x3_3,x68_3,rfl,rfl,HA,HK3,BK303,HB⟩:=hrel
      cases gk with
      | zero => exact absurd HA.out (by simp [impl_MessageOk.l0])
      | succ k3 =>
       have H:=HA.out;clear HA;simp only [impl_MessageOk.l0] at H
       by_cases c33 : x68_3 < (l0_8.length : Int);rotate_left
       ·rw [if_neg c33] at H;have c33b0:=decide_eq_false c33;clear c33;have HC60:=A_ H;clear H;obtain ⟨hcz61_0,hcz61_1,hcz61_2,hcz61_3,hcz61_4,hcz61_5,hcz61_6,hcz61_7,hcz61_8,hcz61_9,hcz61_10,hcz61_11,hfz61_0,hfz61_1,hfz61_2,hfz61_3,hfz61_4,hfz61_5,hfz61_6,hfz61_7,hfz61_8,hfz61_9,hfz61_10,hfz61_11⟩:=k12f_ BK303
        go_upto_if 94 with (fail)
        have H:=HC60.out;clear HC60
        by_cases c62 : a0_0 = 5
        ·rw [if_pos c62] at H;have c62b0:=beq_iff_eq.mpr c62;have c62b1:=bne_eq_false_iff_eq.mpr c62;clear c62
         (rw [c62b0])
         replace H:=ob_.mp H;obtain ⟨t311,A630,H⟩:=H;have A63:=A_ A630;clear A630;obtain rfl:=Option.some.inj H;obtain ⟨hcz64_0,hcz64_1,hcz64_2,hcz64_3,hcz64_4,hcz64_5,hcz64_6,hcz64_7,hcz64_8,hcz64_9,hcz64_10,hcz64_11,hfz64_0,hfz64_1,hfz64_2,hfz64_3,hfz64_4,hfz64_5,hfz64_6,hfz64_7,hfz64_8,hfz64_9,hfz64_10,hfz64_11⟩:=k12f_ BK303
         go_wp2_with (((with_reducible refine gate_callee (f:=116) rfl ?_);refine gL_ (some 97) Try.func116 #[.slice A0_9 l0_9.length c0_9] ?_;(with_reducible refine (impl_ConfOk.calls k3 _ _ l0_9 t311 _ ?side1 ?side2 A63.out).mono ?_);(case side1 => repeat (exact (Kd.C_below HR0_9.out HB.out)));(case side2 => exact HC0_9.out);rintro e w' ⟨rfl,⟨nd,rfl⟩⟩;refine ⟨_,rfl,?_⟩))
         go_ret;exact ⟨ex_,bq_ HB⟩
        rw [if_neg c62] at H;have c62b0:=beq_eq_false_iff_ne.mpr c62;have c62b1:=bne_iff_ne.mpr c62
        (rw [c62b0])
        by_cases c65 : (l0_9.length : Int) = 0
        ·rw [if_pos c65] at H;have c65b0:=beq_iff_eq.mpr c65;have c65b1:=bne_eq_false_iff_eq.mpr c65;clear c65
         by_cases c66 : a0_10.toList = ([] : List UInt8)
         ·rw [if_pos c66] at H;have c66b0:=beq_iff_eq.mpr c66;have c66b1:=bne_eq_false_iff_eq.mpr c66;clear c66;obtain rfl:=Option.some.inj H;obtain ⟨hcz67_0,hcz67_1,hcz67_2,hcz67_3,hcz67_4,hcz67_5,hcz67_6,hcz67_7,hcz67_8,hcz67_9,hcz67_10,hcz67_11,hfz67_0,hfz67_1,hfz67_2,hfz67_3,hfz67_4,hfz67_5,hfz67_6,hfz67_7,hfz67_8,hfz67_9,hfz67_10,hfz67_11⟩:=k12f_ BK303;go_wp2;go_ret;exact ⟨ex_,bq_ HB⟩
         rw [if_neg c66] at H;have c66b0:=beq_eq_false_iff_ne.mpr c66;have c66b1:=bne_iff_ne.mpr c66;obtain rfl:=Option.some.inj H;obtain ⟨hcz68_0,hcz68_1,hcz68_2,hcz68_3,hcz68_4,hcz68_5,hcz68_6,hcz68_7,hcz68_8,hcz68_9,hcz68_10,hcz68_11,hfz68_0,hfz68_1,hfz68_2,hfz68_3,hfz68_4,hfz68_5,hfz68_6,hfz68_7,hfz68_8,hfz68_9,hfz68_10,hfz68_11⟩:=k12f_ BK303;go_wp2;go_ret;exact ⟨ex_,bq_ HB⟩
        rw [if_neg c65] at H;have c65b0:=beq_eq_false_iff_ne.mpr c65;have c65b1:=bne_iff_ne.mpr c65
        have c65b2 : ¬ (l0_9 = []):=fun h_ => c65 (by rw [h_];rfl)
        obtain rfl:=Option.some.inj H;obtain ⟨hcz69_0,hcz69_1,hcz69_2,hcz69_3,hcz69_4,hcz69_5,hcz69_6,hcz69_7,hcz69_8,hcz69_9,hcz69_10,hcz69_11,hfz69_0,hfz69_1,hfz69_2,hfz69_3,hfz69_4,hfz69_5,hfz69_6,hfz69_7,hfz69_8,hfz69_9,hfz69_10,hfz69_11⟩:=k12f_ BK303;go_wp2;go_ret;exact ⟨ex_,bq_ HB⟩
       rw [if_pos c33] at H;have c33b0:=de_ c33;clear c33
       by_cases c34 : 0 ≤ x68_3;rotate_left
       ·rw [if_neg c34] at H;exact absurd H (by simp)
       rw [if_pos c34] at H;have c34b0:=de_ c34;clear c34
       by_cases c35 : x68_3 < (l0_8.length : Int);rotate_left
       ·rw [if_neg c35] at H;exact absurd H (by simp)
       rw [if_pos c35] at H;have c35b0:=de_ c35;clear c35
       by_cases c36 : a0_0 = 3;rotate_left
       ·rw [if_neg c36] at H;have c36b0:=beq_eq_false_iff_ne.mpr c36;have c36b1:=bne_iff_ne.mpr c36;obtain rfl:=Option.some.inj H;have p312 : 0 ≤ (x68_3 : Int):=oda_;have q312 : x68_3 < (l0_8.length : Int):=oda_;obtain ⟨ad312,e312,hx312_0,hx312_1,hx312_2⟩:=at_T69 HR0_8.out x68_3 p312 q312
        cases e312
        replace hx312_0:=(HB.out.cell (wb_ w _ hx312_0)).trans hx312_0;replace hx312_1:=(HB.out.cell (wb_ w _ hx312_1)).trans hx312_1;replace hx312_2:=(HB.out.cell (wb_ w _ hx312_2)).trans hx312_2;replace p312:=eq_true p312;replace q312:=eq_true q312
        go_wp2_with (((with_reducible refine gate_dst (N:=5) rfl ?_);(try (refine gate_guard (by rfl) ?_;dsimp only));refine bE_ 5 #[.int .i64 0,.int .i64 0,.string (⟨#[]⟩ : ByteArray)] 69 ?_;intro gb313 hg w56 hbox hb;have n0_:=kB_ BK303 hb;have n1_:=bS_ HB hb;have n2_:=A_ hbox;have n4_:=gE_ hg HB;have n5_:=nB_ hg BK303;have n6_:=nC_ hg BK303;clear BK303;clear HB;have BK303:=n0_;have HB:=n1_;have BK313:=n2_;have GE313:=n4_;have NB303_313:=n5_;have NB313_303:=n6_;clear n0_ n1_ n2_ n4_ n5_ n6_;clear hb hbox hg;have hnb57:=NB313_303.out;have hnc57:=NB303_313.out;obtain ⟨hcz58_0,hcz58_1,hcz58_2,hfz58_0,hfz58_1,hfz58_2⟩:=k3f_ BK313;obtain ⟨hcz59_0,hcz59_1,hcz59_2,hcz59_3,hcz59_4,hcz59_5,hcz59_6,hcz59_7,hcz59_8,hcz59_9,hcz59_10,hcz59_11,hfz59_0,hfz59_1,hfz59_2,hfz59_3,hfz59_4,hfz59_5,hfz59_6,hfz59_7,hfz59_8,hfz59_9,hfz59_10,hfz59_11⟩:=k12f_ BK303))
        go_ret;exact ⟨ex_,bq_ HB⟩
       rw [if_pos c36] at H;have c36b0:=beq_iff_eq.mpr c36;have c36b1:=bne_eq_false_iff_eq.mpr c36;clear c36;replace H:=ob_.mp H;obtain ⟨t314,A370,H⟩:=H;have A37:=A_ A370;clear A370
       by_cases c38 : t314 = true
       ·subst c38
        rw [if_pos rfl] at H;replace H:=ob_.mp H;obtain ⟨t315,A390,H⟩:=H;have A39:=A_ A390;clear A390;have HC40:=A_ H;clear H;have p312 : 0 ≤ (x68_3 : Int):=oda_;have q312 : x68_3 < (l0_8.length : Int):=oda_;obtain ⟨ad312,e312,hx312_0,hx312_1,hx312_2⟩:=at_T69 HR0_8.out x68_3 p312 q312
        cases e312
        replace hx312_0:=(HB.out.cell (wb_ w _ hx312_0)).trans hx312_0;replace hx312_1:=(HB.out.cell (wb_ w _ hx312_1)).trans hx312_1;replace hx312_2:=(HB.out.cell (wb_ w _ hx312_2)).trans hx312_2;replace p312:=eq_true p312;replace q312:=eq_true q312
        go_upto_if 88 with (first|((with_reducible refine gate_dst (N:=5) rfl ?_);(try (refine gate_guard (by rfl) ?_;dsimp only));refine bE_ 5 #[.int .i64 0,.int .i64 0,.string (⟨#[]⟩ : ByteArray)] 69 ?_;intro gb313 hg w41 hbox hb;have n0_:=kB_ BK303 hb;have n1_:=bS_ HB hb;have n2_:=A_ hbox;have n4_:=gE_ hg HB;have n5_:=nB_ hg BK303;have n6_:=nC_ hg BK303;clear BK303;clear HB;have BK303:=n0_;have HB:=n1_;have BK313:=n2_;have GE313:=n4_;have NB303_313:=n5_;have NB313_303:=n6_;clear n0_ n1_ n2_ n4_ n5_ n6_;clear hb hbox hg;have hnb42:=NB313_303.out;have hnc42:=NB303_313.out;obtain ⟨hcz43_0,hcz43_1,hcz43_2,hfz43_0,hfz43_1,hfz43_2⟩:=k3f_ BK313;obtain ⟨hcz44_0,hcz44_1,hcz44_2,hcz44_3,hcz44_4,hcz44_5,hcz44_6,hcz44_7,hcz44_8,hcz44_9,hcz44_10,hcz44_11,hfz44_0,hfz44_1,hfz44_2,hfz44_3,hfz44_4,hfz44_5,hfz44_6,hfz44_7,hfz44_8,hfz44_9,hfz44_10,hfz44_11⟩:=k12f_ BK303)|(go_at_call 100;(with_reducible refine (impl_EntryOk.calls k3 ((rd_T69 l0_8 x68_3).f0) ((rd_T69 l0_8 x68_3).f1) ((rd_T69 l0_8 x68_3).f2) true _ A37.out).mono ?_);rintro e w45 ⟨rfl,hb⟩;replace BK303:=A_ (kb_ (g:=gb303) (o:=.cells #[.int .i64 a0_0,.int .i64 a0_1,.int .i64 a0_2,.int .i64 a0_3,.int .i64 a0_4,.int .i64 a0_5,.int .i64 a0_6,.bool a0_7,.slice (some ad312) l0_8.length c0_8,.slice A0_9 l0_9.length c0_9,.string a0_10,.bool a0_11] 41 (0,0)) (kz_ BK303) hb);replace BK313:=A_ (kb_ (g:=gb313) (o:=.cells #[.int .i64 ((rd_T69 l0_8 x68_3).f0),.int .i64 ((rd_T69 l0_8 x68_3).f1),.string ((rd_T69 l0_8 x68_3).f2)] 69 (0,0)) (kz_ BK313) hb);replace HB:=bS_ HB hb;(try clear hb);obtain ⟨hcz46_0,hcz46_1,hcz46_2,hfz46_0,hfz46_1,hfz46_2⟩:=k3f_ BK313;obtain ⟨hcz47_0,hcz47_1,hcz47_2,hcz47_3,hcz47_4,hcz47_5,hcz47_6,hcz47_7,hcz47_8,hcz47_9,hcz47_10,hcz47_11,hfz47_0,hfz47_1,hfz47_2,hfz47_3,hfz47_4,hfz47_5,hfz47_6,hfz47_7,hfz47_8,hfz47_9,hfz47_10,hfz47_11⟩:=k12f_ BK303)|(go_at_call 47;(with_reducible refine (impl_within.calls ((rd_T69 l0_8 x68_3).f0) x3_3 a0_3 t315 _ A39.out).mono ?_);rintro e w' ⟨rfl,⟨nd,rfl⟩⟩))
        have H:=HC40.out;clear HC40
        by_cases c48 : t315 = true
        ·subst c48
         rw [if_pos rfl] at H;have H':=A_ H;clear H;have hnb49:=NB313_303.out;have hnc49:=NB303_313.out;obtain ⟨hcz50_0,hcz50_1,hcz50_2,hfz50_0,hfz50_1,hfz50_2⟩:=k3f_ BK313;go_wp2
         go_roundg k3
         case measure => have:=HJ1.out;have:=HJ14.out;have:=HK3.out;omega
         case rel => exact ⟨((rd_T69 l0_8 x68_3).f0),(wrap64 (x68_3 + 1)),(by rfl),(by rfl),H',⟨by have:=HJ1.out;have:=HJ14.out;have:=HK3.out;omega⟩,⟨kq_ BK303⟩,⟨bq_ HB⟩⟩
        replace c48:=Bool.eq_false_iff.mpr c48;subst c48
        have H1 : (some false) = some r:=by rw [if_neg (show ¬ (false = true) by decide)] at H;exact H
        clear H;have H:=H1;clear H1;obtain rfl:=Option.some.inj H;go_wp2;go_ret;exact ⟨ex_,bq_ HB⟩
       replace c38:=Bool.eq_false_iff.mpr c38;subst c38
       have H1 : (some false) = some r:=by rw [if_neg (show ¬ (false = true) by decide)] at H;exact H
       clear H;have H:=H1;clear H1;obtain rfl:=Option.some.inj H;have p312 : 0 ≤ (x68_3 : Int):=oda_;have q312 : x68_3 < (l0_8.length : Int):=oda_;obtain ⟨ad312,e312,hx312_0,hx312_1,hx312_2⟩:=at_T69 HR0_8.out x68_3 p312 q312
       cases e312
       replace hx312_0:=(HB.out.cell (wb_ w _ hx312_0)).trans hx312_0;replace hx312_1:=(HB.out.cell (wb_ w _ hx312_1)).trans hx312_1;replace hx312_2:=(HB.out.cell (wb_ w _ hx312_2)).trans hx312_2;replace p312:=eq_true p312;replace q312:=eq_true q312
       go_wp2_with (first|((with_reducible refine gate_dst (N:=5) rfl ?_);(try (refine gate_guard (by rfl) ?_;dsimp only));refine bE_ 5 #[.int .i64 0,.int .i64 0,.string (⟨#[]⟩ : ByteArray)] 69 ?_;intro gb313 hg w51 hbox hb;have n0_:=kB_ BK303 hb;have n1_:=bS_ HB hb;have n2_:=A_ hbox;have n4_:=gE_ hg HB;have n5_:=nB_ hg BK303;have n6_:=nC_ hg BK303;clear BK303;clear HB;have BK303:=n0_;have HB:=n1_;have BK313:=n2_;have GE313:=n4_;have NB303_313:=n5_;have NB313_303:=n6_;clear n0_ n1_ n2_ n4_ n5_ n6_;clear hb hbox hg;have hnb52:=NB313_303.out;have hnc52:=NB303_313.out;obtain ⟨hcz53_0,hcz53_1,hcz53_2,hfz53_0,hfz53_1,hfz53_2⟩:=k3f_ BK313;obtain ⟨hcz54_0,hcz54_1,hcz54_2,hcz54_3,hcz54_4,hcz54_5,hcz54_6,hcz54_7,hcz54_8,hcz54_9,hcz54_10,hcz54_11,hfz54_0,hfz54_1,hfz54_2,hfz54_3,hfz54_4,hfz54_5,hfz54_6,hfz54_7,hfz54_8,hfz54_9,hfz54_10,hfz54_11⟩:=k12f_ BK303)|(go_at_call 100;(with_reducible refine (impl_EntryOk.calls k3 ((rd_T69 l0_8 x68_3).f0) ((rd_T69 l0_8 x68_3).f1) ((rd_T69 l0_8 x68_3).f2) false _ A37.out).mono ?_);rintro e w55 ⟨rfl,hb⟩;have n2_:=bS_ HB hb;clear BK303;clear BK313;clear HB;have HB:=n2_;clear n2_;(try clear hb)))
       go_ret;exact ⟨ex_,bq_ HB⟩
end Go.Proofs.Ytbcgnncbiblibaa.PFnMessages
