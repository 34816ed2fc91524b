/- The contracts of Go functions that this law reaches: what each call returns, by a plain Lean function of its arguments, under the conditions that each names. By the kit's print.py, run by this repo's wip/gen/pp.py: not to the letter what print.sh prints. -/
import Derived.Test.YtbcgnncbiblibaaPFnMessagesx0
import Derived.Test.YtbcgnncbiblibaaPFnMessagesx1
import Derived.Test.YtbcgnncbiblibaaPFnMessagesx25
namespace Go.Proofs.Ytbcgnncbiblibaa.PFnMessages
open Go.RowKit Go.Proofs.YtbcgnncbiblibaaW.PrintWords Go.Proofs.YtbcgnncbiblibaaW.PrintLast Go.Proofs.YtbcgnncbiblibaaW.PrintMore
attribute [local go_sem] max2_int min2_int max_two min_two max_three min_three max_four min_four
set_option linter.unusedVariables false
set_option linter.unusedSimpArgs false
attribute [local go_sem high] eqA69
mutual
def laws_sameMessage.j0 : Nat → Bool → Int → Int → Int → Int → Int → Int → Int → Bool → List (S69) → List Int → ByteArray → Bool → Int → Int → Int → Int → Int → Int → Int → Bool → List (S69) → List Int → ByteArray → Bool → Option (Bool)
 | 0,_,_,_,_,_,_,_,_,_,_,_,_,_,_,_,_,_,_,_,_,_,_,_,_,_ => none
 | k + 1,x20,x726000,x726001,x726002,x726003,x726004,x726005,x726006,x726007,x726008,x726009,x726010,x726011,x727000,x727001,x727002,x727003,x727004,x727005,x727006,x727007,x727008,x727009,x727010,x727011 => if x20 = true then (some false) else (laws_sameMessage.l0 k 0 x726000 x726001 x726002 x726003 x726004 x726005 x726006 x726007 x726008 x726009 x726010 x726011 x727000 x727001 x727002 x727003 x727004 x727005 x727006 x727007 x727008 x727009 x727010 x727011)
def laws_sameMessage.l0 : Nat → Int → Int → Int → Int → Int → Int → Int → Int → Bool → List (S69) → List Int → ByteArray → Bool → Int → Int → Int → Int → Int → Int → Int → Bool → List (S69) → List Int → ByteArray → Bool → Option (Bool)
 | 0,_,_,_,_,_,_,_,_,_,_,_,_,_,_,_,_,_,_,_,_,_,_,_,_,_ => none
 | k + 1,x5,x726000,x726001,x726002,x726003,x726004,x726005,x726006,x726007,x726008,x726009,x726010,x726011,x727000,x727001,x727002,x727003,x727004,x727005,x727006,x727007,x727008,x727009,x727010,x727011 => if x5 < (x726008.length : Int) then (if 0 ≤ x5 then (if x5 < (x727008.length : Int) then (if (!(((rd_T69 x726008 x5).f0) == ((rd_T69 x727008 x5).f0)) || (!(((rd_T69 x726008 x5).f1) == ((rd_T69 x727008 x5).f1)) || (!((((rd_T69 x726008 x5).f2).toList) == (((rd_T69 x727008 x5).f2).toList))))) = true then (some false) else (laws_sameMessage.l0 k (wrap64 (x5 + 1)) x726000 x726001 x726002 x726003 x726004 x726005 x726006 x726007 x726008 x726009 x726010 x726011 x727000 x727001 x727002 x727003 x727004 x727005 x727006 x727007 x727008 x727009 x727010 x727011)) else (none)) else (none)) else (if x726000 = x727000 then (if x726001 = x727001 then (if x726002 = x727002 then (if x726003 = x727003 then (if x726004 = x727004 then (if x726005 = x727005 then (if x726006 = x727006 then (if (x726007 == x727007) = true then (if x726010.toList = x727010.toList then (some (x726011 == x727011)) else (some false)) else (some false)) else (some false)) else (some false)) else (some false)) else (some false)) else (some false)) else (some false)) else (some false))
end
def laws_sameMessage.f (k : Nat) (a0_0 a0_1 a0_2 a0_3 a0_4 a0_5 a0_6 : Int) (a0_7 : Bool) (l0_8 : List (S69)) (l0_9 : List Int) (a0_10 : ByteArray) (a0_11 : Bool) (a1_0 a1_1 a1_2 a1_3 a1_4 a1_5 a1_6 : Int) (a1_7 : Bool) (l1_8 : List (S69)) (l1_9 : List Int) (a1_10 : ByteArray) (a1_11 : Bool) : Option (Bool) := if (l0_8.length : Int) = (l1_8.length : Int) then ((laws_sameInts.f k l0_9 l1_9).bind fun t727 => (laws_sameMessage.j0 k (!t727) a0_0 a0_1 a0_2 a0_3 a0_4 a0_5 a0_6 a0_7 l0_8 l0_9 a0_10 a0_11 a1_0 a1_1 a1_2 a1_3 a1_4 a1_5 a1_6 a1_7 l1_8 l1_9 a1_10 a1_11)) else (laws_sameMessage.j0 k true a0_0 a0_1 a0_2 a0_3 a0_4 a0_5 a0_6 a0_7 l0_8 l0_9 a0_10 a0_11 a1_0 a1_1 a1_2 a1_3 a1_4 a1_5 a1_6 a1_7 l1_8 l1_9 a1_10 a1_11)
theorem laws_sameMessage.mono_l : ∀ k, (∀ y0 y1 y2 y3 y4 y5 y6 y7 y8 y9 y10 y11 y12 y13 y14 y15 y16 y17 y18 y19 y20 y21 y22 y23 y24, LeO (laws_sameMessage.j0 k y0 y1 y2 y3 y4 y5 y6 y7 y8 y9 y10 y11 y12 y13 y14 y15 y16 y17 y18 y19 y20 y21 y22 y23 y24) (laws_sameMessage.j0 (k + 1) y0 y1 y2 y3 y4 y5 y6 y7 y8 y9 y10 y11 y12 y13 y14 y15 y16 y17 y18 y19 y20 y21 y22 y23 y24)) ∧ (∀ y0 y1 y2 y3 y4 y5 y6 y7 y8 y9 y10 y11 y12 y13 y14 y15 y16 y17 y18 y19 y20 y21 y22 y23 y24, LeO (laws_sameMessage.l0 k y0 y1 y2 y3 y4 y5 y6 y7 y8 y9 y10 y11 y12 y13 y14 y15 y16 y17 y18 y19 y20 y21 y22 y23 y24) (laws_sameMessage.l0 (k + 1) y0 y1 y2 y3 y4 y5 y6 y7 y8 y9 y10 y11 y12 y13 y14 y15 y16 y17 y18 y19 y20 y21 y22 y23 y24))
 | 0 => ⟨fun _ _ _ _ _ _ _ _ _ _ _ _ _ _ _ _ _ _ _ _ _ _ _ _ _ r h => by simp [laws_sameMessage.j0] at h,fun _ _ _ _ _ _ _ _ _ _ _ _ _ _ _ _ _ _ _ _ _ _ _ _ _ r h => by simp [laws_sameMessage.l0] at h⟩
 | k + 1 => by
  obtain ⟨ih0,ih1⟩:=laws_sameMessage.mono_l k;refine ⟨?_,?_⟩
  ·intro y0 y1 y2 y3 y4 y5 y6 y7 y8 y9 y10 y11 y12 y13 y14 y15 y16 y17 y18 y19 y20 y21 y22 y23 y24
   unfold laws_sameMessage.j0
   repeat' first
   | (with_reducible exact ih1 _ _ _ _ _ _ _ _ _ _ _ _ _ _ _ _ _ _ _ _ _ _ _ _ _)
   | (with_reducible exact LeO.refl _)
   | (with_reducible refine LeO.ite ?_ ?_)
  intro y0 y1 y2 y3 y4 y5 y6 y7 y8 y9 y10 y11 y12 y13 y14 y15 y16 y17 y18 y19 y20 y21 y22 y23 y24
  unfold laws_sameMessage.l0
  repeat' first
  | (with_reducible exact ih1 _ _ _ _ _ _ _ _ _ _ _ _ _ _ _ _ _ _ _ _ _ _ _ _ _)
  | (with_reducible exact LeO.refl _)
  | (with_reducible refine LeO.ite ?_ ?_)
theorem laws_sameMessage.mono : ∀ a0 a1 a2 a3 a4 a5 a6 a7 a8 a9 a10 a11 a12 a13 a14 a15 a16 a17 a18 a19 a20 a21 a22 a23 k, LeO (laws_sameMessage.f k a0 a1 a2 a3 a4 a5 a6 a7 a8 a9 a10 a11 a12 a13 a14 a15 a16 a17 a18 a19 a20 a21 a22 a23) (laws_sameMessage.f (k + 1) a0 a1 a2 a3 a4 a5 a6 a7 a8 a9 a10 a11 a12 a13 a14 a15 a16 a17 a18 a19 a20 a21 a22 a23) := by
 intro a0 a1 a2 a3 a4 a5 a6 a7 a8 a9 a10 a11 a12 a13 a14 a15 a16 a17 a18 a19 a20 a21 a22 a23 k;obtain ⟨ih0,ih1⟩:=laws_sameMessage.mono_l k
 unfold laws_sameMessage.f
 repeat' first
   | (with_reducible exact ih0 _ _ _ _ _ _ _ _ _ _ _ _ _ _ _ _ _ _ _ _ _ _ _ _ _)
   | (with_reducible exact laws_sameInts.mono _ _ _)
   | (with_reducible refine LeO.ite ?_ ?_)
   | (with_reducible refine LeO.bind ?_ (fun _ => ?_))
set_option maxHeartbeats 8000000 in
set_option maxRecDepth 100000 in
theorem laws_sameMessage.calls (k : Nat) (a0_0 a0_1 a0_2 a0_3 a0_4 a0_5 a0_6 : Int) (a0_7 : Bool) (A0_8 : Option Addr) (c0_8 : Nat) (l0_8 : List (S69)) (A0_9 : Option Addr) (c0_9 : Nat) (l0_9 : List Int) (a0_10 : ByteArray) (a0_11 : Bool) (a1_0 a1_1 a1_2 a1_3 a1_4 a1_5 a1_6 : Int) (a1_7 : Bool) (A1_8 : Option Addr) (c1_8 : Nat) (l1_8 : List (S69)) (A1_9 : Option Addr) (c1_9 : Nat) (l1_9 : List Int) (a1_10 : ByteArray) (a1_11 r : Bool) (w : World) (hr0_8 : Kd.C k69 w A0_8 l0_8.length l0_8) (hc0_8 : l0_8.length ≤ c0_8) (hr0_9 : Kd.C (Kd.int .i64) w A0_9 l0_9.length l0_9) (hc0_9 : l0_9.length ≤ c0_9) (hr1_8 : Kd.C k69 w A1_8 l1_8.length l1_8) (hc1_8 : l1_8.length ≤ c1_8) (hr1_9 : Kd.C (Kd.int .i64) w A1_9 l1_9.length l1_9) (hc1_9 : l1_9.length ≤ c1_9) (h : laws_sameMessage.f k a0_0 a0_1 a0_2 a0_3 a0_4 a0_5 a0_6 a0_7 l0_8 l0_9 a0_10 a0_11 a1_0 a1_1 a1_2 a1_3 a1_4 a1_5 a1_6 a1_7 l1_8 l1_9 a1_10 a1_11 = some r) :
  Calls Try.prog 30 #[.agg #[.int .i64 a0_0,.int .i64 a0_1,.int .i64 a0_2,.int .i64 a0_3,.int .i64 a0_4,.int .i64 a0_5,.int .i64 a0_6,.bool a0_7,.slice A0_8 l0_8.length c0_8,.slice A0_9 l0_9.length c0_9,.string a0_10,.bool a0_11],.agg #[.int .i64 a1_0,.int .i64 a1_1,.int .i64 a1_2,.int .i64 a1_3,.int .i64 a1_4,.int .i64 a1_5,.int .i64 a1_6,.bool a1_7,.slice A1_8 l1_8.length c1_8,.slice A1_9 l1_9.length c1_9,.string a1_10,.bool a1_11]] w fun e w' => e = .returned (.bool r) ∧ Below w.heap.size w w':=by
 have hu41:=Try.underlying41;have hu69:=Try.underlying69;have HR0_8:=A_ hr0_8;have HC0_8:=A_ hc0_8;clear hr0_8 hc0_8;have HR0_9:=A_ hr0_9;have HC0_9:=A_ hc0_9;clear hr0_9 hc0_9;have HR1_8:=A_ hr1_8;have HC1_8:=A_ hc1_8;clear hr1_8 hc1_8;have HR1_9:=A_ hr1_9;have HC1_9:=A_ hc1_9;clear hr1_9 hc1_9;have HB:=A_ (Below.refl w.heap.size w);unfold laws_sameMessage.f at h;have H:=h;clear h;have HC3:=A_ H;clear H;go_enter Try.func30,Try.ntmps30
 go_upto_region 1 with (first|((with_reducible refine gate_dst (N:=2) rfl ?_);refine bE_ 2 #[.int .i64 a0_0,.int .i64 a0_1,.int .i64 a0_2,.int .i64 a0_3,.int .i64 a0_4,.int .i64 a0_5,.int .i64 a0_6,.bool a0_7,.slice A0_8 l0_8.length c0_8,.slice A0_9 l0_9.length c0_9,.string a0_10,.bool a0_11] 41 ?_;intro gb725 hg w4 hbox hb;have BK725:=A_ hbox;have GW725:=gE_ hg HB;have GE725:=gE_ hg HB;replace HB:=bS_ HB hb;clear hb hbox hg)|((with_reducible refine gate_dst (N:=3) rfl ?_);refine bE_ 3 #[.int .i64 a1_0,.int .i64 a1_1,.int .i64 a1_2,.int .i64 a1_3,.int .i64 a1_4,.int .i64 a1_5,.int .i64 a1_6,.bool a1_7,.slice A1_8 l1_8.length c1_8,.slice A1_9 l1_9.length c1_9,.string a1_10,.bool a1_11] 41 ?_;intro gb726 hg w5 hbox hb;have BK726:=A_ hbox;have GW726:=gE_ hg HB;have GE726:=gE_ hg HB;replace HB:=bS_ HB hb;have NB725_726:=nB_ hg BK725;have NB726_725:=nC_ hg BK725;replace BK725:=kB_ BK725 hb;clear hb hbox hg))
 go_cut [20] (fun v20 wc => ∃ (kq : Nat) (x20_2 : Bool),v20 = .bool x20_2 ∧ Aside0 (laws_sameMessage.j0 kq x20_2 a0_0 a0_1 a0_2 a0_3 a0_4 a0_5 a0_6 a0_7 l0_8 l0_9 a0_10 a0_11 a1_0 a1_1 a1_2 a1_3 a1_4 a1_5 a1_6 a1_7 l1_8 l1_9 a1_10 a1_11 = some r) ∧ Aside0 (kq ≤ k) ∧ Aside0 (wc.heap[gb725]? = some (.cells #[.int .i64 a0_0,.int .i64 a0_1,.int .i64 a0_2,.int .i64 a0_3,.int .i64 a0_4,.int .i64 a0_5,.int .i64 a0_6,.bool a0_7,(.slice A0_8 l0_8.length c0_8),(.slice A0_9 l0_9.length c0_9),.string a0_10,.bool a0_11] 41 (0,0))) ∧ Aside0 (wc.heap[gb726]? = some (.cells #[.int .i64 a1_0,.int .i64 a1_1,.int .i64 a1_2,.int .i64 a1_3,.int .i64 a1_4,.int .i64 a1_5,.int .i64 a1_6,.bool a1_7,(.slice A1_8 l1_8.length c1_8),(.slice A1_9 l1_9.length c1_9),.string a1_10,.bool a1_11] 41 (0,0))) ∧ Aside0 (Below w.heap.size w wc))
 case first =>
  have H:=HC3.out;clear HC3
  by_cases c6 : (l0_8.length : Int) = (l1_8.length : Int)
  ·rw [if_pos c6] at H;have c6b0:=beq_iff_eq.mpr c6;have c6b1:=bne_eq_false_iff_eq.mpr c6
   have c6b2 : (l0_8.length == l1_8.length) = true:=by (simp at c6 ⊢;omega)
   clear c6
   (skip)
   replace H:=ob_.mp H;obtain ⟨t727,A70,H⟩:=H;have A7:=A_ A70;clear A70;have H':=A_ H;clear H;have hnb8:=NB725_726.out;have hnc8:=NB726_725.out;obtain ⟨hcz9_0,hcz9_1,hcz9_2,hcz9_3,hcz9_4,hcz9_5,hcz9_6,hcz9_7,hcz9_8,hcz9_9,hcz9_10,hcz9_11,hfz9_0,hfz9_1,hfz9_2,hfz9_3,hfz9_4,hfz9_5,hfz9_6,hfz9_7,hfz9_8,hfz9_9,hfz9_10,hfz9_11⟩:=k12f_ BK725;obtain ⟨hcz10_0,hcz10_1,hcz10_2,hcz10_3,hcz10_4,hcz10_5,hcz10_6,hcz10_7,hcz10_8,hcz10_9,hcz10_10,hcz10_11,hfz10_0,hfz10_1,hfz10_2,hfz10_3,hfz10_4,hfz10_5,hfz10_6,hfz10_7,hfz10_8,hfz10_9,hfz10_10,hfz10_11⟩:=k12f_ BK726
   go_wp2_with ((go_at_call 84;(with_reducible refine (laws_sameInts.calls k _ _ l0_9 _ _ l1_9 t727 _ ?side1 ?side2 ?side3 ?side4 A7.out).mono ?_);(case side1 => repeat (exact (Kd.C_below HR0_9.out HB.out)));(case side2 => exact HC0_9.out);(case side3 => repeat (exact (Kd.C_below HR1_9.out HB.out)));(case side4 => exact HC1_9.out);rintro e w' ⟨rfl,⟨nd,rfl⟩⟩))
   go_meet
   case rel => exact ⟨_,(!t727),(by rfl),H',⟨by omega⟩,⟨kq_ BK725⟩,⟨kq_ BK726⟩,⟨bq_ HB⟩⟩
  rw [if_neg c6] at H;have c6b0:=beq_eq_false_iff_ne.mpr c6;have c6b1:=bne_iff_ne.mpr c6
  have c6b2 : (l0_8.length == l1_8.length) = false:=by (simp at c6 ⊢;omega)
  (skip)
  have H':=A_ H;clear H;have hnb11:=NB725_726.out;have hnc11:=NB726_725.out;obtain ⟨hcz12_0,hcz12_1,hcz12_2,hcz12_3,hcz12_4,hcz12_5,hcz12_6,hcz12_7,hcz12_8,hcz12_9,hcz12_10,hcz12_11,hfz12_0,hfz12_1,hfz12_2,hfz12_3,hfz12_4,hfz12_5,hfz12_6,hfz12_7,hfz12_8,hfz12_9,hfz12_10,hfz12_11⟩:=k12f_ BK725;obtain ⟨hcz13_0,hcz13_1,hcz13_2,hcz13_3,hcz13_4,hcz13_5,hcz13_6,hcz13_7,hcz13_8,hcz13_9,hcz13_10,hcz13_11,hfz13_0,hfz13_1,hfz13_2,hfz13_3,hfz13_4,hfz13_5,hfz13_6,hfz13_7,hfz13_8,hfz13_9,hfz13_10,hfz13_11⟩:=k12f_ BK726;go_wp2
  go_meet
  case rel => exact ⟨_,(true),(by rfl),H',⟨by omega⟩,⟨kq_ BK725⟩,⟨kq_ BK726⟩,⟨bq_ HB⟩⟩
 case rest =>
  clear HC3
  (try clear c1);(try clear p2);(try clear c3);(try clear c6);(try clear c6b0);(try clear c6b1);(try clear c6b2);(try clear c8);(try clear c11);(try clear hcz10_0);(try clear hcz10_1);(try clear hcz10_10);(try clear hcz10_11);(try clear hcz10_2);(try clear hcz10_3);(try clear hcz10_4);(try clear hcz10_5);(try clear hcz10_6);(try clear hcz10_7);(try clear hcz10_8);(try clear hcz10_9);(try clear hcz12_0);(try clear hcz12_1);(try clear hcz12_10);(try clear hcz12_11);(try clear hcz12_2);(try clear hcz12_3);(try clear hcz12_4);(try clear hcz12_5);(try clear hcz12_6);(try clear hcz12_7);(try clear hcz12_8);(try clear hcz12_9);(try clear hcz13_0);(try clear hcz13_1);(try clear hcz13_10);(try clear hcz13_11);(try clear hcz13_2);(try clear hcz13_3);(try clear hcz13_4);(try clear hcz13_5);(try clear hcz13_6);(try clear hcz13_7);(try clear hcz13_8);(try clear hcz13_9);(try clear hcz9_0);(try clear hcz9_1);(try clear hcz9_10);(try clear hcz9_11);(try clear hcz9_2);(try clear hcz9_3);(try clear hcz9_4);(try clear hcz9_5);(try clear hcz9_6);(try clear hcz9_7);(try clear hcz9_8);(try clear hcz9_9);(try clear hfz10_0);(try clear hfz10_1);(try clear hfz10_10);(try clear hfz10_11);(try clear hfz10_2);(try clear hfz10_3);(try clear hfz10_4);(try clear hfz10_5);(try clear hfz10_6);(try clear hfz10_7);(try clear hfz10_8);(try clear hfz10_9);(try clear hfz12_0);(try clear hfz12_1);(try clear hfz12_10);(try clear hfz12_11);(try clear hfz12_2);(try clear hfz12_3);(try clear hfz12_4);(try clear hfz12_5);(try clear hfz12_6);(try clear hfz12_7);(try clear hfz12_8);(try clear hfz12_9);(try clear hfz13_0);(try clear hfz13_1);(try clear hfz13_10);(try clear hfz13_11);(try clear hfz13_2);(try clear hfz13_3);(try clear hfz13_4);(try clear hfz13_5);(try clear hfz13_6);(try clear hfz13_7);(try clear hfz13_8);(try clear hfz13_9);(try clear hfz9_0);(try clear hfz9_1);(try clear hfz9_10);(try clear hfz9_11);(try clear hfz9_2);(try clear hfz9_3);(try clear hfz9_4);(try clear hfz9_5);(try clear hfz9_6);(try clear hfz9_7);(try clear hfz9_8);(try clear hfz9_9)
  obtain ⟨kq,x20_2,rfl,HA,HJ2,BK725,BK726,HB⟩:=hcut
  cases kq with
  | zero => exact absurd HA.out (by simp [laws_sameMessage.j0])
  | succ kj2 =>
   have H:=HA.out;clear HA;simp only [laws_sameMessage.j0] at H
   by_cases c14 : x20_2 = true
   ·subst c14
    rw [if_pos rfl] at H;obtain rfl:=Option.some.inj H;go_wp2
    go_ret;exact ⟨ex_,bq_ HB⟩
   replace c14:=Bool.eq_false_iff.mpr c14;subst c14
   have H1 : (laws_sameMessage.l0 kj2 0 a0_0 a0_1 a0_2 a0_3 a0_4 a0_5 a0_6 a0_7 l0_8 l0_9 a0_10 a0_11 a1_0 a1_1 a1_2 a1_3 a1_4 a1_5 a1_6 a1_7 l1_8 l1_9 a1_10 a1_11) = some r:=by rw [if_neg (show ¬ (false = true) by decide)] at H;exact H
   clear H;have H:=H1;clear H1;have H':=A_ H;clear H;go_wp2
   go_loopg [5] kj2 (fun kq v5 w' => ∃ (x5_2 : Int),v5 = .int .i64 x5_2 ∧ Aside0 (laws_sameMessage.l0 kq x5_2 a0_0 a0_1 a0_2 a0_3 a0_4 a0_5 a0_6 a0_7 l0_8 l0_9 a0_10 a0_11 a1_0 a1_1 a1_2 a1_3 a1_4 a1_5 a1_6 a1_7 l1_8 l1_9 a1_10 a1_11 = some r) ∧ Aside0 (kq ≤ kj2) ∧ Aside0 (w'.heap[gb725]? = some (.cells #[.int .i64 a0_0,.int .i64 a0_1,.int .i64 a0_2,.int .i64 a0_3,.int .i64 a0_4,.int .i64 a0_5,.int .i64 a0_6,.bool a0_7,(.slice A0_8 l0_8.length c0_8),(.slice A0_9 l0_9.length c0_9),.string a0_10,.bool a0_11] 41 (0,0))) ∧ Aside0 (w'.heap[gb726]? = some (.cells #[.int .i64 a1_0,.int .i64 a1_1,.int .i64 a1_2,.int .i64 a1_3,.int .i64 a1_4,.int .i64 a1_5,.int .i64 a1_6,.bool a1_7,(.slice A1_8 l1_8.length c1_8),(.slice A1_9 l1_9.length c1_9),.string a1_10,.bool a1_11] 41 (0,0))) ∧ Aside0 (Below w.heap.size w w'))
   case atStart => exact ⟨(0),(by rfl),H',⟨Nat.le_refl _⟩,⟨kq_ BK725⟩,⟨kq_ BK726⟩,⟨bq_ HB⟩⟩
   case round =>
    clear H'
    (try clear c1);(try clear p2);(try clear c3);(try clear c6);(try clear c6b0);(try clear c6b1);(try clear c6b2);(try clear c8);(try clear c11);(try clear c14);(try clear hcz10_0);(try clear hcz10_1);(try clear hcz10_10);(try clear hcz10_11);(try clear hcz10_2);(try clear hcz10_3);(try clear hcz10_4);(try clear hcz10_5);(try clear hcz10_6);(try clear hcz10_7);(try clear hcz10_8);(try clear hcz10_9);(try clear hcz12_0);(try clear hcz12_1);(try clear hcz12_10);(try clear hcz12_11);(try clear hcz12_2);(try clear hcz12_3);(try clear hcz12_4);(try clear hcz12_5);(try clear hcz12_6);(try clear hcz12_7);(try clear hcz12_8);(try clear hcz12_9);(try clear hcz13_0);(try clear hcz13_1);(try clear hcz13_10);(try clear hcz13_11);(try clear hcz13_2);(try clear hcz13_3);(try clear hcz13_4);(try clear hcz13_5);(try clear hcz13_6);(try clear hcz13_7);(try clear hcz13_8);(try clear hcz13_9);(try clear hcz9_0);(try clear hcz9_1);(try clear hcz9_10);(try clear hcz9_11);(try clear hcz9_2);(try clear hcz9_3);(try clear hcz9_4);(try clear hcz9_5);(try clear hcz9_6);(try clear hcz9_7);(try clear hcz9_8);(try clear hcz9_9);(try clear hfz10_0);(try clear hfz10_1);(try clear hfz10_10);(try clear hfz10_11);(try clear hfz10_2);(try clear hfz10_3);(try clear hfz10_4);(try clear hfz10_5);(try clear hfz10_6);(try clear hfz10_7);(try clear hfz10_8);(try clear hfz10_9);(try clear hfz12_0);(try clear hfz12_1);(try clear hfz12_10);(try clear hfz12_11);(try clear hfz12_2);(try clear hfz12_3);(try clear hfz12_4);(try clear hfz12_5);(try clear hfz12_6);(try clear hfz12_7);(try clear hfz12_8);(try clear hfz12_9);(try clear hfz13_0);(try clear hfz13_1);(try clear hfz13_10);(try clear hfz13_11);(try clear hfz13_2);(try clear hfz13_3);(try clear hfz13_4);(try clear hfz13_5);(try clear hfz13_6);(try clear hfz13_7);(try clear hfz13_8);(try clear hfz13_9);(try clear hfz9_0);(try clear hfz9_1);(try clear hfz9_10);(try clear hfz9_11);(try clear hfz9_2);(try clear hfz9_3);(try clear hfz9_4);(try clear hfz9_5);(try clear hfz9_6);(try clear hfz9_7);(try clear hfz9_8);(try clear hfz9_9);(try clear p2)
    obtain ⟨x5_2,rfl,HA,HK2,BK725,BK726,HB⟩:=hrel
    cases gk with
    | zero => exact absurd HA.out (by simp [laws_sameMessage.l0])
    | succ k2 =>
     have H:=HA.out;clear HA;simp only [laws_sameMessage.l0] at H;have HC15:=A_ H;clear H;have hnb16:=NB725_726.out;have hnc16:=NB726_725.out;obtain ⟨hcz17_0,hcz17_1,hcz17_2,hcz17_3,hcz17_4,hcz17_5,hcz17_6,hcz17_7,hcz17_8,hcz17_9,hcz17_10,hcz17_11,hfz17_0,hfz17_1,hfz17_2,hfz17_3,hfz17_4,hfz17_5,hfz17_6,hfz17_7,hfz17_8,hfz17_9,hfz17_10,hfz17_11⟩:=k12f_ BK725
     go_upto_if 25 with (fail)
     have H:=HC15.out;clear HC15
     by_cases c18 : x5_2 < (l0_8.length : Int);rotate_left
     ·rw [if_neg c18] at H;have c18b0:=decide_eq_false c18;clear c18
      (rw [c18b0])
      by_cases c26 : a0_0 = a1_0;rotate_left
      ·rw [if_neg c26] at H;have c26b0:=beq_eq_false_iff_ne.mpr c26;have c26b1:=bne_iff_ne.mpr c26;obtain rfl:=Option.some.inj H;have hnb62:=NB725_726.out;have hnc62:=NB726_725.out;obtain ⟨hcz63_0,hcz63_1,hcz63_2,hcz63_3,hcz63_4,hcz63_5,hcz63_6,hcz63_7,hcz63_8,hcz63_9,hcz63_10,hcz63_11,hfz63_0,hfz63_1,hfz63_2,hfz63_3,hfz63_4,hfz63_5,hfz63_6,hfz63_7,hfz63_8,hfz63_9,hfz63_10,hfz63_11⟩:=k12f_ BK725;obtain ⟨hcz64_0,hcz64_1,hcz64_2,hcz64_3,hcz64_4,hcz64_5,hcz64_6,hcz64_7,hcz64_8,hcz64_9,hcz64_10,hcz64_11,hfz64_0,hfz64_1,hfz64_2,hfz64_3,hfz64_4,hfz64_5,hfz64_6,hfz64_7,hfz64_8,hfz64_9,hfz64_10,hfz64_11⟩:=k12f_ BK726;go_wp2
       go_ret;exact ⟨ex_,bq_ HB⟩
      rw [if_pos c26] at H;have c26b0:=beq_iff_eq.mpr c26;have c26b1:=bne_eq_false_iff_eq.mpr c26;clear c26
      by_cases c27 : a0_1 = a1_1;rotate_left
      ·rw [if_neg c27] at H;have c27b0:=beq_eq_false_iff_ne.mpr c27;have c27b1:=bne_iff_ne.mpr c27;obtain rfl:=Option.some.inj H;have hnb59:=NB725_726.out;have hnc59:=NB726_725.out;obtain ⟨hcz60_0,hcz60_1,hcz60_2,hcz60_3,hcz60_4,hcz60_5,hcz60_6,hcz60_7,hcz60_8,hcz60_9,hcz60_10,hcz60_11,hfz60_0,hfz60_1,hfz60_2,hfz60_3,hfz60_4,hfz60_5,hfz60_6,hfz60_7,hfz60_8,hfz60_9,hfz60_10,hfz60_11⟩:=k12f_ BK725;obtain ⟨hcz61_0,hcz61_1,hcz61_2,hcz61_3,hcz61_4,hcz61_5,hcz61_6,hcz61_7,hcz61_8,hcz61_9,hcz61_10,hcz61_11,hfz61_0,hfz61_1,hfz61_2,hfz61_3,hfz61_4,hfz61_5,hfz61_6,hfz61_7,hfz61_8,hfz61_9,hfz61_10,hfz61_11⟩:=k12f_ BK726;go_wp2
       go_ret;exact ⟨ex_,bq_ HB⟩
      rw [if_pos c27] at H;have c27b0:=beq_iff_eq.mpr c27;have c27b1:=bne_eq_false_iff_eq.mpr c27;clear c27
      by_cases c28 : a0_2 = a1_2;rotate_left
      ·rw [if_neg c28] at H;have c28b0:=beq_eq_false_iff_ne.mpr c28;have c28b1:=bne_iff_ne.mpr c28;obtain rfl:=Option.some.inj H;have hnb56:=NB725_726.out;have hnc56:=NB726_725.out;obtain ⟨hcz57_0,hcz57_1,hcz57_2,hcz57_3,hcz57_4,hcz57_5,hcz57_6,hcz57_7,hcz57_8,hcz57_9,hcz57_10,hcz57_11,hfz57_0,hfz57_1,hfz57_2,hfz57_3,hfz57_4,hfz57_5,hfz57_6,hfz57_7,hfz57_8,hfz57_9,hfz57_10,hfz57_11⟩:=k12f_ BK725;obtain ⟨hcz58_0,hcz58_1,hcz58_2,hcz58_3,hcz58_4,hcz58_5,hcz58_6,hcz58_7,hcz58_8,hcz58_9,hcz58_10,hcz58_11,hfz58_0,hfz58_1,hfz58_2,hfz58_3,hfz58_4,hfz58_5,hfz58_6,hfz58_7,hfz58_8,hfz58_9,hfz58_10,hfz58_11⟩:=k12f_ BK726;go_wp2
       go_ret;exact ⟨ex_,bq_ HB⟩
      rw [if_pos c28] at H;have c28b0:=beq_iff_eq.mpr c28;have c28b1:=bne_eq_false_iff_eq.mpr c28;clear c28
      by_cases c29 : a0_3 = a1_3;rotate_left
      ·rw [if_neg c29] at H;have c29b0:=beq_eq_false_iff_ne.mpr c29;have c29b1:=bne_iff_ne.mpr c29;obtain rfl:=Option.some.inj H;have hnb53:=NB725_726.out;have hnc53:=NB726_725.out;obtain ⟨hcz54_0,hcz54_1,hcz54_2,hcz54_3,hcz54_4,hcz54_5,hcz54_6,hcz54_7,hcz54_8,hcz54_9,hcz54_10,hcz54_11,hfz54_0,hfz54_1,hfz54_2,hfz54_3,hfz54_4,hfz54_5,hfz54_6,hfz54_7,hfz54_8,hfz54_9,hfz54_10,hfz54_11⟩:=k12f_ BK725;obtain ⟨hcz55_0,hcz55_1,hcz55_2,hcz55_3,hcz55_4,hcz55_5,hcz55_6,hcz55_7,hcz55_8,hcz55_9,hcz55_10,hcz55_11,hfz55_0,hfz55_1,hfz55_2,hfz55_3,hfz55_4,hfz55_5,hfz55_6,hfz55_7,hfz55_8,hfz55_9,hfz55_10,hfz55_11⟩:=k12f_ BK726;go_wp2
       go_ret;exact ⟨ex_,bq_ HB⟩
      rw [if_pos c29] at H;have c29b0:=beq_iff_eq.mpr c29;have c29b1:=bne_eq_false_iff_eq.mpr c29;clear c29
      by_cases c30 : a0_4 = a1_4;rotate_left
      ·rw [if_neg c30] at H;have c30b0:=beq_eq_false_iff_ne.mpr c30;have c30b1:=bne_iff_ne.mpr c30;obtain rfl:=Option.some.inj H;have hnb50:=NB725_726.out;have hnc50:=NB726_725.out;obtain ⟨hcz51_0,hcz51_1,hcz51_2,hcz51_3,hcz51_4,hcz51_5,hcz51_6,hcz51_7,hcz51_8,hcz51_9,hcz51_10,hcz51_11,hfz51_0,hfz51_1,hfz51_2,hfz51_3,hfz51_4,hfz51_5,hfz51_6,hfz51_7,hfz51_8,hfz51_9,hfz51_10,hfz51_11⟩:=k12f_ BK725;obtain ⟨hcz52_0,hcz52_1,hcz52_2,hcz52_3,hcz52_4,hcz52_5,hcz52_6,hcz52_7,hcz52_8,hcz52_9,hcz52_10,hcz52_11,hfz52_0,hfz52_1,hfz52_2,hfz52_3,hfz52_4,hfz52_5,hfz52_6,hfz52_7,hfz52_8,hfz52_9,hfz52_10,hfz52_11⟩:=k12f_ BK726;go_wp2
       go_ret;exact ⟨ex_,bq_ HB⟩
      rw [if_pos c30] at H;have c30b0:=beq_iff_eq.mpr c30;have c30b1:=bne_eq_false_iff_eq.mpr c30;clear c30
      by_cases c31 : a0_5 = a1_5;rotate_left
      ·rw [if_neg c31] at H;have c31b0:=beq_eq_false_iff_ne.mpr c31;have c31b1:=bne_iff_ne.mpr c31;obtain rfl:=Option.some.inj H;have hnb47:=NB725_726.out;have hnc47:=NB726_725.out;obtain ⟨hcz48_0,hcz48_1,hcz48_2,hcz48_3,hcz48_4,hcz48_5,hcz48_6,hcz48_7,hcz48_8,hcz48_9,hcz48_10,hcz48_11,hfz48_0,hfz48_1,hfz48_2,hfz48_3,hfz48_4,hfz48_5,hfz48_6,hfz48_7,hfz48_8,hfz48_9,hfz48_10,hfz48_11⟩:=k12f_ BK725;obtain ⟨hcz49_0,hcz49_1,hcz49_2,hcz49_3,hcz49_4,hcz49_5,hcz49_6,hcz49_7,hcz49_8,hcz49_9,hcz49_10,hcz49_11,hfz49_0,hfz49_1,hfz49_2,hfz49_3,hfz49_4,hfz49_5,hfz49_6,hfz49_7,hfz49_8,hfz49_9,hfz49_10,hfz49_11⟩:=k12f_ BK726;go_wp2
       go_ret;exact ⟨ex_,bq_ HB⟩
      rw [if_pos c31] at H;have c31b0:=beq_iff_eq.mpr c31;have c31b1:=bne_eq_false_iff_eq.mpr c31;clear c31
      by_cases c32 : a0_6 = a1_6;rotate_left
      ·rw [if_neg c32] at H;have c32b0:=beq_eq_false_iff_ne.mpr c32;have c32b1:=bne_iff_ne.mpr c32;obtain rfl:=Option.some.inj H;have hnb44:=NB725_726.out;have hnc44:=NB726_725.out;obtain ⟨hcz45_0,hcz45_1,hcz45_2,hcz45_3,hcz45_4,hcz45_5,hcz45_6,hcz45_7,hcz45_8,hcz45_9,hcz45_10,hcz45_11,hfz45_0,hfz45_1,hfz45_2,hfz45_3,hfz45_4,hfz45_5,hfz45_6,hfz45_7,hfz45_8,hfz45_9,hfz45_10,hfz45_11⟩:=k12f_ BK725;obtain ⟨hcz46_0,hcz46_1,hcz46_2,hcz46_3,hcz46_4,hcz46_5,hcz46_6,hcz46_7,hcz46_8,hcz46_9,hcz46_10,hcz46_11,hfz46_0,hfz46_1,hfz46_2,hfz46_3,hfz46_4,hfz46_5,hfz46_6,hfz46_7,hfz46_8,hfz46_9,hfz46_10,hfz46_11⟩:=k12f_ BK726;go_wp2
       go_ret;exact ⟨ex_,bq_ HB⟩
      rw [if_pos c32] at H;have c32b0:=beq_iff_eq.mpr c32;have c32b1:=bne_eq_false_iff_eq.mpr c32;clear c32
      by_cases c33 : (a0_7 == a1_7) = true
      ·rw [if_pos c33] at H;have c33b0 : (a0_7 == a1_7) = true:=c33
       (try (have c33b1 : decide (a0_7 = a1_7) = true:=by simpa using c33))
       (try (have c33b2 : (a0_7 == a1_7) = true:=by simpa using c33))
       clear c33
       by_cases c34 : a0_10.toList = a1_10.toList
       ·rw [if_pos c34] at H;have c34b0:=beq_iff_eq.mpr c34;have c34b1:=bne_eq_false_iff_eq.mpr c34;clear c34;obtain rfl:=Option.some.inj H;have hnb35:=NB725_726.out;have hnc35:=NB726_725.out;obtain ⟨hcz36_0,hcz36_1,hcz36_2,hcz36_3,hcz36_4,hcz36_5,hcz36_6,hcz36_7,hcz36_8,hcz36_9,hcz36_10,hcz36_11,hfz36_0,hfz36_1,hfz36_2,hfz36_3,hfz36_4,hfz36_5,hfz36_6,hfz36_7,hfz36_8,hfz36_9,hfz36_10,hfz36_11⟩:=k12f_ BK725;obtain ⟨hcz37_0,hcz37_1,hcz37_2,hcz37_3,hcz37_4,hcz37_5,hcz37_6,hcz37_7,hcz37_8,hcz37_9,hcz37_10,hcz37_11,hfz37_0,hfz37_1,hfz37_2,hfz37_3,hfz37_4,hfz37_5,hfz37_6,hfz37_7,hfz37_8,hfz37_9,hfz37_10,hfz37_11⟩:=k12f_ BK726;go_wp2
        go_ret;exact ⟨ex_,bq_ HB⟩
       rw [if_neg c34] at H;have c34b0:=beq_eq_false_iff_ne.mpr c34;have c34b1:=bne_iff_ne.mpr c34;obtain rfl:=Option.some.inj H;have hnb38:=NB725_726.out;have hnc38:=NB726_725.out;obtain ⟨hcz39_0,hcz39_1,hcz39_2,hcz39_3,hcz39_4,hcz39_5,hcz39_6,hcz39_7,hcz39_8,hcz39_9,hcz39_10,hcz39_11,hfz39_0,hfz39_1,hfz39_2,hfz39_3,hfz39_4,hfz39_5,hfz39_6,hfz39_7,hfz39_8,hfz39_9,hfz39_10,hfz39_11⟩:=k12f_ BK725;obtain ⟨hcz40_0,hcz40_1,hcz40_2,hcz40_3,hcz40_4,hcz40_5,hcz40_6,hcz40_7,hcz40_8,hcz40_9,hcz40_10,hcz40_11,hfz40_0,hfz40_1,hfz40_2,hfz40_3,hfz40_4,hfz40_5,hfz40_6,hfz40_7,hfz40_8,hfz40_9,hfz40_10,hfz40_11⟩:=k12f_ BK726;go_wp2
       go_ret;exact ⟨ex_,bq_ HB⟩
      rw [if_neg c33] at H
      have c33b0 : (a0_7 == a1_7) = false:=by simpa using c33
      (try (have c33b1 : decide (a0_7 = a1_7) = false:=by simpa using c33))
      (try (have c33b2 : (a0_7 == a1_7) = false:=by simpa using c33))
      (try (have c33b3 : ¬ (a0_7 = a1_7):=by simpa using c33))
      clear c33;obtain rfl:=Option.some.inj H;have hnb41:=NB725_726.out;have hnc41:=NB726_725.out;obtain ⟨hcz42_0,hcz42_1,hcz42_2,hcz42_3,hcz42_4,hcz42_5,hcz42_6,hcz42_7,hcz42_8,hcz42_9,hcz42_10,hcz42_11,hfz42_0,hfz42_1,hfz42_2,hfz42_3,hfz42_4,hfz42_5,hfz42_6,hfz42_7,hfz42_8,hfz42_9,hfz42_10,hfz42_11⟩:=k12f_ BK725;obtain ⟨hcz43_0,hcz43_1,hcz43_2,hcz43_3,hcz43_4,hcz43_5,hcz43_6,hcz43_7,hcz43_8,hcz43_9,hcz43_10,hcz43_11,hfz43_0,hfz43_1,hfz43_2,hfz43_3,hfz43_4,hfz43_5,hfz43_6,hfz43_7,hfz43_8,hfz43_9,hfz43_10,hfz43_11⟩:=k12f_ BK726;go_wp2
      go_ret;exact ⟨ex_,bq_ HB⟩
     rw [if_pos c18] at H;have c18b0:=de_ c18;clear c18
     (rw [c18b0])
     by_cases c19 : 0 ≤ x5_2;rotate_left
     ·rw [if_neg c19] at H;exact absurd H (by simp)
     rw [if_pos c19] at H;have c19b0:=de_ c19;clear c19
     by_cases c20 : x5_2 < (l1_8.length : Int);rotate_left
     ·rw [if_neg c20] at H;exact absurd H (by simp)
     rw [if_pos c20] at H;have c20b0:=de_ c20;clear c20;have HC21:=A_ H;clear H;have hnb22:=NB725_726.out;have hnc22:=NB726_725.out;obtain ⟨hcz23_0,hcz23_1,hcz23_2,hcz23_3,hcz23_4,hcz23_5,hcz23_6,hcz23_7,hcz23_8,hcz23_9,hcz23_10,hcz23_11,hfz23_0,hfz23_1,hfz23_2,hfz23_3,hfz23_4,hfz23_5,hfz23_6,hfz23_7,hfz23_8,hfz23_9,hfz23_10,hfz23_11⟩:=k12f_ BK725;have p728 : 0 ≤ (x5_2 : Int):=oda_;have q728 : x5_2 < (l0_8.length : Int):=oda_;obtain ⟨ad728,e728,hx728_0,hx728_1,hx728_2⟩:=at_T69 HR0_8.out x5_2 p728 q728
     cases e728
     replace hx728_0:=(HB.out.cell (wb_ w _ hx728_0)).trans hx728_0;replace hx728_1:=(HB.out.cell (wb_ w _ hx728_1)).trans hx728_1;replace hx728_2:=(HB.out.cell (wb_ w _ hx728_2)).trans hx728_2;replace p728:=eq_true p728;replace q728:=eq_true q728;obtain ⟨hcz24_0,hcz24_1,hcz24_2,hcz24_3,hcz24_4,hcz24_5,hcz24_6,hcz24_7,hcz24_8,hcz24_9,hcz24_10,hcz24_11,hfz24_0,hfz24_1,hfz24_2,hfz24_3,hfz24_4,hfz24_5,hfz24_6,hfz24_7,hfz24_8,hfz24_9,hfz24_10,hfz24_11⟩:=k12f_ BK726;have p729 : 0 ≤ (x5_2 : Int):=oda_;have q729 : x5_2 < (l1_8.length : Int):=oda_;obtain ⟨ad729,e729,hx729_0,hx729_1,hx729_2⟩:=at_T69 HR1_8.out x5_2 p729 q729
     cases e729
     replace hx729_0:=(HB.out.cell (wb_ w _ hx729_0)).trans hx729_0;replace hx729_1:=(HB.out.cell (wb_ w _ hx729_1)).trans hx729_1;replace hx729_2:=(HB.out.cell (wb_ w _ hx729_2)).trans hx729_2;replace p729:=eq_true p729;replace q729:=eq_true q729
     go_upto_if 38 with (fail)
     repeat (go_quiet (fail);go_upto_if 38 with (fail))
     have H:=HC21.out;clear HC21
     by_cases c25 : (!(((rd_T69 l0_8 x5_2).f0) == ((rd_T69 l1_8 x5_2).f0)) || (!(((rd_T69 l0_8 x5_2).f1) == ((rd_T69 l1_8 x5_2).f1)) || (!((((rd_T69 l0_8 x5_2).f2).toList) == (((rd_T69 l1_8 x5_2).f2).toList))))) = true
     ·rw [if_pos c25] at H;have c25b0 : (!(((rd_T69 l0_8 x5_2).f0) == ((rd_T69 l1_8 x5_2).f0)) || (!(((rd_T69 l0_8 x5_2).f1) == ((rd_T69 l1_8 x5_2).f1)) || (!((((rd_T69 l0_8 x5_2).f2).toList) == (((rd_T69 l1_8 x5_2).f2).toList))))) = true:=c25;clear c25
      (rw [c25b0])
      obtain rfl:=Option.some.inj H;go_wp2
      go_ret;exact ⟨ex_,bq_ HB⟩
     rw [if_neg c25] at H
     have c25b0 : (!(((rd_T69 l0_8 x5_2).f0) == ((rd_T69 l1_8 x5_2).f0)) || (!(((rd_T69 l0_8 x5_2).f1) == ((rd_T69 l1_8 x5_2).f1)) || (!((((rd_T69 l0_8 x5_2).f2).toList) == (((rd_T69 l1_8 x5_2).f2).toList))))) = false:=by simpa using c25
     clear c25
     (rw [c25b0])
     have H':=A_ H;clear H;go_wp2
     go_roundg k2
     case measure => have:=HJ2.out;have:=HK2.out;omega
     case rel => exact ⟨(wrap64 (x5_2 + 1)),(by rfl),H',⟨by have:=HJ2.out;have:=HK2.out;omega⟩,⟨kq_ BK725⟩,⟨kq_ BK726⟩,⟨bq_ HB⟩⟩
end Go.Proofs.Ytbcgnncbiblibaa.PFnMessages
