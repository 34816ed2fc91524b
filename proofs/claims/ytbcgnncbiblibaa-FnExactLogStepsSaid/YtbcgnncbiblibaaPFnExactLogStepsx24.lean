/- The contracts of the Go functions that this law reaches: what each call returns, by a plain Lean function of its arguments. No conditions but those each contract names. By the kit's print.py, run by this session's wip/gen/pp.py with facts and hand proofs beside it: not to the letter what print.sh prints. -/
import Derived.Test.YtbcgnncbiblibaaPFnExactLogStepsx0
import Derived.Test.YtbcgnncbiblibaaPFnExactLogStepsx2
namespace Go.Proofs.Ytbcgnncbiblibaa.PFnExactLogSteps
open Go.RowKit Go.Proofs.YtbcgnncbiblibaaW.PrintWords Go.Proofs.YtbcgnncbiblibaaW.PrintLast Go.Proofs.YtbcgnncbiblibaaW.PrintMore
attribute [local go_sem] max2_int min2_int max_two min_two max_three min_three max_four min_four
set_option linter.unusedVariables false
set_option linter.unusedSimpArgs false
def laws_heldRawS.l0 : Nat → List (S126) → Int → Int → Option (Int)
 | 0,_,_,_ => none
 | k + 1,x0,x1,x5 => if x5 < (x0.length : Int) then (if 0 ≤ x5 then (if ((rd_T126 x0 x5).f0) = x1 then ((laws_markText.f k (wrap64 (x1 + 1))).bind fun t595 => (if ((rd_T126 x0 x5).f1).toList = t595.toList then ((laws_markText.f k (wrap64 ((wrap64 (x1 + 1)) + 1))).bind fun t597 => (if ((rd_T126 x0 x5).f2).toList = t597.toList then ((laws_markText.f k (wrap64 ((wrap64 ((wrap64 (x1 + 1)) + 1)) + 1))).bind fun t599 => (if ((rd_T126 x0 x5).f3).toList = t599.toList then (laws_heldRawS.l0 k x0 (wrap64 ((wrap64 ((wrap64 ((wrap64 (x1 + 1)) + 1)) + 1)) + 1)) (wrap64 (x5 + 1))) else (some (-1)))) else (some (-1)))) else (some (-1)))) else (some (-1))) else (none)) else (some x1)
def laws_heldRawS.f (k : Nat) (l0 : List (S126)) (a1 : Int) : Option (Int) := laws_heldRawS.l0 k l0 a1 0
theorem laws_heldRawS.mono_l : ∀ k, (∀ y0 y1 y2, LeO (laws_heldRawS.l0 k y0 y1 y2) (laws_heldRawS.l0 (k + 1) y0 y1 y2))
 | 0 => fun _ _ _ r h => by simp [laws_heldRawS.l0] at h
 | k + 1 => by
  have ih0:=laws_heldRawS.mono_l k
  ·intro y0 y1 y2
   unfold laws_heldRawS.l0
   repeat' first
   | (with_reducible exact ih0 _ _ _)
   | (with_reducible exact laws_markText.mono _ _)
   | (with_reducible exact LeO.refl _)
   | (with_reducible refine LeO.ite ?_ ?_)
   | (with_reducible refine LeO.bind ?_ (fun _ => ?_))
theorem laws_heldRawS.mono : ∀ a0 a1 k, LeO (laws_heldRawS.f k a0 a1) (laws_heldRawS.f (k + 1) a0 a1) := by
 intro a0 a1 k;have ih0:=laws_heldRawS.mono_l k
 unfold laws_heldRawS.f
 repeat' first
   | (with_reducible exact ih0 _ _ _)
def laws_heldRawS.T7 : Bool × List (List Nat × List Nat) := (true, [([], []), ([], []), ([0, 1], [0, 1]), ([2], [2]), ([3], [3]), ([], []), ([5], [5]), ([4, 6], [4, 6])])
def laws_heldRawS.B7 : List Nat := [0, 0, 3, 7, 15, 0, 32, 127]
theorem laws_heldRawS.tab7 : rtab .any (opsOf Try.f38 7) = laws_heldRawS.T7 := by kernel_rfl
theorem laws_heldRawS.bits7 : waitsOk laws_heldRawS.T7.2 laws_heldRawS.B7 = true := by kernel_rfl
def laws_heldRawS.T10 : Bool × List (List Nat × List Nat) := (true, [([], []), ([], []), ([0, 1], [0, 1]), ([2], [2]), ([3], [3]), ([], []), ([5], [5]), ([4, 6], [4, 6])])
def laws_heldRawS.B10 : List Nat := [0, 0, 3, 7, 15, 0, 32, 127]
theorem laws_heldRawS.tab10 : rtab .any (opsOf Try.f38 10) = laws_heldRawS.T10 := by kernel_rfl
theorem laws_heldRawS.bits10 : waitsOk laws_heldRawS.T10.2 laws_heldRawS.B10 = true := by kernel_rfl
def laws_heldRawS.T13 : Bool × List (List Nat × List Nat) := (true, [([], []), ([], []), ([0, 1], [0, 1]), ([2], [2]), ([3], [3]), ([], []), ([5], [5]), ([4, 6], [4, 6])])
def laws_heldRawS.B13 : List Nat := [0, 0, 3, 7, 15, 0, 32, 127]
theorem laws_heldRawS.tab13 : rtab .any (opsOf Try.f38 13) = laws_heldRawS.T13 := by kernel_rfl
theorem laws_heldRawS.bits13 : waitsOk laws_heldRawS.T13.2 laws_heldRawS.B13 = true := by kernel_rfl
set_option maxHeartbeats 8000000 in
set_option maxRecDepth 100000 in
theorem laws_heldRawS.calls (k : Nat) (A0 : Option Addr) (c0 : Nat) (l0 : List (S126)) (a1 : Int) (r : Int) (w : World) (hr0 : Kd.C k126 w A0 l0.length l0) (hc0 : l0.length ≤ c0) (h : laws_heldRawS.f k l0 a1 = some r) :
  Calls Try.prog 38 #[.slice A0 l0.length c0,.int .i64 a1] w fun e w' => e = .returned (.int .i64 r) ∧ Below w.heap.size w w':=by
 have HR0:=A_ hr0;have HC0:=A_ hc0;clear hr0 hc0;have HB:=A_ (Below.refl w.heap.size w);unfold laws_heldRawS.f at h;have H:=h;clear h;have H':=A_ H;clear H;go_enter Try.func38,Try.ntmps38;go_wp2
 go_loopg [1,5] k (fun kq v1 v5 w' => ∃ (x1_1 : Int) (x5_1 : Int),v1 = .int .i64 x1_1 ∧ v5 = .int .i64 x5_1 ∧ Aside0 (laws_heldRawS.l0 kq l0 x1_1 x5_1 = some r) ∧ Aside0 (kq ≤ k) ∧ Aside0 (Below w.heap.size w w'))
 case atStart => exact ⟨(a1),(0),(by rfl),(by rfl),H',⟨Nat.le_refl _⟩,⟨bq_ HB⟩⟩
 case round =>
  clear H'
  try clear p2
  obtain ⟨x1_1,x5_1,rfl,rfl,HA,HK1,HB⟩:=hrel
  cases gk with
  | zero => exact absurd HA.out (by simp [laws_heldRawS.l0])
  | succ k1 =>
   have H:=HA.out;clear HA;simp only [laws_heldRawS.l0] at H
   by_cases c3 : x5_1 < (l0.length : Int)
   ·rw [if_pos c3] at H;have c3b0 : decide (x5_1 < (l0.length : Int)) = true:=de_ c3;clear c3
    by_cases c4 : 0 ≤ x5_1
    ·rw [if_pos c4] at H;have c4b0 : decide (0 ≤ x5_1) = true:=de_ c4;clear c4
     by_cases c5 : ((rd_T126 l0 x5_1).f0) = x1_1
     ·rw [if_pos c5] at H;have c5b0 : (((rd_T126 l0 x5_1).f0) == x1_1) = true:=beq_iff_eq.mpr c5;have c5b1 : (((rd_T126 l0 x5_1).f0) != x1_1) = false:=bne_eq_false_iff_eq.mpr c5;clear c5;replace H:=ob_.mp H;obtain ⟨t595,A60,H⟩:=H;have A6:=A_ A60;clear A60
      by_cases c7 : ((rd_T126 l0 x5_1).f1).toList = t595.toList
      ·rw [if_pos c7] at H;have c7b0 : (((rd_T126 l0 x5_1).f1).toList == t595.toList) = true:=beq_iff_eq.mpr c7;have c7b1 : (((rd_T126 l0 x5_1).f1).toList != t595.toList) = false:=bne_eq_false_iff_eq.mpr c7;clear c7;replace H:=ob_.mp H;obtain ⟨t597,A80,H⟩:=H;have A8:=A_ A80;clear A80
       by_cases c9 : ((rd_T126 l0 x5_1).f2).toList = t597.toList
       ·rw [if_pos c9] at H;have c9b0 : (((rd_T126 l0 x5_1).f2).toList == t597.toList) = true:=beq_iff_eq.mpr c9;have c9b1 : (((rd_T126 l0 x5_1).f2).toList != t597.toList) = false:=bne_eq_false_iff_eq.mpr c9;clear c9;replace H:=ob_.mp H;obtain ⟨t599,A100,H⟩:=H;have A10:=A_ A100;clear A100
        by_cases c11 : ((rd_T126 l0 x5_1).f3).toList = t599.toList
        ·rw [if_pos c11] at H;have c11b0 : (((rd_T126 l0 x5_1).f3).toList == t599.toList) = true:=beq_iff_eq.mpr c11;have c11b1 : (((rd_T126 l0 x5_1).f3).toList != t599.toList) = false:=bne_eq_false_iff_eq.mpr c11;clear c11;have H':=A_ H;clear H;have p593 : 0 ≤ (x5_1 : Int):=oda_;have q593 : x5_1 < (l0.length : Int):=oda_;obtain ⟨ad593,e593,hx593_0,hx593_1,hx593_2,hx593_3⟩:=at_T126 HR0.out x5_1 p593 q593
         cases e593
         replace hx593_0:=(HB.out.cell (wb_ w _ hx593_0)).trans hx593_0;replace hx593_1:=(HB.out.cell (wb_ w _ hx593_1)).trans hx593_1;replace hx593_2:=(HB.out.cell (wb_ w _ hx593_2)).trans hx593_2;replace hx593_3:=(HB.out.cell (wb_ w _ hx593_3)).trans hx593_3;replace p593:=eq_true p593;replace q593:=eq_true q593
         try go_wp2
         replace HB:=A_ (pd_ HB.out);have p594 : 0 ≤ (x5_1 : Int):=oda_;have q594 : x5_1 < (l0.length : Int):=oda_;obtain ⟨ad594,e594,hx594_0,hx594_1,hx594_2,hx594_3⟩:=at_T126 HR0.out x5_1 p594 q594;have hw594_3:=hx594_3;have hw594_2:=hx594_2;have hw594_1:=hx594_1;have hw594_0:=hx594_0;obtain rfl : ad593 = ad594:=(by injection e594);replace hx594_0:=(HB.out.cell (wb_ w _ hx594_0)).trans hx594_0;replace hx594_1:=(HB.out.cell (wb_ w _ hx594_1)).trans hx594_1;replace hx594_2:=(HB.out.cell (wb_ w _ hx594_2)).trans hx594_2;replace hx594_3:=(HB.out.cell (wb_ w _ hx594_3)).trans hx594_3;replace p594:=eq_true p594;replace q594:=eq_true q594;refine start_ (n:=8) (S:=fun w' => w'.cell? (ad593.add ((x5_1).toNat * 4)) = some (.int .i64 ((rd_T126 l0 x5_1).f0)) ∧ w'.cell? ⟨(ad593.add ((x5_1).toNat * 4)).block,(ad593.add ((x5_1).toNat * 4)).off + 1,none⟩ = some (.string ((rd_T126 l0 x5_1).f1)) ∧ w'.cell? ⟨(ad593.add ((x5_1).toNat * 4)).block,(ad593.add ((x5_1).toNat * 4)).off + 2,none⟩ = some (.string ((rd_T126 l0 x5_1).f2)) ∧ w'.cell? ⟨(ad593.add ((x5_1).toNat * 4)).block,(ad593.add ((x5_1).toNat * 4)).off + 3,none⟩ = some (.string ((rd_T126 l0 x5_1).f3))) (ds:=[]) #[false,false,false,false,false,false,false,false] (by kernel_rfl) rfl rfl ⟨((HB.out.cell (wb_ w _ hw594_0)).trans hw594_0),((HB.out.cell (wb_ w _ hw594_1)).trans hw594_1),((HB.out.cell (wb_ w _ hw594_2)).trans hw594_2),((HB.out.cell (wb_ w _ hw594_3)).trans hw594_3)⟩ (fun hHeld => ?_);refine with_tabW laws_heldRawS.tab7 laws_heldRawS.bits7 (fun HT_ HW_ => ?_);generalize wr.drew = w12 at HB hx594_0 hx594_1 hx594_2 hx594_3 hHeld ⊢;refine pU_ 0 (some 21) ?_
         refine pU_ 1 (some 22) ?_
         refine pU_ 2 (some 23) ?_
         refine pU_ 3 (some 24) ?_
         refine pU_ 5 (some 26) ?_
         refine tK_ 4 (some 25) hHeld ?_
         refine oN_ 6 (some 27) (fun K hK => ?_);refine gs_ Try.func59 #[.int .i64 (wrap64 (x1_1 + 1))] ?_;with_reducible refine (laws_markText.calls k1 (wrap64 (x1_1 + 1)) t595 _ A6.out).mono ?_;rintro e w13 ⟨rfl,hb⟩;refine ⟨_,rfl,?_⟩;replace HB:=bS_ HB hb
         (try clear hb)
         refine hK.out _ _ ⟨((HB.out.cell (wb_ w _ hw594_0)).trans hw594_0),((HB.out.cell (wb_ w _ hw594_1)).trans hw594_1),((HB.out.cell (wb_ w _ hw594_2)).trans hw594_2),((HB.out.cell (wb_ w _ hw594_3)).trans hw594_3)⟩ (fun hHeld => ?_);clear hK K;refine nX_ (some 27) ?_
         refine pU_ 7 (some 28) ?_
         refine done_ (done_of HT_.out (by kernel_rfl)) ?_
         try go_wp2
         replace HB:=A_ (pd_ HB.out);have p596 : 0 ≤ (x5_1 : Int):=oda_;have q596 : x5_1 < (l0.length : Int):=oda_;obtain ⟨ad596,e596,hx596_0,hx596_1,hx596_2,hx596_3⟩:=at_T126 HR0.out x5_1 p596 q596;have hw596_3:=hx596_3;have hw596_2:=hx596_2;have hw596_1:=hx596_1;have hw596_0:=hx596_0;obtain rfl : ad593 = ad596:=(by injection e596);replace hx596_0:=(HB.out.cell (wb_ w _ hx596_0)).trans hx596_0;replace hx596_1:=(HB.out.cell (wb_ w _ hx596_1)).trans hx596_1;replace hx596_2:=(HB.out.cell (wb_ w _ hx596_2)).trans hx596_2;replace hx596_3:=(HB.out.cell (wb_ w _ hx596_3)).trans hx596_3;replace p596:=eq_true p596;replace q596:=eq_true q596;refine start_ (n:=8) (S:=fun w' => w'.cell? (ad593.add ((x5_1).toNat * 4)) = some (.int .i64 ((rd_T126 l0 x5_1).f0)) ∧ w'.cell? ⟨(ad593.add ((x5_1).toNat * 4)).block,(ad593.add ((x5_1).toNat * 4)).off + 1,none⟩ = some (.string ((rd_T126 l0 x5_1).f1)) ∧ w'.cell? ⟨(ad593.add ((x5_1).toNat * 4)).block,(ad593.add ((x5_1).toNat * 4)).off + 2,none⟩ = some (.string ((rd_T126 l0 x5_1).f2)) ∧ w'.cell? ⟨(ad593.add ((x5_1).toNat * 4)).block,(ad593.add ((x5_1).toNat * 4)).off + 3,none⟩ = some (.string ((rd_T126 l0 x5_1).f3))) (ds:=[]) #[false,false,false,false,false,false,false,false] (by kernel_rfl) rfl rfl ⟨((HB.out.cell (wb_ w _ hw596_0)).trans hw596_0),((HB.out.cell (wb_ w _ hw596_1)).trans hw596_1),((HB.out.cell (wb_ w _ hw596_2)).trans hw596_2),((HB.out.cell (wb_ w _ hw596_3)).trans hw596_3)⟩ (fun hHeld => ?_);refine with_tabW laws_heldRawS.tab10 laws_heldRawS.bits10 (fun HT_ HW_ => ?_);generalize w13.drew = w14 at HB hx596_0 hx596_1 hx596_2 hx596_3 hHeld ⊢;refine pU_ 0 (some 31) ?_
         refine pU_ 1 (some 32) ?_
         refine pU_ 2 (some 33) ?_
         refine pU_ 3 (some 34) ?_
         refine pU_ 5 (some 36) ?_
         refine tK_ 4 (some 35) hHeld ?_
         refine oN_ 6 (some 37) (fun K hK => ?_);refine gs_ Try.func59 #[.int .i64 (wrap64 ((wrap64 (x1_1 + 1)) + 1))] ?_;with_reducible refine (laws_markText.calls k1 (wrap64 ((wrap64 (x1_1 + 1)) + 1)) t597 _ A8.out).mono ?_;rintro e w15 ⟨rfl,hb⟩;refine ⟨_,rfl,?_⟩;replace HB:=bS_ HB hb
         (try clear hb)
         refine hK.out _ _ ⟨((HB.out.cell (wb_ w _ hw596_0)).trans hw596_0),((HB.out.cell (wb_ w _ hw596_1)).trans hw596_1),((HB.out.cell (wb_ w _ hw596_2)).trans hw596_2),((HB.out.cell (wb_ w _ hw596_3)).trans hw596_3)⟩ (fun hHeld => ?_);clear hK K;refine nX_ (some 37) ?_
         refine pU_ 7 (some 38) ?_
         refine done_ (done_of HT_.out (by kernel_rfl)) ?_
         try go_wp2
         replace HB:=A_ (pd_ HB.out);have p598 : 0 ≤ (x5_1 : Int):=oda_;have q598 : x5_1 < (l0.length : Int):=oda_;obtain ⟨ad598,e598,hx598_0,hx598_1,hx598_2,hx598_3⟩:=at_T126 HR0.out x5_1 p598 q598;have hw598_3:=hx598_3;have hw598_2:=hx598_2;have hw598_1:=hx598_1;have hw598_0:=hx598_0;obtain rfl : ad593 = ad598:=(by injection e598);replace hx598_0:=(HB.out.cell (wb_ w _ hx598_0)).trans hx598_0;replace hx598_1:=(HB.out.cell (wb_ w _ hx598_1)).trans hx598_1;replace hx598_2:=(HB.out.cell (wb_ w _ hx598_2)).trans hx598_2;replace hx598_3:=(HB.out.cell (wb_ w _ hx598_3)).trans hx598_3;replace p598:=eq_true p598;replace q598:=eq_true q598;refine start_ (n:=8) (S:=fun w' => w'.cell? (ad593.add ((x5_1).toNat * 4)) = some (.int .i64 ((rd_T126 l0 x5_1).f0)) ∧ w'.cell? ⟨(ad593.add ((x5_1).toNat * 4)).block,(ad593.add ((x5_1).toNat * 4)).off + 1,none⟩ = some (.string ((rd_T126 l0 x5_1).f1)) ∧ w'.cell? ⟨(ad593.add ((x5_1).toNat * 4)).block,(ad593.add ((x5_1).toNat * 4)).off + 2,none⟩ = some (.string ((rd_T126 l0 x5_1).f2)) ∧ w'.cell? ⟨(ad593.add ((x5_1).toNat * 4)).block,(ad593.add ((x5_1).toNat * 4)).off + 3,none⟩ = some (.string ((rd_T126 l0 x5_1).f3))) (ds:=[]) #[false,false,false,false,false,false,false,false] (by kernel_rfl) rfl rfl ⟨((HB.out.cell (wb_ w _ hw598_0)).trans hw598_0),((HB.out.cell (wb_ w _ hw598_1)).trans hw598_1),((HB.out.cell (wb_ w _ hw598_2)).trans hw598_2),((HB.out.cell (wb_ w _ hw598_3)).trans hw598_3)⟩ (fun hHeld => ?_);refine with_tabW laws_heldRawS.tab13 laws_heldRawS.bits13 (fun HT_ HW_ => ?_);generalize w15.drew = w16 at HB hx598_0 hx598_1 hx598_2 hx598_3 hHeld ⊢;refine pU_ 0 (some 41) ?_
         refine pU_ 1 (some 42) ?_
         refine pU_ 2 (some 43) ?_
         refine pU_ 3 (some 44) ?_
         refine pU_ 5 (some 46) ?_
         refine tK_ 4 (some 45) hHeld ?_
         refine oN_ 6 (some 47) (fun K hK => ?_);refine gs_ Try.func59 #[.int .i64 (wrap64 ((wrap64 ((wrap64 (x1_1 + 1)) + 1)) + 1))] ?_;with_reducible refine (laws_markText.calls k1 (wrap64 ((wrap64 ((wrap64 (x1_1 + 1)) + 1)) + 1)) t599 _ A10.out).mono ?_;rintro e w17 ⟨rfl,hb⟩;refine ⟨_,rfl,?_⟩;replace HB:=bS_ HB hb
         (try clear hb)
         refine hK.out _ _ ⟨((HB.out.cell (wb_ w _ hw598_0)).trans hw598_0),((HB.out.cell (wb_ w _ hw598_1)).trans hw598_1),((HB.out.cell (wb_ w _ hw598_2)).trans hw598_2),((HB.out.cell (wb_ w _ hw598_3)).trans hw598_3)⟩ (fun hHeld => ?_);clear hK K;refine nX_ (some 47) ?_
         refine pU_ 7 (some 48) ?_
         refine done_ (done_of HT_.out (by kernel_rfl)) ?_
         try go_wp2
         go_roundg k1
         case measure => have:=HK1.out;omega
         case rel => exact ⟨(wrap64 ((wrap64 ((wrap64 ((wrap64 (x1_1 + 1)) + 1)) + 1)) + 1)),(wrap64 (x5_1 + 1)),(by rfl),(by rfl),H',⟨by have:=HK1.out;omega⟩,⟨bq_ HB⟩⟩
        ·rw [if_neg c11] at H;have c11b0 : (((rd_T126 l0 x5_1).f3).toList == t599.toList) = false:=beq_eq_false_iff_ne.mpr c11;have c11b1 : (((rd_T126 l0 x5_1).f3).toList != t599.toList) = true:=bne_iff_ne.mpr c11;obtain rfl:=Option.some.inj H;have p593 : 0 ≤ (x5_1 : Int):=oda_;have q593 : x5_1 < (l0.length : Int):=oda_;obtain ⟨ad593,e593,hx593_0,hx593_1,hx593_2,hx593_3⟩:=at_T126 HR0.out x5_1 p593 q593
         cases e593
         replace hx593_0:=(HB.out.cell (wb_ w _ hx593_0)).trans hx593_0;replace hx593_1:=(HB.out.cell (wb_ w _ hx593_1)).trans hx593_1;replace hx593_2:=(HB.out.cell (wb_ w _ hx593_2)).trans hx593_2;replace hx593_3:=(HB.out.cell (wb_ w _ hx593_3)).trans hx593_3;replace p593:=eq_true p593;replace q593:=eq_true q593
         try go_wp2
         replace HB:=A_ (pd_ HB.out);have p594 : 0 ≤ (x5_1 : Int):=oda_;have q594 : x5_1 < (l0.length : Int):=oda_;obtain ⟨ad594,e594,hx594_0,hx594_1,hx594_2,hx594_3⟩:=at_T126 HR0.out x5_1 p594 q594;have hw594_3:=hx594_3;have hw594_2:=hx594_2;have hw594_1:=hx594_1;have hw594_0:=hx594_0;obtain rfl : ad593 = ad594:=(by injection e594);replace hx594_0:=(HB.out.cell (wb_ w _ hx594_0)).trans hx594_0;replace hx594_1:=(HB.out.cell (wb_ w _ hx594_1)).trans hx594_1;replace hx594_2:=(HB.out.cell (wb_ w _ hx594_2)).trans hx594_2;replace hx594_3:=(HB.out.cell (wb_ w _ hx594_3)).trans hx594_3;replace p594:=eq_true p594;replace q594:=eq_true q594;refine start_ (n:=8) (S:=fun w' => w'.cell? (ad593.add ((x5_1).toNat * 4)) = some (.int .i64 ((rd_T126 l0 x5_1).f0)) ∧ w'.cell? ⟨(ad593.add ((x5_1).toNat * 4)).block,(ad593.add ((x5_1).toNat * 4)).off + 1,none⟩ = some (.string ((rd_T126 l0 x5_1).f1)) ∧ w'.cell? ⟨(ad593.add ((x5_1).toNat * 4)).block,(ad593.add ((x5_1).toNat * 4)).off + 2,none⟩ = some (.string ((rd_T126 l0 x5_1).f2)) ∧ w'.cell? ⟨(ad593.add ((x5_1).toNat * 4)).block,(ad593.add ((x5_1).toNat * 4)).off + 3,none⟩ = some (.string ((rd_T126 l0 x5_1).f3))) (ds:=[]) #[false,false,false,false,false,false,false,false] (by kernel_rfl) rfl rfl ⟨((HB.out.cell (wb_ w _ hw594_0)).trans hw594_0),((HB.out.cell (wb_ w _ hw594_1)).trans hw594_1),((HB.out.cell (wb_ w _ hw594_2)).trans hw594_2),((HB.out.cell (wb_ w _ hw594_3)).trans hw594_3)⟩ (fun hHeld => ?_);refine with_tabW laws_heldRawS.tab7 laws_heldRawS.bits7 (fun HT_ HW_ => ?_);generalize wr.drew = w18 at HB hx594_0 hx594_1 hx594_2 hx594_3 hHeld ⊢;refine pU_ 0 (some 21) ?_
         refine pU_ 1 (some 22) ?_
         refine pU_ 2 (some 23) ?_
         refine pU_ 3 (some 24) ?_
         refine pU_ 5 (some 26) ?_
         refine tK_ 4 (some 25) hHeld ?_
         refine oN_ 6 (some 27) (fun K hK => ?_);refine gs_ Try.func59 #[.int .i64 (wrap64 (x1_1 + 1))] ?_;with_reducible refine (laws_markText.calls k1 (wrap64 (x1_1 + 1)) t595 _ A6.out).mono ?_;rintro e w19 ⟨rfl,hb⟩;refine ⟨_,rfl,?_⟩;replace HB:=bS_ HB hb
         (try clear hb)
         refine hK.out _ _ ⟨((HB.out.cell (wb_ w _ hw594_0)).trans hw594_0),((HB.out.cell (wb_ w _ hw594_1)).trans hw594_1),((HB.out.cell (wb_ w _ hw594_2)).trans hw594_2),((HB.out.cell (wb_ w _ hw594_3)).trans hw594_3)⟩ (fun hHeld => ?_);clear hK K;refine nX_ (some 27) ?_
         refine pU_ 7 (some 28) ?_
         refine done_ (done_of HT_.out (by kernel_rfl)) ?_
         try go_wp2
         replace HB:=A_ (pd_ HB.out);have p596 : 0 ≤ (x5_1 : Int):=oda_;have q596 : x5_1 < (l0.length : Int):=oda_;obtain ⟨ad596,e596,hx596_0,hx596_1,hx596_2,hx596_3⟩:=at_T126 HR0.out x5_1 p596 q596;have hw596_3:=hx596_3;have hw596_2:=hx596_2;have hw596_1:=hx596_1;have hw596_0:=hx596_0;obtain rfl : ad593 = ad596:=(by injection e596);replace hx596_0:=(HB.out.cell (wb_ w _ hx596_0)).trans hx596_0;replace hx596_1:=(HB.out.cell (wb_ w _ hx596_1)).trans hx596_1;replace hx596_2:=(HB.out.cell (wb_ w _ hx596_2)).trans hx596_2;replace hx596_3:=(HB.out.cell (wb_ w _ hx596_3)).trans hx596_3;replace p596:=eq_true p596;replace q596:=eq_true q596;refine start_ (n:=8) (S:=fun w' => w'.cell? (ad593.add ((x5_1).toNat * 4)) = some (.int .i64 ((rd_T126 l0 x5_1).f0)) ∧ w'.cell? ⟨(ad593.add ((x5_1).toNat * 4)).block,(ad593.add ((x5_1).toNat * 4)).off + 1,none⟩ = some (.string ((rd_T126 l0 x5_1).f1)) ∧ w'.cell? ⟨(ad593.add ((x5_1).toNat * 4)).block,(ad593.add ((x5_1).toNat * 4)).off + 2,none⟩ = some (.string ((rd_T126 l0 x5_1).f2)) ∧ w'.cell? ⟨(ad593.add ((x5_1).toNat * 4)).block,(ad593.add ((x5_1).toNat * 4)).off + 3,none⟩ = some (.string ((rd_T126 l0 x5_1).f3))) (ds:=[]) #[false,false,false,false,false,false,false,false] (by kernel_rfl) rfl rfl ⟨((HB.out.cell (wb_ w _ hw596_0)).trans hw596_0),((HB.out.cell (wb_ w _ hw596_1)).trans hw596_1),((HB.out.cell (wb_ w _ hw596_2)).trans hw596_2),((HB.out.cell (wb_ w _ hw596_3)).trans hw596_3)⟩ (fun hHeld => ?_);refine with_tabW laws_heldRawS.tab10 laws_heldRawS.bits10 (fun HT_ HW_ => ?_);generalize w19.drew = w20 at HB hx596_0 hx596_1 hx596_2 hx596_3 hHeld ⊢;refine pU_ 0 (some 31) ?_
         refine pU_ 1 (some 32) ?_
         refine pU_ 2 (some 33) ?_
         refine pU_ 3 (some 34) ?_
         refine pU_ 5 (some 36) ?_
         refine tK_ 4 (some 35) hHeld ?_
         refine oN_ 6 (some 37) (fun K hK => ?_);refine gs_ Try.func59 #[.int .i64 (wrap64 ((wrap64 (x1_1 + 1)) + 1))] ?_;with_reducible refine (laws_markText.calls k1 (wrap64 ((wrap64 (x1_1 + 1)) + 1)) t597 _ A8.out).mono ?_;rintro e w21 ⟨rfl,hb⟩;refine ⟨_,rfl,?_⟩;replace HB:=bS_ HB hb
         (try clear hb)
         refine hK.out _ _ ⟨((HB.out.cell (wb_ w _ hw596_0)).trans hw596_0),((HB.out.cell (wb_ w _ hw596_1)).trans hw596_1),((HB.out.cell (wb_ w _ hw596_2)).trans hw596_2),((HB.out.cell (wb_ w _ hw596_3)).trans hw596_3)⟩ (fun hHeld => ?_);clear hK K;refine nX_ (some 37) ?_
         refine pU_ 7 (some 38) ?_
         refine done_ (done_of HT_.out (by kernel_rfl)) ?_
         try go_wp2
         replace HB:=A_ (pd_ HB.out);have p598 : 0 ≤ (x5_1 : Int):=oda_;have q598 : x5_1 < (l0.length : Int):=oda_;obtain ⟨ad598,e598,hx598_0,hx598_1,hx598_2,hx598_3⟩:=at_T126 HR0.out x5_1 p598 q598;have hw598_3:=hx598_3;have hw598_2:=hx598_2;have hw598_1:=hx598_1;have hw598_0:=hx598_0;obtain rfl : ad593 = ad598:=(by injection e598);replace hx598_0:=(HB.out.cell (wb_ w _ hx598_0)).trans hx598_0;replace hx598_1:=(HB.out.cell (wb_ w _ hx598_1)).trans hx598_1;replace hx598_2:=(HB.out.cell (wb_ w _ hx598_2)).trans hx598_2;replace hx598_3:=(HB.out.cell (wb_ w _ hx598_3)).trans hx598_3;replace p598:=eq_true p598;replace q598:=eq_true q598;refine start_ (n:=8) (S:=fun w' => w'.cell? (ad593.add ((x5_1).toNat * 4)) = some (.int .i64 ((rd_T126 l0 x5_1).f0)) ∧ w'.cell? ⟨(ad593.add ((x5_1).toNat * 4)).block,(ad593.add ((x5_1).toNat * 4)).off + 1,none⟩ = some (.string ((rd_T126 l0 x5_1).f1)) ∧ w'.cell? ⟨(ad593.add ((x5_1).toNat * 4)).block,(ad593.add ((x5_1).toNat * 4)).off + 2,none⟩ = some (.string ((rd_T126 l0 x5_1).f2)) ∧ w'.cell? ⟨(ad593.add ((x5_1).toNat * 4)).block,(ad593.add ((x5_1).toNat * 4)).off + 3,none⟩ = some (.string ((rd_T126 l0 x5_1).f3))) (ds:=[]) #[false,false,false,false,false,false,false,false] (by kernel_rfl) rfl rfl ⟨((HB.out.cell (wb_ w _ hw598_0)).trans hw598_0),((HB.out.cell (wb_ w _ hw598_1)).trans hw598_1),((HB.out.cell (wb_ w _ hw598_2)).trans hw598_2),((HB.out.cell (wb_ w _ hw598_3)).trans hw598_3)⟩ (fun hHeld => ?_);refine with_tabW laws_heldRawS.tab13 laws_heldRawS.bits13 (fun HT_ HW_ => ?_);generalize w21.drew = w22 at HB hx598_0 hx598_1 hx598_2 hx598_3 hHeld ⊢;refine pU_ 0 (some 41) ?_
         refine pU_ 1 (some 42) ?_
         refine pU_ 2 (some 43) ?_
         refine pU_ 3 (some 44) ?_
         refine pU_ 5 (some 46) ?_
         refine tK_ 4 (some 45) hHeld ?_
         refine oN_ 6 (some 47) (fun K hK => ?_);refine gs_ Try.func59 #[.int .i64 (wrap64 ((wrap64 ((wrap64 (x1_1 + 1)) + 1)) + 1))] ?_;with_reducible refine (laws_markText.calls k1 (wrap64 ((wrap64 ((wrap64 (x1_1 + 1)) + 1)) + 1)) t599 _ A10.out).mono ?_;rintro e w23 ⟨rfl,hb⟩;refine ⟨_,rfl,?_⟩;replace HB:=bS_ HB hb
         (try clear hb)
         refine hK.out _ _ ⟨((HB.out.cell (wb_ w _ hw598_0)).trans hw598_0),((HB.out.cell (wb_ w _ hw598_1)).trans hw598_1),((HB.out.cell (wb_ w _ hw598_2)).trans hw598_2),((HB.out.cell (wb_ w _ hw598_3)).trans hw598_3)⟩ (fun hHeld => ?_);clear hK K;refine nX_ (some 47) ?_
         refine pU_ 7 (some 48) ?_
         refine done_ (done_of HT_.out (by kernel_rfl)) ?_
         try go_wp2
         go_ret;exact ⟨ex_,bq_ HB⟩
       ·rw [if_neg c9] at H;have c9b0 : (((rd_T126 l0 x5_1).f2).toList == t597.toList) = false:=beq_eq_false_iff_ne.mpr c9;have c9b1 : (((rd_T126 l0 x5_1).f2).toList != t597.toList) = true:=bne_iff_ne.mpr c9;obtain rfl:=Option.some.inj H;have p593 : 0 ≤ (x5_1 : Int):=oda_;have q593 : x5_1 < (l0.length : Int):=oda_;obtain ⟨ad593,e593,hx593_0,hx593_1,hx593_2,hx593_3⟩:=at_T126 HR0.out x5_1 p593 q593
        cases e593
        replace hx593_0:=(HB.out.cell (wb_ w _ hx593_0)).trans hx593_0;replace hx593_1:=(HB.out.cell (wb_ w _ hx593_1)).trans hx593_1;replace hx593_2:=(HB.out.cell (wb_ w _ hx593_2)).trans hx593_2;replace hx593_3:=(HB.out.cell (wb_ w _ hx593_3)).trans hx593_3;replace p593:=eq_true p593;replace q593:=eq_true q593
        try go_wp2
        replace HB:=A_ (pd_ HB.out);have p594 : 0 ≤ (x5_1 : Int):=oda_;have q594 : x5_1 < (l0.length : Int):=oda_;obtain ⟨ad594,e594,hx594_0,hx594_1,hx594_2,hx594_3⟩:=at_T126 HR0.out x5_1 p594 q594;have hw594_3:=hx594_3;have hw594_2:=hx594_2;have hw594_1:=hx594_1;have hw594_0:=hx594_0;obtain rfl : ad593 = ad594:=(by injection e594);replace hx594_0:=(HB.out.cell (wb_ w _ hx594_0)).trans hx594_0;replace hx594_1:=(HB.out.cell (wb_ w _ hx594_1)).trans hx594_1;replace hx594_2:=(HB.out.cell (wb_ w _ hx594_2)).trans hx594_2;replace hx594_3:=(HB.out.cell (wb_ w _ hx594_3)).trans hx594_3;replace p594:=eq_true p594;replace q594:=eq_true q594;refine start_ (n:=8) (S:=fun w' => w'.cell? (ad593.add ((x5_1).toNat * 4)) = some (.int .i64 ((rd_T126 l0 x5_1).f0)) ∧ w'.cell? ⟨(ad593.add ((x5_1).toNat * 4)).block,(ad593.add ((x5_1).toNat * 4)).off + 1,none⟩ = some (.string ((rd_T126 l0 x5_1).f1)) ∧ w'.cell? ⟨(ad593.add ((x5_1).toNat * 4)).block,(ad593.add ((x5_1).toNat * 4)).off + 2,none⟩ = some (.string ((rd_T126 l0 x5_1).f2)) ∧ w'.cell? ⟨(ad593.add ((x5_1).toNat * 4)).block,(ad593.add ((x5_1).toNat * 4)).off + 3,none⟩ = some (.string ((rd_T126 l0 x5_1).f3))) (ds:=[]) #[false,false,false,false,false,false,false,false] (by kernel_rfl) rfl rfl ⟨((HB.out.cell (wb_ w _ hw594_0)).trans hw594_0),((HB.out.cell (wb_ w _ hw594_1)).trans hw594_1),((HB.out.cell (wb_ w _ hw594_2)).trans hw594_2),((HB.out.cell (wb_ w _ hw594_3)).trans hw594_3)⟩ (fun hHeld => ?_);refine with_tabW laws_heldRawS.tab7 laws_heldRawS.bits7 (fun HT_ HW_ => ?_);generalize wr.drew = w24 at HB hx594_0 hx594_1 hx594_2 hx594_3 hHeld ⊢;refine pU_ 0 (some 21) ?_
        refine pU_ 1 (some 22) ?_
        refine pU_ 2 (some 23) ?_
        refine pU_ 3 (some 24) ?_
        refine pU_ 5 (some 26) ?_
        refine tK_ 4 (some 25) hHeld ?_
        refine oN_ 6 (some 27) (fun K hK => ?_);refine gs_ Try.func59 #[.int .i64 (wrap64 (x1_1 + 1))] ?_;with_reducible refine (laws_markText.calls k1 (wrap64 (x1_1 + 1)) t595 _ A6.out).mono ?_;rintro e w25 ⟨rfl,hb⟩;refine ⟨_,rfl,?_⟩;replace HB:=bS_ HB hb
        (try clear hb)
        refine hK.out _ _ ⟨((HB.out.cell (wb_ w _ hw594_0)).trans hw594_0),((HB.out.cell (wb_ w _ hw594_1)).trans hw594_1),((HB.out.cell (wb_ w _ hw594_2)).trans hw594_2),((HB.out.cell (wb_ w _ hw594_3)).trans hw594_3)⟩ (fun hHeld => ?_);clear hK K;refine nX_ (some 27) ?_
        refine pU_ 7 (some 28) ?_
        refine done_ (done_of HT_.out (by kernel_rfl)) ?_
        try go_wp2
        replace HB:=A_ (pd_ HB.out);have p596 : 0 ≤ (x5_1 : Int):=oda_;have q596 : x5_1 < (l0.length : Int):=oda_;obtain ⟨ad596,e596,hx596_0,hx596_1,hx596_2,hx596_3⟩:=at_T126 HR0.out x5_1 p596 q596;have hw596_3:=hx596_3;have hw596_2:=hx596_2;have hw596_1:=hx596_1;have hw596_0:=hx596_0;obtain rfl : ad593 = ad596:=(by injection e596);replace hx596_0:=(HB.out.cell (wb_ w _ hx596_0)).trans hx596_0;replace hx596_1:=(HB.out.cell (wb_ w _ hx596_1)).trans hx596_1;replace hx596_2:=(HB.out.cell (wb_ w _ hx596_2)).trans hx596_2;replace hx596_3:=(HB.out.cell (wb_ w _ hx596_3)).trans hx596_3;replace p596:=eq_true p596;replace q596:=eq_true q596;refine start_ (n:=8) (S:=fun w' => w'.cell? (ad593.add ((x5_1).toNat * 4)) = some (.int .i64 ((rd_T126 l0 x5_1).f0)) ∧ w'.cell? ⟨(ad593.add ((x5_1).toNat * 4)).block,(ad593.add ((x5_1).toNat * 4)).off + 1,none⟩ = some (.string ((rd_T126 l0 x5_1).f1)) ∧ w'.cell? ⟨(ad593.add ((x5_1).toNat * 4)).block,(ad593.add ((x5_1).toNat * 4)).off + 2,none⟩ = some (.string ((rd_T126 l0 x5_1).f2)) ∧ w'.cell? ⟨(ad593.add ((x5_1).toNat * 4)).block,(ad593.add ((x5_1).toNat * 4)).off + 3,none⟩ = some (.string ((rd_T126 l0 x5_1).f3))) (ds:=[]) #[false,false,false,false,false,false,false,false] (by kernel_rfl) rfl rfl ⟨((HB.out.cell (wb_ w _ hw596_0)).trans hw596_0),((HB.out.cell (wb_ w _ hw596_1)).trans hw596_1),((HB.out.cell (wb_ w _ hw596_2)).trans hw596_2),((HB.out.cell (wb_ w _ hw596_3)).trans hw596_3)⟩ (fun hHeld => ?_);refine with_tabW laws_heldRawS.tab10 laws_heldRawS.bits10 (fun HT_ HW_ => ?_);generalize w25.drew = w26 at HB hx596_0 hx596_1 hx596_2 hx596_3 hHeld ⊢;refine pU_ 0 (some 31) ?_
        refine pU_ 1 (some 32) ?_
        refine pU_ 2 (some 33) ?_
        refine pU_ 3 (some 34) ?_
        refine pU_ 5 (some 36) ?_
        refine tK_ 4 (some 35) hHeld ?_
        refine oN_ 6 (some 37) (fun K hK => ?_);refine gs_ Try.func59 #[.int .i64 (wrap64 ((wrap64 (x1_1 + 1)) + 1))] ?_;with_reducible refine (laws_markText.calls k1 (wrap64 ((wrap64 (x1_1 + 1)) + 1)) t597 _ A8.out).mono ?_;rintro e w27 ⟨rfl,hb⟩;refine ⟨_,rfl,?_⟩;replace HB:=bS_ HB hb
        (try clear hb)
        refine hK.out _ _ ⟨((HB.out.cell (wb_ w _ hw596_0)).trans hw596_0),((HB.out.cell (wb_ w _ hw596_1)).trans hw596_1),((HB.out.cell (wb_ w _ hw596_2)).trans hw596_2),((HB.out.cell (wb_ w _ hw596_3)).trans hw596_3)⟩ (fun hHeld => ?_);clear hK K;refine nX_ (some 37) ?_
        refine pU_ 7 (some 38) ?_
        refine done_ (done_of HT_.out (by kernel_rfl)) ?_
        try go_wp2
        go_ret;exact ⟨ex_,bq_ HB⟩
      ·rw [if_neg c7] at H;have c7b0 : (((rd_T126 l0 x5_1).f1).toList == t595.toList) = false:=beq_eq_false_iff_ne.mpr c7;have c7b1 : (((rd_T126 l0 x5_1).f1).toList != t595.toList) = true:=bne_iff_ne.mpr c7;obtain rfl:=Option.some.inj H;have p593 : 0 ≤ (x5_1 : Int):=oda_;have q593 : x5_1 < (l0.length : Int):=oda_;obtain ⟨ad593,e593,hx593_0,hx593_1,hx593_2,hx593_3⟩:=at_T126 HR0.out x5_1 p593 q593
       cases e593
       replace hx593_0:=(HB.out.cell (wb_ w _ hx593_0)).trans hx593_0;replace hx593_1:=(HB.out.cell (wb_ w _ hx593_1)).trans hx593_1;replace hx593_2:=(HB.out.cell (wb_ w _ hx593_2)).trans hx593_2;replace hx593_3:=(HB.out.cell (wb_ w _ hx593_3)).trans hx593_3;replace p593:=eq_true p593;replace q593:=eq_true q593
       try go_wp2
       replace HB:=A_ (pd_ HB.out);have p594 : 0 ≤ (x5_1 : Int):=oda_;have q594 : x5_1 < (l0.length : Int):=oda_;obtain ⟨ad594,e594,hx594_0,hx594_1,hx594_2,hx594_3⟩:=at_T126 HR0.out x5_1 p594 q594;have hw594_3:=hx594_3;have hw594_2:=hx594_2;have hw594_1:=hx594_1;have hw594_0:=hx594_0;obtain rfl : ad593 = ad594:=(by injection e594);replace hx594_0:=(HB.out.cell (wb_ w _ hx594_0)).trans hx594_0;replace hx594_1:=(HB.out.cell (wb_ w _ hx594_1)).trans hx594_1;replace hx594_2:=(HB.out.cell (wb_ w _ hx594_2)).trans hx594_2;replace hx594_3:=(HB.out.cell (wb_ w _ hx594_3)).trans hx594_3;replace p594:=eq_true p594;replace q594:=eq_true q594;refine start_ (n:=8) (S:=fun w' => w'.cell? (ad593.add ((x5_1).toNat * 4)) = some (.int .i64 ((rd_T126 l0 x5_1).f0)) ∧ w'.cell? ⟨(ad593.add ((x5_1).toNat * 4)).block,(ad593.add ((x5_1).toNat * 4)).off + 1,none⟩ = some (.string ((rd_T126 l0 x5_1).f1)) ∧ w'.cell? ⟨(ad593.add ((x5_1).toNat * 4)).block,(ad593.add ((x5_1).toNat * 4)).off + 2,none⟩ = some (.string ((rd_T126 l0 x5_1).f2)) ∧ w'.cell? ⟨(ad593.add ((x5_1).toNat * 4)).block,(ad593.add ((x5_1).toNat * 4)).off + 3,none⟩ = some (.string ((rd_T126 l0 x5_1).f3))) (ds:=[]) #[false,false,false,false,false,false,false,false] (by kernel_rfl) rfl rfl ⟨((HB.out.cell (wb_ w _ hw594_0)).trans hw594_0),((HB.out.cell (wb_ w _ hw594_1)).trans hw594_1),((HB.out.cell (wb_ w _ hw594_2)).trans hw594_2),((HB.out.cell (wb_ w _ hw594_3)).trans hw594_3)⟩ (fun hHeld => ?_);refine with_tabW laws_heldRawS.tab7 laws_heldRawS.bits7 (fun HT_ HW_ => ?_);generalize wr.drew = w28 at HB hx594_0 hx594_1 hx594_2 hx594_3 hHeld ⊢;refine pU_ 0 (some 21) ?_
       refine pU_ 1 (some 22) ?_
       refine pU_ 2 (some 23) ?_
       refine pU_ 3 (some 24) ?_
       refine pU_ 5 (some 26) ?_
       refine tK_ 4 (some 25) hHeld ?_
       refine oN_ 6 (some 27) (fun K hK => ?_);refine gs_ Try.func59 #[.int .i64 (wrap64 (x1_1 + 1))] ?_;with_reducible refine (laws_markText.calls k1 (wrap64 (x1_1 + 1)) t595 _ A6.out).mono ?_;rintro e w29 ⟨rfl,hb⟩;refine ⟨_,rfl,?_⟩;replace HB:=bS_ HB hb
       (try clear hb)
       refine hK.out _ _ ⟨((HB.out.cell (wb_ w _ hw594_0)).trans hw594_0),((HB.out.cell (wb_ w _ hw594_1)).trans hw594_1),((HB.out.cell (wb_ w _ hw594_2)).trans hw594_2),((HB.out.cell (wb_ w _ hw594_3)).trans hw594_3)⟩ (fun hHeld => ?_);clear hK K;refine nX_ (some 27) ?_
       refine pU_ 7 (some 28) ?_
       refine done_ (done_of HT_.out (by kernel_rfl)) ?_
       try go_wp2
       go_ret;exact ⟨ex_,bq_ HB⟩
     ·rw [if_neg c5] at H;have c5b0 : (((rd_T126 l0 x5_1).f0) == x1_1) = false:=beq_eq_false_iff_ne.mpr c5;have c5b1 : (((rd_T126 l0 x5_1).f0) != x1_1) = true:=bne_iff_ne.mpr c5;obtain rfl:=Option.some.inj H;have p593 : 0 ≤ (x5_1 : Int):=oda_;have q593 : x5_1 < (l0.length : Int):=oda_;obtain ⟨ad593,e593,hx593_0,hx593_1,hx593_2,hx593_3⟩:=at_T126 HR0.out x5_1 p593 q593
      cases e593
      replace hx593_0:=(HB.out.cell (wb_ w _ hx593_0)).trans hx593_0;replace hx593_1:=(HB.out.cell (wb_ w _ hx593_1)).trans hx593_1;replace hx593_2:=(HB.out.cell (wb_ w _ hx593_2)).trans hx593_2;replace hx593_3:=(HB.out.cell (wb_ w _ hx593_3)).trans hx593_3;replace p593:=eq_true p593;replace q593:=eq_true q593;go_wp2;go_ret;exact ⟨ex_,bq_ HB⟩
    ·rw [if_neg c4] at H;exact absurd H (by simp)
   ·rw [if_neg c3] at H;have c3b0 : decide (x5_1 < (l0.length : Int)) = false:=decide_eq_false c3;clear c3;obtain rfl:=Option.some.inj H;go_wp2;go_ret;exact ⟨ex_,bq_ HB⟩
end Go.Proofs.Ytbcgnncbiblibaa.PFnExactLogSteps
