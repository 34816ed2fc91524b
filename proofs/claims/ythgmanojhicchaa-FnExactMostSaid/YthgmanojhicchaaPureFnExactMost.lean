/- The law FnExactMost answers true: the program's Most returns what the reference's returns, and leaves its arguments as they were. For all arguments; no further condition. -/
import Derived.Test.YthgmanojhicchaaPFnExactMostx2
import Derived.Test.YthgmanojhicchaaBase
namespace Go.Proofs.Ythgmanojhicchaa.Pure
open Go.RowKit Go.Proofs.Ythgmanojhicchaa.PFnExactMost Go.Proofs.YthgmanojhicchaaW.PrintWords Go.Proofs.YthgmanojhicchaaW.PrintLast Go.Proofs.Ythgmanojhicchaa.Base

theorem spec_l01In_eq (a b c : Int) : spec_l01In.f a b c = some (inR a b c) := by
  unfold spec_l01In.f inR
  by_cases h : b ≤ a
  · rw [if_pos h]; simp [h]
  · rw [if_neg h]; simp [h]
theorem impl_within_eq (a b c : Int) : impl_within.f a b c = some (inR a b c) := by
  unfold impl_within.f inR
  by_cases h : b ≤ a
  · rw [if_pos h]; simp [h]
  · rw [if_neg h]; simp [h]
theorem spec_l07Rise_loop (xs : List Int) (lo hi : Int) (hx : xs.length ≤ 9223372036854775806) : ∀ (rest : List Int) (n : Nat), xs.drop n = rest →
    Ev (fun k => spec_l07Rise.l0 k xs lo hi (n : Int)) (rise lo hi (prevOf xs n) rest) := by
  intro rest
  induction rest with
  | nil =>
    intro n h
    have := drop_nil h
    refine Ev.step (fun _ => rfl) ?_
    simp only [spec_l07Rise.l0]
    exact Ev.neg (by omega) (Ev.done (by cases n <;> rfl))
  | cons x t ih =>
    intro n h
    obtain ⟨h1, -, h3⟩ := drop_cons h
    have ih := ih (n + 1) h3
    rw [prevOf_next h] at ih
    refine Ev.step (fun _ => rfl) ?_
    simp only [spec_l07Rise.l0, drop_rd h, wrap64_succ (show n ≤ 9223372036854775806 by omega)]
    refine Ev.pos (by omega) (Ev.pos (by omega) (Ev.call (spec_l01In_eq _ _ _) ?_))
    cases hb : inR x lo hi
    · exact Ev.neg (by simp) (Ev.done (by cases n <;> simp [rise, prevOf, hb]))
    · refine Ev.pos rfl ?_
      cases n with
      | zero => exact Ev.neg (by omega) (Ev.eq ih (by simp [rise, prevOf, hb]))
      | succ m =>
        refine Ev.pos (by omega) ?_
        simp only [wrap64_pred (show m ≤ 9223372036854775806 by omega)]
        refine Ev.pos (by omega) (Ev.pos (by omega) (Ev.ite (fun hc => Ev.done ?_) (fun hc => Ev.eq ih ?_)))
        · simp only [prevOf, rise, hb, decide_eq_false (show ¬ rd xs (m : Int) < x by omega)]; simp
        · simp only [prevOf, rise, hb, decide_eq_true (show rd xs (m : Int) < x by omega)]; simp
theorem spec_l07Rise_ev (xs : List Int) (lo hi : Int) (hx : xs.length ≤ 9223372036854775806) : Ev (fun k => spec_l07Rise.f k xs lo hi) (rise lo hi none xs) :=
  spec_l07Rise_loop xs lo hi hx xs 0 rfl
theorem spec_ConfOk_ev (xs : List Int) (hx : xs.length ≤ 9223372036854775806) : Ev (fun k => spec_ConfOk.f k xs) (confOk xs) := by
  unfold spec_ConfOk.f
  refine Ev.call (spec_l01In_eq _ _ _) ?_
  cases hb : inR xs.length 1 4
  · exact Ev.neg (by simp) (Ev.done (by simp [confOk, hb]))
  · exact Ev.pos rfl (Ev.bind (spec_l07Rise_ev xs 1 4 hx) (Ev.done (by simp [confOk, hb])))
theorem impl_ConfOk_loop (xs : List Int) (hx : xs.length ≤ 9223372036854775806) : ∀ (rest : List Int) (n : Nat), xs.drop n = rest →
    Ev (fun k => impl_ConfOk.l0 k xs xs (xs.length : Int) (n : Int)) (rise 1 4 (prevOf xs n) rest && inR xs.length 1 4) := by
  intro rest
  induction rest with
  | nil =>
    intro n h
    have := drop_nil h
    refine Ev.step (fun _ => rfl) ?_
    simp only [impl_ConfOk.l0]
    exact Ev.neg (by omega) (Ev.call (impl_within_eq _ _ _) (Ev.done (by cases n <;> simp [rise])))
  | cons x t ih =>
    intro n h
    obtain ⟨h1, -, h3⟩ := drop_cons h
    have ih := ih (n + 1) h3
    rw [prevOf_next h] at ih
    refine Ev.step (fun _ => rfl) ?_
    simp only [impl_ConfOk.l0, drop_rd h, wrap64_succ (show n ≤ 9223372036854775806 by omega)]
    refine Ev.pos (by omega) (Ev.pos (by omega) (Ev.pos (by omega) (Ev.call (impl_within_eq _ _ _) ?_)))
    cases hb : inR x 1 4
    · exact Ev.neg (by simp) (Ev.done (by cases n <;> simp [rise, prevOf, hb]))
    · refine Ev.pos rfl ?_
      cases n with
      | zero => exact Ev.neg (by omega) (Ev.eq ih (by simp [rise, prevOf, hb]))
      | succ m =>
        refine Ev.pos (by omega) ?_
        simp only [wrap64_pred (show m ≤ 9223372036854775806 by omega)]
        refine Ev.pos (by omega) (Ev.pos (by omega) (Ev.ite (fun hc => Ev.done ?_) (fun hc => Ev.eq ih ?_)))
        · simp only [prevOf, rise, hb, decide_eq_false (show ¬ rd xs (m : Int) < x by omega)]; simp
        · simp only [prevOf, rise, hb, decide_eq_true (show rd xs (m : Int) < x by omega)]; simp
theorem impl_ConfOk_ev (xs : List Int) (hx : xs.length ≤ 9223372036854775806) : Ev (fun k => impl_ConfOk.f k xs) (confOk xs) :=
  Ev.eq (impl_ConfOk_loop xs hx xs 0 rfl) (by rw [confOk, Bool.and_comm]; rfl)
theorem laws_toIntS_loop (xs : List Int) (hx : xs.length ≤ 1048576) : ∀ (d n : Nat), n + d = xs.length →
    Ev (fun k => laws_toIntS.l0 k xs (xs.take n ++ List.replicate d 0) (n : Int)) xs := by
  intro d
  induction d with
  | zero =>
    intro n h
    refine Ev.step (fun _ => rfl) ?_
    simp only [laws_toIntS.l0]
    exact Ev.neg (by omega) (Ev.done (by rw [List.take_of_length_le (by omega)]; simp))
  | succ d ih =>
    intro n h
    refine Ev.step (fun _ => rfl) ?_
    simp only [laws_toIntS.l0, wrap64_succ (show n ≤ 9223372036854775806 by omega)]
    refine Ev.pos (by omega) (Ev.pos (by omega) (Ev.pos (by simp; omega) (Ev.eq (Ev.congr (fun k => ?_) (ih (n + 1) (by omega))) rfl)))
    rw [Int.toNat_natCast, set_fill xs n d 0 _ h (by rw [rd_nat]; exact getD_get (by omega))]
theorem laws_toIntS_ev (xs : List Int) (hx : xs.length ≤ 1048576) : Ev (fun k => laws_toIntS.f k xs) xs := by
  unfold laws_toIntS.f
  refine Ev.pos (by omega) (Ev.pos (by omega) ?_)
  exact Ev.congr (fun k => by simp) (laws_toIntS_loop xs hx xs.length 0 (by omega))
theorem laws_eqIntS_loop (xs : List Int) (hx : xs.length ≤ 9223372036854775806) : ∀ (rest : List Int) (n : Nat), xs.drop n = rest → Ev (fun k => laws_eqIntS.l0 k xs xs (n : Int)) true := by
  intro rest
  induction rest with
  | nil =>
    intro n h
    have := drop_nil h
    refine Ev.step (fun _ => rfl) ?_
    simp only [laws_eqIntS.l0]
    exact Ev.neg (by omega) (Ev.now _)
  | cons x t ih =>
    intro n h
    obtain ⟨h1, -, h3⟩ := drop_cons h
    refine Ev.step (fun _ => rfl) ?_
    simp only [laws_eqIntS.l0, wrap64_succ (show n ≤ 9223372036854775806 by omega)]
    exact Ev.pos (by omega) (Ev.pos (by omega) (Ev.pos (by omega) (Ev.pos trivial (ih (n + 1) h3))))
theorem laws_eqIntS_refl (xs : List Int) (hx : xs.length ≤ 9223372036854775806) : Ev (fun k => laws_eqIntS.f k xs xs) true :=
  Ev.pos rfl (laws_eqIntS_loop xs hx xs 0 rfl)
theorem spec_l09In_loop (xs : List Int) (v : Int) (hx : xs.length ≤ 9223372036854775806) : ∀ (rest : List Int) (n : Nat), xs.drop n = rest →
    Ev (fun k => spec_l09In.l0 k xs v (n : Int)) (rest.contains v) := by
  intro rest
  induction rest with
  | nil =>
    intro n h
    have := drop_nil h
    refine Ev.step (fun _ => rfl) ?_
    simp only [spec_l09In.l0]
    exact Ev.neg (by omega) (Ev.done (by simp))
  | cons x t ih =>
    intro n h
    obtain ⟨h1, -, h3⟩ := drop_cons h
    refine Ev.step (fun _ => rfl) ?_
    simp only [spec_l09In.l0, drop_rd h, wrap64_succ (show n ≤ 9223372036854775806 by omega)]
    refine Ev.pos (by omega) (Ev.pos (by omega) (Ev.ite (fun hc => Ev.done ?_) (fun hc => Ev.eq (ih (n + 1) h3) ?_)))
    · rw [List.contains_cons, hc]; simp
    · rw [List.contains_cons, beq_eq_false_iff_ne.2 (fun e => hc e.symm)]; simp
theorem spec_l09In_ev (xs : List Int) (v : Int) (hx : xs.length ≤ 9223372036854775806) : Ev (fun k => spec_l09In.f k xs v) (xs.contains v) := spec_l09In_loop xs v hx xs 0 rfl
theorem spec_Most_loop (xs l : List Int) (hx : xs.length ≤ 1048576) (hl : l.length ≤ 1048576) : ∀ (rest : List Int) (n c : Nat), xs.drop n = rest → c ≤ n → c + countIn l rest ≤ 1048576 →
    Ev (fun k => spec_Most.l0 k xs l (c : Int) (n : Int)) (confOk xs && decide (2 * (c + countIn l rest) > xs.length)) := by
  intro rest
  induction rest with
  | nil =>
    intro n c h hc hb
    have := drop_nil h
    refine Ev.step (fun _ => rfl) ?_
    simp only [spec_Most.l0]
    refine Ev.neg (by omega) (Ev.bind (spec_ConfOk_ev xs (by omega)) ?_)
    cases hk : confOk xs
    · exact Ev.neg (by simp) (Ev.done (by simp))
    · refine Ev.pos rfl (Ev.done ?_)
      rw [countIn] at hb ⊢
      rw [wrap64_id (by omega) (by omega)]
      simp only [Bool.true_and]
      rw [decide_eq_decide]; omega
  | cons x t ih =>
    intro n c h hc hb
    obtain ⟨h1, -, h3⟩ := drop_cons h
    refine Ev.step (fun _ => rfl) ?_
    have hcl := countIn_le l t
    rw [countIn] at hb
    simp only [spec_Most.l0, drop_rd h, wrap64_succ (show n ≤ 9223372036854775806 by omega), wrap64_succ (show c ≤ 9223372036854775806 by omega)]
    refine Ev.pos (by omega) (Ev.pos (by omega) (Ev.bind (spec_l09In_ev l x (by omega)) (Ev.ite (fun hx => ?_) (fun hx => ?_))))
    · rw [if_pos hx] at hb
      refine Ev.eq (ih (n + 1) (c + 1) h3 (by omega) (by omega)) ?_
      rw [countIn, if_pos hx, Nat.add_assoc]
    · rw [if_neg hx] at hb
      refine Ev.eq (ih (n + 1) c h3 (by omega) (by omega)) ?_
      rw [countIn, if_neg hx, Nat.zero_add]
theorem spec_Most_ev (xs l : List Int) (hx : xs.length ≤ 1048576) (hl : l.length ≤ 1048576) : Ev (fun k => spec_Most.f k xs l) (most xs l) :=
  Ev.eq (spec_Most_loop xs l hx hl xs 0 0 rfl (Nat.le_refl _) (by have := countIn_le l xs; omega)) (by simp [most])
theorem slices_Index_int_int_loop (xs : List Int) (v : Int) (hx : xs.length ≤ 9223372036854775806) : ∀ (rest : List Int) (n : Nat), xs.drop n = rest →
    ∃ r, Ev (fun k => slices_Index_int_int.l0 k xs v (xs.length : Int) (n : Int)) r ∧ decide (r ≥ 0) = rest.contains v := by
  intro rest
  induction rest with
  | nil =>
    intro n h
    have := drop_nil h
    refine ⟨-1, Ev.step (fun _ => rfl) ?_, by simp⟩
    simp only [slices_Index_int_int.l0]
    exact Ev.neg (by omega) (Ev.now _)
  | cons x t ih =>
    intro n h
    obtain ⟨h1, -, h3⟩ := drop_cons h
    by_cases hc : v = x
    · refine ⟨(n : Int), Ev.step (fun _ => rfl) ?_, ?_⟩
      · simp only [slices_Index_int_int.l0, drop_rd h]
        exact Ev.pos (by omega) (Ev.pos (by omega) (Ev.pos (by omega) (Ev.pos hc (Ev.now _))))
      · rw [List.contains_cons, hc, decide_eq_true (by omega)]; simp
    · obtain ⟨r, hr, e⟩ := ih (n + 1) h3
      refine ⟨r, Ev.step (fun _ => rfl) ?_, ?_⟩
      · simp only [slices_Index_int_int.l0, drop_rd h, wrap64_succ (show n ≤ 9223372036854775806 by omega)]
        exact Ev.pos (by omega) (Ev.pos (by omega) (Ev.pos (by omega) (Ev.neg hc hr)))
      · rw [e, List.contains_cons, beq_eq_false_iff_ne.2 hc]; simp
theorem slices_Contains_int_int_ev (xs : List Int) (v : Int) (hx : xs.length ≤ 9223372036854775806) : Ev (fun k => slices_Contains_int_int.f k xs v) (xs.contains v) := by
  obtain ⟨r, hr, e⟩ := slices_Index_int_int_loop xs v hx xs 0 rfl
  exact Ev.bind hr (Ev.done e)
theorem impl_Most_loop (xs l : List Int) (hx : xs.length ≤ 1048576) (hl : l.length ≤ 1048576) : ∀ (rest : List Int) (n c : Nat), xs.drop n = rest → c ≤ n → c + countIn l rest ≤ 1048576 →
    Ev (fun k => impl_Most.l0 k xs l (c : Int) xs (xs.length : Int) (n : Int)) (confOk xs && decide (2 * (c + countIn l rest) > xs.length)) := by
  intro rest
  induction rest with
  | nil =>
    intro n c h hc hb
    have := drop_nil h
    refine Ev.step (fun _ => rfl) ?_
    simp only [impl_Most.l0]
    refine Ev.neg (by omega) (Ev.bind (impl_ConfOk_ev xs (by omega)) ?_)
    cases hk : confOk xs
    · exact Ev.neg (by simp) (Ev.done (by simp))
    · refine Ev.pos rfl (Ev.done ?_)
      rw [countIn] at hb ⊢
      rw [wrap64_id (by omega) (by omega)]
      simp only [Bool.true_and]
      rw [decide_eq_decide]; omega
  | cons x t ih =>
    intro n c h hc hb
    obtain ⟨h1, -, h3⟩ := drop_cons h
    refine Ev.step (fun _ => rfl) ?_
    have hcl := countIn_le l t
    rw [countIn] at hb
    simp only [impl_Most.l0, drop_rd h, wrap64_succ (show n ≤ 9223372036854775806 by omega), wrap64_succ (show c ≤ 9223372036854775806 by omega)]
    refine Ev.pos (by omega) (Ev.pos (by omega) (Ev.pos (by omega) (Ev.bind (slices_Contains_int_int_ev l x (by omega)) (Ev.ite (fun hx => ?_) (fun hx => ?_)))))
    · rw [if_pos hx] at hb
      refine Ev.eq (ih (n + 1) (c + 1) h3 (by omega) (by omega)) ?_
      rw [countIn, if_pos hx, Nat.add_assoc]
    · rw [if_neg hx] at hb
      refine Ev.eq (ih (n + 1) c h3 (by omega) (by omega)) ?_
      rw [countIn, if_neg hx, Nat.zero_add]
theorem impl_Most_ev (xs l : List Int) (hx : xs.length ≤ 1048576) (hl : l.length ≤ 1048576) : Ev (fun k => impl_Most.f k xs l) (most xs l) :=
  Ev.eq (impl_Most_loop xs l hx hl xs 0 0 rfl (Nat.le_refl _) (by have := countIn_le l xs; omega)) (by simp [most])
theorem laws_FnExactMost_ev (l m : List Int) : Ev (fun k => laws_FnExactMost.f k l m) true := by
  unfold laws_FnExactMost.f
  refine Ev.ite (fun _ => Ev.now _) (fun hc => Ev.ite (fun _ => Ev.now _) (fun hd => ?_))
  have hl : l.length ≤ 1048576 := by omega
  have hm : m.length ≤ 1048576 := by omega
  refine Ev.bind (laws_toIntS_ev l hl) (Ev.bind (laws_toIntS_ev m hm) (Ev.bind (spec_Most_ev l m hl hm) (Ev.bind (laws_toIntS_ev l hl) (Ev.bind (laws_toIntS_ev m hm) (Ev.bind (impl_Most_ev l m hl hm) ?_)))))
  refine Ev.neg (by simp) (Ev.bind (laws_toIntS_ev l hl) (Ev.bind (laws_eqIntS_refl l (by omega)) (Ev.pos rfl (Ev.bind (laws_toIntS_ev m hm) (Ev.bind (laws_eqIntS_refl m (by omega)) (Ev.pos rfl (Ev.now _)))))))
theorem FnExactMost_q (l m : List Int) (_ : l.length * 8 ≤ 140737488351232 ∧ ∀ x ∈ l, (Lit.int .i64 x).wf = true) (_ : m.length * 8 ≤ 140737488351232 ∧ ∀ x ∈ m, (Lit.int .i64 x).wf = true) : ∃ k, laws_FnExactMost.f k l m = some true := Ev.rounds (laws_FnExactMost_ev l m)

end Go.Proofs.Ythgmanojhicchaa.Pure
