/- The law FnExactConfText answers true: the program's ConfText returns what the reference's returns, and leaves its argument as it was. For all arguments; no further condition. -/
import Derived.Test.YthgmanojhicchaaPFnExactConfTextx2
import Derived.Test.YthgmanojhicchaaBase
namespace Go.Proofs.Ythgmanojhicchaa.Pure
open Go.RowKit Go.Proofs.Ythgmanojhicchaa.PFnExactConfText Go.Proofs.YthgmanojhicchaaW.PrintWords Go.Proofs.YthgmanojhicchaaW.PrintLast Go.Proofs.Ythgmanojhicchaa.Base

theorem spec_l01In_eq (a b c : Int) : spec_l01In.f a b c = some (inR a b c) := by
  unfold spec_l01In.f inR
  by_cases h : b ≤ a
  · rw [if_pos h]; simp [h]
  · rw [if_neg h]; simp [h]
theorem impl_within_eq (a b c : Int) : impl_within.f a b c = some (inR a b c) := by
  unfold impl_within.f inR
  by_cases h : b ≤ a
  · rw [if_pos h]; simp [h]
  · rw [if_neg h]; simp [h]
theorem spec_l07Rise_loop (xs : List Int) (lo hi : Int) (hx : xs.length ≤ 9223372036854775806) : ∀ (rest : List Int) (n : Nat), xs.drop n = rest →
    Ev (fun k => spec_l07Rise.l0 k xs lo hi (n : Int)) (rise lo hi (prevOf xs n) rest) := by
  intro rest
  induction rest with
  | nil =>
    intro n h
    have := drop_nil h
    refine Ev.step (fun _ => rfl) ?_
    simp only [spec_l07Rise.l0]
    exact Ev.neg (by omega) (Ev.done (by cases n <;> rfl))
  | cons x t ih =>
    intro n h
    obtain ⟨h1, -, h3⟩ := drop_cons h
    have ih := ih (n + 1) h3
    rw [prevOf_next h] at ih
    refine Ev.step (fun _ => rfl) ?_
    simp only [spec_l07Rise.l0, drop_rd h, wrap64_succ (show n ≤ 9223372036854775806 by omega)]
    refine Ev.pos (by omega) (Ev.pos (by omega) (Ev.call (spec_l01In_eq _ _ _) ?_))
    cases hb : inR x lo hi
    · exact Ev.neg (by simp) (Ev.done (by cases n <;> simp [rise, prevOf, hb]))
    · refine Ev.pos rfl ?_
      cases n with
      | zero => exact Ev.neg (by omega) (Ev.eq ih (by simp [rise, prevOf, hb]))
      | succ m =>
        refine Ev.pos (by omega) ?_
        simp only [wrap64_pred (show m ≤ 9223372036854775806 by omega)]
        refine Ev.pos (by omega) (Ev.pos (by omega) (Ev.ite (fun hc => Ev.done ?_) (fun hc => Ev.eq ih ?_)))
        · simp only [prevOf, rise, hb, decide_eq_false (show ¬ rd xs (m : Int) < x by omega)]; simp
        · simp only [prevOf, rise, hb, decide_eq_true (show rd xs (m : Int) < x by omega)]; simp
theorem spec_l07Rise_ev (xs : List Int) (lo hi : Int) (hx : xs.length ≤ 9223372036854775806) : Ev (fun k => spec_l07Rise.f k xs lo hi) (rise lo hi none xs) :=
  spec_l07Rise_loop xs lo hi hx xs 0 rfl
theorem spec_ConfOk_ev (xs : List Int) (hx : xs.length ≤ 9223372036854775806) : Ev (fun k => spec_ConfOk.f k xs) (confOk xs) := by
  unfold spec_ConfOk.f
  refine Ev.call (spec_l01In_eq _ _ _) ?_
  cases hb : inR xs.length 1 4
  · exact Ev.neg (by simp) (Ev.done (by simp [confOk, hb]))
  · exact Ev.pos rfl (Ev.bind (spec_l07Rise_ev xs 1 4 hx) (Ev.done (by simp [confOk, hb])))
theorem impl_ConfOk_loop (xs : List Int) (hx : xs.length ≤ 9223372036854775806) : ∀ (rest : List Int) (n : Nat), xs.drop n = rest →
    Ev (fun k => impl_ConfOk.l0 k xs xs (xs.length : Int) (n : Int)) (rise 1 4 (prevOf xs n) rest && inR xs.length 1 4) := by
  intro rest
  induction rest with
  | nil =>
    intro n h
    have := drop_nil h
    refine Ev.step (fun _ => rfl) ?_
    simp only [impl_ConfOk.l0]
    exact Ev.neg (by omega) (Ev.call (impl_within_eq _ _ _) (Ev.done (by cases n <;> simp [rise])))
  | cons x t ih =>
    intro n h
    obtain ⟨h1, -, h3⟩ := drop_cons h
    have ih := ih (n + 1) h3
    rw [prevOf_next h] at ih
    refine Ev.step (fun _ => rfl) ?_
    simp only [impl_ConfOk.l0, drop_rd h, wrap64_succ (show n ≤ 9223372036854775806 by omega)]
    refine Ev.pos (by omega) (Ev.pos (by omega) (Ev.pos (by omega) (Ev.call (impl_within_eq _ _ _) ?_)))
    cases hb : inR x 1 4
    · exact Ev.neg (by simp) (Ev.done (by cases n <;> simp [rise, prevOf, hb]))
    · refine Ev.pos rfl ?_
      cases n with
      | zero => exact Ev.neg (by omega) (Ev.eq ih (by simp [rise, prevOf, hb]))
      | succ m =>
        refine Ev.pos (by omega) ?_
        simp only [wrap64_pred (show m ≤ 9223372036854775806 by omega)]
        refine Ev.pos (by omega) (Ev.pos (by omega) (Ev.ite (fun hc => Ev.done ?_) (fun hc => Ev.eq ih ?_)))
        · simp only [prevOf, rise, hb, decide_eq_false (show ¬ rd xs (m : Int) < x by omega)]; simp
        · simp only [prevOf, rise, hb, decide_eq_true (show rd xs (m : Int) < x by omega)]; simp
theorem impl_ConfOk_ev (xs : List Int) (hx : xs.length ≤ 9223372036854775806) : Ev (fun k => impl_ConfOk.f k xs) (confOk xs) :=
  Ev.eq (impl_ConfOk_loop xs hx xs 0 rfl) (by rw [confOk, Bool.and_comm]; rfl)
theorem spec_ConfText_loop (xs : List Int) (hx : xs.length ≤ 1048576) : ∀ (rest : List Int) (n : Nat) (acc : List Int), xs.drop n = rest → acc.length = n →
    Ev (fun k => spec_ConfText.l0 k xs acc (n : Int)) (strOfNums (acc ++ rest.map (· % 256)), true) := by
  intro rest
  induction rest with
  | nil =>
    intro n acc h ha
    have := drop_nil h
    refine Ev.step (fun _ => rfl) ?_
    simp only [spec_ConfText.l0]
    exact Ev.neg (by omega) (Ev.done (by simp))
  | cons x t ih =>
    intro n acc h ha
    obtain ⟨h1, -, h3⟩ := drop_cons h
    refine Ev.step (fun _ => rfl) ?_
    simp only [spec_ConfText.l0, drop_rd h, wrap64_succ (show n ≤ 9223372036854775806 by omega)]
    exact Ev.pos (by omega) (Ev.pos (by omega) (Ev.pos (by omega) (Ev.eq (ih (n + 1) (acc ++ [x % 256]) h3 (by simp [ha])) (by simp))))
theorem spec_ConfText_ev (xs : List Int) (hx : xs.length ≤ 1048576) : Ev (fun k => spec_ConfText.f k xs) (confText xs) := by
  unfold spec_ConfText.f
  refine Ev.bind (spec_ConfOk_ev xs (by omega)) ?_
  unfold confText
  cases hb : confOk xs
  · exact Ev.neg (by simp) (Ev.done (by simp))
  · exact Ev.pos rfl (Ev.eq (spec_ConfText_loop xs hx xs 0 [] rfl rfl) (by simp))
theorem impl_ConfText_loop (xs : List Int) (hx : xs.length ≤ 1048576) : ∀ (rest : List Int) (n : Nat) (acc : List Int), xs.drop n = rest → acc.length = n →
    Ev (fun k => impl_ConfText.l0 k acc xs (xs.length : Int) (n : Int)) (strOfNums (acc ++ rest.map (· % 256)), true) := by
  intro rest
  induction rest with
  | nil =>
    intro n acc h ha
    have := drop_nil h
    refine Ev.step (fun _ => rfl) ?_
    simp only [impl_ConfText.l0]
    exact Ev.neg (by omega) (Ev.done (by simp))
  | cons x t ih =>
    intro n acc h ha
    obtain ⟨h1, -, h3⟩ := drop_cons h
    refine Ev.step (fun _ => rfl) ?_
    simp only [impl_ConfText.l0, drop_rd h, wrap64_succ (show n ≤ 9223372036854775806 by omega)]
    exact Ev.pos (by omega) (Ev.pos (by omega) (Ev.pos (by omega) (Ev.pos (by omega) (Ev.eq (ih (n + 1) (acc ++ [x % 256]) h3 (by simp [ha])) (by simp)))))
theorem impl_ConfText_ev (xs : List Int) (hx : xs.length ≤ 1048576) : Ev (fun k => impl_ConfText.f k xs) (confText xs) := by
  unfold impl_ConfText.f
  refine Ev.bind (impl_ConfOk_ev xs (by omega)) ?_
  unfold confText
  cases hb : confOk xs
  · exact Ev.neg (by simp) (Ev.done (by simp))
  · exact Ev.pos rfl (Ev.eq (impl_ConfText_loop xs hx xs 0 [] rfl rfl) (by simp))
theorem laws_toIntS_loop (xs : List Int) (hx : xs.length ≤ 1048576) : ∀ (d n : Nat), n + d = xs.length →
    Ev (fun k => laws_toIntS.l0 k xs (xs.take n ++ List.replicate d 0) (n : Int)) xs := by
  intro d
  induction d with
  | zero =>
    intro n h
    refine Ev.step (fun _ => rfl) ?_
    simp only [laws_toIntS.l0]
    exact Ev.neg (by omega) (Ev.done (by rw [List.take_of_length_le (by omega)]; simp))
  | succ d ih =>
    intro n h
    refine Ev.step (fun _ => rfl) ?_
    simp only [laws_toIntS.l0, wrap64_succ (show n ≤ 9223372036854775806 by omega)]
    refine Ev.pos (by omega) (Ev.pos (by omega) (Ev.pos (by simp; omega) (Ev.eq (Ev.congr (fun k => ?_) (ih (n + 1) (by omega))) rfl)))
    rw [Int.toNat_natCast, set_fill xs n d 0 _ h (by rw [rd_nat]; exact getD_get (by omega))]
theorem laws_toIntS_ev (xs : List Int) (hx : xs.length ≤ 1048576) : Ev (fun k => laws_toIntS.f k xs) xs := by
  unfold laws_toIntS.f
  refine Ev.pos (by omega) (Ev.pos (by omega) ?_)
  exact Ev.congr (fun k => by simp) (laws_toIntS_loop xs hx xs.length 0 (by omega))
theorem laws_eqIntS_loop (xs : List Int) (hx : xs.length ≤ 9223372036854775806) : ∀ (rest : List Int) (n : Nat), xs.drop n = rest → Ev (fun k => laws_eqIntS.l0 k xs xs (n : Int)) true := by
  intro rest
  induction rest with
  | nil =>
    intro n h
    have := drop_nil h
    refine Ev.step (fun _ => rfl) ?_
    simp only [laws_eqIntS.l0]
    exact Ev.neg (by omega) (Ev.now _)
  | cons x t ih =>
    intro n h
    obtain ⟨h1, -, h3⟩ := drop_cons h
    refine Ev.step (fun _ => rfl) ?_
    simp only [laws_eqIntS.l0, wrap64_succ (show n ≤ 9223372036854775806 by omega)]
    exact Ev.pos (by omega) (Ev.pos (by omega) (Ev.pos (by omega) (Ev.pos trivial (ih (n + 1) h3))))
theorem laws_eqIntS_refl (xs : List Int) (hx : xs.length ≤ 9223372036854775806) : Ev (fun k => laws_eqIntS.f k xs xs) true :=
  Ev.pos rfl (laws_eqIntS_loop xs hx xs 0 rfl)
theorem laws_FnExactConfText_ev (l : List Int) : Ev (fun k => laws_FnExactConfText.f k l) true := by
  unfold laws_FnExactConfText.f
  refine Ev.ite (fun _ => Ev.now _) (fun hc => ?_)
  have hl : l.length ≤ 1048576 := by omega
  refine Ev.bind (laws_toIntS_ev l hl) (Ev.bind (spec_ConfText_ev l hl) (Ev.bind (laws_toIntS_ev l hl) (Ev.bind (impl_ConfText_ev l hl) (Ev.pos rfl ?_))))
  refine Ev.step (fun _ => rfl) ?_
  simp only [laws_FnExactConfText.j0]
  exact Ev.neg (by simp) (Ev.bind (laws_toIntS_ev l hl) (Ev.bind (laws_eqIntS_refl l (by omega)) (Ev.pos rfl (Ev.now _))))
theorem FnExactConfText_q (l : List Int) (_ : l.length * 8 ≤ 140737488351232 ∧ ∀ x ∈ l, (Lit.int .i64 x).wf = true) : ∃ k, laws_FnExactConfText.f k l = some true := Ev.rounds (laws_FnExactConfText_ev l)

end Go.Proofs.Ythgmanojhicchaa.Pure
