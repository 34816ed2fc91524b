/- The law FnExactVoteText answers true: the program's VoteText returns what the reference's returns. For all arguments; no further condition. -/
import Derived.Test.YthgmanojhicchaaPFnExactVoteTextx2
import Derived.Test.YthgmanojhicchaaBase
namespace Go.Proofs.Ythgmanojhicchaa.Pure
open Go.RowKit Go.Proofs.Ythgmanojhicchaa.PFnExactVoteText Go.Proofs.YthgmanojhicchaaW.PrintWords Go.Proofs.YthgmanojhicchaaW.PrintLast Go.Proofs.Ythgmanojhicchaa.Base

theorem spec_l01In_eq (a b c : Int) : spec_l01In.f a b c = some (inR a b c) := by
  unfold spec_l01In.f inR
  by_cases h : b ≤ a
  · rw [if_pos h]; simp [h]
  · rw [if_neg h]; simp [h]
theorem impl_within_eq (a b c : Int) : impl_within.f a b c = some (inR a b c) := by
  unfold impl_within.f inR
  by_cases h : b ≤ a
  · rw [if_pos h]; simp [h]
  · rw [if_neg h]; simp [h]
theorem spec_l01Var_loop : ∀ (n : Nat) (acc : List Int), acc.length + n < 140737488355328 →
    Ev (fun k => spec_l01Var.l0 k (n : Int) acc) (strOfNums (acc ++ varL n)) := by
  intro n
  induction n using Nat.strongRecOn with
  | ind n ih =>
    intro acc h
    refine Ev.step (fun _ => rfl) ?_
    simp only [spec_l01Var.l0, tdiv128 n (by omega), tmod128 n]
    refine Ev.ite (fun hc => ?_) (fun hc => ?_)
    · rw [varL_big (by omega)]
      exact Ev.pos (by omega) (Ev.eq (ih (n / 128) (by omega) _ (by simp; omega)) (by simp))
    · rw [varL_small (by omega)]
      exact Ev.pos (by omega) (Ev.done (by rw [Int.emod_eq_of_lt (by omega) (by omega)]))
theorem spec_l01Var_nat (n : Nat) (h : n ≤ 34359738367) : Ev (fun k => spec_l01Var.f k (n : Int)) (varText n) := spec_l01Var_loop n [] (by simp; omega)
theorem spec_l01Var_ev (n : Int) (h0 : 0 ≤ n) (h : n ≤ 34359738367) : Ev (fun k => spec_l01Var.f k n) (varText n.toNat) := by
  obtain ⟨m, rfl⟩ := Int.eq_ofNat_of_zero_le h0
  exact spec_l01Var_nat m (by omega)
theorem impl_VarText_loop : ∀ (n : Nat) (acc : List Int), acc.length + n < 140737488355328 →
    Ev (fun k => impl_VarText.l0 k (n : Int) acc) (strOfNums (acc ++ varL n), true) := by
  intro n
  induction n using Nat.strongRecOn with
  | ind n ih =>
    intro acc h
    refine Ev.step (fun _ => rfl) ?_
    simp only [impl_VarText.l0, tdiv128 n (by omega), tmod128 n]
    refine Ev.ite (fun hc => ?_) (fun hc => ?_)
    · rw [varL_big (by omega)]
      exact Ev.pos (by omega) (Ev.eq (ih (n / 128) (by omega) _ (by simp; omega)) (by simp))
    · rw [varL_small (by omega)]
      exact Ev.pos (by omega) (Ev.done (by rw [Int.emod_eq_of_lt (by omega) (by omega)]))
theorem impl_VarText_ev (n : Int) : Ev (fun k => impl_VarText.f k n) (varTextOf n) := by
  unfold impl_VarText.f varTextOf
  refine Ev.call (impl_within_eq _ _ _) ?_
  cases hb : inR n 0 1000000000
  · exact Ev.neg (by simp) (Ev.done (by simp))
  · have := inR_true.1 hb
    obtain ⟨m, rfl⟩ := Int.eq_ofNat_of_zero_le this.1
    exact Ev.pos rfl (Ev.eq (impl_VarText_loop m [] (by simp; omega)) (by simp [varText]))
theorem impl_VarText_nat (n : Nat) (h : n ≤ 1000000000) : Ev (fun k => impl_VarText.f k (n : Int)) (varText n, true) :=
  Ev.eq (impl_VarText_ev (n : Int)) (by rw [varTextOf, if_pos (inR_true.2 (by omega))]; rfl)
theorem impl_vars_loop (xs : List Int) (hx : xs.length ≤ 1048576) : ∀ (rest : List Int) (n : Nat) (acc : List Int), xs.drop n = rest → acc.length + 5 * rest.length < 140737488355328 →
    Ev (fun k => impl_vars.l0 k acc xs (xs.length : Int) (n : Int)) (if rest.all (fun n => inR n 0 1000000000) = true then (strOfNums (acc ++ rest.flatMap fun n => varL n.toNat), true) else (⟨#[]⟩, false)) := by
  intro rest
  induction rest with
  | nil =>
    intro n acc h ha
    have := drop_nil h
    refine Ev.step (fun _ => rfl) ?_
    simp only [impl_vars.l0]
    exact Ev.neg (by omega) (Ev.done (by simp))
  | cons x t ih =>
    intro n acc h ha
    obtain ⟨h1, -, h3⟩ := drop_cons h
    refine Ev.step (fun _ => rfl) ?_
    simp only [impl_vars.l0, drop_rd h, wrap64_succ (show n ≤ 9223372036854775806 by omega)]
    refine Ev.pos (by omega) (Ev.pos (by omega) (Ev.pos (by omega) (Ev.bind (impl_VarText_ev x) ?_)))
    unfold varTextOf
    cases hb : inR x 0 1000000000
    · exact Ev.neg (by simp) (Ev.done (by simp [hb]))
    · have hr := inR_true.1 hb
      have hv := varL_len (show x.toNat ≤ 34359738367 by omega)
      simp only [if_true, varText, strOfNums_size, bytesOf_strOfNums _ (varL_bytes _)]
      rw [List.length_cons] at ha
      refine Ev.pos (by omega) (Ev.eq (ih (n + 1) (acc ++ varL x.toNat) h3 (by rw [List.length_append]; omega)) ?_)
      simp [hb]
theorem impl_vars_ev (xs : List Int) (hx : xs.length ≤ 1048576) : Ev (fun k => impl_vars.f k xs) (varsOf xs) :=
  Ev.eq (impl_vars_loop xs hx xs 0 [] rfl (by simp; omega)) (by simp [varsOf])
theorem spec_l02Four_eq (x : Int) : spec_l02Four.f x = some (four x) := rfl
theorem spec_SumMore_bits (s : ByteArray) (i : Nat) (hi : i ≤ 9223372036854775806) (r : Int) : ∀ (d : Nat) (x : Int) (j : Nat), j + d = 8 →
    Ev (fun k => spec_SumMore.l0 k (sumBits d x) s ((i + 1 : Nat) : Int)) r → Ev (fun k => spec_SumMore.l1 k x s (i : Int) (j : Int)) r := by
  intro d
  induction d with
  | zero =>
    intro x j hj h
    refine Ev.step (fun _ => rfl) ?_
    simp only [spec_SumMore.l1, wrap64_succ hi]
    exact Ev.neg (by omega) h
  | succ d ih =>
    intro x j hj h
    refine Ev.step (fun _ => rfl) ?_
    simp only [spec_SumMore.l1, wrap64_succ (show j ≤ 9223372036854775806 by omega)]
    refine Ev.pos (by omega) (Ev.ite (fun hc => ih _ (j + 1) (by omega) ?_) (fun hc => ih _ (j + 1) (by omega) ?_))
    · rw [sumBits, sumBit, if_pos hc] at h; exact h
    · rw [sumBits, sumBit, if_neg hc] at h; exact h
theorem spec_SumMore_loop (s : ByteArray) (hs : s.size ≤ 9223372036854775806) : ∀ (rest : List Int) (n : Nat) (x : Int), (bytesOf s).drop n = rest →
    Ev (fun k => spec_SumMore.l0 k x s (n : Int)) (sumMore x rest) := by
  intro rest
  induction rest with
  | nil =>
    intro n x h
    have := bytesOf_drop_nil h
    refine Ev.step (fun _ => rfl) ?_
    simp only [spec_SumMore.l0]
    exact Ev.neg (by omega) (Ev.done rfl)
  | cons b t ih =>
    intro n x h
    obtain ⟨h1, h2, h3, h4, h5⟩ := bytesOf_drop_lt h
    refine Ev.step (fun _ => rfl) ?_
    simp only [spec_SumMore.l0, h2]
    exact Ev.pos (by omega) (Ev.pos (by omega) (spec_SumMore_bits s n (by omega) _ 8 _ 0 rfl (ih (n + 1) _ h3)))
theorem spec_SumMore_ev (x : Int) (s : ByteArray) (hs : s.size ≤ 9223372036854775806) : Ev (fun k => spec_SumMore.f k x s) (sumMore x (bytesOf s)) := spec_SumMore_loop s hs _ 0 x rfl
theorem spec_SumOf_ev (s : ByteArray) (hs : s.size ≤ 9223372036854775806) : Ev (fun k => spec_SumOf.f k s) (sumOf s) := Ev.bind (spec_SumMore_ev _ s hs) (Ev.now _)
theorem impl_SumMore_bits (s : ByteArray) (i : Nat) (hi : i ≤ 9223372036854775806) (r : Int) : ∀ (d : Nat) (x : Int) (j : Nat), j + d = 8 →
    Ev (fun k => impl_SumMore.l0 k (sumBits d x) s ((i + 1 : Nat) : Int)) r → Ev (fun k => impl_SumMore.l1 k x s (i : Int) (j : Int)) r := by
  intro d
  induction d with
  | zero =>
    intro x j hj h
    refine Ev.step (fun _ => rfl) ?_
    simp only [impl_SumMore.l1, wrap64_succ hi]
    exact Ev.neg (by omega) h
  | succ d ih =>
    intro x j hj h
    refine Ev.step (fun _ => rfl) ?_
    simp only [impl_SumMore.l1, wrap64_succ (show j ≤ 9223372036854775806 by omega)]
    refine Ev.pos (by omega) (Ev.ite (fun hc => ih _ (j + 1) (by omega) ?_) (fun hc => ih _ (j + 1) (by omega) ?_))
    · rw [sumBits, sumBit, if_pos hc] at h; exact h
    · rw [sumBits, sumBit, if_neg hc] at h; exact h
theorem impl_SumMore_loop (s : ByteArray) (hs : s.size ≤ 9223372036854775806) : ∀ (rest : List Int) (n : Nat) (x : Int), (bytesOf s).drop n = rest →
    Ev (fun k => impl_SumMore.l0 k x s (n : Int)) (sumMore x rest) := by
  intro rest
  induction rest with
  | nil =>
    intro n x h
    have := bytesOf_drop_nil h
    refine Ev.step (fun _ => rfl) ?_
    simp only [impl_SumMore.l0]
    exact Ev.neg (by omega) (Ev.done rfl)
  | cons b t ih =>
    intro n x h
    obtain ⟨h1, h2, h3, h4, h5⟩ := bytesOf_drop_lt h
    refine Ev.step (fun _ => rfl) ?_
    simp only [impl_SumMore.l0, h2]
    exact Ev.pos (by omega) (Ev.pos (by omega) (impl_SumMore_bits s n (by omega) _ 8 _ 0 rfl (ih (n + 1) _ h3)))
theorem impl_SumMore_ev (x : Int) (s : ByteArray) (hs : s.size ≤ 9223372036854775806) : Ev (fun k => impl_SumMore.f k x s) (sumMore x (bytesOf s)) := impl_SumMore_loop s hs _ 0 x rfl
theorem impl_SumOf_ev (s : ByteArray) (hs : s.size ≤ 9223372036854775806) : Ev (fun k => impl_SumOf.f k s) (sumOf s) := Ev.bind (impl_SumMore_ev _ s hs) (Ev.now _)
theorem spec_Frame_ev (s : ByteArray) (hs : s.size ≤ 1152921504606846976) : Ev (fun k => spec_Frame.f k s) (frame s) := by
  unfold spec_Frame.f frame
  refine Ev.call (spec_l01In_eq _ _ _) ?_
  cases hb : inR (s.size : Int) 1 9000
  · exact Ev.neg (by simp) (Ev.done (by simp))
  · have hr := inR_true.1 hb
    have hv := varText_size (show s.size ≤ 34359738367 by omega)
    have h4 := four_size (sumOf s)
    refine Ev.pos rfl (Ev.bind (spec_l01Var_nat _ (by omega)) (Ev.bind (spec_SumOf_ev s (by omega)) (Ev.call (spec_l02Four_eq _) ?_)))
    exact Ev.pos (by omega) (Ev.pos (by rw [size_append]; omega) (Ev.done (by simp)))
theorem impl_Frame_ev (s : ByteArray) (hs : s.size ≤ 1152921504606846976) : Ev (fun k => impl_Frame.f k s) (frame s) := by
  unfold impl_Frame.f frame
  refine Ev.call (impl_within_eq _ _ _) ?_
  cases hb : inR (s.size : Int) 1 9000
  · exact Ev.neg (by simp) (Ev.done (by simp))
  · have hr := inR_true.1 hb
    have hv := varText_size (show s.size ≤ 34359738367 by omega)
    have h4 := four_size (sumOf s)
    refine Ev.pos rfl (Ev.bind (impl_VarText_nat _ (by omega)) (Ev.bind (impl_SumOf_ev s (by omega)) (Ev.call rfl ?_)))
    rw [four] at h4
    exact Ev.pos (by dsimp only; omega) (Ev.pos (by rw [size_append]; dsimp only; omega) (Ev.done (by simp [four])))
theorem spec_VoteText_ev (t v : Int) : Ev (fun k => spec_VoteText.f k t v) (voteText t v) := by
  unfold spec_VoteText.f voteText
  refine Ev.call (spec_l01In_eq _ _ _) ?_
  cases ha : inR t 0 100000
  · refine Ev.neg (by simp) (Ev.step (fun _ => rfl) ?_)
    simp only [spec_VoteText.j0]
    exact Ev.pos trivial (Ev.done (by simp))
  · refine Ev.pos rfl (Ev.call (spec_l01In_eq _ _ _) (Ev.step (fun _ => rfl) ?_))
    simp only [spec_VoteText.j0]
    cases hb : inR v 0 4
    · exact Ev.pos rfl (Ev.done (by simp))
    · have h1 := inR_true.1 ha
      have h2 := inR_true.1 hb
      have s1 := varText_size (show t.toNat ≤ 34359738367 by omega)
      have s2 := varText_size (show v.toNat ≤ 34359738367 by omega)
      exact Ev.neg (by simp) (Ev.bind (spec_l01Var_ev t (by omega) (by omega)) (Ev.bind (spec_l01Var_ev v (by omega) (by omega)) (Ev.pos (by omega) (Ev.bind (spec_Frame_ev _ (by rw [size_append]; omega)) (Ev.done (by simp))))))
theorem impl_VoteText_ev (t v : Int) : Ev (fun k => impl_VoteText.f k t v) (voteText t v) := by
  unfold impl_VoteText.f voteText
  refine Ev.call (impl_within_eq _ _ _) ?_
  cases ha : inR t 0 100000
  · refine Ev.neg (by simp) (Ev.step (fun _ => rfl) ?_)
    simp only [impl_VoteText.j0]
    exact Ev.pos trivial (Ev.done (by simp))
  · refine Ev.pos rfl (Ev.call (impl_within_eq _ _ _) (Ev.step (fun _ => rfl) ?_))
    simp only [impl_VoteText.j0]
    cases hb : inR v 0 4
    · exact Ev.pos rfl (Ev.done (by simp))
    · have h1 := inR_true.1 ha
      have h2 := inR_true.1 hb
      have s1 := varText_size (show t.toNat ≤ 34359738367 by omega)
      have s2 := varText_size (show v.toNat ≤ 34359738367 by omega)
      have e : varsOf [t, v] = (varText t.toNat ++ varText v.toNat, true) := by
        rw [varsOf, if_pos (by simp [inR_true]; omega)]
        simp [varText, strOfNums_append]
      refine Ev.neg (by simp) (Ev.bind (Ev.eq (impl_vars_ev [t, v] (by simp)) e) (Ev.bind (impl_Frame_ev _ (by rw [size_append]; omega)) (Ev.done (by simp))))
theorem laws_FnExactVoteText_ev (t v : Int) : Ev (fun k => laws_FnExactVoteText.f k t v) true := by
  unfold laws_FnExactVoteText.f
  exact Ev.bind (spec_VoteText_ev t v) (Ev.bind (impl_VoteText_ev t v) (Ev.pos rfl (Ev.neg (by simp) (Ev.now _))))
theorem FnExactVoteText : laws_FnExactVoteText.Pure := fun t v _ _ => Ev.rounds (laws_FnExactVoteText_ev t v)

end Go.Proofs.Ythgmanojhicchaa.Pure
