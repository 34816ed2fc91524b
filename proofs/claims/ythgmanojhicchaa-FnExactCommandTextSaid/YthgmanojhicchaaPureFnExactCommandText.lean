/- The law FnExactCommandText answers true: the program's CommandText returns what the reference's returns. For all arguments; no further condition. -/
import Derived.Test.YthgmanojhicchaaPFnExactCommandTextx7
import Derived.Test.YthgmanojhicchaaBase
namespace Go.Proofs.Ythgmanojhicchaa.Pure
open Go.RowKit Go.Proofs.Ythgmanojhicchaa.PFnExactCommandText Go.Proofs.YthgmanojhicchaaW.PrintWords Go.Proofs.YthgmanojhicchaaW.PrintLast Go.Proofs.Ythgmanojhicchaa.Base
set_option linter.unusedVariables false

theorem spec_l01In_eq (a b c : Int) : spec_l01In.f a b c = some (inR a b c) := by
  unfold spec_l01In.f inR
  by_cases h : b ≤ a
  · rw [if_pos h]; simp [h]
  · rw [if_neg h]; simp [h]
theorem impl_within_eq (a b c : Int) : impl_within.f a b c = some (inR a b c) := by
  unfold impl_within.f inR
  by_cases h : b ≤ a
  · rw [if_pos h]; simp [h]
  · rw [if_neg h]; simp [h]
theorem spec_l01Var_loop : ∀ (n : Nat) (acc : List Int), acc.length + n < 140737488355328 →
    Ev (fun k => spec_l01Var.l0 k (n : Int) acc) (strOfNums (acc ++ varL n)) := by
  intro n
  induction n using Nat.strongRecOn with
  | ind n ih =>
    intro acc h
    refine Ev.step (fun _ => rfl) ?_
    simp only [spec_l01Var.l0, tdiv128 n (by omega), tmod128 n]
    refine Ev.ite (fun hc => ?_) (fun hc => ?_)
    · rw [varL_big (by omega)]
      exact Ev.pos (by omega) (Ev.eq (ih (n / 128) (by omega) _ (by simp; omega)) (by simp))
    · rw [varL_small (by omega)]
      exact Ev.pos (by omega) (Ev.done (by rw [Int.emod_eq_of_lt (by omega) (by omega)]))
theorem spec_l01Var_nat (n : Nat) (h : n ≤ 34359738367) : Ev (fun k => spec_l01Var.f k (n : Int)) (varText n) := spec_l01Var_loop n [] (by simp; omega)
theorem spec_l01Var_ev (n : Int) (h0 : 0 ≤ n) (h : n ≤ 34359738367) : Ev (fun k => spec_l01Var.f k n) (varText n.toNat) := by
  obtain ⟨m, rfl⟩ := Int.eq_ofNat_of_zero_le h0
  exact spec_l01Var_nat m (by omega)
theorem impl_VarText_loop : ∀ (n : Nat) (acc : List Int), acc.length + n < 140737488355328 →
    Ev (fun k => impl_VarText.l0 k (n : Int) acc) (strOfNums (acc ++ varL n), true) := by
  intro n
  induction n using Nat.strongRecOn with
  | ind n ih =>
    intro acc h
    refine Ev.step (fun _ => rfl) ?_
    simp only [impl_VarText.l0, tdiv128 n (by omega), tmod128 n]
    refine Ev.ite (fun hc => ?_) (fun hc => ?_)
    · rw [varL_big (by omega)]
      exact Ev.pos (by omega) (Ev.eq (ih (n / 128) (by omega) _ (by simp; omega)) (by simp))
    · rw [varL_small (by omega)]
      exact Ev.pos (by omega) (Ev.done (by rw [Int.emod_eq_of_lt (by omega) (by omega)]))
theorem impl_VarText_ev (n : Int) : Ev (fun k => impl_VarText.f k n) (varTextOf n) := by
  unfold impl_VarText.f varTextOf
  refine Ev.call (impl_within_eq _ _ _) ?_
  cases hb : inR n 0 1000000000
  · exact Ev.neg (by simp) (Ev.done (by simp))
  · have := inR_true.1 hb
    obtain ⟨m, rfl⟩ := Int.eq_ofNat_of_zero_le this.1
    exact Ev.pos rfl (Ev.eq (impl_VarText_loop m [] (by simp; omega)) (by simp [varText]))
theorem impl_VarText_nat (n : Nat) (h : n ≤ 1000000000) : Ev (fun k => impl_VarText.f k (n : Int)) (varText n, true) :=
  Ev.eq (impl_VarText_ev (n : Int)) (by rw [varTextOf, if_pos (inR_true.2 (by omega))]; rfl)
theorem impl_vars_loop (xs : List Int) (hx : xs.length ≤ 1048576) : ∀ (rest : List Int) (n : Nat) (acc : List Int), xs.drop n = rest → acc.length + 5 * rest.length < 140737488355328 →
    Ev (fun k => impl_vars.l0 k acc xs (xs.length : Int) (n : Int)) (if rest.all (fun n => inR n 0 1000000000) = true then (strOfNums (acc ++ rest.flatMap fun n => varL n.toNat), true) else (⟨#[]⟩, false)) := by
  intro rest
  induction rest with
  | nil =>
    intro n acc h ha
    have := drop_nil h
    refine Ev.step (fun _ => rfl) ?_
    simp only [impl_vars.l0]
    exact Ev.neg (by omega) (Ev.done (by simp))
  | cons x t ih =>
    intro n acc h ha
    obtain ⟨h1, -, h3⟩ := drop_cons h
    refine Ev.step (fun _ => rfl) ?_
    simp only [impl_vars.l0, drop_rd h, wrap64_succ (show n ≤ 9223372036854775806 by omega)]
    refine Ev.pos (by omega) (Ev.pos (by omega) (Ev.pos (by omega) (Ev.bind (impl_VarText_ev x) ?_)))
    unfold varTextOf
    cases hb : inR x 0 1000000000
    · exact Ev.neg (by simp) (Ev.done (by simp [hb]))
    · have hr := inR_true.1 hb
      have hv := varL_len (show x.toNat ≤ 34359738367 by omega)
      simp only [if_true, varText, strOfNums_size, bytesOf_strOfNums _ (varL_bytes _)]
      rw [List.length_cons] at ha
      refine Ev.pos (by omega) (Ev.eq (ih (n + 1) (acc ++ varL x.toNat) h3 (by rw [List.length_append]; omega)) ?_)
      simp [hb]
theorem impl_vars_ev (xs : List Int) (hx : xs.length ≤ 1048576) : Ev (fun k => impl_vars.f k xs) (varsOf xs) :=
  Ev.eq (impl_vars_loop xs hx xs 0 [] rfl (by simp; omega)) (by simp [varsOf])
theorem laws_szCommand_some (a0 a1 a2 : Int) (s3 s4 s5 : ByteArray) (h3 : s3.size ≤ 140737488351232) (h4 : s4.size ≤ 140737488351232) (h5 : s5.size ≤ 140737488351232) :
    ∃ r, laws_szCommand.f a0 a1 a2 s3 s4 s5 1048576 = some r ∧ (¬ r < 0 → s3.size ≤ 1048576 ∧ s4.size ≤ 1048576 ∧ s5.size ≤ 1048576) := by
  unfold laws_szCommand.f wrap64
  by_cases c1 : ((1048576 : Int) - (s3.size : Int) + 9223372036854775808) % 18446744073709551616 - 9223372036854775808 < 0
  · exact ⟨-1, by rw [if_pos c1], by omega⟩
  · rw [if_neg c1]
    by_cases c2 : (((1048576 : Int) - (s3.size : Int) + 9223372036854775808) % 18446744073709551616 - 9223372036854775808 - (s4.size : Int) + 9223372036854775808) % 18446744073709551616 - 9223372036854775808 < 0
    · exact ⟨-1, by rw [if_pos c2], by omega⟩
    · rw [if_neg c2]
      by_cases c3 : ((((1048576 : Int) - (s3.size : Int) + 9223372036854775808) % 18446744073709551616 - 9223372036854775808 - (s4.size : Int) + 9223372036854775808) % 18446744073709551616 - 9223372036854775808 - (s5.size : Int) + 9223372036854775808) % 18446744073709551616 - 9223372036854775808 < 0
      · exact ⟨-1, by rw [if_pos c3], by omega⟩
      · rw [if_neg c3]
        exact ⟨_, rfl, by omega⟩
theorem spec_CommandOk_ev (op s q : Int) (key value old : ByteArray) : Ev (fun k => spec_CommandOk.f k op s q key value old) (cmdOk op s q key value old) := by
  have bad : ∀ r, r = false → Ev (fun k => spec_CommandOk.j0 k true op s q key value old) r := by
    rintro r rfl
    refine Ev.step (fun _ => rfl) ?_
    simp only [spec_CommandOk.j0]
    exact Ev.pos trivial (Ev.now _)
  unfold spec_CommandOk.f cmdOk
  refine Ev.call (spec_l01In_eq _ _ _) ?_
  cases h1 : inR op 1 5
  · exact Ev.neg (by simp) (bad _ (by simp))
  refine Ev.pos rfl (Ev.call (spec_l01In_eq _ _ _) ?_)
  cases h2 : inR s 0 100000
  · exact Ev.neg (by simp) (bad _ (by simp))
  refine Ev.pos rfl (Ev.call (spec_l01In_eq _ _ _) ?_)
  cases h3 : inR q 0 100000
  · exact Ev.neg (by simp) (bad _ (by simp))
  refine Ev.pos rfl (Ev.ite (fun h4 => bad _ ?_) (fun h4 => ?_))
  · rw [decide_eq_false (show ¬ value.size ≤ 12 by omega)]; simp
  rw [decide_eq_true (show value.size ≤ 12 by omega)]
  by_cases h5 : old.size ≤ 12
  · rw [decide_eq_true h5, decide_eq_false (show ¬ (old.size : Int) > 12 by omega)]
    refine Ev.step (fun _ => rfl) ?_
    simp only [spec_CommandOk.j0, emp_def]
    refine Ev.neg (by simp) (Ev.ite (fun h6 => Ev.done ?_) (fun h6 => ?_))
    · subst h6; simp
    · refine Ev.call (spec_l01In_eq _ _ _) ?_
      simp only [if_neg h6]
      cases h7 : inR key.size 1 9
      · exact Ev.neg (by simp) (Ev.done (by simp))
      · refine Ev.pos rfl (Ev.ite (fun h8 => ?_) (fun h8 => ?_))
        · subst h8
          refine Ev.step (fun _ => rfl) ?_
          simp only [spec_CommandOk.j1, emp_def]
          refine Ev.pos rfl (Ev.ite (fun h9 => Ev.done ?_) (fun h9 => Ev.done ?_))
          · simp [(emp_iff _).1 h9]
          · simp [Bool.eq_false_iff.2 (fun e => h9 ((emp_iff _).2 e))]
        · refine Ev.step (fun _ => rfl) ?_
          simp only [spec_CommandOk.j1, emp_def]
          by_cases h9 : op = 4
          · subst h9
            refine Ev.pos rfl (Ev.ite (fun h9 => Ev.done ?_) (fun h9 => Ev.done ?_))
            · simp [(emp_iff _).1 h9]
            · simp [Bool.eq_false_iff.2 (fun e => h9 ((emp_iff _).2 e))]
          · refine Ev.neg (by simp [h9]) (Ev.ite (fun h10 => Ev.done ?_) (fun h10 => Ev.done ?_))
            · subst h10; simp
            · simp [h8, h9, h10]
  · rw [decide_eq_false h5, decide_eq_true (show (old.size : Int) > 12 by omega)]
    exact bad _ (by simp)
theorem impl_CommandOk_ev (op s q : Int) (key value old : ByteArray) : Ev (fun k => impl_CommandOk.f k op s q key value old) (cmdOk op s q key value old) := by
  unfold impl_CommandOk.f
  refine Ev.ite (fun h1 => Ev.done ?_) (fun h1 => ?_)
  · subst h1
    unfold cmdOk
    simp only [emp_def, if_true, show inR 1 1 5 = true from rfl, Bool.true_and]
    by_cases hs : s = 0
    · by_cases hq : q = 0
      · subst hs; subst hq
        cases hk : emp key
        · simp
        cases hv : emp value
        · simp
        cases ho : emp old
        · simp
        have := emp_true.1 hv
        have := emp_true.1 ho
        simp [inR]; omega
      · rw [beq_eq_false_iff_ne.2 hq]; simp
    · rw [beq_eq_false_iff_ne.2 hs]; simp
  have tail : ∀ (b : Bool), b = (decide (op = 2) || decide (op = 4)) → Ev (fun k => impl_CommandOk.j0 k (decide ((value.size : Int) ≤ 12)) (decide ((old.size : Int) ≤ 12)) op b op s q key value old) (cmdOk op s q key value old) := by
    intro b hb
    refine Ev.step (fun _ => rfl) ?_
    simp only [impl_CommandOk.j0, emp_def]
    unfold cmdOk
    rw [if_neg h1]
    have ev : decide ((value.size : Int) ≤ 12) = decide (value.size ≤ 12) := by rw [decide_eq_decide]; omega
    have eo : decide ((old.size : Int) ≤ 12) = decide (old.size ≤ 12) := by rw [decide_eq_decide]; omega
    rw [ev, eo]
    by_cases h2 : op = 2 ∨ op = 4
    · have hb1 : b = true := by rw [hb]; simpa using h2
      have hr : inR op 1 5 = true := inR_true.2 (by omega)
      subst hb1
      rw [hr, if_pos h2]
      refine Ev.pos rfl (Ev.call (impl_within_eq _ _ _) ?_)
      cases h3 : inR s 0 100000
      · exact Ev.neg (by simp) (Ev.done (by simp))
      refine Ev.pos rfl (Ev.call (impl_within_eq _ _ _) ?_)
      cases h4 : inR q 0 100000
      · exact Ev.neg (by simp) (Ev.done (by simp))
      refine Ev.pos rfl (Ev.call (impl_within_eq _ _ _) ?_)
      cases h5 : inR key.size 1 9
      · exact Ev.neg (by simp) (Ev.done (by simp))
      refine Ev.pos rfl (Ev.ite (fun h6 => Ev.done ?_) (fun h6 => Ev.done ?_))
      · have e6 := (emp_iff _).1 h6
        have z6 := emp_true.1 e6
        rw [e6]
        cases h7 : emp old
        · simp
        · have z7 := emp_true.1 h7
          simp [z6, z7]
      · simp [Bool.eq_false_iff.2 (fun e => h6 ((emp_iff _).2 e))]
    · have hb1 : b = false := by rw [hb]; simpa using h2
      subst hb1
      rw [if_neg h2]
      refine Ev.neg (by simp) (Ev.ite (fun h6 => ?_) (fun h6 => Ev.ite (fun h7 => ?_) (fun h7 => Ev.done ?_)))
      · have hr : inR op 1 5 = true := inR_true.2 (by omega)
        rw [hr, if_pos h6]
        refine Ev.call (impl_within_eq _ _ _) ?_
        cases h3 : inR s 0 100000
        · exact Ev.neg (by simp) (Ev.done (by simp))
        refine Ev.pos rfl (Ev.call (impl_within_eq _ _ _) ?_)
        cases h4 : inR q 0 100000
        · exact Ev.neg (by simp) (Ev.done (by simp))
        refine Ev.pos rfl (Ev.call (impl_within_eq _ _ _) ?_)
        cases h5 : inR key.size 1 9
        · exact Ev.neg (by simp) (Ev.done (by simp))
        refine Ev.pos rfl (Ev.ite (fun h8 => Ev.done ?_) (fun h8 => Ev.done ?_))
        · rw [h8]
          cases h9 : emp old
          · simp
          · have z9 := emp_true.1 h9
            simp [z9]
        · simp at h8
          simp [show ¬ value.size ≤ 12 by omega]
      · have hr : inR op 1 5 = true := inR_true.2 (by omega)
        rw [hr, if_neg h6]
        refine Ev.call (impl_within_eq _ _ _) ?_
        cases h3 : inR s 0 100000
        · exact Ev.neg (by simp) (Ev.done (by simp))
        refine Ev.pos rfl (Ev.call (impl_within_eq _ _ _) ?_)
        cases h4 : inR q 0 100000
        · exact Ev.neg (by simp) (Ev.done (by simp))
        refine Ev.pos rfl (Ev.call (impl_within_eq _ _ _) ?_)
        cases h5 : inR key.size 1 9
        · exact Ev.neg (by simp) (Ev.done (by simp))
        refine Ev.pos rfl (Ev.ite (fun h8 => Ev.done ?_) (fun h8 => Ev.done ?_))
        · rw [h8]; simp
        · simp at h8
          simp [show ¬ value.size ≤ 12 by omega]
      · have hr : inR op 1 5 = false := inR_false.2 (by omega)
        rw [hr]; simp
  refine Ev.ite (fun h2 => ?_) (fun h2 => ?_)
  · exact tail _ (by subst h2; rfl)
  · exact tail _ (by rw [decide_eq_false h2, Bool.false_or, Bool.beq_eq_decide_eq])
theorem spec_l05Short_ev (s : ByteArray) (hs : s.size ≤ 1073741824) : Ev (fun k => spec_l05Short.f k s) (shortText s) := by
  have h := varText_size (show s.size ≤ 34359738367 by omega)
  exact Ev.bind (spec_l01Var_nat _ (by omega)) (Ev.pos (by omega) (Ev.now _))
theorem impl_ShortText_ev (s : ByteArray) (hs : s.size ≤ 20000) : Ev (fun k => impl_ShortText.f k s) (shortText s, true) := by
  have h := varText_size (show s.size ≤ 34359738367 by omega)
  exact Ev.neg (by omega) (Ev.bind (impl_VarText_nat _ (by omega)) (Ev.pos (by dsimp only; omega) (Ev.now _)))
theorem impl_short_ev (s : ByteArray) (hs : s.size ≤ 20000) : Ev (fun k => impl_short.f k s) (shortText s) := Ev.bind (impl_ShortText_ev s hs) (Ev.now _)
theorem spec_CommandText_ev (op s q : Int) (key value old : ByteArray) : Ev (fun k => spec_CommandText.f k op s q key value old) (cmdText op s q key value old) := by
  unfold spec_CommandText.f cmdText
  refine Ev.bind (spec_CommandOk_ev op s q key value old) ?_
  cases hb : cmdOk op s q key value old
  · exact Ev.neg (by simp) (Ev.done (by simp))
  obtain ⟨h1, h2, h3, h4, h5⟩ := cmdOk_sizes hb
  have s1 := varText_size (show s.toNat ≤ 34359738367 by omega)
  have s2 := varText_size (show q.toNat ≤ 34359738367 by omega)
  have s3 := shortText_size (show key.size ≤ 34359738367 by omega)
  have s4 := shortText_size (show value.size ≤ 34359738367 by omega)
  have s5 := shortText_size (show old.size ≤ 34359738367 by omega)
  have s6 : (strOfNums [op % 256]).size = 1 := by rw [strOfNums_size]; rfl
  refine Ev.pos rfl (Ev.call rfl (Ev.bind (spec_l01Var_ev s (by omega) (by omega)) (Ev.pos (by omega) (Ev.bind (spec_l01Var_ev q (by omega) (by omega)) (Ev.pos (by simp only [size_append]; omega) (Ev.bind (spec_l05Short_ev key (by omega)) (Ev.pos (by simp only [size_append]; omega) (Ev.bind (spec_l05Short_ev value (by omega)) (Ev.pos (by simp only [size_append]; omega) (Ev.bind (spec_l05Short_ev old (by omega)) (Ev.pos (by simp only [size_append]; omega) (Ev.done ?_))))))))))))
  simp
theorem impl_CommandText_ev (op s q : Int) (key value old : ByteArray) : Ev (fun k => impl_CommandText.f k op s q key value old) (cmdText op s q key value old) := by
  unfold impl_CommandText.f cmdText
  refine Ev.bind (impl_CommandOk_ev op s q key value old) ?_
  cases hb : cmdOk op s q key value old
  · exact Ev.neg (by simp) (Ev.done (by simp))
  obtain ⟨h1, h2, h3, h4, h5⟩ := cmdOk_sizes hb
  have s1 := varText_size (show s.toNat ≤ 34359738367 by omega)
  have s2 := varText_size (show q.toNat ≤ 34359738367 by omega)
  have s3 := shortText_size (show key.size ≤ 34359738367 by omega)
  have s4 := shortText_size (show value.size ≤ 34359738367 by omega)
  have s5 := shortText_size (show old.size ≤ 34359738367 by omega)
  have s6 : (strOfNums [op % 256]).size = 1 := by rw [strOfNums_size]; rfl
  have e : varsOf [s, q] = (varText s.toNat ++ varText q.toNat, true) := varsOf_two (inR_true.2 (by omega)) (inR_true.2 (by omega))
  refine Ev.pos rfl (Ev.bind (Ev.eq (impl_vars_ev [s, q] (by simp)) e) (Ev.call rfl (Ev.pos (by simp only [size_append]; omega) (Ev.bind (impl_short_ev key (by omega)) (Ev.pos (by simp only [size_append]; omega) (Ev.bind (impl_short_ev value (by omega)) (Ev.pos (by simp only [size_append]; omega) (Ev.bind (impl_short_ev old (by omega)) (Ev.pos (by simp only [size_append]; omega) (Ev.done ?_))))))))))
  simp [ByteArray.append_assoc]
theorem FnExactCommandText_q (a0 a1 a2 : Int) (a3 a4 a5 : ByteArray) (q : (Lit.int .i64 a0).wf = true ∧ (Lit.int .i64 a1).wf = true ∧ (Lit.int .i64 a2).wf = true ∧ a3.size ≤ 140737488351232 ∧ a4.size ≤ 140737488351232 ∧ a5.size ≤ 140737488351232) :
    ∃ k, laws_FnExactCommandText.f k a0 a1 a2 a3 a4 a5 = some true := by
  apply Ev.rounds
  unfold laws_FnExactCommandText.f
  obtain ⟨r, hr, -⟩ := laws_szCommand_some a0 a1 a2 a3 a4 a5 q.2.2.2.1 q.2.2.2.2.1 q.2.2.2.2.2
  exact Ev.call hr (Ev.ite (fun _ => Ev.now _) (fun hn => Ev.call rfl (Ev.bind (spec_CommandText_ev _ _ _ _ _ _) (Ev.call rfl (Ev.bind (impl_CommandText_ev _ _ _ _ _ _) (Ev.pos rfl (Ev.neg (by simp) (Ev.now _))))))))

end Go.Proofs.Ythgmanojhicchaa.Pure
