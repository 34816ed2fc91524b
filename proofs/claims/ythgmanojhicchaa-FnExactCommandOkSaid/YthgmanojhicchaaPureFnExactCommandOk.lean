/- The pure statement of the law FnExactCommandOk: it answers true. For all arguments; no further condition. -/
import Derived.Test.YthgmanojhicchaaPFnExactCommandOkx3
import Derived.Test.YthgmanojhicchaaBase
namespace Go.Proofs.Ythgmanojhicchaa.Pure
open Go.RowKit Go.Proofs.Ythgmanojhicchaa.PFnExactCommandOk Go.Proofs.YthgmanojhicchaaW.PrintWords Go.Proofs.YthgmanojhicchaaW.PrintLast Go.Proofs.Ythgmanojhicchaa.Base

theorem spec_l01In_eq (a b c : Int) : spec_l01In.f a b c = some (inR a b c) := by
  unfold spec_l01In.f inR
  by_cases h : b ≤ a
  · rw [if_pos h]; simp [h]
  · rw [if_neg h]; simp [h]
theorem impl_within_eq (a b c : Int) : impl_within.f a b c = some (inR a b c) := by
  unfold impl_within.f inR
  by_cases h : b ≤ a
  · rw [if_pos h]; simp [h]
  · rw [if_neg h]; simp [h]
theorem laws_szCommand_some (a0 a1 a2 : Int) (s3 s4 s5 : ByteArray) (h3 : s3.size ≤ 140737488351232) (h4 : s4.size ≤ 140737488351232) (h5 : s5.size ≤ 140737488351232) :
    ∃ r, laws_szCommand.f a0 a1 a2 s3 s4 s5 1048576 = some r ∧ (¬ r < 0 → s3.size ≤ 1048576 ∧ s4.size ≤ 1048576 ∧ s5.size ≤ 1048576) := by
  unfold laws_szCommand.f wrap64
  by_cases c1 : ((1048576 : Int) - (s3.size : Int) + 9223372036854775808) % 18446744073709551616 - 9223372036854775808 < 0
  · exact ⟨-1, by rw [if_pos c1], by omega⟩
  · rw [if_neg c1]
    by_cases c2 : (((1048576 : Int) - (s3.size : Int) + 9223372036854775808) % 18446744073709551616 - 9223372036854775808 - (s4.size : Int) + 9223372036854775808) % 18446744073709551616 - 9223372036854775808 < 0
    · exact ⟨-1, by rw [if_pos c2], by omega⟩
    · rw [if_neg c2]
      by_cases c3 : ((((1048576 : Int) - (s3.size : Int) + 9223372036854775808) % 18446744073709551616 - 9223372036854775808 - (s4.size : Int) + 9223372036854775808) % 18446744073709551616 - 9223372036854775808 - (s5.size : Int) + 9223372036854775808) % 18446744073709551616 - 9223372036854775808 < 0
      · exact ⟨-1, by rw [if_pos c3], by omega⟩
      · rw [if_neg c3]
        exact ⟨_, rfl, by omega⟩
theorem spec_CommandOk_ev (op s q : Int) (key value old : ByteArray) : Ev (fun k => spec_CommandOk.f k op s q key value old) (cmdOk op s q key value old) := by
  have bad : ∀ r, r = false → Ev (fun k => spec_CommandOk.j0 k true op s q key value old) r := by
    rintro r rfl
    refine Ev.step (fun _ => rfl) ?_
    simp only [spec_CommandOk.j0]
    exact Ev.pos trivial (Ev.now _)
  unfold spec_CommandOk.f cmdOk
  refine Ev.call (spec_l01In_eq _ _ _) ?_
  cases h1 : inR op 1 5
  · exact Ev.neg (by simp) (bad _ (by simp))
  refine Ev.pos rfl (Ev.call (spec_l01In_eq _ _ _) ?_)
  cases h2 : inR s 0 100000
  · exact Ev.neg (by simp) (bad _ (by simp))
  refine Ev.pos rfl (Ev.call (spec_l01In_eq _ _ _) ?_)
  cases h3 : inR q 0 100000
  · exact Ev.neg (by simp) (bad _ (by simp))
  refine Ev.pos rfl (Ev.ite (fun h4 => bad _ ?_) (fun h4 => ?_))
  · rw [decide_eq_false (show ¬ value.size ≤ 12 by omega)]; simp
  rw [decide_eq_true (show value.size ≤ 12 by omega)]
  by_cases h5 : old.size ≤ 12
  · rw [decide_eq_true h5, decide_eq_false (show ¬ (old.size : Int) > 12 by omega)]
    refine Ev.step (fun _ => rfl) ?_
    simp only [spec_CommandOk.j0, emp_def]
    refine Ev.neg (by simp) (Ev.ite (fun h6 => Ev.done ?_) (fun h6 => ?_))
    · subst h6; simp
    · refine Ev.call (spec_l01In_eq _ _ _) ?_
      simp only [if_neg h6]
      cases h7 : inR key.size 1 9
      · exact Ev.neg (by simp) (Ev.done (by simp))
      · refine Ev.pos rfl (Ev.ite (fun h8 => ?_) (fun h8 => ?_))
        · subst h8
          refine Ev.step (fun _ => rfl) ?_
          simp only [spec_CommandOk.j1, emp_def]
          refine Ev.pos rfl (Ev.ite (fun h9 => Ev.done ?_) (fun h9 => Ev.done ?_))
          · simp [(emp_iff _).1 h9]
          · simp [Bool.eq_false_iff.2 (fun e => h9 ((emp_iff _).2 e))]
        · refine Ev.step (fun _ => rfl) ?_
          simp only [spec_CommandOk.j1, emp_def]
          by_cases h9 : op = 4
          · subst h9
            refine Ev.pos rfl (Ev.ite (fun h9 => Ev.done ?_) (fun h9 => Ev.done ?_))
            · simp [(emp_iff _).1 h9]
            · simp [Bool.eq_false_iff.2 (fun e => h9 ((emp_iff _).2 e))]
          · refine Ev.neg (by simp [h9]) (Ev.ite (fun h10 => Ev.done ?_) (fun h10 => Ev.done ?_))
            · subst h10; simp
            · simp [h8, h9, h10]
  · rw [decide_eq_false h5, decide_eq_true (show (old.size : Int) > 12 by omega)]
    exact bad _ (by simp)
theorem impl_CommandOk_ev (op s q : Int) (key value old : ByteArray) : Ev (fun k => impl_CommandOk.f k op s q key value old) (cmdOk op s q key value old) := by
  unfold impl_CommandOk.f
  refine Ev.ite (fun h1 => Ev.done ?_) (fun h1 => ?_)
  · subst h1
    unfold cmdOk
    simp only [emp_def, if_true, show inR 1 1 5 = true from rfl, Bool.true_and]
    by_cases hs : s = 0
    · by_cases hq : q = 0
      · subst hs; subst hq
        cases hk : emp key
        · simp
        cases hv : emp value
        · simp
        cases ho : emp old
        · simp
        have := emp_true.1 hv
        have := emp_true.1 ho
        simp [inR]; omega
      · rw [beq_eq_false_iff_ne.2 hq]; simp
    · rw [beq_eq_false_iff_ne.2 hs]; simp
  have tail : ∀ (b : Bool), b = (decide (op = 2) || decide (op = 4)) → Ev (fun k => impl_CommandOk.j0 k (decide ((value.size : Int) ≤ 12)) (decide ((old.size : Int) ≤ 12)) op b op s q key value old) (cmdOk op s q key value old) := by
    intro b hb
    refine Ev.step (fun _ => rfl) ?_
    simp only [impl_CommandOk.j0, emp_def]
    unfold cmdOk
    rw [if_neg h1]
    have ev : decide ((value.size : Int) ≤ 12) = decide (value.size ≤ 12) := by rw [decide_eq_decide]; omega
    have eo : decide ((old.size : Int) ≤ 12) = decide (old.size ≤ 12) := by rw [decide_eq_decide]; omega
    rw [ev, eo]
    by_cases h2 : op = 2 ∨ op = 4
    · have hb1 : b = true := by rw [hb]; simpa using h2
      have hr : inR op 1 5 = true := inR_true.2 (by omega)
      subst hb1
      rw [hr, if_pos h2]
      refine Ev.pos rfl (Ev.call (impl_within_eq _ _ _) ?_)
      cases h3 : inR s 0 100000
      · exact Ev.neg (by simp) (Ev.done (by simp))
      refine Ev.pos rfl (Ev.call (impl_within_eq _ _ _) ?_)
      cases h4 : inR q 0 100000
      · exact Ev.neg (by simp) (Ev.done (by simp))
      refine Ev.pos rfl (Ev.call (impl_within_eq _ _ _) ?_)
      cases h5 : inR key.size 1 9
      · exact Ev.neg (by simp) (Ev.done (by simp))
      refine Ev.pos rfl (Ev.ite (fun h6 => Ev.done ?_) (fun h6 => Ev.done ?_))
      · have e6 := (emp_iff _).1 h6
        have z6 := emp_true.1 e6
        rw [e6]
        cases h7 : emp old
        · simp
        · have z7 := emp_true.1 h7
          simp [z6, z7]
      · simp [Bool.eq_false_iff.2 (fun e => h6 ((emp_iff _).2 e))]
    · have hb1 : b = false := by rw [hb]; simpa using h2
      subst hb1
      rw [if_neg h2]
      refine Ev.neg (by simp) (Ev.ite (fun h6 => ?_) (fun h6 => Ev.ite (fun h7 => ?_) (fun h7 => Ev.done ?_)))
      · have hr : inR op 1 5 = true := inR_true.2 (by omega)
        rw [hr, if_pos h6]
        refine Ev.call (impl_within_eq _ _ _) ?_
        cases h3 : inR s 0 100000
        · exact Ev.neg (by simp) (Ev.done (by simp))
        refine Ev.pos rfl (Ev.call (impl_within_eq _ _ _) ?_)
        cases h4 : inR q 0 100000
        · exact Ev.neg (by simp) (Ev.done (by simp))
        refine Ev.pos rfl (Ev.call (impl_within_eq _ _ _) ?_)
        cases h5 : inR key.size 1 9
        · exact Ev.neg (by simp) (Ev.done (by simp))
        refine Ev.pos rfl (Ev.ite (fun h8 => Ev.done ?_) (fun h8 => Ev.done ?_))
        · rw [h8]
          cases h9 : emp old
          · simp
          · have z9 := emp_true.1 h9
            simp [z9]
        · simp at h8
          simp [show ¬ value.size ≤ 12 by omega]
      · have hr : inR op 1 5 = true := inR_true.2 (by omega)
        rw [hr, if_neg h6]
        refine Ev.call (impl_within_eq _ _ _) ?_
        cases h3 : inR s 0 100000
        · exact Ev.neg (by simp) (Ev.done (by simp))
        refine Ev.pos rfl (Ev.call (impl_within_eq _ _ _) ?_)
        cases h4 : inR q 0 100000
        · exact Ev.neg (by simp) (Ev.done (by simp))
        refine Ev.pos rfl (Ev.call (impl_within_eq _ _ _) ?_)
        cases h5 : inR key.size 1 9
        · exact Ev.neg (by simp) (Ev.done (by simp))
        refine Ev.pos rfl (Ev.ite (fun h8 => Ev.done ?_) (fun h8 => Ev.done ?_))
        · rw [h8]; simp
        · simp at h8
          simp [show ¬ value.size ≤ 12 by omega]
      · have hr : inR op 1 5 = false := inR_false.2 (by omega)
        rw [hr]; simp
  refine Ev.ite (fun h2 => ?_) (fun h2 => ?_)
  · exact tail _ (by subst h2; rfl)
  · exact tail _ (by rw [decide_eq_false h2, Bool.false_or, Bool.beq_eq_decide_eq])
theorem FnExactCommandOk_q (a0 a1 a2 : Int) (a3 a4 a5 : ByteArray) (q : (Lit.int .i64 a0).wf = true ∧ (Lit.int .i64 a1).wf = true ∧ (Lit.int .i64 a2).wf = true ∧ a3.size ≤ 140737488351232 ∧ a4.size ≤ 140737488351232 ∧ a5.size ≤ 140737488351232) :
    ∃ k, laws_FnExactCommandOk.f k a0 a1 a2 a3 a4 a5 = some true := by
  apply Ev.rounds
  unfold laws_FnExactCommandOk.f
  obtain ⟨r, hr, -⟩ := laws_szCommand_some a0 a1 a2 a3 a4 a5 q.2.2.2.1 q.2.2.2.2.1 q.2.2.2.2.2
  refine Ev.call hr (Ev.ite (fun _ => Ev.now _) (fun hn => Ev.call rfl (Ev.bind (spec_CommandOk_ev _ _ _ _ _ _) (Ev.call rfl (Ev.bind (impl_CommandOk_ev _ _ _ _ _ _) (Ev.neg (by simp) (Ev.now _)))))))

end Go.Proofs.Ythgmanojhicchaa.Pure
