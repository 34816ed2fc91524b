/- The law FnExactEntryText answers true: the program's EntryText returns what the reference's returns. For all arguments; no further condition. -/
import Derived.Test.YthgmanojhicchaaPFnExactEntryTextx3
import Derived.Test.YthgmanojhicchaaBase
namespace Go.Proofs.Ythgmanojhicchaa.Pure
open Go.RowKit Go.Proofs.Ythgmanojhicchaa.PFnExactEntryText Go.Proofs.YthgmanojhicchaaW.PrintWords Go.Proofs.YthgmanojhicchaaW.PrintLast Go.Proofs.Ythgmanojhicchaa.Base
set_option linter.unusedVariables false

theorem laws_szEntry_some (x0 : Int) (x1 : Int) (x2 : ByteArray) (c : Int) (hc0 : 0 ≤ c) (hc : c ≤ 1048576) (h2 : x2.size ≤ 140737488351232) :
    ∃ r, laws_szEntry.f x0 x1 x2 c = some r ∧ (¬ r < 0 → r = c - ((x2.size : Nat) : Int)) := by
  unfold laws_szEntry.f wrap64
  by_cases c0 : (c - (x2.size : Int) + 9223372036854775808) % 18446744073709551616 - 9223372036854775808 < 0
  · exact ⟨-1, by rw [if_pos c0], by omega⟩
  rw [if_neg c0]
  exact ⟨_, rfl, by omega⟩
theorem spec_l01In_eq (a b c : Int) : spec_l01In.f a b c = some (inR a b c) := by
  unfold spec_l01In.f inR
  by_cases h : b ≤ a
  · rw [if_pos h]; simp [h]
  · rw [if_neg h]; simp [h]
theorem impl_within_eq (a b c : Int) : impl_within.f a b c = some (inR a b c) := by
  unfold impl_within.f inR
  by_cases h : b ≤ a
  · rw [if_pos h]; simp [h]
  · rw [if_neg h]; simp [h]
theorem spec_l07Rise_loop (xs : List Int) (lo hi : Int) (hx : xs.length ≤ 9223372036854775806) : ∀ (rest : List Int) (n : Nat), xs.drop n = rest →
    Ev (fun k => spec_l07Rise.l0 k xs lo hi (n : Int)) (rise lo hi (prevOf xs n) rest) := by
  intro rest
  induction rest with
  | nil =>
    intro n h
    have := drop_nil h
    refine Ev.step (fun _ => rfl) ?_
    simp only [spec_l07Rise.l0]
    exact Ev.neg (by omega) (Ev.done (by cases n <;> rfl))
  | cons x t ih =>
    intro n h
    obtain ⟨h1, -, h3⟩ := drop_cons h
    have ih := ih (n + 1) h3
    rw [prevOf_next h] at ih
    refine Ev.step (fun _ => rfl) ?_
    simp only [spec_l07Rise.l0, drop_rd h, wrap64_succ (show n ≤ 9223372036854775806 by omega)]
    refine Ev.pos (by omega) (Ev.pos (by omega) (Ev.call (spec_l01In_eq _ _ _) ?_))
    cases hb : inR x lo hi
    · exact Ev.neg (by simp) (Ev.done (by cases n <;> simp [rise, prevOf, hb]))
    · refine Ev.pos rfl ?_
      cases n with
      | zero => exact Ev.neg (by omega) (Ev.eq ih (by simp [rise, prevOf, hb]))
      | succ m =>
        refine Ev.pos (by omega) ?_
        simp only [wrap64_pred (show m ≤ 9223372036854775806 by omega)]
        refine Ev.pos (by omega) (Ev.pos (by omega) (Ev.ite (fun hc => Ev.done ?_) (fun hc => Ev.eq ih ?_)))
        · simp only [prevOf, rise, hb, decide_eq_false (show ¬ rd xs (m : Int) < x by omega)]; simp
        · simp only [prevOf, rise, hb, decide_eq_true (show rd xs (m : Int) < x by omega)]; simp
theorem spec_l07Rise_ev (xs : List Int) (lo hi : Int) (hx : xs.length ≤ 9223372036854775806) : Ev (fun k => spec_l07Rise.f k xs lo hi) (rise lo hi none xs) :=
  spec_l07Rise_loop xs lo hi hx xs 0 rfl
theorem spec_ConfOk_ev (xs : List Int) (hx : xs.length ≤ 9223372036854775806) : Ev (fun k => spec_ConfOk.f k xs) (confOk xs) := by
  unfold spec_ConfOk.f
  refine Ev.call (spec_l01In_eq _ _ _) ?_
  cases hb : inR xs.length 1 4
  · exact Ev.neg (by simp) (Ev.done (by simp [confOk, hb]))
  · exact Ev.pos rfl (Ev.bind (spec_l07Rise_ev xs 1 4 hx) (Ev.done (by simp [confOk, hb])))
theorem impl_ConfOk_loop (xs : List Int) (hx : xs.length ≤ 9223372036854775806) : ∀ (rest : List Int) (n : Nat), xs.drop n = rest →
    Ev (fun k => impl_ConfOk.l0 k xs xs (xs.length : Int) (n : Int)) (rise 1 4 (prevOf xs n) rest && inR xs.length 1 4) := by
  intro rest
  induction rest with
  | nil =>
    intro n h
    have := drop_nil h
    refine Ev.step (fun _ => rfl) ?_
    simp only [impl_ConfOk.l0]
    exact Ev.neg (by omega) (Ev.call (impl_within_eq _ _ _) (Ev.done (by cases n <;> simp [rise])))
  | cons x t ih =>
    intro n h
    obtain ⟨h1, -, h3⟩ := drop_cons h
    have ih := ih (n + 1) h3
    rw [prevOf_next h] at ih
    refine Ev.step (fun _ => rfl) ?_
    simp only [impl_ConfOk.l0, drop_rd h, wrap64_succ (show n ≤ 9223372036854775806 by omega)]
    refine Ev.pos (by omega) (Ev.pos (by omega) (Ev.pos (by omega) (Ev.call (impl_within_eq _ _ _) ?_)))
    cases hb : inR x 1 4
    · exact Ev.neg (by simp) (Ev.done (by cases n <;> simp [rise, prevOf, hb]))
    · refine Ev.pos rfl ?_
      cases n with
      | zero => exact Ev.neg (by omega) (Ev.eq ih (by simp [rise, prevOf, hb]))
      | succ m =>
        refine Ev.pos (by omega) ?_
        simp only [wrap64_pred (show m ≤ 9223372036854775806 by omega)]
        refine Ev.pos (by omega) (Ev.pos (by omega) (Ev.ite (fun hc => Ev.done ?_) (fun hc => Ev.eq ih ?_)))
        · simp only [prevOf, rise, hb, decide_eq_false (show ¬ rd xs (m : Int) < x by omega)]; simp
        · simp only [prevOf, rise, hb, decide_eq_true (show rd xs (m : Int) < x by omega)]; simp
theorem impl_ConfOk_ev (xs : List Int) (hx : xs.length ≤ 9223372036854775806) : Ev (fun k => impl_ConfOk.f k xs) (confOk xs) :=
  Ev.eq (impl_ConfOk_loop xs hx xs 0 rfl) (by rw [confOk, Bool.and_comm]; rfl)
theorem spec_ReadConf_loop (s : ByteArray) (hx : s.size ≤ 1048576) : ∀ (rest : List Int) (n : Nat) (acc : List Int), (bytesOf s).drop n = rest → acc = (bytesOf s).take n → n ≤ 5 →
    Ev (fun k => spec_ReadConf.l0 k s acc (n : Int)) (readConf s) := by
  have hz := bytesOf_length s
  have whole : ∀ (acc : List Int), acc = bytesOf s → Ev (fun k => if (acc.length : Int) = (s.size : Int) then ((spec_ConfOk.f k acc).bind fun t => (if t = true then (some (acc, true)) else (some ((([] : List Int)), false)))) else (some ((([] : List Int)), false))) (readConf s) := by
    intro acc ha
    subst ha
    refine Ev.pos (by omega) (Ev.bind (spec_ConfOk_ev _ (by omega)) ?_)
    unfold readConf
    cases hb : confOk (bytesOf s)
    · exact Ev.neg (by simp) (Ev.done (by simp))
    · exact Ev.pos rfl (Ev.done (by simp))
  intro rest
  induction rest with
  | nil =>
    intro n acc h ha h5
    have := bytesOf_drop_nil h
    refine Ev.step (fun _ => rfl) ?_
    simp only [spec_ReadConf.l0]
    exact Ev.neg (by omega) (whole acc (by rw [ha, List.take_of_length_le (by omega)]))
  | cons x t ih =>
    intro n acc h ha h5
    obtain ⟨h1, h2, h3, h4, h6⟩ := bytesOf_drop_lt h
    refine Ev.step (fun _ => rfl) ?_
    simp only [spec_ReadConf.l0, h2, wrap64_id (show -9223372036854775808 ≤ x by omega) (show x ≤ 9223372036854775807 by omega), wrap64_succ (show n ≤ 9223372036854775806 by omega)]
    refine Ev.pos (by omega) (Ev.ite (fun hc => ?_) (fun hc => ?_))
    · refine Ev.pos (by omega) (Ev.pos (by rw [ha, List.length_take]; omega) (ih (n + 1) (acc ++ [x]) h3 ?_ (by omega)))
      rw [ha, List.take_succ_eq_append_getElem (show n < (bytesOf s).length by omega)]
      have e := drop_rd h
      rw [rd_nat, List.getD_eq_getElem?_getD, List.getElem?_eq_getElem (show n < (bytesOf s).length by omega)] at e
      rw [← e]; rfl
    · have hl : acc.length = n := by rw [ha, List.length_take]; omega
      have hf : confOk (bytesOf s) = false := by
        cases hb : confOk (bytesOf s)
        · rfl
        · have := confOk_len hb; omega
      by_cases he : n = s.size
      · exact whole acc (by rw [ha, List.take_of_length_le (by omega)])
      · exact Ev.neg (by omega) (Ev.done (by simp [readConf, hf]))
theorem spec_ReadConf_ev (s : ByteArray) (hx : s.size ≤ 1048576) : Ev (fun k => spec_ReadConf.f k s) (readConf s) :=
  spec_ReadConf_loop s hx _ 0 [] rfl rfl (by omega)
theorem impl_ReadConf_loop (s : ByteArray) (hx : s.size ≤ 1048576) : ∀ (rest : List Int) (n : Nat) (acc : List Int), (bytesOf s).drop n = rest → acc = (bytesOf s).take n →
    Ev (fun k => impl_ReadConf.l0 k s acc (n : Int)) (readConf s) := by
  have hz := bytesOf_length s
  intro rest
  induction rest with
  | nil =>
    intro n acc h ha
    have := bytesOf_drop_nil h
    refine Ev.step (fun _ => rfl) ?_
    simp only [impl_ReadConf.l0]
    obtain rfl : acc = bytesOf s := by rw [ha, List.take_of_length_le (by omega)]
    refine Ev.neg (by omega) (Ev.bind (impl_ConfOk_ev _ (by omega)) ?_)
    unfold readConf
    cases hb : confOk (bytesOf s)
    · exact Ev.neg (by simp) (Ev.done (by simp))
    · exact Ev.pos rfl (Ev.done (by simp))
  | cons x t ih =>
    intro n acc h ha
    obtain ⟨h1, h2, h3, h4, h6⟩ := bytesOf_drop_lt h
    refine Ev.step (fun _ => rfl) ?_
    simp only [impl_ReadConf.l0, h2, wrap64_id (show -9223372036854775808 ≤ x by omega) (show x ≤ 9223372036854775807 by omega), wrap64_succ (show n ≤ 9223372036854775806 by omega)]
    refine Ev.pos (by omega) (Ev.pos (by omega) (Ev.pos (by rw [ha, List.length_take]; omega) (ih (n + 1) (acc ++ [x]) h3 ?_)))
    rw [ha, List.take_succ_eq_append_getElem (show n < (bytesOf s).length by omega)]
    have e := drop_rd h
    rw [rd_nat, List.getD_eq_getElem?_getD, List.getElem?_eq_getElem (show n < (bytesOf s).length by omega)] at e
    rw [← e]; rfl
theorem impl_ReadConf_ev (s : ByteArray) (hx : s.size ≤ 1048576) : Ev (fun k => impl_ReadConf.f k s) (readConf s) :=
  impl_ReadConf_loop s hx _ 0 [] rfl rfl
theorem spec_l01Var_loop : ∀ (n : Nat) (acc : List Int), acc.length + n < 140737488355328 →
    Ev (fun k => spec_l01Var.l0 k (n : Int) acc) (strOfNums (acc ++ varL n)) := by
  intro n
  induction n using Nat.strongRecOn with
  | ind n ih =>
    intro acc h
    refine Ev.step (fun _ => rfl) ?_
    simp only [spec_l01Var.l0, tdiv128 n (by omega), tmod128 n]
    refine Ev.ite (fun hc => ?_) (fun hc => ?_)
    · rw [varL_big (by omega)]
      exact Ev.pos (by omega) (Ev.eq (ih (n / 128) (by omega) _ (by simp; omega)) (by simp))
    · rw [varL_small (by omega)]
      exact Ev.pos (by omega) (Ev.done (by rw [Int.emod_eq_of_lt (by omega) (by omega)]))
theorem spec_l01Var_nat (n : Nat) (h : n ≤ 34359738367) : Ev (fun k => spec_l01Var.f k (n : Int)) (varText n) := spec_l01Var_loop n [] (by simp; omega)
theorem spec_l01Var_ev (n : Int) (h0 : 0 ≤ n) (h : n ≤ 34359738367) : Ev (fun k => spec_l01Var.f k n) (varText n.toNat) := by
  obtain ⟨m, rfl⟩ := Int.eq_ofNat_of_zero_le h0
  exact spec_l01Var_nat m (by omega)
theorem impl_VarText_loop : ∀ (n : Nat) (acc : List Int), acc.length + n < 140737488355328 →
    Ev (fun k => impl_VarText.l0 k (n : Int) acc) (strOfNums (acc ++ varL n), true) := by
  intro n
  induction n using Nat.strongRecOn with
  | ind n ih =>
    intro acc h
    refine Ev.step (fun _ => rfl) ?_
    simp only [impl_VarText.l0, tdiv128 n (by omega), tmod128 n]
    refine Ev.ite (fun hc => ?_) (fun hc => ?_)
    · rw [varL_big (by omega)]
      exact Ev.pos (by omega) (Ev.eq (ih (n / 128) (by omega) _ (by simp; omega)) (by simp))
    · rw [varL_small (by omega)]
      exact Ev.pos (by omega) (Ev.done (by rw [Int.emod_eq_of_lt (by omega) (by omega)]))
theorem impl_VarText_ev (n : Int) : Ev (fun k => impl_VarText.f k n) (varTextOf n) := by
  unfold impl_VarText.f varTextOf
  refine Ev.call (impl_within_eq _ _ _) ?_
  cases hb : inR n 0 1000000000
  · exact Ev.neg (by simp) (Ev.done (by simp))
  · have := inR_true.1 hb
    obtain ⟨m, rfl⟩ := Int.eq_ofNat_of_zero_le this.1
    exact Ev.pos rfl (Ev.eq (impl_VarText_loop m [] (by simp; omega)) (by simp [varText]))
theorem impl_VarText_nat (n : Nat) (h : n ≤ 1000000000) : Ev (fun k => impl_VarText.f k (n : Int)) (varText n, true) :=
  Ev.eq (impl_VarText_ev (n : Int)) (by rw [varTextOf, if_pos (inR_true.2 (by omega))]; rfl)
theorem impl_vars_loop (xs : List Int) (hx : xs.length ≤ 1048576) : ∀ (rest : List Int) (n : Nat) (acc : List Int), xs.drop n = rest → acc.length + 5 * rest.length < 140737488355328 →
    Ev (fun k => impl_vars.l0 k acc xs (xs.length : Int) (n : Int)) (if rest.all (fun n => inR n 0 1000000000) = true then (strOfNums (acc ++ rest.flatMap fun n => varL n.toNat), true) else (⟨#[]⟩, false)) := by
  intro rest
  induction rest with
  | nil =>
    intro n acc h ha
    have := drop_nil h
    refine Ev.step (fun _ => rfl) ?_
    simp only [impl_vars.l0]
    exact Ev.neg (by omega) (Ev.done (by simp))
  | cons x t ih =>
    intro n acc h ha
    obtain ⟨h1, -, h3⟩ := drop_cons h
    refine Ev.step (fun _ => rfl) ?_
    simp only [impl_vars.l0, drop_rd h, wrap64_succ (show n ≤ 9223372036854775806 by omega)]
    refine Ev.pos (by omega) (Ev.pos (by omega) (Ev.pos (by omega) (Ev.bind (impl_VarText_ev x) ?_)))
    unfold varTextOf
    cases hb : inR x 0 1000000000
    · exact Ev.neg (by simp) (Ev.done (by simp [hb]))
    · have hr := inR_true.1 hb
      have hv := varL_len (show x.toNat ≤ 34359738367 by omega)
      simp only [if_true, varText, strOfNums_size, bytesOf_strOfNums _ (varL_bytes _)]
      rw [List.length_cons] at ha
      refine Ev.pos (by omega) (Ev.eq (ih (n + 1) (acc ++ varL x.toNat) h3 (by rw [List.length_append]; omega)) ?_)
      simp [hb]
theorem impl_vars_ev (xs : List Int) (hx : xs.length ≤ 1048576) : Ev (fun k => impl_vars.f k xs) (varsOf xs) :=
  Ev.eq (impl_vars_loop xs hx xs 0 [] rfl (by simp; omega)) (by simp [varsOf])
theorem spec_EntryOk_ev (t d : Int) (s : ByteArray) (hs : s.size ≤ 1048576) : Ev (fun k => spec_EntryOk.f k t d s) (entryOk t d s) := by
  unfold spec_EntryOk.f entryOk
  simp only [emp_def]
  refine Ev.call (spec_l01In_eq _ _ _) ?_
  cases h1 : inR t 0 100000
  · exact Ev.neg (by simp) (Ev.done (by simp))
  refine Ev.pos rfl (Ev.ite (fun h => Ev.done (by simp [h])) (fun h => Ev.ite (fun h' => ?_) (fun h' => Ev.ite (fun h2 => Ev.done ?_) (fun h2 => Ev.done (by simp [h, h', h2])))))
  · refine Ev.bind (spec_ReadConf_ev s hs) (Ev.done ?_)
    subst h'
    unfold readConf
    cases hc : confOk (bytesOf s) <;> simp
  · subst h2
    simp
    omega
theorem impl_EntryOk_ev (t d : Int) (s : ByteArray) (hs : s.size ≤ 1048576) : Ev (fun k => impl_EntryOk.f k t d s) (entryOk t d s) := by
  unfold impl_EntryOk.f entryOk
  simp only [emp_def]
  refine Ev.call (impl_within_eq _ _ _) ?_
  cases h1 : inR t 0 100000
  · exact Ev.neg (by simp) (Ev.done (by simp))
  refine Ev.pos rfl (Ev.ite (fun h => Ev.done (by simp [h])) (fun h => Ev.ite (fun h' => ?_) (fun h' => Ev.ite (fun h2 => Ev.done ?_) (fun h2 => Ev.done (by simp [h, h', h2])))))
  · refine Ev.bind (impl_ReadConf_ev s hs) (Ev.done ?_)
    subst h'
    unfold readConf
    cases hc : confOk (bytesOf s) <;> simp
  · subst h2
    simp
    omega
theorem spec_EntryText_ev (i t d : Int) (s : ByteArray) (hs : s.size ≤ 1048576) : Ev (fun k => spec_EntryText.f k i t d s) (entryText i t d s) := by
  unfold spec_EntryText.f entryText
  refine Ev.bind (spec_EntryOk_ev t d s hs) ?_
  cases hb : entryOk t d s
  · refine Ev.neg (by simp) (Ev.step (fun _ => rfl) ?_)
    simp only [spec_EntryText.j0]
    exact Ev.pos trivial (Ev.done (by simp))
  refine Ev.pos rfl (Ev.call (spec_l01In_eq _ _ _) (Ev.step (fun _ => rfl) ?_))
  simp only [spec_EntryText.j0]
  cases hi : inR i 1 100000
  · exact Ev.pos rfl (Ev.done (by simp))
  have h1 := inR_true.1 hi
  have h2 := entryOk_term hb
  have s1 := varText_size (show i.toNat ≤ 34359738367 by omega)
  have s2 := varText_size (show t.toNat ≤ 34359738367 by omega)
  have s3 : (strOfNums [d % 256]).size = 1 := by rw [strOfNums_size]; rfl
  have s4 : (⟨#[69]⟩ : ByteArray).size = 1 := rfl
  exact Ev.neg (by simp) (Ev.bind (spec_l01Var_ev i (by omega) (by omega)) (Ev.pos (by omega) (Ev.bind (spec_l01Var_ev t (by omega) (by omega)) (Ev.pos (by simp only [size_append]; omega) (Ev.call rfl (Ev.pos (by simp only [size_append]; omega) (Ev.pos (by simp only [size_append]; omega) (Ev.done (by simp)))))))))
theorem impl_EntryText_ev (i t d : Int) (s : ByteArray) (hs : s.size ≤ 1048576) : Ev (fun k => impl_EntryText.f k i t d s) (entryText i t d s) := by
  unfold impl_EntryText.f entryText
  refine Ev.bind (impl_EntryOk_ev t d s hs) ?_
  cases hb : entryOk t d s
  · exact Ev.neg (by simp) (Ev.done (by simp))
  refine Ev.pos rfl (Ev.call (impl_within_eq _ _ _) ?_)
  cases hi : inR i 1 100000
  · exact Ev.neg (by simp) (Ev.done (by simp))
  have h1 := inR_true.1 hi
  have h2 := entryOk_term hb
  have s1 := varText_size (show i.toNat ≤ 34359738367 by omega)
  have s2 := varText_size (show t.toNat ≤ 34359738367 by omega)
  have s3 : (strOfNums [d % 256]).size = 1 := by rw [strOfNums_size]; rfl
  have s4 : (⟨#[69]⟩ : ByteArray).size = 1 := rfl
  have e : varsOf [i, t] = (varText i.toNat ++ varText t.toNat, true) := varsOf_two (inR_true.2 (by omega)) (inR_true.2 (by omega))
  refine Ev.pos rfl (Ev.bind (Ev.eq (impl_vars_ev [i, t] (by simp)) e) (Ev.pos (by simp only [size_append]; omega) (Ev.call rfl (Ev.pos (by simp only [size_append]; omega) (Ev.pos (by simp only [size_append]; omega) (Ev.done ?_))))))
  simp [ByteArray.append_assoc]
theorem FnExactEntryText_q (a0 : Int) (b0 b1 : Int) (b2 : ByteArray) (_ : (Lit.int .i64 a0).wf = true) (q : (Lit.int .i64 b0).wf = true ∧ (Lit.int .i64 b1).wf = true ∧ b2.size ≤ 140737488351232) :
    ∃ k, laws_FnExactEntryText.f k a0 b0 b1 b2 = some true := by
  apply Ev.rounds
  unfold laws_FnExactEntryText.f
  obtain ⟨r, hr, hb⟩ := laws_szEntry_some b0 b1 b2 1048576 (by omega) (by omega) q.2.2
  refine Ev.call hr (Ev.ite (fun _ => Ev.now _) (fun hn => Ev.call rfl ?_))
  have := hb hn
  have hs : b2.size ≤ 1048576 := by omega
  exact Ev.bind (spec_EntryText_ev _ _ _ _ hs) (Ev.call rfl (Ev.bind (impl_EntryText_ev _ _ _ _ hs) (Ev.pos rfl (Ev.neg (by simp) (Ev.now _)))))

end Go.Proofs.Ythgmanojhicchaa.Pure
