/- The law FnEntries answers true: a drawn right entry comes back from its text, with its index; so does a conf; more than half of a conf is most of it. For all arguments; no further condition. -/
import Derived.Test.YtgpafelepkhdoaaPFnEntriesx13
import Derived.Test.YtgpafelepkhdoaaVFnEntriesBase
namespace Go.Proofs.Ytgpafelepkhdoaa.Pure
open Go.RowKit Go.Proofs.Ytgpafelepkhdoaa.PFnEntries Go.Proofs.YtgpafelepkhdoaaW.PrintWords Go.Proofs.YtgpafelepkhdoaaW.PrintLast Go.Proofs.Ytgpafelepkhdoaa.Base
set_option linter.unusedVariables false

theorem spec_l01In_eq (a b c : Int) : spec_l01In.f a b c = some (inR a b c) := by
  unfold spec_l01In.f inR
  by_cases h : b ≤ a
  · rw [if_pos h]; simp [h]
  · rw [if_neg h]; simp [h]
theorem impl_within_eq (a b c : Int) : impl_within.f a b c = some (inR a b c) := by
  unfold impl_within.f inR
  by_cases h : b ≤ a
  · rw [if_pos h]; simp [h]
  · rw [if_neg h]; simp [h]
theorem spec_l07Rise_loop (xs : List Int) (lo hi : Int) (hx : xs.length ≤ 9223372036854775806) : ∀ (rest : List Int) (n : Nat), xs.drop n = rest →
    Ev (fun k => spec_l07Rise.l0 k xs lo hi (n : Int)) (rise lo hi (prevOf xs n) rest) := by
  intro rest
  induction rest with
  | nil =>
    intro n h
    have := drop_nil h
    refine Ev.step (fun _ => rfl) ?_
    simp only [spec_l07Rise.l0]
    exact Ev.neg (by omega) (Ev.done (by cases n <;> rfl))
  | cons x t ih =>
    intro n h
    obtain ⟨h1, -, h3⟩ := drop_cons h
    have ih := ih (n + 1) h3
    rw [prevOf_next h] at ih
    refine Ev.step (fun _ => rfl) ?_
    simp only [spec_l07Rise.l0, drop_rd h, wrap64_succ (show n ≤ 9223372036854775806 by omega)]
    refine Ev.pos (by omega) (Ev.pos (by omega) (Ev.call (spec_l01In_eq _ _ _) ?_))
    cases hb : inR x lo hi
    · exact Ev.neg (by simp) (Ev.done (by cases n <;> simp [rise, prevOf, hb]))
    · refine Ev.pos rfl ?_
      cases n with
      | zero => exact Ev.neg (by omega) (Ev.eq ih (by simp [rise, prevOf, hb]))
      | succ m =>
        refine Ev.pos (by omega) ?_
        simp only [wrap64_pred (show m ≤ 9223372036854775806 by omega)]
        refine Ev.pos (by omega) (Ev.pos (by omega) (Ev.ite (fun hc => Ev.done ?_) (fun hc => Ev.eq ih ?_)))
        · simp only [prevOf, rise, hb, decide_eq_false (show ¬ rd xs (m : Int) < x by omega)]; simp
        · simp only [prevOf, rise, hb, decide_eq_true (show rd xs (m : Int) < x by omega)]; simp
theorem spec_l07Rise_ev (xs : List Int) (lo hi : Int) (hx : xs.length ≤ 9223372036854775806) : Ev (fun k => spec_l07Rise.f k xs lo hi) (rise lo hi none xs) :=
  spec_l07Rise_loop xs lo hi hx xs 0 rfl
theorem spec_ConfOk_ev (xs : List Int) (hx : xs.length ≤ 9223372036854775806) : Ev (fun k => spec_ConfOk.f k xs) (confOk xs) := by
  unfold spec_ConfOk.f
  refine Ev.call (spec_l01In_eq _ _ _) ?_
  cases hb : inR xs.length 1 4
  · exact Ev.neg (by simp) (Ev.done (by simp [confOk, hb]))
  · exact Ev.pos rfl (Ev.bind (spec_l07Rise_ev xs 1 4 hx) (Ev.done (by simp [confOk, hb])))
theorem impl_ConfOk_loop (xs : List Int) (hx : xs.length ≤ 9223372036854775806) : ∀ (rest : List Int) (n : Nat), xs.drop n = rest →
    Ev (fun k => impl_ConfOk.l0 k xs xs (xs.length : Int) (n : Int)) (rise 1 4 (prevOf xs n) rest && inR xs.length 1 4) := by
  intro rest
  induction rest with
  | nil =>
    intro n h
    have := drop_nil h
    refine Ev.step (fun _ => rfl) ?_
    simp only [impl_ConfOk.l0]
    exact Ev.neg (by omega) (Ev.call (impl_within_eq _ _ _) (Ev.done (by cases n <;> simp [rise])))
  | cons x t ih =>
    intro n h
    obtain ⟨h1, -, h3⟩ := drop_cons h
    have ih := ih (n + 1) h3
    rw [prevOf_next h] at ih
    refine Ev.step (fun _ => rfl) ?_
    simp only [impl_ConfOk.l0, drop_rd h, wrap64_succ (show n ≤ 9223372036854775806 by omega)]
    refine Ev.pos (by omega) (Ev.pos (by omega) (Ev.pos (by omega) (Ev.call (impl_within_eq _ _ _) ?_)))
    cases hb : inR x 1 4
    · exact Ev.neg (by simp) (Ev.done (by cases n <;> simp [rise, prevOf, hb]))
    · refine Ev.pos rfl ?_
      cases n with
      | zero => exact Ev.neg (by omega) (Ev.eq ih (by simp [rise, prevOf, hb]))
      | succ m =>
        refine Ev.pos (by omega) ?_
        simp only [wrap64_pred (show m ≤ 9223372036854775806 by omega)]
        refine Ev.pos (by omega) (Ev.pos (by omega) (Ev.ite (fun hc => Ev.done ?_) (fun hc => Ev.eq ih ?_)))
        · simp only [prevOf, rise, hb, decide_eq_false (show ¬ rd xs (m : Int) < x by omega)]; simp
        · simp only [prevOf, rise, hb, decide_eq_true (show rd xs (m : Int) < x by omega)]; simp
theorem impl_ConfOk_ev (xs : List Int) (hx : xs.length ≤ 9223372036854775806) : Ev (fun k => impl_ConfOk.f k xs) (confOk xs) :=
  Ev.eq (impl_ConfOk_loop xs hx xs 0 rfl) (by rw [confOk, Bool.and_comm]; rfl)
theorem spec_ConfText_loop (xs : List Int) (hx : xs.length ≤ 1048576) : ∀ (rest : List Int) (n : Nat) (acc : List Int), xs.drop n = rest → acc.length = n →
    Ev (fun k => spec_ConfText.l0 k xs acc (n : Int)) (strOfNums (acc ++ rest.map (· % 256)), true) := by
  intro rest
  induction rest with
  | nil =>
    intro n acc h ha
    have := drop_nil h
    refine Ev.step (fun _ => rfl) ?_
    simp only [spec_ConfText.l0]
    exact Ev.neg (by omega) (Ev.done (by simp))
  | cons x t ih =>
    intro n acc h ha
    obtain ⟨h1, -, h3⟩ := drop_cons h
    refine Ev.step (fun _ => rfl) ?_
    simp only [spec_ConfText.l0, drop_rd h, wrap64_succ (show n ≤ 9223372036854775806 by omega)]
    exact Ev.pos (by omega) (Ev.pos (by omega) (Ev.pos (by omega) (Ev.eq (ih (n + 1) (acc ++ [x % 256]) h3 (by simp [ha])) (by simp))))
theorem spec_ConfText_ev (xs : List Int) (hx : xs.length ≤ 1048576) : Ev (fun k => spec_ConfText.f k xs) (confText xs) := by
  unfold spec_ConfText.f
  refine Ev.bind (spec_ConfOk_ev xs (by omega)) ?_
  unfold confText
  cases hb : confOk xs
  · exact Ev.neg (by simp) (Ev.done (by simp))
  · exact Ev.pos rfl (Ev.eq (spec_ConfText_loop xs hx xs 0 [] rfl rfl) (by simp))
theorem impl_ConfText_loop (xs : List Int) (hx : xs.length ≤ 1048576) : ∀ (rest : List Int) (n : Nat) (acc : List Int), xs.drop n = rest → acc.length = n →
    Ev (fun k => impl_ConfText.l0 k acc xs (xs.length : Int) (n : Int)) (strOfNums (acc ++ rest.map (· % 256)), true) := by
  intro rest
  induction rest with
  | nil =>
    intro n acc h ha
    have := drop_nil h
    refine Ev.step (fun _ => rfl) ?_
    simp only [impl_ConfText.l0]
    exact Ev.neg (by omega) (Ev.done (by simp))
  | cons x t ih =>
    intro n acc h ha
    obtain ⟨h1, -, h3⟩ := drop_cons h
    refine Ev.step (fun _ => rfl) ?_
    simp only [impl_ConfText.l0, drop_rd h, wrap64_succ (show n ≤ 9223372036854775806 by omega)]
    exact Ev.pos (by omega) (Ev.pos (by omega) (Ev.pos (by omega) (Ev.pos (by omega) (Ev.eq (ih (n + 1) (acc ++ [x % 256]) h3 (by simp [ha])) (by simp)))))
theorem impl_ConfText_ev (xs : List Int) (hx : xs.length ≤ 1048576) : Ev (fun k => impl_ConfText.f k xs) (confText xs) := by
  unfold impl_ConfText.f
  refine Ev.bind (impl_ConfOk_ev xs (by omega)) ?_
  unfold confText
  cases hb : confOk xs
  · exact Ev.neg (by simp) (Ev.done (by simp))
  · exact Ev.pos rfl (Ev.eq (impl_ConfText_loop xs hx xs 0 [] rfl rfl) (by simp))
theorem spec_ReadConf_loop (s : ByteArray) (hx : s.size ≤ 1048576) : ∀ (rest : List Int) (n : Nat) (acc : List Int), (bytesOf s).drop n = rest → acc = (bytesOf s).take n → n ≤ 5 →
    Ev (fun k => spec_ReadConf.l0 k s acc (n : Int)) (readConf s) := by
  have hz := bytesOf_length s
  have whole : ∀ (acc : List Int), acc = bytesOf s → Ev (fun k => if (acc.length : Int) = (s.size : Int) then ((spec_ConfOk.f k acc).bind fun t => (if t = true then (some (acc, true)) else (some ((([] : List Int)), false)))) else (some ((([] : List Int)), false))) (readConf s) := by
    intro acc ha
    subst ha
    refine Ev.pos (by omega) (Ev.bind (spec_ConfOk_ev _ (by omega)) ?_)
    unfold readConf
    cases hb : confOk (bytesOf s)
    · exact Ev.neg (by simp) (Ev.done (by simp))
    · exact Ev.pos rfl (Ev.done (by simp))
  intro rest
  induction rest with
  | nil =>
    intro n acc h ha h5
    have := bytesOf_drop_nil h
    refine Ev.step (fun _ => rfl) ?_
    simp only [spec_ReadConf.l0]
    exact Ev.neg (by omega) (whole acc (by rw [ha, List.take_of_length_le (by omega)]))
  | cons x t ih =>
    intro n acc h ha h5
    obtain ⟨h1, h2, h3, h4, h6⟩ := bytesOf_drop_lt h
    refine Ev.step (fun _ => rfl) ?_
    simp only [spec_ReadConf.l0, h2, wrap64_id (show -9223372036854775808 ≤ x by omega) (show x ≤ 9223372036854775807 by omega), wrap64_succ (show n ≤ 9223372036854775806 by omega)]
    refine Ev.pos (by omega) (Ev.ite (fun hc => ?_) (fun hc => ?_))
    · refine Ev.pos (by omega) (Ev.pos (by rw [ha, List.length_take]; omega) (ih (n + 1) (acc ++ [x]) h3 ?_ (by omega)))
      rw [ha, List.take_succ_eq_append_getElem (show n < (bytesOf s).length by omega)]
      have e := drop_rd h
      rw [rd_nat, List.getD_eq_getElem?_getD, List.getElem?_eq_getElem (show n < (bytesOf s).length by omega)] at e
      rw [← e]; rfl
    · have hl : acc.length = n := by rw [ha, List.length_take]; omega
      have hf : confOk (bytesOf s) = false := by
        cases hb : confOk (bytesOf s)
        · rfl
        · have := confOk_len hb; omega
      by_cases he : n = s.size
      · exact whole acc (by rw [ha, List.take_of_length_le (by omega)])
      · exact Ev.neg (by omega) (Ev.done (by simp [readConf, hf]))
theorem spec_ReadConf_ev (s : ByteArray) (hx : s.size ≤ 1048576) : Ev (fun k => spec_ReadConf.f k s) (readConf s) :=
  spec_ReadConf_loop s hx _ 0 [] rfl rfl (by omega)
theorem impl_ReadConf_loop (s : ByteArray) (hx : s.size ≤ 1048576) : ∀ (rest : List Int) (n : Nat) (acc : List Int), (bytesOf s).drop n = rest → acc = (bytesOf s).take n →
    Ev (fun k => impl_ReadConf.l0 k s acc (n : Int)) (readConf s) := by
  have hz := bytesOf_length s
  intro rest
  induction rest with
  | nil =>
    intro n acc h ha
    have := bytesOf_drop_nil h
    refine Ev.step (fun _ => rfl) ?_
    simp only [impl_ReadConf.l0]
    obtain rfl : acc = bytesOf s := by rw [ha, List.take_of_length_le (by omega)]
    refine Ev.neg (by omega) (Ev.bind (impl_ConfOk_ev _ (by omega)) ?_)
    unfold readConf
    cases hb : confOk (bytesOf s)
    · exact Ev.neg (by simp) (Ev.done (by simp))
    · exact Ev.pos rfl (Ev.done (by simp))
  | cons x t ih =>
    intro n acc h ha
    obtain ⟨h1, h2, h3, h4, h6⟩ := bytesOf_drop_lt h
    refine Ev.step (fun _ => rfl) ?_
    simp only [impl_ReadConf.l0, h2, wrap64_id (show -9223372036854775808 ≤ x by omega) (show x ≤ 9223372036854775807 by omega), wrap64_succ (show n ≤ 9223372036854775806 by omega)]
    refine Ev.pos (by omega) (Ev.pos (by omega) (Ev.pos (by rw [ha, List.length_take]; omega) (ih (n + 1) (acc ++ [x]) h3 ?_)))
    rw [ha, List.take_succ_eq_append_getElem (show n < (bytesOf s).length by omega)]
    have e := drop_rd h
    rw [rd_nat, List.getD_eq_getElem?_getD, List.getElem?_eq_getElem (show n < (bytesOf s).length by omega)] at e
    rw [← e]; rfl
theorem impl_ReadConf_ev (s : ByteArray) (hx : s.size ≤ 1048576) : Ev (fun k => impl_ReadConf.f k s) (readConf s) :=
  impl_ReadConf_loop s hx _ 0 [] rfl rfl
theorem slices_Index_int_int_loop (xs : List Int) (v : Int) (hx : xs.length ≤ 9223372036854775806) : ∀ (rest : List Int) (n : Nat), xs.drop n = rest →
    ∃ r, Ev (fun k => slices_Index_int_int.l0 k xs v (xs.length : Int) (n : Int)) r ∧ decide (r ≥ 0) = rest.contains v := by
  intro rest
  induction rest with
  | nil =>
    intro n h
    have := drop_nil h
    refine ⟨-1, Ev.step (fun _ => rfl) ?_, by simp⟩
    simp only [slices_Index_int_int.l0]
    exact Ev.neg (by omega) (Ev.now _)
  | cons x t ih =>
    intro n h
    obtain ⟨h1, -, h3⟩ := drop_cons h
    by_cases hc : v = x
    · refine ⟨(n : Int), Ev.step (fun _ => rfl) ?_, ?_⟩
      · simp only [slices_Index_int_int.l0, drop_rd h]
        exact Ev.pos (by omega) (Ev.pos (by omega) (Ev.pos (by omega) (Ev.pos hc (Ev.now _))))
      · rw [List.contains_cons, hc, decide_eq_true (by omega)]; simp
    · obtain ⟨r, hr, e⟩ := ih (n + 1) h3
      refine ⟨r, Ev.step (fun _ => rfl) ?_, ?_⟩
      · simp only [slices_Index_int_int.l0, drop_rd h, wrap64_succ (show n ≤ 9223372036854775806 by omega)]
        exact Ev.pos (by omega) (Ev.pos (by omega) (Ev.pos (by omega) (Ev.neg hc hr)))
      · rw [e, List.contains_cons, beq_eq_false_iff_ne.2 hc]; simp
theorem slices_Contains_int_int_ev (xs : List Int) (v : Int) (hx : xs.length ≤ 9223372036854775806) : Ev (fun k => slices_Contains_int_int.f k xs v) (xs.contains v) := by
  obtain ⟨r, hr, e⟩ := slices_Index_int_int_loop xs v hx xs 0 rfl
  exact Ev.bind hr (Ev.done e)
theorem impl_Most_loop (xs l : List Int) (hx : xs.length ≤ 1048576) (hl : l.length ≤ 1048576) : ∀ (rest : List Int) (n c : Nat), xs.drop n = rest → c ≤ n → c + countIn l rest ≤ 1048576 →
    Ev (fun k => impl_Most.l0 k xs l (c : Int) xs (xs.length : Int) (n : Int)) (confOk xs && decide (2 * (c + countIn l rest) > xs.length)) := by
  intro rest
  induction rest with
  | nil =>
    intro n c h hc hb
    have := drop_nil h
    refine Ev.step (fun _ => rfl) ?_
    simp only [impl_Most.l0]
    refine Ev.neg (by omega) (Ev.bind (impl_ConfOk_ev xs (by omega)) ?_)
    cases hk : confOk xs
    · exact Ev.neg (by simp) (Ev.done (by simp))
    · refine Ev.pos rfl (Ev.done ?_)
      rw [countIn] at hb ⊢
      rw [wrap64_id (by omega) (by omega)]
      simp only [Bool.true_and]
      rw [decide_eq_decide]; omega
  | cons x t ih =>
    intro n c h hc hb
    obtain ⟨h1, -, h3⟩ := drop_cons h
    refine Ev.step (fun _ => rfl) ?_
    have hcl := countIn_le l t
    rw [countIn] at hb
    simp only [impl_Most.l0, drop_rd h, wrap64_succ (show n ≤ 9223372036854775806 by omega), wrap64_succ (show c ≤ 9223372036854775806 by omega)]
    refine Ev.pos (by omega) (Ev.pos (by omega) (Ev.pos (by omega) (Ev.bind (slices_Contains_int_int_ev l x (by omega)) (Ev.ite (fun hx => ?_) (fun hx => ?_)))))
    · rw [if_pos hx] at hb
      refine Ev.eq (ih (n + 1) (c + 1) h3 (by omega) (by omega)) ?_
      rw [countIn, if_pos hx, Nat.add_assoc]
    · rw [if_neg hx] at hb
      refine Ev.eq (ih (n + 1) c h3 (by omega) (by omega)) ?_
      rw [countIn, if_neg hx, Nat.zero_add]
theorem impl_Most_ev (xs l : List Int) (hx : xs.length ≤ 1048576) (hl : l.length ≤ 1048576) : Ev (fun k => impl_Most.f k xs l) (most xs l) :=
  Ev.eq (impl_Most_loop xs l hx hl xs 0 0 rfl (Nat.le_refl _) (by have := countIn_le l xs; omega)) (by simp [most])
theorem spec_l01Var_loop : ∀ (n : Nat) (acc : List Int), acc.length + n < 140737488355328 →
    Ev (fun k => spec_l01Var.l0 k (n : Int) acc) (strOfNums (acc ++ varL n)) := by
  intro n
  induction n using Nat.strongRecOn with
  | ind n ih =>
    intro acc h
    refine Ev.step (fun _ => rfl) ?_
    simp only [spec_l01Var.l0, tdiv128 n (by omega), tmod128 n]
    refine Ev.ite (fun hc => ?_) (fun hc => ?_)
    · rw [varL_big (by omega)]
      exact Ev.pos (by omega) (Ev.eq (ih (n / 128) (by omega) _ (by simp; omega)) (by simp))
    · rw [varL_small (by omega)]
      exact Ev.pos (by omega) (Ev.done (by rw [Int.emod_eq_of_lt (by omega) (by omega)]))
theorem spec_l01Var_nat (n : Nat) (h : n ≤ 34359738367) : Ev (fun k => spec_l01Var.f k (n : Int)) (varText n) := spec_l01Var_loop n [] (by simp; omega)
theorem spec_l01Var_ev (n : Int) (h0 : 0 ≤ n) (h : n ≤ 34359738367) : Ev (fun k => spec_l01Var.f k n) (varText n.toNat) := by
  obtain ⟨m, rfl⟩ := Int.eq_ofNat_of_zero_le h0
  exact spec_l01Var_nat m (by omega)
theorem impl_VarText_loop : ∀ (n : Nat) (acc : List Int), acc.length + n < 140737488355328 →
    Ev (fun k => impl_VarText.l0 k (n : Int) acc) (strOfNums (acc ++ varL n), true) := by
  intro n
  induction n using Nat.strongRecOn with
  | ind n ih =>
    intro acc h
    refine Ev.step (fun _ => rfl) ?_
    simp only [impl_VarText.l0, tdiv128 n (by omega), tmod128 n]
    refine Ev.ite (fun hc => ?_) (fun hc => ?_)
    · rw [varL_big (by omega)]
      exact Ev.pos (by omega) (Ev.eq (ih (n / 128) (by omega) _ (by simp; omega)) (by simp))
    · rw [varL_small (by omega)]
      exact Ev.pos (by omega) (Ev.done (by rw [Int.emod_eq_of_lt (by omega) (by omega)]))
theorem impl_VarText_ev (n : Int) : Ev (fun k => impl_VarText.f k n) (varTextOf n) := by
  unfold impl_VarText.f varTextOf
  refine Ev.call (impl_within_eq _ _ _) ?_
  cases hb : inR n 0 1000000000
  · exact Ev.neg (by simp) (Ev.done (by simp))
  · have := inR_true.1 hb
    obtain ⟨m, rfl⟩ := Int.eq_ofNat_of_zero_le this.1
    exact Ev.pos rfl (Ev.eq (impl_VarText_loop m [] (by simp; omega)) (by simp [varText]))
theorem impl_VarText_nat (n : Nat) (h : n ≤ 1000000000) : Ev (fun k => impl_VarText.f k (n : Int)) (varText n, true) :=
  Ev.eq (impl_VarText_ev (n : Int)) (by rw [varTextOf, if_pos (inR_true.2 (by omega))]; rfl)
theorem impl_vars_loop (xs : List Int) (hx : xs.length ≤ 1048576) : ∀ (rest : List Int) (n : Nat) (acc : List Int), xs.drop n = rest → acc.length + 5 * rest.length < 140737488355328 →
    Ev (fun k => impl_vars.l0 k acc xs (xs.length : Int) (n : Int)) (if rest.all (fun n => inR n 0 1000000000) = true then (strOfNums (acc ++ rest.flatMap fun n => varL n.toNat), true) else (⟨#[]⟩, false)) := by
  intro rest
  induction rest with
  | nil =>
    intro n acc h ha
    have := drop_nil h
    refine Ev.step (fun _ => rfl) ?_
    simp only [impl_vars.l0]
    exact Ev.neg (by omega) (Ev.done (by simp))
  | cons x t ih =>
    intro n acc h ha
    obtain ⟨h1, -, h3⟩ := drop_cons h
    refine Ev.step (fun _ => rfl) ?_
    simp only [impl_vars.l0, drop_rd h, wrap64_succ (show n ≤ 9223372036854775806 by omega)]
    refine Ev.pos (by omega) (Ev.pos (by omega) (Ev.pos (by omega) (Ev.bind (impl_VarText_ev x) ?_)))
    unfold varTextOf
    cases hb : inR x 0 1000000000
    · exact Ev.neg (by simp) (Ev.done (by simp [hb]))
    · have hr := inR_true.1 hb
      have hv := varL_len (show x.toNat ≤ 34359738367 by omega)
      simp only [if_true, varText, strOfNums_size, bytesOf_strOfNums _ (varL_bytes _)]
      rw [List.length_cons] at ha
      refine Ev.pos (by omega) (Ev.eq (ih (n + 1) (acc ++ varL x.toNat) h3 (by rw [List.length_append]; omega)) ?_)
      simp [hb]
theorem impl_vars_ev (xs : List Int) (hx : xs.length ≤ 1048576) : Ev (fun k => impl_vars.f k xs) (varsOf xs) :=
  Ev.eq (impl_vars_loop xs hx xs 0 [] rfl (by simp; omega)) (by simp [varsOf])
theorem spec_CommandOk_ev (op s q : Int) (key value old : ByteArray) : Ev (fun k => spec_CommandOk.f k op s q key value old) (cmdOk op s q key value old) := by
  have bad : ∀ r, r = false → Ev (fun k => spec_CommandOk.j0 k true op s q key value old) r := by
    rintro r rfl
    refine Ev.step (fun _ => rfl) ?_
    simp only [spec_CommandOk.j0]
    exact Ev.pos trivial (Ev.now _)
  unfold spec_CommandOk.f cmdOk
  refine Ev.call (spec_l01In_eq _ _ _) ?_
  cases h1 : inR op 1 5
  · exact Ev.neg (by simp) (bad _ (by simp))
  refine Ev.pos rfl (Ev.call (spec_l01In_eq _ _ _) ?_)
  cases h2 : inR s 0 100000
  · exact Ev.neg (by simp) (bad _ (by simp))
  refine Ev.pos rfl (Ev.call (spec_l01In_eq _ _ _) ?_)
  cases h3 : inR q 0 100000
  · exact Ev.neg (by simp) (bad _ (by simp))
  refine Ev.pos rfl (Ev.ite (fun h4 => bad _ ?_) (fun h4 => ?_))
  · rw [decide_eq_false (show ¬ value.size ≤ 12 by omega)]; simp
  rw [decide_eq_true (show value.size ≤ 12 by omega)]
  by_cases h5 : old.size ≤ 12
  · rw [decide_eq_true h5, decide_eq_false (show ¬ (old.size : Int) > 12 by omega)]
    refine Ev.step (fun _ => rfl) ?_
    simp only [spec_CommandOk.j0, emp_def]
    refine Ev.neg (by simp) (Ev.ite (fun h6 => Ev.done ?_) (fun h6 => ?_))
    · subst h6; simp
    · refine Ev.call (spec_l01In_eq _ _ _) ?_
      simp only [if_neg h6]
      cases h7 : inR key.size 1 9
      · exact Ev.neg (by simp) (Ev.done (by simp))
      · refine Ev.pos rfl (Ev.ite (fun h8 => ?_) (fun h8 => ?_))
        · subst h8
          refine Ev.step (fun _ => rfl) ?_
          simp only [spec_CommandOk.j1, emp_def]
          refine Ev.pos rfl (Ev.ite (fun h9 => Ev.done ?_) (fun h9 => Ev.done ?_))
          · simp [(emp_iff _).1 h9]
          · simp [Bool.eq_false_iff.2 (fun e => h9 ((emp_iff _).2 e))]
        · refine Ev.step (fun _ => rfl) ?_
          simp only [spec_CommandOk.j1, emp_def]
          by_cases h9 : op = 4
          · subst h9
            refine Ev.pos rfl (Ev.ite (fun h9 => Ev.done ?_) (fun h9 => Ev.done ?_))
            · simp [(emp_iff _).1 h9]
            · simp [Bool.eq_false_iff.2 (fun e => h9 ((emp_iff _).2 e))]
          · refine Ev.neg (by simp [h9]) (Ev.ite (fun h10 => Ev.done ?_) (fun h10 => Ev.done ?_))
            · subst h10; simp
            · simp [h8, h9, h10]
  · rw [decide_eq_false h5, decide_eq_true (show (old.size : Int) > 12 by omega)]
    exact bad _ (by simp)
theorem spec_EntryOk_ev (t d : Int) (s : ByteArray) (hs : s.size ≤ 1048576) : Ev (fun k => spec_EntryOk.f k t d s) (entryOk t d s) := by
  unfold spec_EntryOk.f entryOk
  simp only [emp_def]
  refine Ev.call (spec_l01In_eq _ _ _) ?_
  cases h1 : inR t 0 100000
  · exact Ev.neg (by simp) (Ev.done (by simp))
  refine Ev.pos rfl (Ev.ite (fun h => Ev.done (by simp [h])) (fun h => Ev.ite (fun h' => ?_) (fun h' => Ev.ite (fun h2 => Ev.done ?_) (fun h2 => Ev.done (by simp [h, h', h2])))))
  · refine Ev.bind (spec_ReadConf_ev s hs) (Ev.done ?_)
    subst h'
    unfold readConf
    cases hc : confOk (bytesOf s) <;> simp
  · subst h2
    simp
    omega
theorem impl_EntryOk_ev (t d : Int) (s : ByteArray) (hs : s.size ≤ 1048576) : Ev (fun k => impl_EntryOk.f k t d s) (entryOk t d s) := by
  unfold impl_EntryOk.f entryOk
  simp only [emp_def]
  refine Ev.call (impl_within_eq _ _ _) ?_
  cases h1 : inR t 0 100000
  · exact Ev.neg (by simp) (Ev.done (by simp))
  refine Ev.pos rfl (Ev.ite (fun h => Ev.done (by simp [h])) (fun h => Ev.ite (fun h' => ?_) (fun h' => Ev.ite (fun h2 => Ev.done ?_) (fun h2 => Ev.done (by simp [h, h', h2])))))
  · refine Ev.bind (impl_ReadConf_ev s hs) (Ev.done ?_)
    subst h'
    unfold readConf
    cases hc : confOk (bytesOf s) <;> simp
  · subst h2
    simp
    omega
theorem spec_l05Short_ev (s : ByteArray) (hs : s.size ≤ 1073741824) : Ev (fun k => spec_l05Short.f k s) (shortText s) := by
  have h := varText_size (show s.size ≤ 34359738367 by omega)
  exact Ev.bind (spec_l01Var_nat _ (by omega)) (Ev.pos (by omega) (Ev.now _))
theorem spec_CommandText_ev (op s q : Int) (key value old : ByteArray) : Ev (fun k => spec_CommandText.f k op s q key value old) (cmdText op s q key value old) := by
  unfold spec_CommandText.f cmdText
  refine Ev.bind (spec_CommandOk_ev op s q key value old) ?_
  cases hb : cmdOk op s q key value old
  · exact Ev.neg (by simp) (Ev.done (by simp))
  obtain ⟨h1, h2, h3, h4, h5⟩ := cmdOk_sizes hb
  have s1 := varText_size (show s.toNat ≤ 34359738367 by omega)
  have s2 := varText_size (show q.toNat ≤ 34359738367 by omega)
  have s3 := shortText_size (show key.size ≤ 34359738367 by omega)
  have s4 := shortText_size (show value.size ≤ 34359738367 by omega)
  have s5 := shortText_size (show old.size ≤ 34359738367 by omega)
  have s6 : (strOfNums [op % 256]).size = 1 := by rw [strOfNums_size]; rfl
  refine Ev.pos rfl (Ev.call rfl (Ev.bind (spec_l01Var_ev s (by omega) (by omega)) (Ev.pos (by omega) (Ev.bind (spec_l01Var_ev q (by omega) (by omega)) (Ev.pos (by simp only [size_append]; omega) (Ev.bind (spec_l05Short_ev key (by omega)) (Ev.pos (by simp only [size_append]; omega) (Ev.bind (spec_l05Short_ev value (by omega)) (Ev.pos (by simp only [size_append]; omega) (Ev.bind (spec_l05Short_ev old (by omega)) (Ev.pos (by simp only [size_append]; omega) (Ev.done ?_))))))))))))
  simp
theorem spec_EntryText_ev (i t d : Int) (s : ByteArray) (hs : s.size ≤ 1048576) : Ev (fun k => spec_EntryText.f k i t d s) (entryText i t d s) := by
  unfold spec_EntryText.f entryText
  refine Ev.bind (spec_EntryOk_ev t d s hs) ?_
  cases hb : entryOk t d s
  · refine Ev.neg (by simp) (Ev.step (fun _ => rfl) ?_)
    simp only [spec_EntryText.j0]
    exact Ev.pos trivial (Ev.done (by simp))
  refine Ev.pos rfl (Ev.call (spec_l01In_eq _ _ _) (Ev.step (fun _ => rfl) ?_))
  simp only [spec_EntryText.j0]
  cases hi : inR i 1 100000
  · exact Ev.pos rfl (Ev.done (by simp))
  have h1 := inR_true.1 hi
  have h2 := entryOk_term hb
  have s1 := varText_size (show i.toNat ≤ 34359738367 by omega)
  have s2 := varText_size (show t.toNat ≤ 34359738367 by omega)
  have s3 : (strOfNums [d % 256]).size = 1 := by rw [strOfNums_size]; rfl
  have s4 : (⟨#[69]⟩ : ByteArray).size = 1 := rfl
  exact Ev.neg (by simp) (Ev.bind (spec_l01Var_ev i (by omega) (by omega)) (Ev.pos (by omega) (Ev.bind (spec_l01Var_ev t (by omega) (by omega)) (Ev.pos (by simp only [size_append]; omega) (Ev.call rfl (Ev.pos (by simp only [size_append]; omega) (Ev.pos (by simp only [size_append]; omega) (Ev.done (by simp)))))))))
theorem impl_EntryText_ev (i t d : Int) (s : ByteArray) (hs : s.size ≤ 1048576) : Ev (fun k => impl_EntryText.f k i t d s) (entryText i t d s) := by
  unfold impl_EntryText.f entryText
  refine Ev.bind (impl_EntryOk_ev t d s hs) ?_
  cases hb : entryOk t d s
  · exact Ev.neg (by simp) (Ev.done (by simp))
  refine Ev.pos rfl (Ev.call (impl_within_eq _ _ _) ?_)
  cases hi : inR i 1 100000
  · exact Ev.neg (by simp) (Ev.done (by simp))
  have h1 := inR_true.1 hi
  have h2 := entryOk_term hb
  have s1 := varText_size (show i.toNat ≤ 34359738367 by omega)
  have s2 := varText_size (show t.toNat ≤ 34359738367 by omega)
  have s3 : (strOfNums [d % 256]).size = 1 := by rw [strOfNums_size]; rfl
  have s4 : (⟨#[69]⟩ : ByteArray).size = 1 := rfl
  have e : varsOf [i, t] = (varText i.toNat ++ varText t.toNat, true) := varsOf_two (inR_true.2 (by omega)) (inR_true.2 (by omega))
  refine Ev.pos rfl (Ev.bind (Ev.eq (impl_vars_ev [i, t] (by simp)) e) (Ev.pos (by simp only [size_append]; omega) (Ev.call rfl (Ev.pos (by simp only [size_append]; omega) (Ev.pos (by simp only [size_append]; omega) (Ev.done ?_))))))
  simp [ByteArray.append_assoc]
theorem impl_ReadVar_loop (s : ByteArray) (a : Nat) (hs : s.size ≤ 1152921504606846976) (ha : a ≤ s.size) : ∀ (k : Nat) (rest done : List Int) (i : Nat), i + k = 5 → done.length = i → (bytesOf s).drop a = done ++ rest → (∀ bs, varSeg k rest = some bs → varSeg 5 ((bytesOf s).drop a) = some (done ++ bs)) →
    Ev (fun K => impl_ReadVar.l0 K s (a : Int) (val done : Int) (i : Int))
      (match varSeg k rest with | none => (0, 0, false) | some bs => if val (done ++ bs) ≤ 1000000000 ∧ varL (val (done ++ bs)) = done ++ bs then ((val (done ++ bs) : Int), ((a + (done ++ bs).length : Nat) : Int), true) else (0, 0, false)) := by
  intro k
  have hz := bytesOf_length s
  have no : ∀ (x7 x8 : Int) r, r = (0, 0, false) → Ev (fun K => impl_ReadVar.j1 K s (a : Int) x7 x8 false) r := by
    rintro x7 x8 r rfl
    refine Ev.step (fun _ => rfl) ?_
    simp only [impl_ReadVar.j1]
    exact Ev.neg (by simp) (Ev.now _)
  induction k with
  | zero =>
    intro rest done i hi hd hr _
    refine Ev.step (fun _ => rfl) ?_
    simp only [impl_ReadVar.l0]
    exact Ev.neg (by omega) (no _ _ _ rfl)
  | succ k ih =>
    intro rest done i hi hd hr hseg
    have hl : done.length + rest.length = s.size - a := by rw [← List.length_append, ← hr, List.length_drop, hz]
    cases rest with
    | nil =>
      refine Ev.step (fun _ => rfl) ?_
      simp only [impl_ReadVar.l0]
      rw [List.length_nil] at hl
      refine Ev.pos (by omega) ?_
      rw [wrap64_id (by omega) (by omega), decide_eq_false (by omega)]
      exact no _ _ _ rfl
    | cons b t =>
      have e0 : wrap64 ((a : Int) + (i : Int)) = ((a + i : Nat) : Int) := by rw [wrap64_id (by omega) (by omega)]; omega
      have hbt : bt s ((a + i : Nat) : Int) = b := by
        rw [← rd_bytesOf, rd_nat]
        have e : (bytesOf s).drop (a + i) = b :: t := by rw [← List.drop_drop, hr, List.drop_append_of_le_length (by omega), ← hd, List.drop_length, List.nil_append]
        exact (drop_cons e).2.1 0
      have hb := bytesOf_range s b (by
        have : b ∈ (bytesOf s).drop a := by rw [hr]; simp
        exact List.mem_of_mem_drop this)
      rw [List.length_cons] at hl
      have hsc := scale_bound (show i ≤ 5 by omega)
      have hvd := val_lt done
      rw [hd] at hvd
      have e1 : Int.tmod (wrap64 b) 128 = b % 128 := byte_mod hb.1 hb.2
      have hmul : (b % 128) * ((128 ^ i : Nat) : Int) = (((b % 128).toNat * 128 ^ i : Nat) : Int) := by
        rw [Int.natCast_mul, Int.toNat_of_nonneg (by omega)]
      have hmb : (b % 128).toNat * 128 ^ i ≤ 127 * 128 ^ i := Nat.mul_le_mul_right _ (by omega)
      have hpos : 0 < 128 ^ i := Nat.pow_pos (by omega)
      have e7 : wrap64 (7 * (i : Int)) = 7 * (i : Int) := wrap64_id (by omega) (by omega)
      have hshl : shl .i64 (b % 128) (7 * (i : Int)) = (b % 128) * ((128 ^ i : Nat) : Int) := by
        have hp : (2 : Int) ^ min (7 * (i : Int)).toNat (IntKind.bits .i64) = ((128 ^ i : Nat) : Int) := by
          rcases i with _ | _ | _ | _ | _ | i
          · rfl
          · rfl
          · rfl
          · rfl
          · rfl
          · omega
        unfold shl
        rw [hp, i64_w]
        exact wrap64_id (by omega) (by omega)
      have e2 : wrap64 ((val done : Int) + shl .i64 (Int.tmod (wrap64 b) 128) (wrap64 (7 * (i : Int)))) = (val (done ++ [b]) : Int) := by
        rw [e1, e7, hshl, hmul, wrap64_id (by omega) (by omega), val_append, hd]
        rw [show val [b] = (b % 128).toNat by simp [val], Nat.mul_comm (128 ^ i)]
        omega
      clear hsc hvd hmul hmb hpos hshl e1
      refine Ev.step (fun _ => rfl) ?_
      simp only [impl_ReadVar.l0, e0]
      refine Ev.pos (by omega) ?_
      rw [decide_eq_true (show ((a + i : Nat) : Int) < (s.size : Int) by omega)]
      refine Ev.step (fun _ => rfl) ?_
      simp only [impl_ReadVar.j1, e0, hbt, e2, wrap64_succ (show i ≤ 9223372036854775806 by omega), wrap64_succ (show a + i ≤ 9223372036854775806 by omega)]
      rw [wrap64_id (n := b) (by omega) (by omega)]
      refine Ev.pos trivial (Ev.pos (by omega) (Ev.pos (by omega) (Ev.pos (by rw [e7]; omega) (Ev.ite (fun hlt => ?_) (fun hge => ?_)))))
      · have hsg := hseg [b] (by rw [varSeg, if_pos hlt])
        have hck := varSeg_check (fun x hx => bytesOf_range s x (List.mem_of_mem_drop hx)) hsg
        rw [varSeg, if_pos hlt]
        simp only []
        by_cases hbig : val (done ++ [b]) ≤ 1000000000
        · refine Ev.bind (impl_VarText_nat _ hbig) (Ev.pos rfl ?_)
          simp only [varText, strOfNums_size]
          have hlen : (done ++ [b]).length = i + 1 := by simp [hd]
          refine Ev.ite (fun hc => Ev.done ?_) (fun hc => Ev.done ?_)
          · rw [if_pos ⟨hbig, hck.1 (by omega)⟩, hlen]; rfl
          · rw [if_neg (fun h => hc (by have := hck.2 h.2; omega))]
        · refine Ev.bind (Ev.eq (impl_VarText_ev _) (varTextOf_no (show ¬ ((val (done ++ [b]) : Int) ≤ 1000000000) by omega))) ?_
          refine Ev.neg (by simp) (Ev.done ?_)
          rw [if_neg (fun h => hbig h.1)]
      · have ih := ih t (done ++ [b]) (i + 1) (by omega) (by simp [hd]) (by rw [hr]; simp) (fun bs hbs => by
          have := hseg (b :: bs) (by rw [varSeg, if_neg hge, hbs]; rfl)
          rw [this]; simp)
        rw [varSeg, if_neg hge]
        refine Ev.eq ih ?_
        cases varSeg k t with
        | none => rfl
        | some bs => simp only [Option.map_some, List.append_assoc, List.cons_append, List.nil_append]
theorem impl_ReadVar_ev (s : ByteArray) (a : Int) (hs : s.size ≤ 1152921504606846976) : Ev (fun k => impl_ReadVar.f k s a) (readVar s a) := by
  unfold impl_ReadVar.f readVar
  refine Ev.call (impl_within_eq _ _ _) ?_
  cases hb : inR a 0 s.size
  · exact Ev.neg (by simp) (Ev.done (by simp))
  · have hr := inR_true.1 hb
    obtain ⟨n, rfl⟩ := Int.eq_ofNat_of_zero_le hr.1
    refine Ev.pos rfl (Ev.eq (impl_ReadVar_loop s n hs (by omega) 5 ((bytesOf s).drop n) [] 0 rfl rfl rfl (fun bs h => h)) ?_)
    rw [if_pos rfl, Int.toNat_natCast, readVarL]
    cases varSeg 5 ((bytesOf s).drop n) with
    | none => rfl
    | some bs =>
      simp only [List.nil_append]
      by_cases hc : val bs ≤ 1000000000 ∧ varL (val bs) = bs
      · rw [if_pos hc, if_pos hc]; simp
      · rw [if_neg hc, if_neg hc]
theorem impl_reader_num_ev (s : ByteArray) (a : Int) (bad : Bool) (hs : s.size ≤ 1152921504606846976) : Ev (fun k => impl_reader_num.f k s a bad) (curNum s a bad) := by
  unfold impl_reader_num.f curNum
  refine Ev.bind (impl_ReadVar_ev s a hs) (Ev.ite (fun h => Ev.done (by rw [if_pos h])) (fun h => Ev.ite (fun h' => Ev.done ?_) (fun h' => Ev.done ?_)))
  · rw [if_neg h, if_pos h']
  · rw [if_neg h, if_neg h']
theorem impl_reader_byte_eq (s : ByteArray) (a : Int) (bad : Bool) (hs : s.size ≤ 1152921504606846976) (h0 : 0 ≤ a) (h1 : a ≤ s.size) : impl_reader_byte.f s a bad = some (curByte s a bad) := by
  unfold impl_reader_byte.f curByte
  by_cases h : bad = true
  · rw [if_pos h, if_pos h]
  · rw [if_neg h, if_neg h, wrap64_id (n := a + 1) (by omega) (by omega), show a + 1 - 1 = a by omega, wrap64_id (n := a) (by omega) (by omega)]
    by_cases hc : a ≥ (s.size : Int)
    · rw [if_pos hc, if_pos hc]
    · have := bt_range s a
      rw [if_neg hc, if_neg hc, if_pos (by omega), if_pos (by omega), wrap64_id (n := bt s a) (by omega) (by omega)]
theorem impl_ReadEntry_ev (s : ByteArray) (hs : s.size ≤ 1048576) : Ev (fun k => impl_ReadEntry.f k s) (readEntry s) := by
  have bad : ∀ x7 x1 x2 x3 x4 x5 x6 r, r = noEntry → Ev (fun k => impl_ReadEntry.j0 k s x7 true x1 x2 x3 x4 x5 x6) r := by
    rintro x7 x1 x2 x3 x4 x5 x6 r rfl
    refine Ev.step (fun _ => rfl) ?_
    simp only [impl_ReadEntry.j0]
    exact Ev.pos trivial (Ev.now _)
  unfold impl_ReadEntry.f readEntry
  refine Ev.call (impl_reader_byte_eq s 0 false (by omega) (by omega) (by omega)) ?_
  by_cases hz : s.size = 0
  · rw [if_pos hz]
    have e : curByte s 0 false = (0, s, 0, true) := by
      unfold curByte; rw [if_neg (by simp), if_pos (by omega)]
    simp only [e]
    refine Ev.bind (impl_reader_num_ev s 0 true (by omega)) (Ev.bind (impl_reader_num_ev s 0 true (by omega)) ?_)
    simp only [curNum_isbad]
    exact Ev.call (impl_reader_byte_eq s 0 true (by omega) (by omega) (by omega)) (Ev.pos rfl (bad _ _ _ _ _ _ _ _ rfl))
  rw [if_neg hz]
  have e : curByte s 0 false = (bt s 0, s, 1, false) := by
    unfold curByte; rw [if_neg (by simp), if_neg (by omega)]; rfl
  simp only [e]
  refine Ev.bind (impl_reader_num_ev s 1 false (by omega)) ?_
  have hp1 := curNum_place (s := s) (a := 1) (bad := false) (by omega) (by omega)
  simp only [curNum_text]
  refine Ev.bind (impl_reader_num_ev s _ _ (by omega)) ?_
  have hp2 := curNum_place (s := s) (a := (curNum s 1 false).2.2.1) (bad := (curNum s 1 false).2.2.2) hp1.1 hp1.2
  simp only [curNum_text]
  refine Ev.call (impl_reader_byte_eq s _ _ (by omega) hp2.1 hp2.2) ?_
  cases hb : (curNum s (curNum s 1 false).2.2.1 (curNum s 1 false).2.2.2).2.2.2
  case true =>
    rw [if_pos rfl]
    exact Ev.pos rfl (bad _ _ _ _ _ _ _ _ rfl)
  rw [if_neg (by simp)]
  by_cases hc : (curNum s (curNum s 1 false).2.2.1 (curNum s 1 false).2.2.2).2.2.1 ≥ (s.size : Int)
  · rw [if_pos hc]
    have e : ∀ a, a ≥ (s.size : Int) → curByte s a false = (0, s, a, true) := by
      intro a ha
      unfold curByte; rw [if_neg (by simp), if_pos (by omega)]
    rw [e _ hc]
    exact Ev.pos rfl (bad _ _ _ _ _ _ _ _ rfl)
  rw [if_neg hc]
  generalize (curNum s (curNum s 1 false).2.2.1 (curNum s 1 false).2.2.2).1 = t at *
  generalize (curNum s (curNum s 1 false).2.2.1 (curNum s 1 false).2.2.2).2.2.1 = b at *
  generalize (curNum s 1 false).2.2.1 = a at *
  generalize (curNum s 1 false).1 = i at *
  have e : curByte s b false = (bt s b, s, b + 1, false) := by
    unfold curByte; rw [if_neg (by simp), if_neg (by omega)]
  rw [e]
  have hds : (s.extract (b + 1).toNat s.size).size ≤ 1048576 := by rw [← bytesOf_length, bytesOf_dropTo, List.length_drop, bytesOf_length]; omega
  refine Ev.neg (by simp) ?_
  by_cases hl : bt s 0 = 69
  · rw [show (bt s 0 != 69) = false by simp [hl]]
    refine Ev.step (fun _ => rfl) ?_
    simp only [impl_ReadEntry.j0]
    refine Ev.neg (by simp) (Ev.pos (by omega) (Ev.pos (by omega) (Ev.bind (impl_EntryOk_ev t (bt s b) _ hds) ?_)))
    cases h1 : entryOk t (bt s b) (s.extract (b + 1).toNat s.size)
    · exact Ev.neg (by simp) (Ev.done (by simp [noEntry]))
    · refine Ev.pos rfl (Ev.call (impl_within_eq _ _ _) ?_)
      cases h2 : inR i 1 100000
      · exact Ev.neg (by simp) (Ev.done (by simp [noEntry]))
      · exact Ev.pos rfl (Ev.done (by simp [hl]))
  · rw [show (bt s 0 != 69) = true by simp [hl], if_neg (fun h => hl h.1)]
    exact bad _ _ _ _ _ _ _ _ rfl
def To {α : Type} (f : Nat → Option α) (P : α → Prop) : Prop := ∃ r, Ev f r ∧ P r
theorem To.ev {α : Type} {f : Nat → Option α} {P : α → Prop} {a : α} (h : Ev f a) (p : P a) : To f P := ⟨a, h, p⟩
theorem To.mono {α : Type} {f : Nat → Option α} {P Q : α → Prop} (h : To f P) (k : ∀ a, P a → Q a) : To f Q := by
  obtain ⟨a, e, p⟩ := h; exact ⟨a, e, k a p⟩
theorem To.bind {α β : Type} {f : Nat → Option α} {g : Nat → α → Option β} {P : α → Prop} {Q : β → Prop} (h : To f P) (k : ∀ a, P a → To (fun n => g n a) Q) : To (fun n => (f n).bind (g n)) Q := by
  obtain ⟨a, e, p⟩ := h; obtain ⟨b, e', q⟩ := k a p; exact ⟨b, Ev.bind e e', q⟩
theorem To.pos {α : Type} {c : Prop} [Decidable c] {f g : Nat → Option α} {P : α → Prop} (h : c) (k : To f P) : To (fun n => if c then f n else g n) P := by
  simp only [if_pos h]; exact k
theorem To.neg {α : Type} {c : Prop} [Decidable c] {f g : Nat → Option α} {P : α → Prop} (h : ¬ c) (k : To g P) : To (fun n => if c then f n else g n) P := by
  simp only [if_neg h]; exact k
theorem To.ite {α : Type} {c : Prop} [Decidable c] {f g : Nat → Option α} {P : α → Prop} (h : c → To f P) (k : ¬ c → To g P) : To (fun n => if c then f n else g n) P := by
  by_cases hc : c
  · exact To.pos hc (h hc)
  · exact To.neg hc (k hc)
theorem To.now {α : Type} {P : α → Prop} {a : α} (p : P a) : To (fun _ => some a) P := ⟨a, Ev.now _, p⟩
theorem To.step {α : Type} {f g : Nat → Option α} {P : α → Prop} (h : ∀ n, f (n + 1) = g n) (k : To g P) : To f P := by
  obtain ⟨a, e, p⟩ := k; exact ⟨a, Ev.step h e, p⟩
theorem To.call {α β : Type} {o : Option α} {g : Nat → α → Option β} {P : α → Prop} {Q : β → Prop} (h : ∃ a, o = some a ∧ P a) (k : ∀ a, P a → To (fun n => g n a) Q) : To (fun n => o.bind (g n)) Q := by
  obtain ⟨a, rfl, p⟩ := h; exact k a p
theorem To.at_ {α : Type} {o : Option α} {P : α → Prop} (h : To (fun _ => o) P) : ∃ a, o = some a ∧ P a := by
  obtain ⟨a, e, p⟩ := h; obtain ⟨k, e⟩ := Ev.at_ e; exact ⟨a, e, p⟩
def Cur (l : List Int) (i : Int) : Prop := 0 ≤ i ∧ i ≤ l.length
theorem Cur.zero (l : List Int) : Cur l 0 := ⟨Int.le_refl _, by omega⟩
theorem and255 (x : Int) : 0 ≤ Go.bits .and .i64 x 255 ∧ Go.bits .and .i64 x 255 ≤ 255 := by
  have h : (BitVec.ofInt 64 x &&& BitVec.ofInt 64 255).toNat ≤ 255 := by
    rw [BitVec.toNat_and]
    exact Nat.le_trans Nat.and_le_right (by decide)
  have e : Go.bits .and .i64 x 255 = (((BitVec.ofInt 64 x &&& BitVec.ofInt 64 255).toNat : Nat) : Int) := by
    show IntKind.i64.wrap (((BitVec.ofInt 64 x &&& BitVec.ofInt 64 255).toNat : Nat) : Int) = _
    rw [IntKind.wrap_i64]
    omega
  rw [e]; omega
theorem rd_mem {xs : List Int} {b : Int} (h0 : 0 ≤ b) (h1 : b < xs.length) : rd xs b ∈ xs := by
  obtain ⟨n, rfl⟩ := Int.eq_ofNat_of_zero_le h0
  rw [rd_nat, List.getD_eq_getElem?_getD, List.getElem?_eq_getElem (by omega)]
  simp
theorem rdOf_mem {α : Type} {z : α} {xs : List α} {b : Int} (h0 : 0 ≤ b) (h1 : b < xs.length) : rdOf z xs b ∈ xs := by
  obtain ⟨n, rfl⟩ := Int.eq_ofNat_of_zero_le h0
  rw [rdOf, Int.toNat_natCast, List.getD_eq_getElem?_getD, List.getElem?_eq_getElem (by omega)]
  simp
theorem spec_l01New_loop (l : List Int) (hl : l.length ≤ 140737488351232) : ∀ (m n : Nat) (y : Int), l.length - n ≤ m → n ≤ l.length → To (fun k => spec_l01New.l0 k l y (n : Int)) (fun r => ∃ z, r = (l, 0, z)) := by
  intro m
  induction m with
  | zero =>
    intro n y h h1
    refine To.step (fun _ => rfl) ?_
    simp only [spec_l01New.l0]
    exact To.neg (by omega) (To.now ⟨_, rfl⟩)
  | succ m ih =>
    intro n y h h1
    refine To.step (fun _ => rfl) ?_
    simp only [spec_l01New.l0, wrap64_succ (show n ≤ 9223372036854775806 by omega)]
    exact To.ite (fun h2 => To.ite (fun h3 => To.pos (by omega) (ih (n + 1) _ (by omega) (by omega))) (fun _ => To.now ⟨_, rfl⟩)) (fun _ => To.now ⟨_, rfl⟩)
theorem spec_l01New_to (l : List Int) (hl : l.length ≤ 140737488351232) : To (fun k => spec_l01New.f k l) (fun r => ∃ z, r = (l, 0, z)) :=
  spec_l01New_loop l hl l.length 0 _ (by omega) (by omega)
theorem spec_l01Byte_to {l : List Int} (hl : l.length ≤ 140737488351232) {i : Int} (y : Int) (h : Cur l i) : To (fun _ => spec_l01Byte.f l i y) (fun r => 0 ≤ r.1 ∧ r.1 ≤ 255 ∧ Cur l r.2.1) := by
  unfold spec_l01Byte.f
  refine To.ite (fun c => To.pos h.1 (To.now ⟨(and255 _).1, (and255 _).2, ?_⟩)) (fun c => To.now ⟨(and255 _).1, (and255 _).2, h⟩)
  have := h.1
  simp only [Cur]
  rw [wrap64_id (by omega) (by omega)]
  omega
theorem spec_l01Below_to {l : List Int} (hl : l.length ≤ 140737488351232) {i : Int} (y : Int) (h : Cur l i) (n : Int) : To (fun _ => spec_l01Below.f l i y n) (fun r => 0 ≤ r.1 ∧ (0 < n → r.1 < n) ∧ Cur l r.2.1) := by
  unfold spec_l01Below.f
  refine To.ite (fun c => To.now ⟨Int.le_refl _, fun c' => by omega, h⟩) (fun c => To.ite (fun _ => ?_) (fun _ => ?_))
  · exact To.bind (spec_l01Byte_to hl y h) (fun r p => To.neg (by omega) (To.now ⟨Int.tmod_nonneg _ p.1, fun c => Int.tmod_lt_of_pos _ c, p.2.2⟩))
  · refine To.bind (spec_l01Byte_to hl y h) (fun r1 p1 => To.bind (spec_l01Byte_to hl _ p1.2.2) (fun r2 p2 => To.bind (spec_l01Byte_to hl _ p2.2.2) (fun r3 p3 => To.bind (spec_l01Byte_to hl _ p3.2.2) (fun r4 p4 => To.neg (by omega) (To.now ⟨Int.tmod_nonneg _ ?_, fun c => Int.tmod_lt_of_pos _ c, p4.2.2⟩)))))
    have q1 := p1.1; have q2 := p2.1; have q3 := p3.1; have q4 := p4.1
    have s1 := p1.2.1; have s2 := p2.2.1; have s3 := p3.2.1; have s4 := p4.2.1
    generalize r1.1 = a at *; generalize r2.1 = b at *; generalize r3.1 = c at *; generalize r4.1 = d at *
    rw [wrap64_id (n := a * 16777216) (by omega) (by omega), wrap64_id (n := b * 65536) (by omega) (by omega), wrap64_id (n := c * 256) (by omega) (by omega), wrap64_id (n := a * 16777216 + b * 65536) (by omega) (by omega), wrap64_id (n := a * 16777216 + b * 65536 + c * 256) (by omega) (by omega), wrap64_id (by omega) (by omega)]
    omega
theorem spec_l01Once_to {l : List Int} (hl : l.length ≤ 140737488351232) {i : Int} (y : Int) (h : Cur l i) (n : Int) : To (fun _ => spec_l01Once.f l i y n) (fun r => Cur l r.2.1) := by
  unfold spec_l01Once.f
  exact To.bind (spec_l01Below_to hl y h n) (fun r p => To.now p.2.2)
theorem spec_l01PickInt_to {l : List Int} (hl : l.length ≤ 140737488351232) {i : Int} (y : Int) (h : Cur l i) (xs : List Int) (hx : 0 < xs.length) : To (fun _ => spec_l01PickInt.f l i y xs) (fun r => r.1 ∈ xs ∧ Cur l r.2.1) := by
  unfold spec_l01PickInt.f
  exact To.bind (spec_l01Below_to hl y h _) (fun r p => To.pos p.1 (To.pos (p.2.1 (by omega)) (To.now ⟨rd_mem p.1 (p.2.1 (by omega)), p.2.2⟩)))
theorem spec_l01Pick_to {l : List Int} (hl : l.length ≤ 140737488351232) {i : Int} (y : Int) (h : Cur l i) (xs : List ByteArray) (hx : 0 < xs.length) : To (fun _ => spec_l01Pick.f l i y xs) (fun r => r.1 ∈ xs ∧ Cur l r.2.1) := by
  unfold spec_l01Pick.f
  exact To.bind (spec_l01Below_to hl y h _) (fun r p => To.pos p.1 (To.pos (p.2.1 (by omega)) (To.now ⟨rdOf_mem p.1 (p.2.1 (by omega)), p.2.2⟩)))
theorem spec_l15Right_to {l : List Int} (hl : l.length ≤ 140737488351232) {i : Int} (y : Int) (h : Cur l i) : To (fun _ => spec_l15Right.f l i y) (fun r => Cur l r.2.2.2.2.2.2.1) := by
  unfold spec_l15Right.f
  refine To.bind (spec_l01Below_to hl y h 5) (fun r1 p1 => To.ite (fun _ => To.now p1.2.2) (fun _ => ?_))
  refine To.bind (spec_l01Below_to hl _ p1.2.2 4) (fun r2 p2 => To.bind (spec_l01Below_to hl _ p2.2.2 3) (fun r3 p3 => To.bind (spec_l01Pick_to hl _ p3.2.2 _ (by simp)) (fun r4 p4 => ?_)))
  refine To.ite (fun _ => To.bind (spec_l01Pick_to hl _ p4.2 _ (by simp)) (fun r5 p5 => To.now p5.2)) (fun _ => To.ite (fun _ => ?_) (fun _ => To.now p4.2))
  exact To.bind (spec_l01Pick_to hl _ p4.2 _ (by simp)) (fun r5 p5 => To.bind (spec_l01Pick_to hl _ p5.2 _ (by simp)) (fun r6 p6 => To.now p6.2))
theorem spec_l01Long_loop (a v : Int) (h1 : a ≤ 1000000) : ∀ (m n : Nat) (xs : List Int), (xs.length : Int) = a → a.toNat - n ≤ m → n ≤ a.toNat → To (fun k => spec_l01Long.l0 k a v xs (n : Int)) (fun r => (r.size : Int) = a) := by
  intro m
  induction m with
  | zero =>
    intro n xs hx h2 h3
    refine To.step (fun _ => rfl) ?_
    simp only [spec_l01Long.l0]
    exact To.neg (by omega) (To.now (by rw [strOfNums_size]; exact hx))
  | succ m ih =>
    intro n xs hx h2 h3
    refine To.step (fun _ => rfl) ?_
    simp only [spec_l01Long.l0, wrap64_succ (show n ≤ 9223372036854775806 by omega)]
    exact To.ite (fun c => To.pos (by omega) (To.pos (by omega) (ih (n + 1) _ (by rw [List.length_set]; exact hx) (by omega) (by omega)))) (fun _ => To.now (by rw [strOfNums_size]; exact hx))
theorem spec_l01Long_to (a v : Int) (h0 : 0 ≤ a) (h1 : a ≤ 1000000) : To (fun k => spec_l01Long.f k a v) (fun r => (r.size : Int) = a) := by
  unfold spec_l01Long.f
  exact To.pos h0 (To.pos (by omega) (spec_l01Long_loop a v h1 a.toNat 0 _ (by rw [List.length_replicate]; omega) (by omega) (by omega)))
theorem spec_l11Index_to {l : List Int} (hl : l.length ≤ 140737488351232) {i : Int} (y : Int) (h : Cur l i) : To (fun _ => spec_l11Index.f l i y) (fun r => Cur l r.2.1) := by
  unfold spec_l11Index.f
  refine To.bind (spec_l01Once_to hl y h 12) (fun r p => To.ite (fun _ => ?_) (fun _ => ?_))
  · exact To.bind (spec_l01PickInt_to hl _ p _ (by simp)) (fun r2 p2 => To.now p2.2)
  · exact To.bind (spec_l01Below_to hl _ p 200) (fun r2 p2 => To.now p2.2.2)
theorem spec_l07Conf_loop {l : List Int} (hl : l.length ≤ 140737488351232) : ∀ (m n : Nat) (acc : List Int) (i y : Int), 5 - n ≤ m → 1 ≤ n → n ≤ 5 → acc.length < n → Cur l i →
    To (fun k => spec_l07Conf.l0 k acc (n : Int) l i y) (fun r => r.1.length ≤ 4 ∧ Cur l r.2.1) := by
  intro m
  induction m with
  | zero =>
    intro n acc i y h1 h2 h3 h4 h
    refine To.step (fun _ => rfl) ?_
    simp only [spec_l07Conf.l0]
    refine To.neg (by omega) (To.ite (fun c => To.pos (by omega) (To.now ⟨?_, h⟩)) (fun c => To.now ⟨?_, h⟩))
    · simp only [List.length_append, List.length_singleton]; omega
    · show acc.length ≤ 4; omega
  | succ m ih =>
    intro n acc i y h1 h2 h3 h4 h
    refine To.step (fun _ => rfl) ?_
    simp only [spec_l07Conf.l0, wrap64_succ (show n ≤ 9223372036854775806 by omega)]
    refine To.ite (fun c => To.bind (spec_l01Once_to hl y h 2) (fun r p => To.ite (fun _ => To.pos (by omega) ?_) (fun _ => ?_))) (fun c => To.ite (fun c => To.pos (by omega) (To.now ⟨?_, h⟩)) (fun c => To.now ⟨?_, h⟩))
    · exact ih (n + 1) _ _ _ (by omega) (by omega) (by omega) (by simp only [List.length_append, List.length_singleton]; omega) p
    · exact ih (n + 1) _ _ _ (by omega) (by omega) (by omega) (by omega) p
    · simp only [List.length_append, List.length_singleton]; omega
    · show acc.length ≤ 4; omega
theorem spec_l07Conf_to {l : List Int} (hl : l.length ≤ 140737488351232) {i : Int} (y : Int) (h : Cur l i) : To (fun k => spec_l07Conf.f k l i y) (fun r => r.1.length ≤ 4 ∧ Cur l r.2.1) :=
  spec_l07Conf_loop hl 4 1 [] i y (by omega) (by omega) (by omega) (by simp) h
theorem spec_l11Right_to {l : List Int} (hl : l.length ≤ 140737488351232) {i : Int} (y : Int) (h : Cur l i) (a : Int) : To (fun k => spec_l11Right.f k l i y a) (fun r => r.2.2.1.size ≤ 1000 ∧ Cur l r.2.2.2.1) := by
  unfold spec_l11Right.f
  refine To.bind (spec_l01PickInt_to hl y h _ (by simp)) (fun r p => To.ite (fun _ => ?_) (fun _ => To.ite (fun _ => ?_) (fun _ => To.now ⟨Nat.zero_le _, p.2⟩)))
  · refine To.bind (spec_l07Conf_to hl _ p.2) (fun r2 p2 => To.bind (To.ev (P := fun t => t.1.size ≤ 1000) (spec_ConfText_ev r2.1 (by omega)) ?_) (fun r3 p3 => To.now ⟨p3, p2.2⟩))
    have := confText_size r2.1
    omega
  · exact To.bind (spec_l15Right_to hl _ p.2) (fun r2 p2 => To.bind (To.ev (P := fun t => t.1.size ≤ 1000) (spec_CommandText_ev _ _ _ _ _ _) (cmdText_size _ _ _ _ _ _)) (fun r3 p3 => To.now ⟨p3, p2⟩))
theorem spec_l11Any_to {l : List Int} (hl : l.length ≤ 140737488351232) {i : Int} (y : Int) (h : Cur l i) : To (fun k => spec_l11Any.f k l i y) (fun r => r.2.2.1.size ≤ 1000 ∧ Cur l r.2.2.2.1) := by
  unfold spec_l11Any.f
  refine To.bind (spec_l01Below_to hl y h 9) (fun r p => To.bind (spec_l11Right_to hl _ p.2.2 _) (fun r2 p2 => To.bind (spec_l01Below_to hl _ p2.2 30) (fun r3 p3 => ?_)))
  refine To.ite (fun _ => To.bind (spec_l01PickInt_to hl _ p3.2.2 _ (by simp)) (fun r4 p4 => To.now ⟨p2.1, p4.2⟩)) (fun _ => ?_)
  refine To.ite (fun _ => To.bind (spec_l01PickInt_to hl _ p3.2.2 _ (by simp)) (fun r4 p4 => To.now ⟨p2.1, p4.2⟩)) (fun _ => ?_)
  refine To.ite (fun _ => To.bind (spec_l01Below_to hl _ p3.2.2 2) (fun r4 p4 => ?_)) (fun _ => To.now ⟨p2.1, p3.2.2⟩)
  have h0 := p4.1; have h1 := p4.2.1 (by omega)
  have e : wrap64 (120 + r4.1) = 120 + r4.1 := wrap64_id (by omega) (by omega)
  refine To.bind (spec_l01Long_to _ _ (by omega) (by omega)) (fun r5 p5 => To.now ⟨?_, p4.2.2⟩)
  show r5.size ≤ 1000
  omega
theorem spec_DrawEntryText_to (l : List Int) (hl : l.length ≤ 140737488351232) : To (fun k => spec_DrawEntryText.f k l) (fun r => r.2.2.2.size ≤ 1000) := by
  unfold spec_DrawEntryText.f
  refine To.bind (spec_l01New_to l hl) (fun r hr => ?_)
  obtain ⟨z, rfl⟩ := hr
  exact To.bind (spec_l11Index_to hl z (Cur.zero l)) (fun r p => To.bind (spec_l11Any_to hl _ p) (fun r2 p2 => To.now p2.1))
theorem spec_l07AnyConf_to {l : List Int} (hl : l.length ≤ 140737488351232) {i : Int} (y : Int) (h : Cur l i) : To (fun k => spec_l07AnyConf.f k l i y) (fun r => r.1.length ≤ 5 ∧ Cur l r.2.1) := by
  unfold spec_l07AnyConf.f
  refine To.bind (spec_l07Conf_to hl y h) (fun r p => To.bind (spec_l01Below_to hl _ p.2 12) (fun r2 p2 => To.ite (fun _ => ?_) (fun _ => To.ite (fun _ => To.now ⟨Nat.zero_le _, p2.2.2⟩) (fun _ => To.now ⟨?_, p2.2.2⟩))))
  · refine To.bind (spec_l01PickInt_to hl _ p2.2.2 _ (by simp)) (fun r3 p3 => To.pos (by omega) (To.now ⟨?_, p3.2⟩))
    simp only [List.length_append, List.length_singleton]; omega
  · show r.1.length ≤ 5; omega
theorem spec_DrawConfText_to (l : List Int) (hl : l.length ≤ 140737488351232) : To (fun k => spec_DrawConfText.f k l) (fun r => r.length ≤ 5) := by
  unfold spec_DrawConfText.f
  refine To.bind (spec_l01New_to l hl) (fun r hr => ?_)
  obtain ⟨z, rfl⟩ := hr
  exact To.bind (spec_l07AnyConf_to hl z (Cur.zero l)) (fun r p => To.now p.1)
theorem laws_sameInts_loop (xs : List Int) (hx : xs.length ≤ 1048576) : ∀ (rest : List Int) (n : Nat), xs.drop n = rest → Ev (fun k => laws_sameInts.l0 k xs xs (n : Int)) true := by
  intro rest
  induction rest with
  | nil =>
    intro n h
    have := drop_nil h
    refine Ev.step (fun _ => rfl) ?_
    simp only [laws_sameInts.l0]
    exact Ev.neg (by omega) (Ev.now _)
  | cons x t ih =>
    intro n h
    obtain ⟨h1, -, h3⟩ := drop_cons h
    refine Ev.step (fun _ => rfl) ?_
    simp only [laws_sameInts.l0, wrap64_succ (show n ≤ 9223372036854775806 by omega)]
    exact Ev.pos (by omega) (Ev.pos (by omega) (Ev.pos (by omega) (Ev.pos trivial (ih (n + 1) h3))))
theorem laws_sameInts_refl (xs : List Int) (hx : xs.length ≤ 1048576) : Ev (fun k => laws_sameInts.f k xs xs) true := by
  unfold laws_sameInts.f
  exact Ev.pos rfl (laws_sameInts_loop xs hx xs 0 rfl)
theorem laws_FnEntries_conf (c : List Int) (hc : c.length ≤ 5) (hk : confOk c = true) : Ev (fun k => laws_FnEntries.j1 k c true false) true := by
  have hl := confOk_len hk
  refine Ev.step (fun _ => rfl) ?_
  simp only [laws_FnEntries.j1]
  refine Ev.neg (by simp) (Ev.pos trivial ?_)
  refine Ev.bind (Ev.eq (impl_Most_ev c c (by omega) (by omega)) (most_all hk)) (Ev.pos rfl (Ev.bind (Ev.eq (impl_Most_ev c [] (by omega) (by simp)) (most_none c)) (Ev.neg (by simp) (Ev.pos (by omega) (Ev.bind (impl_Most_ev c (c.take 1) (by omega) (by rw [List.length_take]; omega)) (Ev.done ?_))))))
  rw [most_one hk]
  by_cases h : c.length = 1
  · simp [h]
  · have h' : ¬ (c.length : Int) = 1 := by omega
    simp [h, h']
theorem laws_FnEntries_more (l : List Int) (hl : l.length ≤ 140737488351232) : Ev (fun k => laws_FnEntries.j0 k l false) true := by
  refine Ev.step (fun _ => rfl) ?_
  simp only [laws_FnEntries.j0]
  obtain ⟨c, hr, hc⟩ := spec_DrawConfText_to l hl
  have hs := confText_size c
  refine Ev.neg (by simp) (Ev.bind hr (Ev.bind (impl_ConfText_ev c (by omega)) (Ev.bind (impl_ReadConf_ev _ (by omega)) (Ev.bind (spec_ConfOk_ev c (by omega)) ?_))))
  cases hk : confOk c
  · have e : confText c = (⟨#[]⟩, false) := by rw [confText, if_neg (by simp [hk])]
    rw [e]
    refine Ev.neg (by simp) (Ev.neg (by simp) ?_)
    refine Ev.step (fun _ => rfl) ?_
    simp only [laws_FnEntries.j1]
    exact Ev.neg (by simp) (Ev.neg (by simp) (Ev.now _))
  · obtain ⟨e1, e2⟩ := confText_back hk
    rw [e1, e2]
    exact Ev.neg (by simp) (Ev.pos rfl (Ev.pos rfl (Ev.bind (laws_sameInts_refl c (by omega)) (laws_FnEntries_conf c hc hk))))
theorem FnEntries_q (l : List Int) (q : l.length * 1 ≤ 140737488351232 ∧ ∀ x ∈ l, (Lit.int .u8 x).wf = true) : ∃ k, laws_FnEntries.f k l = some true := by
  apply Ev.rounds
  unfold laws_FnEntries.f
  refine Ev.call (a := decide ((l.length : Int) > 1048576)) rfl (Ev.ite (fun _ => Ev.now _) (fun hc => ?_))
  obtain ⟨⟨i, t, kd, d⟩, hr, hd⟩ := spec_DrawEntryText_to l (by omega)
  have hd : d.size ≤ 1000 := hd
  have hsz := entryText_size i t kd d
  refine Ev.bind hr (Ev.bind (impl_EntryText_ev i t kd d (by omega)) (Ev.bind (spec_EntryText_ev i t kd d (by omega)) (Ev.bind (impl_ReadEntry_ev _ (by omega)) (Ev.neg (by simp) ?_))))
  have hj := laws_FnEntries_more l (by omega)
  cases hk : (entryText i t kd d).2
  · exact Ev.neg (by simp) hj
  · rw [readEntry_back hk]
    refine Ev.pos rfl (Ev.pos rfl (Ev.pos rfl ?_))
    simp only [beq_self_eq_true, Bool.not_true, Bool.or_false]
    exact hj

end Go.Proofs.Ytgpafelepkhdoaa.Pure
