/- The law FnExactReadEntry answers true: the program's ReadEntry returns what the reference's returns. For all arguments; no further condition. -/
import Derived.Test.YtgpafelepkhdoaaPFnExactReadEntryx8
import Derived.Test.YtgpafelepkhdoaaBase
namespace Go.Proofs.Ytgpafelepkhdoaa.Pure
open Go.RowKit Go.Proofs.Ytgpafelepkhdoaa.PFnExactReadEntry Go.Proofs.YtgpafelepkhdoaaW.PrintWords Go.Proofs.YtgpafelepkhdoaaW.PrintLast Go.Proofs.Ytgpafelepkhdoaa.Base
set_option linter.unusedVariables false

theorem laws_eqEntry_refl (x0 : Int) (x1 : Int) (x2 : ByteArray) : laws_eqEntry.f x0 x1 x2 x0 x1 x2 = some true := by simp [laws_eqEntry.f]
theorem spec_l01In_eq (a b c : Int) : spec_l01In.f a b c = some (inR a b c) := by
  unfold spec_l01In.f inR
  by_cases h : b ≤ a
  · rw [if_pos h]; simp [h]
  · rw [if_neg h]; simp [h]
theorem impl_within_eq (a b c : Int) : impl_within.f a b c = some (inR a b c) := by
  unfold impl_within.f inR
  by_cases h : b ≤ a
  · rw [if_pos h]; simp [h]
  · rw [if_neg h]; simp [h]
theorem spec_l07Rise_loop (xs : List Int) (lo hi : Int) (hx : xs.length ≤ 9223372036854775806) : ∀ (rest : List Int) (n : Nat), xs.drop n = rest →
    Ev (fun k => spec_l07Rise.l0 k xs lo hi (n : Int)) (rise lo hi (prevOf xs n) rest) := by
  intro rest
  induction rest with
  | nil =>
    intro n h
    have := drop_nil h
    refine Ev.step (fun _ => rfl) ?_
    simp only [spec_l07Rise.l0]
    exact Ev.neg (by omega) (Ev.done (by cases n <;> rfl))
  | cons x t ih =>
    intro n h
    obtain ⟨h1, -, h3⟩ := drop_cons h
    have ih := ih (n + 1) h3
    rw [prevOf_next h] at ih
    refine Ev.step (fun _ => rfl) ?_
    simp only [spec_l07Rise.l0, drop_rd h, wrap64_succ (show n ≤ 9223372036854775806 by omega)]
    refine Ev.pos (by omega) (Ev.pos (by omega) (Ev.call (spec_l01In_eq _ _ _) ?_))
    cases hb : inR x lo hi
    · exact Ev.neg (by simp) (Ev.done (by cases n <;> simp [rise, prevOf, hb]))
    · refine Ev.pos rfl ?_
      cases n with
      | zero => exact Ev.neg (by omega) (Ev.eq ih (by simp [rise, prevOf, hb]))
      | succ m =>
        refine Ev.pos (by omega) ?_
        simp only [wrap64_pred (show m ≤ 9223372036854775806 by omega)]
        refine Ev.pos (by omega) (Ev.pos (by omega) (Ev.ite (fun hc => Ev.done ?_) (fun hc => Ev.eq ih ?_)))
        · simp only [prevOf, rise, hb, decide_eq_false (show ¬ rd xs (m : Int) < x by omega)]; simp
        · simp only [prevOf, rise, hb, decide_eq_true (show rd xs (m : Int) < x by omega)]; simp
theorem spec_l07Rise_ev (xs : List Int) (lo hi : Int) (hx : xs.length ≤ 9223372036854775806) : Ev (fun k => spec_l07Rise.f k xs lo hi) (rise lo hi none xs) :=
  spec_l07Rise_loop xs lo hi hx xs 0 rfl
theorem spec_ConfOk_ev (xs : List Int) (hx : xs.length ≤ 9223372036854775806) : Ev (fun k => spec_ConfOk.f k xs) (confOk xs) := by
  unfold spec_ConfOk.f
  refine Ev.call (spec_l01In_eq _ _ _) ?_
  cases hb : inR xs.length 1 4
  · exact Ev.neg (by simp) (Ev.done (by simp [confOk, hb]))
  · exact Ev.pos rfl (Ev.bind (spec_l07Rise_ev xs 1 4 hx) (Ev.done (by simp [confOk, hb])))
theorem impl_ConfOk_loop (xs : List Int) (hx : xs.length ≤ 9223372036854775806) : ∀ (rest : List Int) (n : Nat), xs.drop n = rest →
    Ev (fun k => impl_ConfOk.l0 k xs xs (xs.length : Int) (n : Int)) (rise 1 4 (prevOf xs n) rest && inR xs.length 1 4) := by
  intro rest
  induction rest with
  | nil =>
    intro n h
    have := drop_nil h
    refine Ev.step (fun _ => rfl) ?_
    simp only [impl_ConfOk.l0]
    exact Ev.neg (by omega) (Ev.call (impl_within_eq _ _ _) (Ev.done (by cases n <;> simp [rise])))
  | cons x t ih =>
    intro n h
    obtain ⟨h1, -, h3⟩ := drop_cons h
    have ih := ih (n + 1) h3
    rw [prevOf_next h] at ih
    refine Ev.step (fun _ => rfl) ?_
    simp only [impl_ConfOk.l0, drop_rd h, wrap64_succ (show n ≤ 9223372036854775806 by omega)]
    refine Ev.pos (by omega) (Ev.pos (by omega) (Ev.pos (by omega) (Ev.call (impl_within_eq _ _ _) ?_)))
    cases hb : inR x 1 4
    · exact Ev.neg (by simp) (Ev.done (by cases n <;> simp [rise, prevOf, hb]))
    · refine Ev.pos rfl ?_
      cases n with
      | zero => exact Ev.neg (by omega) (Ev.eq ih (by simp [rise, prevOf, hb]))
      | succ m =>
        refine Ev.pos (by omega) ?_
        simp only [wrap64_pred (show m ≤ 9223372036854775806 by omega)]
        refine Ev.pos (by omega) (Ev.pos (by omega) (Ev.ite (fun hc => Ev.done ?_) (fun hc => Ev.eq ih ?_)))
        · simp only [prevOf, rise, hb, decide_eq_false (show ¬ rd xs (m : Int) < x by omega)]; simp
        · simp only [prevOf, rise, hb, decide_eq_true (show rd xs (m : Int) < x by omega)]; simp
theorem impl_ConfOk_ev (xs : List Int) (hx : xs.length ≤ 9223372036854775806) : Ev (fun k => impl_ConfOk.f k xs) (confOk xs) :=
  Ev.eq (impl_ConfOk_loop xs hx xs 0 rfl) (by rw [confOk, Bool.and_comm]; rfl)
theorem spec_ReadConf_loop (s : ByteArray) (hx : s.size ≤ 1048576) : ∀ (rest : List Int) (n : Nat) (acc : List Int), (bytesOf s).drop n = rest → acc = (bytesOf s).take n → n ≤ 5 →
    Ev (fun k => spec_ReadConf.l0 k s acc (n : Int)) (readConf s) := by
  have hz := bytesOf_length s
  have whole : ∀ (acc : List Int), acc = bytesOf s → Ev (fun k => if (acc.length : Int) = (s.size : Int) then ((spec_ConfOk.f k acc).bind fun t => (if t = true then (some (acc, true)) else (some ((([] : List Int)), false)))) else (some ((([] : List Int)), false))) (readConf s) := by
    intro acc ha
    subst ha
    refine Ev.pos (by omega) (Ev.bind (spec_ConfOk_ev _ (by omega)) ?_)
    unfold readConf
    cases hb : confOk (bytesOf s)
    · exact Ev.neg (by simp) (Ev.done (by simp))
    · exact Ev.pos rfl (Ev.done (by simp))
  intro rest
  induction rest with
  | nil =>
    intro n acc h ha h5
    have := bytesOf_drop_nil h
    refine Ev.step (fun _ => rfl) ?_
    simp only [spec_ReadConf.l0]
    exact Ev.neg (by omega) (whole acc (by rw [ha, List.take_of_length_le (by omega)]))
  | cons x t ih =>
    intro n acc h ha h5
    obtain ⟨h1, h2, h3, h4, h6⟩ := bytesOf_drop_lt h
    refine Ev.step (fun _ => rfl) ?_
    simp only [spec_ReadConf.l0, h2, wrap64_id (show -9223372036854775808 ≤ x by omega) (show x ≤ 9223372036854775807 by omega), wrap64_succ (show n ≤ 9223372036854775806 by omega)]
    refine Ev.pos (by omega) (Ev.ite (fun hc => ?_) (fun hc => ?_))
    · refine Ev.pos (by omega) (Ev.pos (by rw [ha, List.length_take]; omega) (ih (n + 1) (acc ++ [x]) h3 ?_ (by omega)))
      rw [ha, List.take_succ_eq_append_getElem (show n < (bytesOf s).length by omega)]
      have e := drop_rd h
      rw [rd_nat, List.getD_eq_getElem?_getD, List.getElem?_eq_getElem (show n < (bytesOf s).length by omega)] at e
      rw [← e]; rfl
    · have hl : acc.length = n := by rw [ha, List.length_take]; omega
      have hf : confOk (bytesOf s) = false := by
        cases hb : confOk (bytesOf s)
        · rfl
        · have := confOk_len hb; omega
      by_cases he : n = s.size
      · exact whole acc (by rw [ha, List.take_of_length_le (by omega)])
      · exact Ev.neg (by omega) (Ev.done (by simp [readConf, hf]))
theorem spec_ReadConf_ev (s : ByteArray) (hx : s.size ≤ 1048576) : Ev (fun k => spec_ReadConf.f k s) (readConf s) :=
  spec_ReadConf_loop s hx _ 0 [] rfl rfl (by omega)
theorem impl_ReadConf_loop (s : ByteArray) (hx : s.size ≤ 1048576) : ∀ (rest : List Int) (n : Nat) (acc : List Int), (bytesOf s).drop n = rest → acc = (bytesOf s).take n →
    Ev (fun k => impl_ReadConf.l0 k s acc (n : Int)) (readConf s) := by
  have hz := bytesOf_length s
  intro rest
  induction rest with
  | nil =>
    intro n acc h ha
    have := bytesOf_drop_nil h
    refine Ev.step (fun _ => rfl) ?_
    simp only [impl_ReadConf.l0]
    obtain rfl : acc = bytesOf s := by rw [ha, List.take_of_length_le (by omega)]
    refine Ev.neg (by omega) (Ev.bind (impl_ConfOk_ev _ (by omega)) ?_)
    unfold readConf
    cases hb : confOk (bytesOf s)
    · exact Ev.neg (by simp) (Ev.done (by simp))
    · exact Ev.pos rfl (Ev.done (by simp))
  | cons x t ih =>
    intro n acc h ha
    obtain ⟨h1, h2, h3, h4, h6⟩ := bytesOf_drop_lt h
    refine Ev.step (fun _ => rfl) ?_
    simp only [impl_ReadConf.l0, h2, wrap64_id (show -9223372036854775808 ≤ x by omega) (show x ≤ 9223372036854775807 by omega), wrap64_succ (show n ≤ 9223372036854775806 by omega)]
    refine Ev.pos (by omega) (Ev.pos (by omega) (Ev.pos (by rw [ha, List.length_take]; omega) (ih (n + 1) (acc ++ [x]) h3 ?_)))
    rw [ha, List.take_succ_eq_append_getElem (show n < (bytesOf s).length by omega)]
    have e := drop_rd h
    rw [rd_nat, List.getD_eq_getElem?_getD, List.getElem?_eq_getElem (show n < (bytesOf s).length by omega)] at e
    rw [← e]; rfl
theorem impl_ReadConf_ev (s : ByteArray) (hx : s.size ≤ 1048576) : Ev (fun k => impl_ReadConf.f k s) (readConf s) :=
  impl_ReadConf_loop s hx _ 0 [] rfl rfl
theorem spec_l01Var_loop : ∀ (n : Nat) (acc : List Int), acc.length + n < 140737488355328 →
    Ev (fun k => spec_l01Var.l0 k (n : Int) acc) (strOfNums (acc ++ varL n)) := by
  intro n
  induction n using Nat.strongRecOn with
  | ind n ih =>
    intro acc h
    refine Ev.step (fun _ => rfl) ?_
    simp only [spec_l01Var.l0, tdiv128 n (by omega), tmod128 n]
    refine Ev.ite (fun hc => ?_) (fun hc => ?_)
    · rw [varL_big (by omega)]
      exact Ev.pos (by omega) (Ev.eq (ih (n / 128) (by omega) _ (by simp; omega)) (by simp))
    · rw [varL_small (by omega)]
      exact Ev.pos (by omega) (Ev.done (by rw [Int.emod_eq_of_lt (by omega) (by omega)]))
theorem spec_l01Var_nat (n : Nat) (h : n ≤ 34359738367) : Ev (fun k => spec_l01Var.f k (n : Int)) (varText n) := spec_l01Var_loop n [] (by simp; omega)
theorem spec_l01Var_ev (n : Int) (h0 : 0 ≤ n) (h : n ≤ 34359738367) : Ev (fun k => spec_l01Var.f k n) (varText n.toNat) := by
  obtain ⟨m, rfl⟩ := Int.eq_ofNat_of_zero_le h0
  exact spec_l01Var_nat m (by omega)
theorem impl_VarText_loop : ∀ (n : Nat) (acc : List Int), acc.length + n < 140737488355328 →
    Ev (fun k => impl_VarText.l0 k (n : Int) acc) (strOfNums (acc ++ varL n), true) := by
  intro n
  induction n using Nat.strongRecOn with
  | ind n ih =>
    intro acc h
    refine Ev.step (fun _ => rfl) ?_
    simp only [impl_VarText.l0, tdiv128 n (by omega), tmod128 n]
    refine Ev.ite (fun hc => ?_) (fun hc => ?_)
    · rw [varL_big (by omega)]
      exact Ev.pos (by omega) (Ev.eq (ih (n / 128) (by omega) _ (by simp; omega)) (by simp))
    · rw [varL_small (by omega)]
      exact Ev.pos (by omega) (Ev.done (by rw [Int.emod_eq_of_lt (by omega) (by omega)]))
theorem impl_VarText_ev (n : Int) : Ev (fun k => impl_VarText.f k n) (varTextOf n) := by
  unfold impl_VarText.f varTextOf
  refine Ev.call (impl_within_eq _ _ _) ?_
  cases hb : inR n 0 1000000000
  · exact Ev.neg (by simp) (Ev.done (by simp))
  · have := inR_true.1 hb
    obtain ⟨m, rfl⟩ := Int.eq_ofNat_of_zero_le this.1
    exact Ev.pos rfl (Ev.eq (impl_VarText_loop m [] (by simp; omega)) (by simp [varText]))
theorem impl_VarText_nat (n : Nat) (h : n ≤ 1000000000) : Ev (fun k => impl_VarText.f k (n : Int)) (varText n, true) :=
  Ev.eq (impl_VarText_ev (n : Int)) (by rw [varTextOf, if_pos (inR_true.2 (by omega))]; rfl)
theorem spec_EntryOk_ev (t d : Int) (s : ByteArray) (hs : s.size ≤ 1048576) : Ev (fun k => spec_EntryOk.f k t d s) (entryOk t d s) := by
  unfold spec_EntryOk.f entryOk
  simp only [emp_def]
  refine Ev.call (spec_l01In_eq _ _ _) ?_
  cases h1 : inR t 0 100000
  · exact Ev.neg (by simp) (Ev.done (by simp))
  refine Ev.pos rfl (Ev.ite (fun h => Ev.done (by simp [h])) (fun h => Ev.ite (fun h' => ?_) (fun h' => Ev.ite (fun h2 => Ev.done ?_) (fun h2 => Ev.done (by simp [h, h', h2])))))
  · refine Ev.bind (spec_ReadConf_ev s hs) (Ev.done ?_)
    subst h'
    unfold readConf
    cases hc : confOk (bytesOf s) <;> simp
  · subst h2
    simp
    omega
theorem impl_EntryOk_ev (t d : Int) (s : ByteArray) (hs : s.size ≤ 1048576) : Ev (fun k => impl_EntryOk.f k t d s) (entryOk t d s) := by
  unfold impl_EntryOk.f entryOk
  simp only [emp_def]
  refine Ev.call (impl_within_eq _ _ _) ?_
  cases h1 : inR t 0 100000
  · exact Ev.neg (by simp) (Ev.done (by simp))
  refine Ev.pos rfl (Ev.ite (fun h => Ev.done (by simp [h])) (fun h => Ev.ite (fun h' => ?_) (fun h' => Ev.ite (fun h2 => Ev.done ?_) (fun h2 => Ev.done (by simp [h, h', h2])))))
  · refine Ev.bind (impl_ReadConf_ev s hs) (Ev.done ?_)
    subst h'
    unfold readConf
    cases hc : confOk (bytesOf s) <;> simp
  · subst h2
    simp
    omega
theorem spec_EntryText_ev (i t d : Int) (s : ByteArray) (hs : s.size ≤ 1048576) : Ev (fun k => spec_EntryText.f k i t d s) (entryText i t d s) := by
  unfold spec_EntryText.f entryText
  refine Ev.bind (spec_EntryOk_ev t d s hs) ?_
  cases hb : entryOk t d s
  · refine Ev.neg (by simp) (Ev.step (fun _ => rfl) ?_)
    simp only [spec_EntryText.j0]
    exact Ev.pos trivial (Ev.done (by simp))
  refine Ev.pos rfl (Ev.call (spec_l01In_eq _ _ _) (Ev.step (fun _ => rfl) ?_))
  simp only [spec_EntryText.j0]
  cases hi : inR i 1 100000
  · exact Ev.pos rfl (Ev.done (by simp))
  have h1 := inR_true.1 hi
  have h2 := entryOk_term hb
  have s1 := varText_size (show i.toNat ≤ 34359738367 by omega)
  have s2 := varText_size (show t.toNat ≤ 34359738367 by omega)
  have s3 : (strOfNums [d % 256]).size = 1 := by rw [strOfNums_size]; rfl
  have s4 : (⟨#[69]⟩ : ByteArray).size = 1 := rfl
  exact Ev.neg (by simp) (Ev.bind (spec_l01Var_ev i (by omega) (by omega)) (Ev.pos (by omega) (Ev.bind (spec_l01Var_ev t (by omega) (by omega)) (Ev.pos (by simp only [size_append]; omega) (Ev.call rfl (Ev.pos (by simp only [size_append]; omega) (Ev.pos (by simp only [size_append]; omega) (Ev.done (by simp)))))))))
theorem spec_ReadVar_loop (s : ByteArray) (a : Nat) (hs : s.size ≤ 1152921504606846976) (ha : a ≤ s.size) : ∀ (k : Nat) (rest done : List Int) (i : Nat), i + k = 5 → done.length = i → (bytesOf s).drop a = done ++ rest →
    Ev (fun K => spec_ReadVar.l0 K s (a : Int) (val done : Int) ((128 ^ i : Nat) : Int) ((a + i : Nat) : Int))
      (match varSeg k rest with | none => (0, 0, false) | some bs => if val (done ++ bs) ≤ 1000000000 ∧ varL (val (done ++ bs)) = done ++ bs then ((val (done ++ bs) : Int), ((a + (done ++ bs).length : Nat) : Int), true) else (0, 0, false)) := by
  intro k
  have hz := bytesOf_length s
  have no : ∀ (x7 x8 x9 : Int) r, r = (0, 0, false) → Ev (fun K => spec_ReadVar.j1 K s (a : Int) x7 x8 x9 false) r := by
    rintro x7 x8 x9 r rfl
    refine Ev.step (fun _ => rfl) ?_
    simp only [spec_ReadVar.j1]
    exact Ev.neg (by simp) (Ev.now _)
  induction k with
  | zero =>
    intro rest done i hi hd hr
    refine Ev.step (fun _ => rfl) ?_
    simp only [spec_ReadVar.l0, wrap64_id (show -9223372036854775808 ≤ (a : Int) + 5 by omega) (show (a : Int) + 5 ≤ 9223372036854775807 by omega)]
    refine Ev.ite (fun _ => ?_) (fun _ => no _ _ _ _ rfl)
    rw [decide_eq_false (by omega)]
    exact no _ _ _ _ rfl
  | succ k ih =>
    intro rest done i hi hd hr
    have hl : done.length + rest.length = s.size - a := by rw [← List.length_append, ← hr, List.length_drop, hz]
    cases rest with
    | nil =>
      refine Ev.step (fun _ => rfl) ?_
      simp only [spec_ReadVar.l0]
      rw [List.length_nil] at hl
      exact Ev.neg (by omega) (no _ _ _ _ rfl)
    | cons b t =>
      have hbt : bt s ((a + i : Nat) : Int) = b := by
        rw [← rd_bytesOf, rd_nat]
        have e : (bytesOf s).drop (a + i) = b :: t := by rw [← List.drop_drop, hr, List.drop_append_of_le_length (by omega), ← hd, List.drop_length, List.nil_append]
        exact (drop_cons e).2.1 0
      have hb := bytesOf_range s b (by
        have : b ∈ (bytesOf s).drop a := by rw [hr]; simp
        exact List.mem_of_mem_drop this)
      rw [List.length_cons] at hl
      have hsc := scale_bound (show i ≤ 5 by omega)
      have hvd := val_lt done
      rw [hd] at hvd
      have e1 : Int.tmod (wrap64 b) 128 = b % 128 := byte_mod hb.1 hb.2
      have hpos : 0 < 128 ^ i := Nat.pow_pos (by omega)
      have hmul : (b % 128) * ((128 ^ i : Nat) : Int) = (((b % 128).toNat * 128 ^ i : Nat) : Int) := by
        rw [Int.natCast_mul, Int.toNat_of_nonneg (by omega)]
      have hmb : (b % 128).toNat * 128 ^ i ≤ 127 * 128 ^ i := Nat.mul_le_mul_right _ (by omega)
      have e2 : wrap64 ((val done : Int) + wrap64 (Int.tmod (wrap64 b) 128 * ((128 ^ i : Nat) : Int))) = (val (done ++ [b]) : Int) := by
        rw [e1, hmul, wrap64_id (n := (((b % 128).toNat * 128 ^ i : Nat) : Int)) (by omega) (by omega), wrap64_id (by omega) (by omega), val_append, hd]
        rw [show val [b] = (b % 128).toNat by simp [val], Nat.mul_comm (128 ^ i)]
        omega
      have hval : val (done ++ [b]) < 128 ^ (i + 1) := by
        have := val_lt (done ++ [b])
        rwa [List.length_append, hd] at this
      have hsc' := scale_bound (show i + 1 ≤ 5 by omega)
      refine Ev.step (fun _ => rfl) ?_
      simp only [spec_ReadVar.l0, wrap64_id (show -9223372036854775808 ≤ (a : Int) + 5 by omega) (show (a : Int) + 5 ≤ 9223372036854775807 by omega)]
      rw [decide_eq_true (show ((a + i : Nat) : Int) < (a : Int) + 5 by omega)]
      refine Ev.pos (by omega) (Ev.step (fun _ => rfl) ?_)
      simp only [spec_ReadVar.j1, hbt, e2, wrap64_succ (show a + i ≤ 9223372036854775806 by omega)]
      refine Ev.pos trivial (Ev.pos (by omega) (Ev.pos (by omega) (Ev.ite (fun hlt => ?_) (fun hge => ?_))))
      · rw [varSeg, if_pos hlt]
        simp only []
        refine Ev.ite (fun hbig => Ev.done ?_) (fun hsmall => ?_)
        · rw [if_neg (by omega)]
        · have hex : (s.extract (a : Int).toNat ((a + i + 1 : Nat) : Int).toNat).toList = (strOfNums (done ++ [b])).toList := by
            rw [toList_iff, bytesOf_extract, Int.toNat_natCast, Int.toNat_natCast, List.drop_take, hr, bytesOf_strOfNums _ (by
              intro x hx
              refine bytesOf_range s x ?_
              have : x ∈ (bytesOf s).drop a := by rw [hr]; rcases List.mem_append.1 hx with h | h <;> simp_all
              exact List.mem_of_mem_drop this)]
            rw [show a + i + 1 - a = done.length + 1 by omega]
            rw [List.take_append, List.take_of_length_le (by omega)]
            simp
          refine Ev.bind (spec_l01Var_nat _ (by omega)) (Ev.pos (by omega) (Ev.pos (by omega) (Ev.pos (by omega) ?_)))
          rw [hex]
          have hiff : (varText (val (done ++ [b]))).toList = (strOfNums (done ++ [b])).toList ↔ varL (val (done ++ [b])) = done ++ [b] := by
            rw [toList_iff, bytesOf_varText, bytesOf_strOfNums _ (by
              intro x hx
              refine bytesOf_range s x ?_
              have : x ∈ (bytesOf s).drop a := by rw [hr]; rcases List.mem_append.1 hx with h | h <;> simp_all
              exact List.mem_of_mem_drop this)]
          refine Ev.ite (fun hc => Ev.done ?_) (fun hc => Ev.done ?_)
          · rw [if_pos ⟨by omega, hiff.1 hc⟩, List.length_append, hd]; rfl
          · rw [if_neg (fun h => hc (hiff.2 h.2))]
      · have ih := ih t (done ++ [b]) (i + 1) (by omega) (by simp [hd]) (by rw [hr]; simp)
        rw [varSeg, if_neg hge]
        have e3 : wrap64 (((128 ^ i : Nat) : Int) * 128) = ((128 ^ (i + 1) : Nat) : Int) := by
          rw [wrap64_id (by omega) (by omega), Nat.pow_succ, Int.natCast_mul]; rfl
        rw [e3]
        refine Ev.eq ih ?_
        cases varSeg k t with
        | none => rfl
        | some bs => simp only [Option.map_some, List.append_assoc, List.cons_append, List.nil_append]
theorem spec_ReadVar_ev (s : ByteArray) (a : Int) (hs : s.size ≤ 1152921504606846976) : Ev (fun k => spec_ReadVar.f k s a) (readVar s a) := by
  unfold spec_ReadVar.f readVar
  refine Ev.call (spec_l01In_eq _ _ _) ?_
  cases hb : inR a 0 s.size
  · exact Ev.neg (by simp) (Ev.done (by simp))
  · have hr := inR_true.1 hb
    obtain ⟨n, rfl⟩ := Int.eq_ofNat_of_zero_le hr.1
    refine Ev.pos rfl (Ev.eq (spec_ReadVar_loop s n hs (by omega) 5 ((bytesOf s).drop n) [] 0 rfl rfl rfl) ?_)
    rw [if_pos rfl, Int.toNat_natCast, readVarL]
    cases varSeg 5 ((bytesOf s).drop n) with
    | none => rfl
    | some bs =>
      simp only [List.nil_append]
      by_cases hc : val bs ≤ 1000000000 ∧ varL (val bs) = bs
      · rw [if_pos hc, if_pos hc]; simp
      · rw [if_neg hc, if_neg hc]
theorem impl_ReadVar_loop (s : ByteArray) (a : Nat) (hs : s.size ≤ 1152921504606846976) (ha : a ≤ s.size) : ∀ (k : Nat) (rest done : List Int) (i : Nat), i + k = 5 → done.length = i → (bytesOf s).drop a = done ++ rest → (∀ bs, varSeg k rest = some bs → varSeg 5 ((bytesOf s).drop a) = some (done ++ bs)) →
    Ev (fun K => impl_ReadVar.l0 K s (a : Int) (val done : Int) (i : Int))
      (match varSeg k rest with | none => (0, 0, false) | some bs => if val (done ++ bs) ≤ 1000000000 ∧ varL (val (done ++ bs)) = done ++ bs then ((val (done ++ bs) : Int), ((a + (done ++ bs).length : Nat) : Int), true) else (0, 0, false)) := by
  intro k
  have hz := bytesOf_length s
  have no : ∀ (x7 x8 : Int) r, r = (0, 0, false) → Ev (fun K => impl_ReadVar.j1 K s (a : Int) x7 x8 false) r := by
    rintro x7 x8 r rfl
    refine Ev.step (fun _ => rfl) ?_
    simp only [impl_ReadVar.j1]
    exact Ev.neg (by simp) (Ev.now _)
  induction k with
  | zero =>
    intro rest done i hi hd hr _
    refine Ev.step (fun _ => rfl) ?_
    simp only [impl_ReadVar.l0]
    exact Ev.neg (by omega) (no _ _ _ rfl)
  | succ k ih =>
    intro rest done i hi hd hr hseg
    have hl : done.length + rest.length = s.size - a := by rw [← List.length_append, ← hr, List.length_drop, hz]
    cases rest with
    | nil =>
      refine Ev.step (fun _ => rfl) ?_
      simp only [impl_ReadVar.l0]
      rw [List.length_nil] at hl
      refine Ev.pos (by omega) ?_
      rw [wrap64_id (by omega) (by omega), decide_eq_false (by omega)]
      exact no _ _ _ rfl
    | cons b t =>
      have e0 : wrap64 ((a : Int) + (i : Int)) = ((a + i : Nat) : Int) := by rw [wrap64_id (by omega) (by omega)]; omega
      have hbt : bt s ((a + i : Nat) : Int) = b := by
        rw [← rd_bytesOf, rd_nat]
        have e : (bytesOf s).drop (a + i) = b :: t := by rw [← List.drop_drop, hr, List.drop_append_of_le_length (by omega), ← hd, List.drop_length, List.nil_append]
        exact (drop_cons e).2.1 0
      have hb := bytesOf_range s b (by
        have : b ∈ (bytesOf s).drop a := by rw [hr]; simp
        exact List.mem_of_mem_drop this)
      rw [List.length_cons] at hl
      have hsc := scale_bound (show i ≤ 5 by omega)
      have hvd := val_lt done
      rw [hd] at hvd
      have e1 : Int.tmod (wrap64 b) 128 = b % 128 := byte_mod hb.1 hb.2
      have hmul : (b % 128) * ((128 ^ i : Nat) : Int) = (((b % 128).toNat * 128 ^ i : Nat) : Int) := by
        rw [Int.natCast_mul, Int.toNat_of_nonneg (by omega)]
      have hmb : (b % 128).toNat * 128 ^ i ≤ 127 * 128 ^ i := Nat.mul_le_mul_right _ (by omega)
      have hpos : 0 < 128 ^ i := Nat.pow_pos (by omega)
      have e7 : wrap64 (7 * (i : Int)) = 7 * (i : Int) := wrap64_id (by omega) (by omega)
      have hshl : shl .i64 (b % 128) (7 * (i : Int)) = (b % 128) * ((128 ^ i : Nat) : Int) := by
        have hp : (2 : Int) ^ min (7 * (i : Int)).toNat (IntKind.bits .i64) = ((128 ^ i : Nat) : Int) := by
          rcases i with _ | _ | _ | _ | _ | i
          · rfl
          · rfl
          · rfl
          · rfl
          · rfl
          · omega
        unfold shl
        rw [hp, i64_w]
        exact wrap64_id (by omega) (by omega)
      have e2 : wrap64 ((val done : Int) + shl .i64 (Int.tmod (wrap64 b) 128) (wrap64 (7 * (i : Int)))) = (val (done ++ [b]) : Int) := by
        rw [e1, e7, hshl, hmul, wrap64_id (by omega) (by omega), val_append, hd]
        rw [show val [b] = (b % 128).toNat by simp [val], Nat.mul_comm (128 ^ i)]
        omega
      clear hsc hvd hmul hmb hpos hshl e1
      refine Ev.step (fun _ => rfl) ?_
      simp only [impl_ReadVar.l0, e0]
      refine Ev.pos (by omega) ?_
      rw [decide_eq_true (show ((a + i : Nat) : Int) < (s.size : Int) by omega)]
      refine Ev.step (fun _ => rfl) ?_
      simp only [impl_ReadVar.j1, e0, hbt, e2, wrap64_succ (show i ≤ 9223372036854775806 by omega), wrap64_succ (show a + i ≤ 9223372036854775806 by omega)]
      rw [wrap64_id (n := b) (by omega) (by omega)]
      refine Ev.pos trivial (Ev.pos (by omega) (Ev.pos (by omega) (Ev.pos (by rw [e7]; omega) (Ev.ite (fun hlt => ?_) (fun hge => ?_)))))
      · have hsg := hseg [b] (by rw [varSeg, if_pos hlt])
        have hck := varSeg_check (fun x hx => bytesOf_range s x (List.mem_of_mem_drop hx)) hsg
        rw [varSeg, if_pos hlt]
        simp only []
        by_cases hbig : val (done ++ [b]) ≤ 1000000000
        · refine Ev.bind (impl_VarText_nat _ hbig) (Ev.pos rfl ?_)
          simp only [varText, strOfNums_size]
          have hlen : (done ++ [b]).length = i + 1 := by simp [hd]
          refine Ev.ite (fun hc => Ev.done ?_) (fun hc => Ev.done ?_)
          · rw [if_pos ⟨hbig, hck.1 (by omega)⟩, hlen]; rfl
          · rw [if_neg (fun h => hc (by have := hck.2 h.2; omega))]
        · refine Ev.bind (Ev.eq (impl_VarText_ev _) (varTextOf_no (show ¬ ((val (done ++ [b]) : Int) ≤ 1000000000) by omega))) ?_
          refine Ev.neg (by simp) (Ev.done ?_)
          rw [if_neg (fun h => hbig h.1)]
      · have ih := ih t (done ++ [b]) (i + 1) (by omega) (by simp [hd]) (by rw [hr]; simp) (fun bs hbs => by
          have := hseg (b :: bs) (by rw [varSeg, if_neg hge, hbs]; rfl)
          rw [this]; simp)
        rw [varSeg, if_neg hge]
        refine Ev.eq ih ?_
        cases varSeg k t with
        | none => rfl
        | some bs => simp only [Option.map_some, List.append_assoc, List.cons_append, List.nil_append]
theorem impl_ReadVar_ev (s : ByteArray) (a : Int) (hs : s.size ≤ 1152921504606846976) : Ev (fun k => impl_ReadVar.f k s a) (readVar s a) := by
  unfold impl_ReadVar.f readVar
  refine Ev.call (impl_within_eq _ _ _) ?_
  cases hb : inR a 0 s.size
  · exact Ev.neg (by simp) (Ev.done (by simp))
  · have hr := inR_true.1 hb
    obtain ⟨n, rfl⟩ := Int.eq_ofNat_of_zero_le hr.1
    refine Ev.pos rfl (Ev.eq (impl_ReadVar_loop s n hs (by omega) 5 ((bytesOf s).drop n) [] 0 rfl rfl rfl (fun bs h => h)) ?_)
    rw [if_pos rfl, Int.toNat_natCast, readVarL]
    cases varSeg 5 ((bytesOf s).drop n) with
    | none => rfl
    | some bs =>
      simp only [List.nil_append]
      by_cases hc : val bs ≤ 1000000000 ∧ varL (val bs) = bs
      · rw [if_pos hc, if_pos hc]; simp
      · rw [if_neg hc, if_neg hc]
theorem spec_l05Var_ev (s : ByteArray) (a : Int) (bad : Bool) (hs : s.size ≤ 1152921504606846976) : Ev (fun k => spec_l05Var.f k s a bad) (curNum s a bad) := by
  unfold spec_l05Var.f curNum
  refine Ev.bind (spec_ReadVar_ev s a hs) (Ev.ite (fun h => Ev.done (by rw [if_pos h])) (fun h => Ev.ite (fun h' => Ev.done ?_) (fun h' => Ev.done ?_)))
  · rw [if_neg h, if_pos h']
  · rw [if_neg h, if_neg h']
theorem impl_reader_num_ev (s : ByteArray) (a : Int) (bad : Bool) (hs : s.size ≤ 1152921504606846976) : Ev (fun k => impl_reader_num.f k s a bad) (curNum s a bad) := by
  unfold impl_reader_num.f curNum
  refine Ev.bind (impl_ReadVar_ev s a hs) (Ev.ite (fun h => Ev.done (by rw [if_pos h])) (fun h => Ev.ite (fun h' => Ev.done ?_) (fun h' => Ev.done ?_)))
  · rw [if_neg h, if_pos h']
  · rw [if_neg h, if_neg h']
theorem spec_l05Take_eq (s : ByteArray) (a n : Int) (bad : Bool) (hs : s.size ≤ 1152921504606846976) (h0 : 0 ≤ a) (h1 : a ≤ s.size) (hn : 0 ≤ n) (hn' : n ≤ 1152921504606846976) : spec_l05Take.f s a bad n = some (curTake s a bad n) := by
  unfold spec_l05Take.f curTake
  by_cases h : bad = true
  · rw [if_pos h, if_pos h]
  · rw [if_neg h, if_neg h, wrap64_id (n := (s.size : Int) - a) (by omega) (by omega), wrap64_id (n := a + n) (by omega) (by omega), show a + n - n = a by omega, wrap64_id (n := a) (by omega) (by omega)]
    by_cases hc : n > (s.size : Int) - a
    · rw [if_pos hc, if_pos hc]
    · rw [if_neg hc, if_neg hc, if_pos (by omega), if_pos (by omega), if_pos (by omega)]
theorem impl_reader_byte_eq (s : ByteArray) (a : Int) (bad : Bool) (hs : s.size ≤ 1152921504606846976) (h0 : 0 ≤ a) (h1 : a ≤ s.size) : impl_reader_byte.f s a bad = some (curByte s a bad) := by
  unfold impl_reader_byte.f curByte
  by_cases h : bad = true
  · rw [if_pos h, if_pos h]
  · rw [if_neg h, if_neg h, wrap64_id (n := a + 1) (by omega) (by omega), show a + 1 - 1 = a by omega, wrap64_id (n := a) (by omega) (by omega)]
    by_cases hc : a ≥ (s.size : Int)
    · rw [if_pos hc, if_pos hc]
    · have := bt_range s a
      rw [if_neg hc, if_neg hc, if_pos (by omega), if_pos (by omega), wrap64_id (n := bt s a) (by omega) (by omega)]
theorem spec_ReadEntry_ev (s : ByteArray) (hs : s.size ≤ 1048576) : Ev (fun k => spec_ReadEntry.f k s) (readEntry s) := by
  unfold spec_ReadEntry.f readEntry
  refine Ev.call (spec_l05Take_eq s 0 1 false (by omega) (by omega) (by omega) (by omega) (by omega)) ?_
  by_cases hz : s.size = 0
  · rw [if_pos hz]
    have e : curTake s 0 false 1 = (⟨#[]⟩, s, 0, true) := by
      unfold curTake; rw [if_neg (by simp), if_pos (by omega)]
    simp only [e]
    refine Ev.bind (spec_l05Var_ev s 0 true (by omega)) (Ev.bind (spec_l05Var_ev s 0 true (by omega)) ?_)
    simp only [curNum_isbad]
    exact Ev.call (spec_l05Take_eq s 0 1 true (by omega) (by omega) (by omega) (by omega) (by omega)) (Ev.pos rfl (Ev.now _))
  rw [if_neg hz]
  have e : curTake s 0 false 1 = (s.extract 0 1, s, 1, false) := by
    unfold curTake; rw [if_neg (by simp), if_neg (by omega)]; rfl
  simp only [e]
  refine Ev.bind (spec_l05Var_ev s 1 false (by omega)) ?_
  have hp1 := curNum_place (s := s) (a := 1) (bad := false) (by omega) (by omega)
  simp only [curNum_text]
  refine Ev.bind (spec_l05Var_ev s _ _ (by omega)) ?_
  have hp2 := curNum_place (s := s) (a := (curNum s 1 false).2.2.1) (bad := (curNum s 1 false).2.2.2) hp1.1 hp1.2
  simp only [curNum_text]
  refine Ev.call (spec_l05Take_eq s _ 1 _ (by omega) hp2.1 hp2.2 (by omega) (by omega)) ?_
  cases hb : (curNum s (curNum s 1 false).2.2.1 (curNum s 1 false).2.2.2).2.2.2
  case true =>
    rw [if_pos rfl]
    exact Ev.pos rfl (Ev.now _)
  rw [if_neg (by simp)]
  by_cases hc : (curNum s (curNum s 1 false).2.2.1 (curNum s 1 false).2.2.2).2.2.1 ≥ (s.size : Int)
  · rw [if_pos hc]
    have e : ∀ a, a ≥ (s.size : Int) → curTake s a false 1 = (⟨#[]⟩, s, a, true) := by
      intro a ha
      unfold curTake; rw [if_neg (by simp), if_pos (by omega)]
    rw [e _ hc]
    exact Ev.pos rfl (Ev.now _)
  rw [if_neg hc]
  obtain ⟨hb1, hr2⟩ := curNum_good hb
  obtain ⟨-, hr1⟩ := curNum_good hb1
  generalize (curNum s (curNum s 1 false).2.2.1 (curNum s 1 false).2.2.2).1 = t at *
  generalize (curNum s (curNum s 1 false).2.2.1 (curNum s 1 false).2.2.2).2.2.1 = b at *
  generalize (curNum s 1 false).2.2.1 = a at *
  generalize (curNum s 1 false).1 = i at *
  have hby := entry_bytes hr1 hr2 (by omega)
  have e : curTake s b false 1 = (s.extract b.toNat (b + 1).toNat, s, b + 1, false) := by
    unfold curTake; rw [if_neg (by simp), if_neg (by omega)]
  rw [e]
  have hk := bt_range s b
  have hone : bytesOf (s.extract b.toNat (b + 1).toNat) = [bt s b] := by
    have e3 := drop_bt (s := s) (n := b.toNat) (by omega)
    rw [Int.toNat_of_nonneg (by omega)] at e3
    rw [bytesOf_extract, List.drop_take, e3, show (b + 1).toNat - b.toNat = 1 by omega]; rfl
  have hone2 : (s.extract b.toNat (b + 1).toNat).size = 1 := by rw [← bytesOf_length, hone]; rfl
  have hone3 : bt (s.extract b.toNat (b + 1).toNat) 0 = bt s b := by rw [← rd_bytesOf, hone]; rfl
  simp only [hone2, hone3]
  refine Ev.neg (by simp) (Ev.pos (by omega) (Ev.pos (by omega) (Ev.pos (by omega) ?_)))
  rw [wrap64_id (n := bt s b) (by omega) (by omega)]
  have hds : (s.extract (b + 1).toNat s.size).size ≤ 1048576 := by rw [← bytesOf_length, bytesOf_dropTo, List.length_drop, bytesOf_length]; omega
  refine Ev.bind (spec_EntryText_ev i t (bt s b) _ hds) ?_
  unfold entryText
  cases hok : (entryOk t (bt s b) (s.extract (b + 1).toNat s.size) && inR i 1 100000)
  · rw [if_neg (show ¬ (false = true) by simp)]
    refine Ev.neg (by simp) (Ev.done ?_)
    rw [if_neg (fun h => Bool.false_ne_true h.2)]; rfl
  · rw [if_pos (show true = true from rfl)]
    refine Ev.pos rfl ?_
    have hiff : ((⟨#[69]⟩ : ByteArray) ++ varText i.toNat ++ varText t.toNat ++ strOfNums [bt s b % 256] ++ s.extract (b + 1).toNat s.size).toList = s.toList ↔ bt s 0 = 69 := by
      rw [toList_iff, entryText_bytes hk, hby]
      constructor
      · intro h; exact (List.cons.inj h).1.symm
      · intro h; rw [h]
    refine Ev.ite (fun hc => Ev.done ?_) (fun hc => Ev.done ?_)
    · rw [if_pos ⟨hiff.1 hc, rfl⟩]
    · rw [if_neg (fun h => hc (hiff.2 h.1))]; rfl
theorem impl_ReadEntry_ev (s : ByteArray) (hs : s.size ≤ 1048576) : Ev (fun k => impl_ReadEntry.f k s) (readEntry s) := by
  have bad : ∀ x7 x1 x2 x3 x4 x5 x6 r, r = noEntry → Ev (fun k => impl_ReadEntry.j0 k s x7 true x1 x2 x3 x4 x5 x6) r := by
    rintro x7 x1 x2 x3 x4 x5 x6 r rfl
    refine Ev.step (fun _ => rfl) ?_
    simp only [impl_ReadEntry.j0]
    exact Ev.pos trivial (Ev.now _)
  unfold impl_ReadEntry.f readEntry
  refine Ev.call (impl_reader_byte_eq s 0 false (by omega) (by omega) (by omega)) ?_
  by_cases hz : s.size = 0
  · rw [if_pos hz]
    have e : curByte s 0 false = (0, s, 0, true) := by
      unfold curByte; rw [if_neg (by simp), if_pos (by omega)]
    simp only [e]
    refine Ev.bind (impl_reader_num_ev s 0 true (by omega)) (Ev.bind (impl_reader_num_ev s 0 true (by omega)) ?_)
    simp only [curNum_isbad]
    exact Ev.call (impl_reader_byte_eq s 0 true (by omega) (by omega) (by omega)) (Ev.pos rfl (bad _ _ _ _ _ _ _ _ rfl))
  rw [if_neg hz]
  have e : curByte s 0 false = (bt s 0, s, 1, false) := by
    unfold curByte; rw [if_neg (by simp), if_neg (by omega)]; rfl
  simp only [e]
  refine Ev.bind (impl_reader_num_ev s 1 false (by omega)) ?_
  have hp1 := curNum_place (s := s) (a := 1) (bad := false) (by omega) (by omega)
  simp only [curNum_text]
  refine Ev.bind (impl_reader_num_ev s _ _ (by omega)) ?_
  have hp2 := curNum_place (s := s) (a := (curNum s 1 false).2.2.1) (bad := (curNum s 1 false).2.2.2) hp1.1 hp1.2
  simp only [curNum_text]
  refine Ev.call (impl_reader_byte_eq s _ _ (by omega) hp2.1 hp2.2) ?_
  cases hb : (curNum s (curNum s 1 false).2.2.1 (curNum s 1 false).2.2.2).2.2.2
  case true =>
    rw [if_pos rfl]
    exact Ev.pos rfl (bad _ _ _ _ _ _ _ _ rfl)
  rw [if_neg (by simp)]
  by_cases hc : (curNum s (curNum s 1 false).2.2.1 (curNum s 1 false).2.2.2).2.2.1 ≥ (s.size : Int)
  · rw [if_pos hc]
    have e : ∀ a, a ≥ (s.size : Int) → curByte s a false = (0, s, a, true) := by
      intro a ha
      unfold curByte; rw [if_neg (by simp), if_pos (by omega)]
    rw [e _ hc]
    exact Ev.pos rfl (bad _ _ _ _ _ _ _ _ rfl)
  rw [if_neg hc]
  generalize (curNum s (curNum s 1 false).2.2.1 (curNum s 1 false).2.2.2).1 = t at *
  generalize (curNum s (curNum s 1 false).2.2.1 (curNum s 1 false).2.2.2).2.2.1 = b at *
  generalize (curNum s 1 false).2.2.1 = a at *
  generalize (curNum s 1 false).1 = i at *
  have e : curByte s b false = (bt s b, s, b + 1, false) := by
    unfold curByte; rw [if_neg (by simp), if_neg (by omega)]
  rw [e]
  have hds : (s.extract (b + 1).toNat s.size).size ≤ 1048576 := by rw [← bytesOf_length, bytesOf_dropTo, List.length_drop, bytesOf_length]; omega
  refine Ev.neg (by simp) ?_
  by_cases hl : bt s 0 = 69
  · rw [show (bt s 0 != 69) = false by simp [hl]]
    refine Ev.step (fun _ => rfl) ?_
    simp only [impl_ReadEntry.j0]
    refine Ev.neg (by simp) (Ev.pos (by omega) (Ev.pos (by omega) (Ev.bind (impl_EntryOk_ev t (bt s b) _ hds) ?_)))
    cases h1 : entryOk t (bt s b) (s.extract (b + 1).toNat s.size)
    · exact Ev.neg (by simp) (Ev.done (by simp [noEntry]))
    · refine Ev.pos rfl (Ev.call (impl_within_eq _ _ _) ?_)
      cases h2 : inR i 1 100000
      · exact Ev.neg (by simp) (Ev.done (by simp [noEntry]))
      · exact Ev.pos rfl (Ev.done (by simp [hl]))
  · rw [show (bt s 0 != 69) = true by simp [hl], if_neg (fun h => hl h.1)]
    exact bad _ _ _ _ _ _ _ _ rfl
theorem FnExactReadEntry_q (s : ByteArray) (_ : s.size ≤ 140737488351232) : ∃ k, laws_FnExactReadEntry.f k s = some true := by
  apply Ev.rounds
  unfold laws_FnExactReadEntry.f
  refine Ev.ite (fun _ => Ev.now _) (fun hc => ?_)
  have hl : s.size ≤ 1048576 := by omega
  exact Ev.bind (spec_ReadEntry_ev s hl) (Ev.bind (impl_ReadEntry_ev s hl) (Ev.pos rfl (Ev.call (laws_eqEntry_refl _ _ _) (Ev.pos rfl (Ev.neg (by simp) (Ev.now _))))))

end Go.Proofs.Ytgpafelepkhdoaa.Pure
