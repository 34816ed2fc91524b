/- The law FnExactReadCommand answers true: the program's ReadCommand returns what the reference's returns. For all arguments; no further condition. -/
import Derived.Test.YtgpafelepkhdoaaPFnExactReadCommandx10
import Derived.Test.YtgpafelepkhdoaaVFnExactReadCommandBase
namespace Go.Proofs.Ytgpafelepkhdoaa.Pure
open Go.RowKit Go.Proofs.Ytgpafelepkhdoaa.PFnExactReadCommand Go.Proofs.YtgpafelepkhdoaaW.PrintWords Go.Proofs.YtgpafelepkhdoaaW.PrintLast Go.Proofs.Ytgpafelepkhdoaa.Base
set_option linter.unusedVariables false

theorem spec_l01In_eq (a b c : Int) : spec_l01In.f a b c = some (inR a b c) := by
  unfold spec_l01In.f inR
  by_cases h : b ≤ a
  · rw [if_pos h]; simp [h]
  · rw [if_neg h]; simp [h]
theorem impl_within_eq (a b c : Int) : impl_within.f a b c = some (inR a b c) := by
  unfold impl_within.f inR
  by_cases h : b ≤ a
  · rw [if_pos h]; simp [h]
  · rw [if_neg h]; simp [h]
theorem spec_l01Var_loop : ∀ (n : Nat) (acc : List Int), acc.length + n < 140737488355328 →
    Ev (fun k => spec_l01Var.l0 k (n : Int) acc) (strOfNums (acc ++ varL n)) := by
  intro n
  induction n using Nat.strongRecOn with
  | ind n ih =>
    intro acc h
    refine Ev.step (fun _ => rfl) ?_
    simp only [spec_l01Var.l0, tdiv128 n (by omega), tmod128 n]
    refine Ev.ite (fun hc => ?_) (fun hc => ?_)
    · rw [varL_big (by omega)]
      exact Ev.pos (by omega) (Ev.eq (ih (n / 128) (by omega) _ (by simp; omega)) (by simp))
    · rw [varL_small (by omega)]
      exact Ev.pos (by omega) (Ev.done (by rw [Int.emod_eq_of_lt (by omega) (by omega)]))
theorem spec_l01Var_nat (n : Nat) (h : n ≤ 34359738367) : Ev (fun k => spec_l01Var.f k (n : Int)) (varText n) := spec_l01Var_loop n [] (by simp; omega)
theorem spec_l01Var_ev (n : Int) (h0 : 0 ≤ n) (h : n ≤ 34359738367) : Ev (fun k => spec_l01Var.f k n) (varText n.toNat) := by
  obtain ⟨m, rfl⟩ := Int.eq_ofNat_of_zero_le h0
  exact spec_l01Var_nat m (by omega)
theorem impl_VarText_loop : ∀ (n : Nat) (acc : List Int), acc.length + n < 140737488355328 →
    Ev (fun k => impl_VarText.l0 k (n : Int) acc) (strOfNums (acc ++ varL n), true) := by
  intro n
  induction n using Nat.strongRecOn with
  | ind n ih =>
    intro acc h
    refine Ev.step (fun _ => rfl) ?_
    simp only [impl_VarText.l0, tdiv128 n (by omega), tmod128 n]
    refine Ev.ite (fun hc => ?_) (fun hc => ?_)
    · rw [varL_big (by omega)]
      exact Ev.pos (by omega) (Ev.eq (ih (n / 128) (by omega) _ (by simp; omega)) (by simp))
    · rw [varL_small (by omega)]
      exact Ev.pos (by omega) (Ev.done (by rw [Int.emod_eq_of_lt (by omega) (by omega)]))
theorem impl_VarText_ev (n : Int) : Ev (fun k => impl_VarText.f k n) (varTextOf n) := by
  unfold impl_VarText.f varTextOf
  refine Ev.call (impl_within_eq _ _ _) ?_
  cases hb : inR n 0 1000000000
  · exact Ev.neg (by simp) (Ev.done (by simp))
  · have := inR_true.1 hb
    obtain ⟨m, rfl⟩ := Int.eq_ofNat_of_zero_le this.1
    exact Ev.pos rfl (Ev.eq (impl_VarText_loop m [] (by simp; omega)) (by simp [varText]))
theorem impl_VarText_nat (n : Nat) (h : n ≤ 1000000000) : Ev (fun k => impl_VarText.f k (n : Int)) (varText n, true) :=
  Ev.eq (impl_VarText_ev (n : Int)) (by rw [varTextOf, if_pos (inR_true.2 (by omega))]; rfl)
theorem spec_CommandOk_ev (op s q : Int) (key value old : ByteArray) : Ev (fun k => spec_CommandOk.f k op s q key value old) (cmdOk op s q key value old) := by
  have bad : ∀ r, r = false → Ev (fun k => spec_CommandOk.j0 k true op s q key value old) r := by
    rintro r rfl
    refine Ev.step (fun _ => rfl) ?_
    simp only [spec_CommandOk.j0]
    exact Ev.pos trivial (Ev.now _)
  unfold spec_CommandOk.f cmdOk
  refine Ev.call (spec_l01In_eq _ _ _) ?_
  cases h1 : inR op 1 5
  · exact Ev.neg (by simp) (bad _ (by simp))
  refine Ev.pos rfl (Ev.call (spec_l01In_eq _ _ _) ?_)
  cases h2 : inR s 0 100000
  · exact Ev.neg (by simp) (bad _ (by simp))
  refine Ev.pos rfl (Ev.call (spec_l01In_eq _ _ _) ?_)
  cases h3 : inR q 0 100000
  · exact Ev.neg (by simp) (bad _ (by simp))
  refine Ev.pos rfl (Ev.ite (fun h4 => bad _ ?_) (fun h4 => ?_))
  · rw [decide_eq_false (show ¬ value.size ≤ 12 by omega)]; simp
  rw [decide_eq_true (show value.size ≤ 12 by omega)]
  by_cases h5 : old.size ≤ 12
  · rw [decide_eq_true h5, decide_eq_false (show ¬ (old.size : Int) > 12 by omega)]
    refine Ev.step (fun _ => rfl) ?_
    simp only [spec_CommandOk.j0, emp_def]
    refine Ev.neg (by simp) (Ev.ite (fun h6 => Ev.done ?_) (fun h6 => ?_))
    · subst h6; simp
    · refine Ev.call (spec_l01In_eq _ _ _) ?_
      simp only [if_neg h6]
      cases h7 : inR key.size 1 9
      · exact Ev.neg (by simp) (Ev.done (by simp))
      · refine Ev.pos rfl (Ev.ite (fun h8 => ?_) (fun h8 => ?_))
        · subst h8
          refine Ev.step (fun _ => rfl) ?_
          simp only [spec_CommandOk.j1, emp_def]
          refine Ev.pos rfl (Ev.ite (fun h9 => Ev.done ?_) (fun h9 => Ev.done ?_))
          · simp [(emp_iff _).1 h9]
          · simp [Bool.eq_false_iff.2 (fun e => h9 ((emp_iff _).2 e))]
        · refine Ev.step (fun _ => rfl) ?_
          simp only [spec_CommandOk.j1, emp_def]
          by_cases h9 : op = 4
          · subst h9
            refine Ev.pos rfl (Ev.ite (fun h9 => Ev.done ?_) (fun h9 => Ev.done ?_))
            · simp [(emp_iff _).1 h9]
            · simp [Bool.eq_false_iff.2 (fun e => h9 ((emp_iff _).2 e))]
          · refine Ev.neg (by simp [h9]) (Ev.ite (fun h10 => Ev.done ?_) (fun h10 => Ev.done ?_))
            · subst h10; simp
            · simp [h8, h9, h10]
  · rw [decide_eq_false h5, decide_eq_true (show (old.size : Int) > 12 by omega)]
    exact bad _ (by simp)
theorem impl_CommandOk_ev (op s q : Int) (key value old : ByteArray) : Ev (fun k => impl_CommandOk.f k op s q key value old) (cmdOk op s q key value old) := by
  unfold impl_CommandOk.f
  refine Ev.ite (fun h1 => Ev.done ?_) (fun h1 => ?_)
  · subst h1
    unfold cmdOk
    simp only [emp_def, if_true, show inR 1 1 5 = true from rfl, Bool.true_and]
    by_cases hs : s = 0
    · by_cases hq : q = 0
      · subst hs; subst hq
        cases hk : emp key
        · simp
        cases hv : emp value
        · simp
        cases ho : emp old
        · simp
        have := emp_true.1 hv
        have := emp_true.1 ho
        simp [inR]; omega
      · rw [beq_eq_false_iff_ne.2 hq]; simp
    · rw [beq_eq_false_iff_ne.2 hs]; simp
  have tail : ∀ (b : Bool), b = (decide (op = 2) || decide (op = 4)) → Ev (fun k => impl_CommandOk.j0 k (decide ((value.size : Int) ≤ 12)) (decide ((old.size : Int) ≤ 12)) op b op s q key value old) (cmdOk op s q key value old) := by
    intro b hb
    refine Ev.step (fun _ => rfl) ?_
    simp only [impl_CommandOk.j0, emp_def]
    unfold cmdOk
    rw [if_neg h1]
    have ev : decide ((value.size : Int) ≤ 12) = decide (value.size ≤ 12) := by rw [decide_eq_decide]; omega
    have eo : decide ((old.size : Int) ≤ 12) = decide (old.size ≤ 12) := by rw [decide_eq_decide]; omega
    rw [ev, eo]
    by_cases h2 : op = 2 ∨ op = 4
    · have hb1 : b = true := by rw [hb]; simpa using h2
      have hr : inR op 1 5 = true := inR_true.2 (by omega)
      subst hb1
      rw [hr, if_pos h2]
      refine Ev.pos rfl (Ev.call (impl_within_eq _ _ _) ?_)
      cases h3 : inR s 0 100000
      · exact Ev.neg (by simp) (Ev.done (by simp))
      refine Ev.pos rfl (Ev.call (impl_within_eq _ _ _) ?_)
      cases h4 : inR q 0 100000
      · exact Ev.neg (by simp) (Ev.done (by simp))
      refine Ev.pos rfl (Ev.call (impl_within_eq _ _ _) ?_)
      cases h5 : inR key.size 1 9
      · exact Ev.neg (by simp) (Ev.done (by simp))
      refine Ev.pos rfl (Ev.ite (fun h6 => Ev.done ?_) (fun h6 => Ev.done ?_))
      · have e6 := (emp_iff _).1 h6
        have z6 := emp_true.1 e6
        rw [e6]
        cases h7 : emp old
        · simp
        · have z7 := emp_true.1 h7
          simp [z6, z7]
      · simp [Bool.eq_false_iff.2 (fun e => h6 ((emp_iff _).2 e))]
    · have hb1 : b = false := by rw [hb]; simpa using h2
      subst hb1
      rw [if_neg h2]
      refine Ev.neg (by simp) (Ev.ite (fun h6 => ?_) (fun h6 => Ev.ite (fun h7 => ?_) (fun h7 => Ev.done ?_)))
      · have hr : inR op 1 5 = true := inR_true.2 (by omega)
        rw [hr, if_pos h6]
        refine Ev.call (impl_within_eq _ _ _) ?_
        cases h3 : inR s 0 100000
        · exact Ev.neg (by simp) (Ev.done (by simp))
        refine Ev.pos rfl (Ev.call (impl_within_eq _ _ _) ?_)
        cases h4 : inR q 0 100000
        · exact Ev.neg (by simp) (Ev.done (by simp))
        refine Ev.pos rfl (Ev.call (impl_within_eq _ _ _) ?_)
        cases h5 : inR key.size 1 9
        · exact Ev.neg (by simp) (Ev.done (by simp))
        refine Ev.pos rfl (Ev.ite (fun h8 => Ev.done ?_) (fun h8 => Ev.done ?_))
        · rw [h8]
          cases h9 : emp old
          · simp
          · have z9 := emp_true.1 h9
            simp [z9]
        · simp at h8
          simp [show ¬ value.size ≤ 12 by omega]
      · have hr : inR op 1 5 = true := inR_true.2 (by omega)
        rw [hr, if_neg h6]
        refine Ev.call (impl_within_eq _ _ _) ?_
        cases h3 : inR s 0 100000
        · exact Ev.neg (by simp) (Ev.done (by simp))
        refine Ev.pos rfl (Ev.call (impl_within_eq _ _ _) ?_)
        cases h4 : inR q 0 100000
        · exact Ev.neg (by simp) (Ev.done (by simp))
        refine Ev.pos rfl (Ev.call (impl_within_eq _ _ _) ?_)
        cases h5 : inR key.size 1 9
        · exact Ev.neg (by simp) (Ev.done (by simp))
        refine Ev.pos rfl (Ev.ite (fun h8 => Ev.done ?_) (fun h8 => Ev.done ?_))
        · rw [h8]; simp
        · simp at h8
          simp [show ¬ value.size ≤ 12 by omega]
      · have hr : inR op 1 5 = false := inR_false.2 (by omega)
        rw [hr]; simp
  refine Ev.ite (fun h2 => ?_) (fun h2 => ?_)
  · exact tail _ (by subst h2; rfl)
  · exact tail _ (by rw [decide_eq_false h2, Bool.false_or, Bool.beq_eq_decide_eq])
theorem spec_l05Short_ev (s : ByteArray) (hs : s.size ≤ 1073741824) : Ev (fun k => spec_l05Short.f k s) (shortText s) := by
  have h := varText_size (show s.size ≤ 34359738367 by omega)
  exact Ev.bind (spec_l01Var_nat _ (by omega)) (Ev.pos (by omega) (Ev.now _))
theorem spec_CommandText_ev (op s q : Int) (key value old : ByteArray) : Ev (fun k => spec_CommandText.f k op s q key value old) (cmdText op s q key value old) := by
  unfold spec_CommandText.f cmdText
  refine Ev.bind (spec_CommandOk_ev op s q key value old) ?_
  cases hb : cmdOk op s q key value old
  · exact Ev.neg (by simp) (Ev.done (by simp))
  obtain ⟨h1, h2, h3, h4, h5⟩ := cmdOk_sizes hb
  have s1 := varText_size (show s.toNat ≤ 34359738367 by omega)
  have s2 := varText_size (show q.toNat ≤ 34359738367 by omega)
  have s3 := shortText_size (show key.size ≤ 34359738367 by omega)
  have s4 := shortText_size (show value.size ≤ 34359738367 by omega)
  have s5 := shortText_size (show old.size ≤ 34359738367 by omega)
  have s6 : (strOfNums [op % 256]).size = 1 := by rw [strOfNums_size]; rfl
  refine Ev.pos rfl (Ev.call rfl (Ev.bind (spec_l01Var_ev s (by omega) (by omega)) (Ev.pos (by omega) (Ev.bind (spec_l01Var_ev q (by omega) (by omega)) (Ev.pos (by simp only [size_append]; omega) (Ev.bind (spec_l05Short_ev key (by omega)) (Ev.pos (by simp only [size_append]; omega) (Ev.bind (spec_l05Short_ev value (by omega)) (Ev.pos (by simp only [size_append]; omega) (Ev.bind (spec_l05Short_ev old (by omega)) (Ev.pos (by simp only [size_append]; omega) (Ev.done ?_))))))))))))
  simp
theorem spec_ReadVar_loop (s : ByteArray) (a : Nat) (hs : s.size ≤ 1152921504606846976) (ha : a ≤ s.size) : ∀ (k : Nat) (rest done : List Int) (i : Nat), i + k = 5 → done.length = i → (bytesOf s).drop a = done ++ rest →
    Ev (fun K => spec_ReadVar.l0 K s (a : Int) (val done : Int) ((128 ^ i : Nat) : Int) ((a + i : Nat) : Int))
      (match varSeg k rest with | none => (0, 0, false) | some bs => if val (done ++ bs) ≤ 1000000000 ∧ varL (val (done ++ bs)) = done ++ bs then ((val (done ++ bs) : Int), ((a + (done ++ bs).length : Nat) : Int), true) else (0, 0, false)) := by
  intro k
  have hz := bytesOf_length s
  have no : ∀ (x7 x8 x9 : Int) r, r = (0, 0, false) → Ev (fun K => spec_ReadVar.j1 K s (a : Int) x7 x8 x9 false) r := by
    rintro x7 x8 x9 r rfl
    refine Ev.step (fun _ => rfl) ?_
    simp only [spec_ReadVar.j1]
    exact Ev.neg (by simp) (Ev.now _)
  induction k with
  | zero =>
    intro rest done i hi hd hr
    refine Ev.step (fun _ => rfl) ?_
    simp only [spec_ReadVar.l0, wrap64_id (show -9223372036854775808 ≤ (a : Int) + 5 by omega) (show (a : Int) + 5 ≤ 9223372036854775807 by omega)]
    refine Ev.ite (fun _ => ?_) (fun _ => no _ _ _ _ rfl)
    rw [decide_eq_false (by omega)]
    exact no _ _ _ _ rfl
  | succ k ih =>
    intro rest done i hi hd hr
    have hl : done.length + rest.length = s.size - a := by rw [← List.length_append, ← hr, List.length_drop, hz]
    cases rest with
    | nil =>
      refine Ev.step (fun _ => rfl) ?_
      simp only [spec_ReadVar.l0]
      rw [List.length_nil] at hl
      exact Ev.neg (by omega) (no _ _ _ _ rfl)
    | cons b t =>
      have hbt : bt s ((a + i : Nat) : Int) = b := by
        rw [← rd_bytesOf, rd_nat]
        have e : (bytesOf s).drop (a + i) = b :: t := by rw [← List.drop_drop, hr, List.drop_append_of_le_length (by omega), ← hd, List.drop_length, List.nil_append]
        exact (drop_cons e).2.1 0
      have hb := bytesOf_range s b (by
        have : b ∈ (bytesOf s).drop a := by rw [hr]; simp
        exact List.mem_of_mem_drop this)
      rw [List.length_cons] at hl
      have hsc := scale_bound (show i ≤ 5 by omega)
      have hvd := val_lt done
      rw [hd] at hvd
      have e1 : Int.tmod (wrap64 b) 128 = b % 128 := byte_mod hb.1 hb.2
      have hpos : 0 < 128 ^ i := Nat.pow_pos (by omega)
      have hmul : (b % 128) * ((128 ^ i : Nat) : Int) = (((b % 128).toNat * 128 ^ i : Nat) : Int) := by
        rw [Int.natCast_mul, Int.toNat_of_nonneg (by omega)]
      have hmb : (b % 128).toNat * 128 ^ i ≤ 127 * 128 ^ i := Nat.mul_le_mul_right _ (by omega)
      have e2 : wrap64 ((val done : Int) + wrap64 (Int.tmod (wrap64 b) 128 * ((128 ^ i : Nat) : Int))) = (val (done ++ [b]) : Int) := by
        rw [e1, hmul, wrap64_id (n := (((b % 128).toNat * 128 ^ i : Nat) : Int)) (by omega) (by omega), wrap64_id (by omega) (by omega), val_append, hd]
        rw [show val [b] = (b % 128).toNat by simp [val], Nat.mul_comm (128 ^ i)]
        omega
      have hval : val (done ++ [b]) < 128 ^ (i + 1) := by
        have := val_lt (done ++ [b])
        rwa [List.length_append, hd] at this
      have hsc' := scale_bound (show i + 1 ≤ 5 by omega)
      refine Ev.step (fun _ => rfl) ?_
      simp only [spec_ReadVar.l0, wrap64_id (show -9223372036854775808 ≤ (a : Int) + 5 by omega) (show (a : Int) + 5 ≤ 9223372036854775807 by omega)]
      rw [decide_eq_true (show ((a + i : Nat) : Int) < (a : Int) + 5 by omega)]
      refine Ev.pos (by omega) (Ev.step (fun _ => rfl) ?_)
      simp only [spec_ReadVar.j1, hbt, e2, wrap64_succ (show a + i ≤ 9223372036854775806 by omega)]
      refine Ev.pos trivial (Ev.pos (by omega) (Ev.pos (by omega) (Ev.ite (fun hlt => ?_) (fun hge => ?_))))
      · rw [varSeg, if_pos hlt]
        simp only []
        refine Ev.ite (fun hbig => Ev.done ?_) (fun hsmall => ?_)
        · rw [if_neg (by omega)]
        · have hex : (s.extract (a : Int).toNat ((a + i + 1 : Nat) : Int).toNat).toList = (strOfNums (done ++ [b])).toList := by
            rw [toList_iff, bytesOf_extract, Int.toNat_natCast, Int.toNat_natCast, List.drop_take, hr, bytesOf_strOfNums _ (by
              intro x hx
              refine bytesOf_range s x ?_
              have : x ∈ (bytesOf s).drop a := by rw [hr]; rcases List.mem_append.1 hx with h | h <;> simp_all
              exact List.mem_of_mem_drop this)]
            rw [show a + i + 1 - a = done.length + 1 by omega]
            rw [List.take_append, List.take_of_length_le (by omega)]
            simp
          refine Ev.bind (spec_l01Var_nat _ (by omega)) (Ev.pos (by omega) (Ev.pos (by omega) (Ev.pos (by omega) ?_)))
          rw [hex]
          have hiff : (varText (val (done ++ [b]))).toList = (strOfNums (done ++ [b])).toList ↔ varL (val (done ++ [b])) = done ++ [b] := by
            rw [toList_iff, bytesOf_varText, bytesOf_strOfNums _ (by
              intro x hx
              refine bytesOf_range s x ?_
              have : x ∈ (bytesOf s).drop a := by rw [hr]; rcases List.mem_append.1 hx with h | h <;> simp_all
              exact List.mem_of_mem_drop this)]
          refine Ev.ite (fun hc => Ev.done ?_) (fun hc => Ev.done ?_)
          · rw [if_pos ⟨by omega, hiff.1 hc⟩, List.length_append, hd]; rfl
          · rw [if_neg (fun h => hc (hiff.2 h.2))]
      · have ih := ih t (done ++ [b]) (i + 1) (by omega) (by simp [hd]) (by rw [hr]; simp)
        rw [varSeg, if_neg hge]
        have e3 : wrap64 (((128 ^ i : Nat) : Int) * 128) = ((128 ^ (i + 1) : Nat) : Int) := by
          rw [wrap64_id (by omega) (by omega), Nat.pow_succ, Int.natCast_mul]; rfl
        rw [e3]
        refine Ev.eq ih ?_
        cases varSeg k t with
        | none => rfl
        | some bs => simp only [Option.map_some, List.append_assoc, List.cons_append, List.nil_append]
theorem spec_ReadVar_ev (s : ByteArray) (a : Int) (hs : s.size ≤ 1152921504606846976) : Ev (fun k => spec_ReadVar.f k s a) (readVar s a) := by
  unfold spec_ReadVar.f readVar
  refine Ev.call (spec_l01In_eq _ _ _) ?_
  cases hb : inR a 0 s.size
  · exact Ev.neg (by simp) (Ev.done (by simp))
  · have hr := inR_true.1 hb
    obtain ⟨n, rfl⟩ := Int.eq_ofNat_of_zero_le hr.1
    refine Ev.pos rfl (Ev.eq (spec_ReadVar_loop s n hs (by omega) 5 ((bytesOf s).drop n) [] 0 rfl rfl rfl) ?_)
    rw [if_pos rfl, Int.toNat_natCast, readVarL]
    cases varSeg 5 ((bytesOf s).drop n) with
    | none => rfl
    | some bs =>
      simp only [List.nil_append]
      by_cases hc : val bs ≤ 1000000000 ∧ varL (val bs) = bs
      · rw [if_pos hc, if_pos hc]; simp
      · rw [if_neg hc, if_neg hc]
theorem impl_ReadVar_loop (s : ByteArray) (a : Nat) (hs : s.size ≤ 1152921504606846976) (ha : a ≤ s.size) : ∀ (k : Nat) (rest done : List Int) (i : Nat), i + k = 5 → done.length = i → (bytesOf s).drop a = done ++ rest → (∀ bs, varSeg k rest = some bs → varSeg 5 ((bytesOf s).drop a) = some (done ++ bs)) →
    Ev (fun K => impl_ReadVar.l0 K s (a : Int) (val done : Int) (i : Int))
      (match varSeg k rest with | none => (0, 0, false) | some bs => if val (done ++ bs) ≤ 1000000000 ∧ varL (val (done ++ bs)) = done ++ bs then ((val (done ++ bs) : Int), ((a + (done ++ bs).length : Nat) : Int), true) else (0, 0, false)) := by
  intro k
  have hz := bytesOf_length s
  have no : ∀ (x7 x8 : Int) r, r = (0, 0, false) → Ev (fun K => impl_ReadVar.j1 K s (a : Int) x7 x8 false) r := by
    rintro x7 x8 r rfl
    refine Ev.step (fun _ => rfl) ?_
    simp only [impl_ReadVar.j1]
    exact Ev.neg (by simp) (Ev.now _)
  induction k with
  | zero =>
    intro rest done i hi hd hr _
    refine Ev.step (fun _ => rfl) ?_
    simp only [impl_ReadVar.l0]
    exact Ev.neg (by omega) (no _ _ _ rfl)
  | succ k ih =>
    intro rest done i hi hd hr hseg
    have hl : done.length + rest.length = s.size - a := by rw [← List.length_append, ← hr, List.length_drop, hz]
    cases rest with
    | nil =>
      refine Ev.step (fun _ => rfl) ?_
      simp only [impl_ReadVar.l0]
      rw [List.length_nil] at hl
      refine Ev.pos (by omega) ?_
      rw [wrap64_id (by omega) (by omega), decide_eq_false (by omega)]
      exact no _ _ _ rfl
    | cons b t =>
      have e0 : wrap64 ((a : Int) + (i : Int)) = ((a + i : Nat) : Int) := by rw [wrap64_id (by omega) (by omega)]; omega
      have hbt : bt s ((a + i : Nat) : Int) = b := by
        rw [← rd_bytesOf, rd_nat]
        have e : (bytesOf s).drop (a + i) = b :: t := by rw [← List.drop_drop, hr, List.drop_append_of_le_length (by omega), ← hd, List.drop_length, List.nil_append]
        exact (drop_cons e).2.1 0
      have hb := bytesOf_range s b (by
        have : b ∈ (bytesOf s).drop a := by rw [hr]; simp
        exact List.mem_of_mem_drop this)
      rw [List.length_cons] at hl
      have hsc := scale_bound (show i ≤ 5 by omega)
      have hvd := val_lt done
      rw [hd] at hvd
      have e1 : Int.tmod (wrap64 b) 128 = b % 128 := byte_mod hb.1 hb.2
      have hmul : (b % 128) * ((128 ^ i : Nat) : Int) = (((b % 128).toNat * 128 ^ i : Nat) : Int) := by
        rw [Int.natCast_mul, Int.toNat_of_nonneg (by omega)]
      have hmb : (b % 128).toNat * 128 ^ i ≤ 127 * 128 ^ i := Nat.mul_le_mul_right _ (by omega)
      have hpos : 0 < 128 ^ i := Nat.pow_pos (by omega)
      have e7 : wrap64 (7 * (i : Int)) = 7 * (i : Int) := wrap64_id (by omega) (by omega)
      have hshl : shl .i64 (b % 128) (7 * (i : Int)) = (b % 128) * ((128 ^ i : Nat) : Int) := by
        have hp : (2 : Int) ^ min (7 * (i : Int)).toNat (IntKind.bits .i64) = ((128 ^ i : Nat) : Int) := by
          rcases i with _ | _ | _ | _ | _ | i
          · rfl
          · rfl
          · rfl
          · rfl
          · rfl
          · omega
        unfold shl
        rw [hp, i64_w]
        exact wrap64_id (by omega) (by omega)
      have e2 : wrap64 ((val done : Int) + shl .i64 (Int.tmod (wrap64 b) 128) (wrap64 (7 * (i : Int)))) = (val (done ++ [b]) : Int) := by
        rw [e1, e7, hshl, hmul, wrap64_id (by omega) (by omega), val_append, hd]
        rw [show val [b] = (b % 128).toNat by simp [val], Nat.mul_comm (128 ^ i)]
        omega
      clear hsc hvd hmul hmb hpos hshl e1
      refine Ev.step (fun _ => rfl) ?_
      simp only [impl_ReadVar.l0, e0]
      refine Ev.pos (by omega) ?_
      rw [decide_eq_true (show ((a + i : Nat) : Int) < (s.size : Int) by omega)]
      refine Ev.step (fun _ => rfl) ?_
      simp only [impl_ReadVar.j1, e0, hbt, e2, wrap64_succ (show i ≤ 9223372036854775806 by omega), wrap64_succ (show a + i ≤ 9223372036854775806 by omega)]
      rw [wrap64_id (n := b) (by omega) (by omega)]
      refine Ev.pos trivial (Ev.pos (by omega) (Ev.pos (by omega) (Ev.pos (by rw [e7]; omega) (Ev.ite (fun hlt => ?_) (fun hge => ?_)))))
      · have hsg := hseg [b] (by rw [varSeg, if_pos hlt])
        have hck := varSeg_check (fun x hx => bytesOf_range s x (List.mem_of_mem_drop hx)) hsg
        rw [varSeg, if_pos hlt]
        simp only []
        by_cases hbig : val (done ++ [b]) ≤ 1000000000
        · refine Ev.bind (impl_VarText_nat _ hbig) (Ev.pos rfl ?_)
          simp only [varText, strOfNums_size]
          have hlen : (done ++ [b]).length = i + 1 := by simp [hd]
          refine Ev.ite (fun hc => Ev.done ?_) (fun hc => Ev.done ?_)
          · rw [if_pos ⟨hbig, hck.1 (by omega)⟩, hlen]; rfl
          · rw [if_neg (fun h => hc (by have := hck.2 h.2; omega))]
        · refine Ev.bind (Ev.eq (impl_VarText_ev _) (varTextOf_no (show ¬ ((val (done ++ [b]) : Int) ≤ 1000000000) by omega))) ?_
          refine Ev.neg (by simp) (Ev.done ?_)
          rw [if_neg (fun h => hbig h.1)]
      · have ih := ih t (done ++ [b]) (i + 1) (by omega) (by simp [hd]) (by rw [hr]; simp) (fun bs hbs => by
          have := hseg (b :: bs) (by rw [varSeg, if_neg hge, hbs]; rfl)
          rw [this]; simp)
        rw [varSeg, if_neg hge]
        refine Ev.eq ih ?_
        cases varSeg k t with
        | none => rfl
        | some bs => simp only [Option.map_some, List.append_assoc, List.cons_append, List.nil_append]
theorem impl_ReadVar_ev (s : ByteArray) (a : Int) (hs : s.size ≤ 1152921504606846976) : Ev (fun k => impl_ReadVar.f k s a) (readVar s a) := by
  unfold impl_ReadVar.f readVar
  refine Ev.call (impl_within_eq _ _ _) ?_
  cases hb : inR a 0 s.size
  · exact Ev.neg (by simp) (Ev.done (by simp))
  · have hr := inR_true.1 hb
    obtain ⟨n, rfl⟩ := Int.eq_ofNat_of_zero_le hr.1
    refine Ev.pos rfl (Ev.eq (impl_ReadVar_loop s n hs (by omega) 5 ((bytesOf s).drop n) [] 0 rfl rfl rfl (fun bs h => h)) ?_)
    rw [if_pos rfl, Int.toNat_natCast, readVarL]
    cases varSeg 5 ((bytesOf s).drop n) with
    | none => rfl
    | some bs =>
      simp only [List.nil_append]
      by_cases hc : val bs ≤ 1000000000 ∧ varL (val bs) = bs
      · rw [if_pos hc, if_pos hc]; simp
      · rw [if_neg hc, if_neg hc]
theorem spec_l05Var_ev (s : ByteArray) (a : Int) (bad : Bool) (hs : s.size ≤ 1152921504606846976) : Ev (fun k => spec_l05Var.f k s a bad) (curNum s a bad) := by
  unfold spec_l05Var.f curNum
  refine Ev.bind (spec_ReadVar_ev s a hs) (Ev.ite (fun h => Ev.done (by rw [if_pos h])) (fun h => Ev.ite (fun h' => Ev.done ?_) (fun h' => Ev.done ?_)))
  · rw [if_neg h, if_pos h']
  · rw [if_neg h, if_neg h']
theorem impl_reader_num_ev (s : ByteArray) (a : Int) (bad : Bool) (hs : s.size ≤ 1152921504606846976) : Ev (fun k => impl_reader_num.f k s a bad) (curNum s a bad) := by
  unfold impl_reader_num.f curNum
  refine Ev.bind (impl_ReadVar_ev s a hs) (Ev.ite (fun h => Ev.done (by rw [if_pos h])) (fun h => Ev.ite (fun h' => Ev.done ?_) (fun h' => Ev.done ?_)))
  · rw [if_neg h, if_pos h']
  · rw [if_neg h, if_neg h']
theorem spec_l05Take_eq (s : ByteArray) (a n : Int) (bad : Bool) (hs : s.size ≤ 1152921504606846976) (h0 : 0 ≤ a) (h1 : a ≤ s.size) (hn : 0 ≤ n) (hn' : n ≤ 1152921504606846976) : spec_l05Take.f s a bad n = some (curTake s a bad n) := by
  unfold spec_l05Take.f curTake
  by_cases h : bad = true
  · rw [if_pos h, if_pos h]
  · rw [if_neg h, if_neg h, wrap64_id (n := (s.size : Int) - a) (by omega) (by omega), wrap64_id (n := a + n) (by omega) (by omega), show a + n - n = a by omega, wrap64_id (n := a) (by omega) (by omega)]
    by_cases hc : n > (s.size : Int) - a
    · rw [if_pos hc, if_pos hc]
    · rw [if_neg hc, if_neg hc, if_pos (by omega), if_pos (by omega), if_pos (by omega)]
theorem impl_reader_byte_eq (s : ByteArray) (a : Int) (bad : Bool) (hs : s.size ≤ 1152921504606846976) (h0 : 0 ≤ a) (h1 : a ≤ s.size) : impl_reader_byte.f s a bad = some (curByte s a bad) := by
  unfold impl_reader_byte.f curByte
  by_cases h : bad = true
  · rw [if_pos h, if_pos h]
  · rw [if_neg h, if_neg h, wrap64_id (n := a + 1) (by omega) (by omega), show a + 1 - 1 = a by omega, wrap64_id (n := a) (by omega) (by omega)]
    by_cases hc : a ≥ (s.size : Int)
    · rw [if_pos hc, if_pos hc]
    · have := bt_range s a
      rw [if_neg hc, if_neg hc, if_pos (by omega), if_pos (by omega), wrap64_id (n := bt s a) (by omega) (by omega)]
theorem spec_l05ReadShort_ev (s : ByteArray) (a : Int) (bad : Bool) (hs : s.size ≤ 1152921504606846976) (h0 : 0 ≤ a) (h1 : a ≤ s.size) : Ev (fun k => spec_l05ReadShort.f k s a bad) (curShort s a bad) := by
  unfold spec_l05ReadShort.f curShort
  have hp := curNum_place (s := s) (a := a) (bad := bad) h0 h1
  have hn := curNum_nonneg s a bad
  refine Ev.bind (spec_l05Var_ev s a bad hs) ?_
  simp only [curNum_text]
  exact Ev.call (spec_l05Take_eq s _ _ _ hs hp.1 hp.2 hn.1 (by omega)) (Ev.now _)
theorem impl_ReadShort_ev (s : ByteArray) (a : Int) (hs : s.size ≤ 1152921504606846976) : Ev (fun k => impl_ReadShort.f k s a) (readShort s a) := by
  unfold impl_ReadShort.f readShort
  refine Ev.bind (impl_ReadVar_ev s a hs) (Ev.ite (fun h => ?_) (fun h => Ev.done (by rw [if_neg h])))
  have hr := readVar_true (s := s) (a := a) (n := (readVar s a).1) (b := (readVar s a).2.1) (by rw [← h])
  rw [if_pos h, wrap64_id (n := (s.size : Int) - (readVar s a).2.1) (by omega) (by omega)]
  refine Ev.ite (fun h2 => Ev.done (by rw [if_pos h2])) (fun h2 => Ev.ite (fun h3 => Ev.done (by rw [if_neg h2, if_pos h3])) (fun h3 => ?_))
  rw [if_neg h2, if_neg h3, wrap64_id (n := (readVar s a).2.1 + (readVar s a).1) (by omega) (by omega)]
  exact Ev.pos (by omega) (Ev.pos (by omega) (Ev.pos (by omega) (Ev.now _)))
theorem impl_reader_text_ev (s : ByteArray) (a : Int) (bad : Bool) (hs : s.size ≤ 1152921504606846976) : Ev (fun k => impl_reader_text.f k s a bad) (curText s a bad) := by
  unfold impl_reader_text.f curText
  refine Ev.bind (impl_ReadShort_ev s a hs) (Ev.ite (fun h => Ev.done (by rw [if_pos h])) (fun h => Ev.ite (fun h' => Ev.done ?_) (fun h' => Ev.done ?_)))
  · rw [if_neg h, if_pos h']
  · rw [if_neg h, if_neg h']
theorem impl_reader_done_eq (s : ByteArray) (a : Int) (bad : Bool) : impl_reader_done.f s a bad = some (!bad && (a == (s.size : Int)), s, a, bad) := by
  unfold impl_reader_done.f
  cases bad <;> simp
theorem spec_ReadCommand_ev (s : ByteArray) (hs : s.size ≤ 1048576) : ∃ r, Ev (fun k => spec_ReadCommand.f k s) r ∧ CmdIs s r := by
  by_cases hex : ∃ op ss q k v o, cmdOk op ss q k v o = true ∧ bytesOf s = cmdBytes op ss q k v o
  · obtain ⟨op, ss, q, k, v, o, h1, h2⟩ := hex
    refine ⟨(op, ss, q, k, v, o, true), ?_, Or.inl ⟨op, ss, q, k, v, o, rfl, h1, h2⟩⟩
    obtain ⟨a2, a3, a4, a5, p1, p2, p3, p4, p5, p6⟩ := cmd_parts h2
    obtain ⟨z1, z2, z3, z4, z5⟩ := cmdOk_sizes h1
    have hop := cmdOk_op h1
    unfold spec_ReadCommand.f
    have l2 := p2.le; have l3 := p3.le; have l4 := p4.le; have l5 := p5.le; have l6 := p6.le
    have hx : bytesOf (strOfNums [op]) = [op] := bytesOf_strOfNums _ (by simp; omega)
    have e0 := curTake_fwd (s := s) (a := 0) (b := 1) (r := strOfNums [op]) (by rw [hx]; exact p1)
    rw [show ((strOfNums [op]).size : Int) = 1 from rfl] at e0
    refine Ev.call (by rw [spec_l05Take_eq s 0 1 false (by omega) (by omega) (by omega) (by omega) (by omega), e0]) (Ev.neg (by simp) (Ev.pos (by simp [strOfNums_size]) ?_))
    have ebt : wrap64 (bt (strOfNums [op]) 0) = op := by
      rw [show bt (strOfNums [op]) 0 = op by rw [← rd_bytesOf, hx]; rfl, wrap64_id (by omega) (by omega)]
    simp only [ebt]
    refine Ev.bind (Ev.eq (spec_l05Var_ev s 1 false (by omega)) (curNum_fwd p2 (by omega))) (Ev.bind (Ev.eq (spec_l05Var_ev s a2 false (by omega)) (curNum_fwd p3 (by omega))) ?_)
    refine Ev.bind (Ev.eq (spec_l05ReadShort_ev s a3 false (by omega) (by omega) (by omega)) (curShort_fwd p4 (by omega))) (Ev.bind (Ev.eq (spec_l05ReadShort_ev s a4 false (by omega) (by omega) (by omega)) (curShort_fwd p5 (by omega))) ?_)
    refine Ev.bind (Ev.eq (spec_l05ReadShort_ev s a5 false (by omega) (by omega) (by omega)) (curShort_fwd p6 (by omega))) ?_
    simp only [Int.toNat_of_nonneg z1.1, Int.toNat_of_nonneg z2.1]
    obtain ⟨t1, t2⟩ := cmdText_ok h1
    refine Ev.bind (spec_CommandText_ev op ss q k v o) (Ev.neg (by simp) (Ev.pos t2 (Ev.pos ?_ (Ev.now _))))
    rw [toList_iff, t1, h2]
  · refine ⟨noCmd, ?_, Or.inr ⟨rfl, fun op ss q k v o h1 h2 => hex ⟨op, ss, q, k, v, o, h1, h2⟩⟩⟩
    unfold spec_ReadCommand.f
    have q0 := curTake_place (s := s) (a := 0) (n := 1) (bad := false) (by omega) (by omega) (by omega)
    have x0 := curTake_text s 0 1 false
    refine Ev.call (spec_l05Take_eq s 0 1 false (by omega) (by omega) (by omega) (by omega) (by omega)) (Ev.ite (fun _ => Ev.now _) (fun hb => ?_))
    have hsz : (curTake s 0 false 1).1.size = 1 := by
      have := (curTake_good' (s := s) (a := 0) (n := 1) (bad := false) (by omega) (by omega) (Bool.eq_false_iff.2 hb)).2.2
      omega
    simp only [x0]
    generalize (curTake s 0 false 1).1 = y0 at *
    generalize (curTake s 0 false 1).2.2.1 = a1 at *
    generalize (curTake s 0 false 1).2.2.2 = b1 at *
    refine Ev.pos (by omega) (Ev.bind (spec_l05Var_ev s a1 b1 (by omega)) ?_)
    have q1 := curNum_place (s := s) (a := a1) (bad := b1) q0.1 q0.2
    simp only [curNum_text]
    generalize (curNum s a1 b1).1 = n1 at *
    generalize (curNum s a1 b1).2.2.1 = a2 at *
    generalize (curNum s a1 b1).2.2.2 = b2 at *
    refine Ev.bind (spec_l05Var_ev s a2 b2 (by omega)) ?_
    have q2 := curNum_place (s := s) (a := a2) (bad := b2) q1.1 q1.2
    simp only [curNum_text]
    generalize (curNum s a2 b2).1 = n2 at *
    generalize (curNum s a2 b2).2.2.1 = a3 at *
    generalize (curNum s a2 b2).2.2.2 = b3 at *
    refine Ev.bind (spec_l05ReadShort_ev s a3 b3 (by omega) q2.1 q2.2) ?_
    have q3 := curShort_place (s := s) (a := a3) (bad := b3) q2.1 q2.2
    simp only [curShort_text]
    generalize (curShort s a3 b3).1 = t1 at *
    generalize (curShort s a3 b3).2.2.1 = a4 at *
    generalize (curShort s a3 b3).2.2.2 = b4 at *
    refine Ev.bind (spec_l05ReadShort_ev s a4 b4 (by omega) q3.1 q3.2) ?_
    have q4 := curShort_place (s := s) (a := a4) (bad := b4) q3.1 q3.2
    simp only [curShort_text]
    generalize (curShort s a4 b4).1 = t2 at *
    generalize (curShort s a4 b4).2.2.1 = a5 at *
    generalize (curShort s a4 b4).2.2.2 = b5 at *
    refine Ev.bind (spec_l05ReadShort_ev s a5 b5 (by omega) q4.1 q4.2) (Ev.bind (spec_CommandText_ev _ _ _ _ _ _) ?_)
    refine Ev.ite (fun _ => Ev.now _) (fun _ => Ev.ite (fun hok => Ev.ite (fun hc => ?_) (fun _ => Ev.now _)) (fun _ => Ev.now _))
    exfalso
    generalize (curShort s a5 b5).1 = t3 at *
    generalize wrap64 (bt y0 0) = op at *
    have hk : cmdOk op n1 n2 t1 t2 t3 = true := by
      unfold cmdText at hok
      split at hok
      · assumption
      · simp at hok
    rw [toList_iff, (cmdText_ok hk).1] at hc
    exact hex ⟨_, _, _, _, _, _, hk, hc.symm⟩
theorem impl_ReadCommand_ev (s : ByteArray) (hs : s.size ≤ 1048576) : ∃ r, Ev (fun k => impl_ReadCommand.f k s) r ∧ CmdIs s r := by
  by_cases hex : ∃ op ss q k v o, cmdOk op ss q k v o = true ∧ bytesOf s = cmdBytes op ss q k v o
  · obtain ⟨op, ss, q, k, v, o, h1, h2⟩ := hex
    refine ⟨(op, ss, q, k, v, o, true), ?_, Or.inl ⟨op, ss, q, k, v, o, rfl, h1, h2⟩⟩
    obtain ⟨a2, a3, a4, a5, p1, p2, p3, p4, p5, p6⟩ := cmd_parts h2
    obtain ⟨z1, z2, z3, z4, z5⟩ := cmdOk_sizes h1
    unfold impl_ReadCommand.f
    refine Ev.call (by rw [impl_reader_byte_eq s 0 false (by omega) (by omega) (by omega), curByte_fwd p1]) ?_
    refine Ev.bind (Ev.eq (impl_reader_num_ev s 1 false (by omega)) (curNum_fwd p2 (by omega))) (Ev.bind (Ev.eq (impl_reader_num_ev s a2 false (by omega)) (curNum_fwd p3 (by omega))) ?_)
    refine Ev.bind (Ev.eq (impl_reader_text_ev s a3 false (by omega)) (curText_fwd p4 (by omega))) (Ev.bind (Ev.eq (impl_reader_text_ev s a4 false (by omega)) (curText_fwd p5 (by omega))) ?_)
    refine Ev.bind (Ev.eq (impl_reader_text_ev s a5 false (by omega)) (curText_fwd p6 (by omega))) (Ev.call (impl_reader_done_eq _ _ _) (Ev.pos (by simp) ?_))
    simp only [Int.toNat_of_nonneg z1.1, Int.toNat_of_nonneg z2.1]
    exact Ev.bind (Ev.eq (impl_CommandOk_ev op ss q k v o) h1) (Ev.pos rfl (Ev.now _))
  · refine ⟨noCmd, ?_, Or.inr ⟨rfl, fun op ss q k v o h1 h2 => hex ⟨op, ss, q, k, v, o, h1, h2⟩⟩⟩
    unfold impl_ReadCommand.f
    refine Ev.call (impl_reader_byte_eq s 0 false (by omega) (by omega) (by omega)) ?_
    simp only [curByte_text]
    refine Ev.bind (impl_reader_num_ev s _ _ (by omega)) ?_
    simp only [curNum_text]
    refine Ev.bind (impl_reader_num_ev s _ _ (by omega)) ?_
    simp only [curNum_text]
    refine Ev.bind (impl_reader_text_ev s _ _ (by omega)) ?_
    simp only [curText_text]
    refine Ev.bind (impl_reader_text_ev s _ _ (by omega)) ?_
    simp only [curText_text]
    refine Ev.bind (impl_reader_text_ev s _ _ (by omega)) ?_
    simp only [curText_text]
    refine Ev.call (impl_reader_done_eq _ _ _) (Ev.ite (fun hd => ?_) (fun _ => Ev.now _))
    refine Ev.bind (impl_CommandOk_ev _ _ _ _ _ _) (Ev.ite (fun hk => ?_) (fun _ => Ev.now _))
    exfalso
    simp only [Bool.and_eq_true, Bool.not_eq_true', beq_iff_eq] at hd
    obtain ⟨hb, he⟩ := hd
    obtain ⟨hb, m6, -⟩ := curText_good' hb
    obtain ⟨hb, m5, -⟩ := curText_good' hb
    obtain ⟨hb, m4, -⟩ := curText_good' hb
    obtain ⟨hb, m3, -⟩ := curNum_good' hb
    obtain ⟨hb, m2, -⟩ := curNum_good' hb
    obtain ⟨-, m1, -⟩ := curByte_good' (by omega) hb
    have hw := m1.trans (m2.trans (m3.trans (m4.trans (m5.trans m6))))
    rw [he] at hw
    exact hex ⟨_, _, _, _, _, _, hk, hw.all⟩
theorem laws_eqCommand_refl (a b c : Int) (d e f : ByteArray) : laws_eqCommand.f a b c d e f a b c d e f = some true := by simp [laws_eqCommand.f]
theorem FnExactReadCommand_q (s : ByteArray) (_ : s.size ≤ 140737488351232) : ∃ k, laws_FnExactReadCommand.f k s = some true := by
  apply Ev.rounds
  unfold laws_FnExactReadCommand.f
  refine Ev.ite (fun _ => Ev.now _) (fun hc => ?_)
  have hl : s.size ≤ 1048576 := by omega
  obtain ⟨r, hr, h1⟩ := spec_ReadCommand_ev s hl
  obtain ⟨r', hr', h2⟩ := impl_ReadCommand_ev s hl
  obtain rfl := h1.one h2
  exact Ev.bind hr (Ev.bind hr' (Ev.call (laws_eqCommand_refl _ _ _ _ _ _) (Ev.pos rfl (Ev.neg (by simp) (Ev.now _)))))

end Go.Proofs.Ytgpafelepkhdoaa.Pure
