/- The law FnCommands answers true: a drawn right command comes back from its bytes. For all arguments; no further condition. -/
import Derived.Test.YtgpafelepkhdoaaPFnCommandsx9
import Derived.Test.YtgpafelepkhdoaaVFnCommandsBase
namespace Go.Proofs.Ytgpafelepkhdoaa.Pure
open Go.RowKit Go.Proofs.Ytgpafelepkhdoaa.PFnCommands Go.Proofs.YtgpafelepkhdoaaW.PrintWords Go.Proofs.YtgpafelepkhdoaaW.PrintLast Go.Proofs.Ytgpafelepkhdoaa.Base
set_option linter.unusedVariables false

theorem spec_l01In_eq (a b c : Int) : spec_l01In.f a b c = some (inR a b c) := by
  unfold spec_l01In.f inR
  by_cases h : b ≤ a
  · rw [if_pos h]; simp [h]
  · rw [if_neg h]; simp [h]
theorem impl_within_eq (a b c : Int) : impl_within.f a b c = some (inR a b c) := by
  unfold impl_within.f inR
  by_cases h : b ≤ a
  · rw [if_pos h]; simp [h]
  · rw [if_neg h]; simp [h]
theorem impl_VarText_loop : ∀ (n : Nat) (acc : List Int), acc.length + n < 140737488355328 →
    Ev (fun k => impl_VarText.l0 k (n : Int) acc) (strOfNums (acc ++ varL n), true) := by
  intro n
  induction n using Nat.strongRecOn with
  | ind n ih =>
    intro acc h
    refine Ev.step (fun _ => rfl) ?_
    simp only [impl_VarText.l0, tdiv128 n (by omega), tmod128 n]
    refine Ev.ite (fun hc => ?_) (fun hc => ?_)
    · rw [varL_big (by omega)]
      exact Ev.pos (by omega) (Ev.eq (ih (n / 128) (by omega) _ (by simp; omega)) (by simp))
    · rw [varL_small (by omega)]
      exact Ev.pos (by omega) (Ev.done (by rw [Int.emod_eq_of_lt (by omega) (by omega)]))
theorem impl_VarText_ev (n : Int) : Ev (fun k => impl_VarText.f k n) (varTextOf n) := by
  unfold impl_VarText.f varTextOf
  refine Ev.call (impl_within_eq _ _ _) ?_
  cases hb : inR n 0 1000000000
  · exact Ev.neg (by simp) (Ev.done (by simp))
  · have := inR_true.1 hb
    obtain ⟨m, rfl⟩ := Int.eq_ofNat_of_zero_le this.1
    exact Ev.pos rfl (Ev.eq (impl_VarText_loop m [] (by simp; omega)) (by simp [varText]))
theorem impl_VarText_nat (n : Nat) (h : n ≤ 1000000000) : Ev (fun k => impl_VarText.f k (n : Int)) (varText n, true) :=
  Ev.eq (impl_VarText_ev (n : Int)) (by rw [varTextOf, if_pos (inR_true.2 (by omega))]; rfl)
theorem impl_vars_loop (xs : List Int) (hx : xs.length ≤ 1048576) : ∀ (rest : List Int) (n : Nat) (acc : List Int), xs.drop n = rest → acc.length + 5 * rest.length < 140737488355328 →
    Ev (fun k => impl_vars.l0 k acc xs (xs.length : Int) (n : Int)) (if rest.all (fun n => inR n 0 1000000000) = true then (strOfNums (acc ++ rest.flatMap fun n => varL n.toNat), true) else (⟨#[]⟩, false)) := by
  intro rest
  induction rest with
  | nil =>
    intro n acc h ha
    have := drop_nil h
    refine Ev.step (fun _ => rfl) ?_
    simp only [impl_vars.l0]
    exact Ev.neg (by omega) (Ev.done (by simp))
  | cons x t ih =>
    intro n acc h ha
    obtain ⟨h1, -, h3⟩ := drop_cons h
    refine Ev.step (fun _ => rfl) ?_
    simp only [impl_vars.l0, drop_rd h, wrap64_succ (show n ≤ 9223372036854775806 by omega)]
    refine Ev.pos (by omega) (Ev.pos (by omega) (Ev.pos (by omega) (Ev.bind (impl_VarText_ev x) ?_)))
    unfold varTextOf
    cases hb : inR x 0 1000000000
    · exact Ev.neg (by simp) (Ev.done (by simp [hb]))
    · have hr := inR_true.1 hb
      have hv := varL_len (show x.toNat ≤ 34359738367 by omega)
      simp only [if_true, varText, strOfNums_size, bytesOf_strOfNums _ (varL_bytes _)]
      rw [List.length_cons] at ha
      refine Ev.pos (by omega) (Ev.eq (ih (n + 1) (acc ++ varL x.toNat) h3 (by rw [List.length_append]; omega)) ?_)
      simp [hb]
theorem impl_vars_ev (xs : List Int) (hx : xs.length ≤ 1048576) : Ev (fun k => impl_vars.f k xs) (varsOf xs) :=
  Ev.eq (impl_vars_loop xs hx xs 0 [] rfl (by simp; omega)) (by simp [varsOf])
theorem spec_CommandOk_ev (op s q : Int) (key value old : ByteArray) : Ev (fun k => spec_CommandOk.f k op s q key value old) (cmdOk op s q key value old) := by
  have bad : ∀ r, r = false → Ev (fun k => spec_CommandOk.j0 k true op s q key value old) r := by
    rintro r rfl
    refine Ev.step (fun _ => rfl) ?_
    simp only [spec_CommandOk.j0]
    exact Ev.pos trivial (Ev.now _)
  unfold spec_CommandOk.f cmdOk
  refine Ev.call (spec_l01In_eq _ _ _) ?_
  cases h1 : inR op 1 5
  · exact Ev.neg (by simp) (bad _ (by simp))
  refine Ev.pos rfl (Ev.call (spec_l01In_eq _ _ _) ?_)
  cases h2 : inR s 0 100000
  · exact Ev.neg (by simp) (bad _ (by simp))
  refine Ev.pos rfl (Ev.call (spec_l01In_eq _ _ _) ?_)
  cases h3 : inR q 0 100000
  · exact Ev.neg (by simp) (bad _ (by simp))
  refine Ev.pos rfl (Ev.ite (fun h4 => bad _ ?_) (fun h4 => ?_))
  · rw [decide_eq_false (show ¬ value.size ≤ 12 by omega)]; simp
  rw [decide_eq_true (show value.size ≤ 12 by omega)]
  by_cases h5 : old.size ≤ 12
  · rw [decide_eq_true h5, decide_eq_false (show ¬ (old.size : Int) > 12 by omega)]
    refine Ev.step (fun _ => rfl) ?_
    simp only [spec_CommandOk.j0, emp_def]
    refine Ev.neg (by simp) (Ev.ite (fun h6 => Ev.done ?_) (fun h6 => ?_))
    · subst h6; simp
    · refine Ev.call (spec_l01In_eq _ _ _) ?_
      simp only [if_neg h6]
      cases h7 : inR key.size 1 9
      · exact Ev.neg (by simp) (Ev.done (by simp))
      · refine Ev.pos rfl (Ev.ite (fun h8 => ?_) (fun h8 => ?_))
        · subst h8
          refine Ev.step (fun _ => rfl) ?_
          simp only [spec_CommandOk.j1, emp_def]
          refine Ev.pos rfl (Ev.ite (fun h9 => Ev.done ?_) (fun h9 => Ev.done ?_))
          · simp [(emp_iff _).1 h9]
          · simp [Bool.eq_false_iff.2 (fun e => h9 ((emp_iff _).2 e))]
        · refine Ev.step (fun _ => rfl) ?_
          simp only [spec_CommandOk.j1, emp_def]
          by_cases h9 : op = 4
          · subst h9
            refine Ev.pos rfl (Ev.ite (fun h9 => Ev.done ?_) (fun h9 => Ev.done ?_))
            · simp [(emp_iff _).1 h9]
            · simp [Bool.eq_false_iff.2 (fun e => h9 ((emp_iff _).2 e))]
          · refine Ev.neg (by simp [h9]) (Ev.ite (fun h10 => Ev.done ?_) (fun h10 => Ev.done ?_))
            · subst h10; simp
            · simp [h8, h9, h10]
  · rw [decide_eq_false h5, decide_eq_true (show (old.size : Int) > 12 by omega)]
    exact bad _ (by simp)
theorem impl_CommandOk_ev (op s q : Int) (key value old : ByteArray) : Ev (fun k => impl_CommandOk.f k op s q key value old) (cmdOk op s q key value old) := by
  unfold impl_CommandOk.f
  refine Ev.ite (fun h1 => Ev.done ?_) (fun h1 => ?_)
  · subst h1
    unfold cmdOk
    simp only [emp_def, if_true, show inR 1 1 5 = true from rfl, Bool.true_and]
    by_cases hs : s = 0
    · by_cases hq : q = 0
      · subst hs; subst hq
        cases hk : emp key
        · simp
        cases hv : emp value
        · simp
        cases ho : emp old
        · simp
        have := emp_true.1 hv
        have := emp_true.1 ho
        simp [inR]; omega
      · rw [beq_eq_false_iff_ne.2 hq]; simp
    · rw [beq_eq_false_iff_ne.2 hs]; simp
  have tail : ∀ (b : Bool), b = (decide (op = 2) || decide (op = 4)) → Ev (fun k => impl_CommandOk.j0 k (decide ((value.size : Int) ≤ 12)) (decide ((old.size : Int) ≤ 12)) op b op s q key value old) (cmdOk op s q key value old) := by
    intro b hb
    refine Ev.step (fun _ => rfl) ?_
    simp only [impl_CommandOk.j0, emp_def]
    unfold cmdOk
    rw [if_neg h1]
    have ev : decide ((value.size : Int) ≤ 12) = decide (value.size ≤ 12) := by rw [decide_eq_decide]; omega
    have eo : decide ((old.size : Int) ≤ 12) = decide (old.size ≤ 12) := by rw [decide_eq_decide]; omega
    rw [ev, eo]
    by_cases h2 : op = 2 ∨ op = 4
    · have hb1 : b = true := by rw [hb]; simpa using h2
      have hr : inR op 1 5 = true := inR_true.2 (by omega)
      subst hb1
      rw [hr, if_pos h2]
      refine Ev.pos rfl (Ev.call (impl_within_eq _ _ _) ?_)
      cases h3 : inR s 0 100000
      · exact Ev.neg (by simp) (Ev.done (by simp))
      refine Ev.pos rfl (Ev.call (impl_within_eq _ _ _) ?_)
      cases h4 : inR q 0 100000
      · exact Ev.neg (by simp) (Ev.done (by simp))
      refine Ev.pos rfl (Ev.call (impl_within_eq _ _ _) ?_)
      cases h5 : inR key.size 1 9
      · exact Ev.neg (by simp) (Ev.done (by simp))
      refine Ev.pos rfl (Ev.ite (fun h6 => Ev.done ?_) (fun h6 => Ev.done ?_))
      · have e6 := (emp_iff _).1 h6
        have z6 := emp_true.1 e6
        rw [e6]
        cases h7 : emp old
        · simp
        · have z7 := emp_true.1 h7
          simp [z6, z7]
      · simp [Bool.eq_false_iff.2 (fun e => h6 ((emp_iff _).2 e))]
    · have hb1 : b = false := by rw [hb]; simpa using h2
      subst hb1
      rw [if_neg h2]
      refine Ev.neg (by simp) (Ev.ite (fun h6 => ?_) (fun h6 => Ev.ite (fun h7 => ?_) (fun h7 => Ev.done ?_)))
      · have hr : inR op 1 5 = true := inR_true.2 (by omega)
        rw [hr, if_pos h6]
        refine Ev.call (impl_within_eq _ _ _) ?_
        cases h3 : inR s 0 100000
        · exact Ev.neg (by simp) (Ev.done (by simp))
        refine Ev.pos rfl (Ev.call (impl_within_eq _ _ _) ?_)
        cases h4 : inR q 0 100000
        · exact Ev.neg (by simp) (Ev.done (by simp))
        refine Ev.pos rfl (Ev.call (impl_within_eq _ _ _) ?_)
        cases h5 : inR key.size 1 9
        · exact Ev.neg (by simp) (Ev.done (by simp))
        refine Ev.pos rfl (Ev.ite (fun h8 => Ev.done ?_) (fun h8 => Ev.done ?_))
        · rw [h8]
          cases h9 : emp old
          · simp
          · have z9 := emp_true.1 h9
            simp [z9]
        · simp at h8
          simp [show ¬ value.size ≤ 12 by omega]
      · have hr : inR op 1 5 = true := inR_true.2 (by omega)
        rw [hr, if_neg h6]
        refine Ev.call (impl_within_eq _ _ _) ?_
        cases h3 : inR s 0 100000
        · exact Ev.neg (by simp) (Ev.done (by simp))
        refine Ev.pos rfl (Ev.call (impl_within_eq _ _ _) ?_)
        cases h4 : inR q 0 100000
        · exact Ev.neg (by simp) (Ev.done (by simp))
        refine Ev.pos rfl (Ev.call (impl_within_eq _ _ _) ?_)
        cases h5 : inR key.size 1 9
        · exact Ev.neg (by simp) (Ev.done (by simp))
        refine Ev.pos rfl (Ev.ite (fun h8 => Ev.done ?_) (fun h8 => Ev.done ?_))
        · rw [h8]; simp
        · simp at h8
          simp [show ¬ value.size ≤ 12 by omega]
      · have hr : inR op 1 5 = false := inR_false.2 (by omega)
        rw [hr]; simp
  refine Ev.ite (fun h2 => ?_) (fun h2 => ?_)
  · exact tail _ (by subst h2; rfl)
  · exact tail _ (by rw [decide_eq_false h2, Bool.false_or, Bool.beq_eq_decide_eq])
theorem impl_ShortText_ev (s : ByteArray) (hs : s.size ≤ 20000) : Ev (fun k => impl_ShortText.f k s) (shortText s, true) := by
  have h := varText_size (show s.size ≤ 34359738367 by omega)
  exact Ev.neg (by omega) (Ev.bind (impl_VarText_nat _ (by omega)) (Ev.pos (by dsimp only; omega) (Ev.now _)))
theorem impl_short_ev (s : ByteArray) (hs : s.size ≤ 20000) : Ev (fun k => impl_short.f k s) (shortText s) := Ev.bind (impl_ShortText_ev s hs) (Ev.now _)
theorem impl_CommandText_ev (op s q : Int) (key value old : ByteArray) : Ev (fun k => impl_CommandText.f k op s q key value old) (cmdText op s q key value old) := by
  unfold impl_CommandText.f cmdText
  refine Ev.bind (impl_CommandOk_ev op s q key value old) ?_
  cases hb : cmdOk op s q key value old
  · exact Ev.neg (by simp) (Ev.done (by simp))
  obtain ⟨h1, h2, h3, h4, h5⟩ := cmdOk_sizes hb
  have s1 := varText_size (show s.toNat ≤ 34359738367 by omega)
  have s2 := varText_size (show q.toNat ≤ 34359738367 by omega)
  have s3 := shortText_size (show key.size ≤ 34359738367 by omega)
  have s4 := shortText_size (show value.size ≤ 34359738367 by omega)
  have s5 := shortText_size (show old.size ≤ 34359738367 by omega)
  have s6 : (strOfNums [op % 256]).size = 1 := by rw [strOfNums_size]; rfl
  have e : varsOf [s, q] = (varText s.toNat ++ varText q.toNat, true) := varsOf_two (inR_true.2 (by omega)) (inR_true.2 (by omega))
  refine Ev.pos rfl (Ev.bind (Ev.eq (impl_vars_ev [s, q] (by simp)) e) (Ev.call rfl (Ev.pos (by simp only [size_append]; omega) (Ev.bind (impl_short_ev key (by omega)) (Ev.pos (by simp only [size_append]; omega) (Ev.bind (impl_short_ev value (by omega)) (Ev.pos (by simp only [size_append]; omega) (Ev.bind (impl_short_ev old (by omega)) (Ev.pos (by simp only [size_append]; omega) (Ev.done ?_))))))))))
  simp [ByteArray.append_assoc]
theorem impl_ReadVar_loop (s : ByteArray) (a : Nat) (hs : s.size ≤ 1152921504606846976) (ha : a ≤ s.size) : ∀ (k : Nat) (rest done : List Int) (i : Nat), i + k = 5 → done.length = i → (bytesOf s).drop a = done ++ rest → (∀ bs, varSeg k rest = some bs → varSeg 5 ((bytesOf s).drop a) = some (done ++ bs)) →
    Ev (fun K => impl_ReadVar.l0 K s (a : Int) (val done : Int) (i : Int))
      (match varSeg k rest with | none => (0, 0, false) | some bs => if val (done ++ bs) ≤ 1000000000 ∧ varL (val (done ++ bs)) = done ++ bs then ((val (done ++ bs) : Int), ((a + (done ++ bs).length : Nat) : Int), true) else (0, 0, false)) := by
  intro k
  have hz := bytesOf_length s
  have no : ∀ (x7 x8 : Int) r, r = (0, 0, false) → Ev (fun K => impl_ReadVar.j1 K s (a : Int) x7 x8 false) r := by
    rintro x7 x8 r rfl
    refine Ev.step (fun _ => rfl) ?_
    simp only [impl_ReadVar.j1]
    exact Ev.neg (by simp) (Ev.now _)
  induction k with
  | zero =>
    intro rest done i hi hd hr _
    refine Ev.step (fun _ => rfl) ?_
    simp only [impl_ReadVar.l0]
    exact Ev.neg (by omega) (no _ _ _ rfl)
  | succ k ih =>
    intro rest done i hi hd hr hseg
    have hl : done.length + rest.length = s.size - a := by rw [← List.length_append, ← hr, List.length_drop, hz]
    cases rest with
    | nil =>
      refine Ev.step (fun _ => rfl) ?_
      simp only [impl_ReadVar.l0]
      rw [List.length_nil] at hl
      refine Ev.pos (by omega) ?_
      rw [wrap64_id (by omega) (by omega), decide_eq_false (by omega)]
      exact no _ _ _ rfl
    | cons b t =>
      have e0 : wrap64 ((a : Int) + (i : Int)) = ((a + i : Nat) : Int) := by rw [wrap64_id (by omega) (by omega)]; omega
      have hbt : bt s ((a + i : Nat) : Int) = b := by
        rw [← rd_bytesOf, rd_nat]
        have e : (bytesOf s).drop (a + i) = b :: t := by rw [← List.drop_drop, hr, List.drop_append_of_le_length (by omega), ← hd, List.drop_length, List.nil_append]
        exact (drop_cons e).2.1 0
      have hb := bytesOf_range s b (by
        have : b ∈ (bytesOf s).drop a := by rw [hr]; simp
        exact List.mem_of_mem_drop this)
      rw [List.length_cons] at hl
      have hsc := scale_bound (show i ≤ 5 by omega)
      have hvd := val_lt done
      rw [hd] at hvd
      have e1 : Int.tmod (wrap64 b) 128 = b % 128 := byte_mod hb.1 hb.2
      have hmul : (b % 128) * ((128 ^ i : Nat) : Int) = (((b % 128).toNat * 128 ^ i : Nat) : Int) := by
        rw [Int.natCast_mul, Int.toNat_of_nonneg (by omega)]
      have hmb : (b % 128).toNat * 128 ^ i ≤ 127 * 128 ^ i := Nat.mul_le_mul_right _ (by omega)
      have hpos : 0 < 128 ^ i := Nat.pow_pos (by omega)
      have e7 : wrap64 (7 * (i : Int)) = 7 * (i : Int) := wrap64_id (by omega) (by omega)
      have hshl : shl .i64 (b % 128) (7 * (i : Int)) = (b % 128) * ((128 ^ i : Nat) : Int) := by
        have hp : (2 : Int) ^ min (7 * (i : Int)).toNat (IntKind.bits .i64) = ((128 ^ i : Nat) : Int) := by
          rcases i with _ | _ | _ | _ | _ | i
          · rfl
          · rfl
          · rfl
          · rfl
          · rfl
          · omega
        unfold shl
        rw [hp, i64_w]
        exact wrap64_id (by omega) (by omega)
      have e2 : wrap64 ((val done : Int) + shl .i64 (Int.tmod (wrap64 b) 128) (wrap64 (7 * (i : Int)))) = (val (done ++ [b]) : Int) := by
        rw [e1, e7, hshl, hmul, wrap64_id (by omega) (by omega), val_append, hd]
        rw [show val [b] = (b % 128).toNat by simp [val], Nat.mul_comm (128 ^ i)]
        omega
      clear hsc hvd hmul hmb hpos hshl e1
      refine Ev.step (fun _ => rfl) ?_
      simp only [impl_ReadVar.l0, e0]
      refine Ev.pos (by omega) ?_
      rw [decide_eq_true (show ((a + i : Nat) : Int) < (s.size : Int) by omega)]
      refine Ev.step (fun _ => rfl) ?_
      simp only [impl_ReadVar.j1, e0, hbt, e2, wrap64_succ (show i ≤ 9223372036854775806 by omega), wrap64_succ (show a + i ≤ 9223372036854775806 by omega)]
      rw [wrap64_id (n := b) (by omega) (by omega)]
      refine Ev.pos trivial (Ev.pos (by omega) (Ev.pos (by omega) (Ev.pos (by rw [e7]; omega) (Ev.ite (fun hlt => ?_) (fun hge => ?_)))))
      · have hsg := hseg [b] (by rw [varSeg, if_pos hlt])
        have hck := varSeg_check (fun x hx => bytesOf_range s x (List.mem_of_mem_drop hx)) hsg
        rw [varSeg, if_pos hlt]
        simp only []
        by_cases hbig : val (done ++ [b]) ≤ 1000000000
        · refine Ev.bind (impl_VarText_nat _ hbig) (Ev.pos rfl ?_)
          simp only [varText, strOfNums_size]
          have hlen : (done ++ [b]).length = i + 1 := by simp [hd]
          refine Ev.ite (fun hc => Ev.done ?_) (fun hc => Ev.done ?_)
          · rw [if_pos ⟨hbig, hck.1 (by omega)⟩, hlen]; rfl
          · rw [if_neg (fun h => hc (by have := hck.2 h.2; omega))]
        · refine Ev.bind (Ev.eq (impl_VarText_ev _) (varTextOf_no (show ¬ ((val (done ++ [b]) : Int) ≤ 1000000000) by omega))) ?_
          refine Ev.neg (by simp) (Ev.done ?_)
          rw [if_neg (fun h => hbig h.1)]
      · have ih := ih t (done ++ [b]) (i + 1) (by omega) (by simp [hd]) (by rw [hr]; simp) (fun bs hbs => by
          have := hseg (b :: bs) (by rw [varSeg, if_neg hge, hbs]; rfl)
          rw [this]; simp)
        rw [varSeg, if_neg hge]
        refine Ev.eq ih ?_
        cases varSeg k t with
        | none => rfl
        | some bs => simp only [Option.map_some, List.append_assoc, List.cons_append, List.nil_append]
theorem impl_ReadVar_ev (s : ByteArray) (a : Int) (hs : s.size ≤ 1152921504606846976) : Ev (fun k => impl_ReadVar.f k s a) (readVar s a) := by
  unfold impl_ReadVar.f readVar
  refine Ev.call (impl_within_eq _ _ _) ?_
  cases hb : inR a 0 s.size
  · exact Ev.neg (by simp) (Ev.done (by simp))
  · have hr := inR_true.1 hb
    obtain ⟨n, rfl⟩ := Int.eq_ofNat_of_zero_le hr.1
    refine Ev.pos rfl (Ev.eq (impl_ReadVar_loop s n hs (by omega) 5 ((bytesOf s).drop n) [] 0 rfl rfl rfl (fun bs h => h)) ?_)
    rw [if_pos rfl, Int.toNat_natCast, readVarL]
    cases varSeg 5 ((bytesOf s).drop n) with
    | none => rfl
    | some bs =>
      simp only [List.nil_append]
      by_cases hc : val bs ≤ 1000000000 ∧ varL (val bs) = bs
      · rw [if_pos hc, if_pos hc]; simp
      · rw [if_neg hc, if_neg hc]
theorem impl_reader_num_ev (s : ByteArray) (a : Int) (bad : Bool) (hs : s.size ≤ 1152921504606846976) : Ev (fun k => impl_reader_num.f k s a bad) (curNum s a bad) := by
  unfold impl_reader_num.f curNum
  refine Ev.bind (impl_ReadVar_ev s a hs) (Ev.ite (fun h => Ev.done (by rw [if_pos h])) (fun h => Ev.ite (fun h' => Ev.done ?_) (fun h' => Ev.done ?_)))
  · rw [if_neg h, if_pos h']
  · rw [if_neg h, if_neg h']
theorem impl_reader_byte_eq (s : ByteArray) (a : Int) (bad : Bool) (hs : s.size ≤ 1152921504606846976) (h0 : 0 ≤ a) (h1 : a ≤ s.size) : impl_reader_byte.f s a bad = some (curByte s a bad) := by
  unfold impl_reader_byte.f curByte
  by_cases h : bad = true
  · rw [if_pos h, if_pos h]
  · rw [if_neg h, if_neg h, wrap64_id (n := a + 1) (by omega) (by omega), show a + 1 - 1 = a by omega, wrap64_id (n := a) (by omega) (by omega)]
    by_cases hc : a ≥ (s.size : Int)
    · rw [if_pos hc, if_pos hc]
    · have := bt_range s a
      rw [if_neg hc, if_neg hc, if_pos (by omega), if_pos (by omega), wrap64_id (n := bt s a) (by omega) (by omega)]
theorem impl_ReadShort_ev (s : ByteArray) (a : Int) (hs : s.size ≤ 1152921504606846976) : Ev (fun k => impl_ReadShort.f k s a) (readShort s a) := by
  unfold impl_ReadShort.f readShort
  refine Ev.bind (impl_ReadVar_ev s a hs) (Ev.ite (fun h => ?_) (fun h => Ev.done (by rw [if_neg h])))
  have hr := readVar_true (s := s) (a := a) (n := (readVar s a).1) (b := (readVar s a).2.1) (by rw [← h])
  rw [if_pos h, wrap64_id (n := (s.size : Int) - (readVar s a).2.1) (by omega) (by omega)]
  refine Ev.ite (fun h2 => Ev.done (by rw [if_pos h2])) (fun h2 => Ev.ite (fun h3 => Ev.done (by rw [if_neg h2, if_pos h3])) (fun h3 => ?_))
  rw [if_neg h2, if_neg h3, wrap64_id (n := (readVar s a).2.1 + (readVar s a).1) (by omega) (by omega)]
  exact Ev.pos (by omega) (Ev.pos (by omega) (Ev.pos (by omega) (Ev.now _)))
theorem impl_reader_text_ev (s : ByteArray) (a : Int) (bad : Bool) (hs : s.size ≤ 1152921504606846976) : Ev (fun k => impl_reader_text.f k s a bad) (curText s a bad) := by
  unfold impl_reader_text.f curText
  refine Ev.bind (impl_ReadShort_ev s a hs) (Ev.ite (fun h => Ev.done (by rw [if_pos h])) (fun h => Ev.ite (fun h' => Ev.done ?_) (fun h' => Ev.done ?_)))
  · rw [if_neg h, if_pos h']
  · rw [if_neg h, if_neg h']
theorem impl_reader_done_eq (s : ByteArray) (a : Int) (bad : Bool) : impl_reader_done.f s a bad = some (!bad && (a == (s.size : Int)), s, a, bad) := by
  unfold impl_reader_done.f
  cases bad <;> simp
theorem impl_ReadCommand_ev (s : ByteArray) (hs : s.size ≤ 1048576) : ∃ r, Ev (fun k => impl_ReadCommand.f k s) r ∧ CmdIs s r := by
  by_cases hex : ∃ op ss q k v o, cmdOk op ss q k v o = true ∧ bytesOf s = cmdBytes op ss q k v o
  · obtain ⟨op, ss, q, k, v, o, h1, h2⟩ := hex
    refine ⟨(op, ss, q, k, v, o, true), ?_, Or.inl ⟨op, ss, q, k, v, o, rfl, h1, h2⟩⟩
    obtain ⟨a2, a3, a4, a5, p1, p2, p3, p4, p5, p6⟩ := cmd_parts h2
    obtain ⟨z1, z2, z3, z4, z5⟩ := cmdOk_sizes h1
    unfold impl_ReadCommand.f
    refine Ev.call (by rw [impl_reader_byte_eq s 0 false (by omega) (by omega) (by omega), curByte_fwd p1]) ?_
    refine Ev.bind (Ev.eq (impl_reader_num_ev s 1 false (by omega)) (curNum_fwd p2 (by omega))) (Ev.bind (Ev.eq (impl_reader_num_ev s a2 false (by omega)) (curNum_fwd p3 (by omega))) ?_)
    refine Ev.bind (Ev.eq (impl_reader_text_ev s a3 false (by omega)) (curText_fwd p4 (by omega))) (Ev.bind (Ev.eq (impl_reader_text_ev s a4 false (by omega)) (curText_fwd p5 (by omega))) ?_)
    refine Ev.bind (Ev.eq (impl_reader_text_ev s a5 false (by omega)) (curText_fwd p6 (by omega))) (Ev.call (impl_reader_done_eq _ _ _) (Ev.pos (by simp) ?_))
    simp only [Int.toNat_of_nonneg z1.1, Int.toNat_of_nonneg z2.1]
    exact Ev.bind (Ev.eq (impl_CommandOk_ev op ss q k v o) h1) (Ev.pos rfl (Ev.now _))
  · refine ⟨noCmd, ?_, Or.inr ⟨rfl, fun op ss q k v o h1 h2 => hex ⟨op, ss, q, k, v, o, h1, h2⟩⟩⟩
    unfold impl_ReadCommand.f
    refine Ev.call (impl_reader_byte_eq s 0 false (by omega) (by omega) (by omega)) ?_
    simp only [curByte_text]
    refine Ev.bind (impl_reader_num_ev s _ _ (by omega)) ?_
    simp only [curNum_text]
    refine Ev.bind (impl_reader_num_ev s _ _ (by omega)) ?_
    simp only [curNum_text]
    refine Ev.bind (impl_reader_text_ev s _ _ (by omega)) ?_
    simp only [curText_text]
    refine Ev.bind (impl_reader_text_ev s _ _ (by omega)) ?_
    simp only [curText_text]
    refine Ev.bind (impl_reader_text_ev s _ _ (by omega)) ?_
    simp only [curText_text]
    refine Ev.call (impl_reader_done_eq _ _ _) (Ev.ite (fun hd => ?_) (fun _ => Ev.now _))
    refine Ev.bind (impl_CommandOk_ev _ _ _ _ _ _) (Ev.ite (fun hk => ?_) (fun _ => Ev.now _))
    exfalso
    simp only [Bool.and_eq_true, Bool.not_eq_true', beq_iff_eq] at hd
    obtain ⟨hb, he⟩ := hd
    obtain ⟨hb, m6, -⟩ := curText_good' hb
    obtain ⟨hb, m5, -⟩ := curText_good' hb
    obtain ⟨hb, m4, -⟩ := curText_good' hb
    obtain ⟨hb, m3, -⟩ := curNum_good' hb
    obtain ⟨hb, m2, -⟩ := curNum_good' hb
    obtain ⟨-, m1, -⟩ := curByte_good' (by omega) hb
    have hw := m1.trans (m2.trans (m3.trans (m4.trans (m5.trans m6))))
    rw [he] at hw
    exact hex ⟨_, _, _, _, _, _, hk, hw.all⟩
def To {α : Type} (f : Nat → Option α) (P : α → Prop) : Prop := ∃ r, Ev f r ∧ P r
theorem To.ev {α : Type} {f : Nat → Option α} {P : α → Prop} {a : α} (h : Ev f a) (p : P a) : To f P := ⟨a, h, p⟩
theorem To.mono {α : Type} {f : Nat → Option α} {P Q : α → Prop} (h : To f P) (k : ∀ a, P a → Q a) : To f Q := by
  obtain ⟨a, e, p⟩ := h; exact ⟨a, e, k a p⟩
theorem To.bind {α β : Type} {f : Nat → Option α} {g : Nat → α → Option β} {P : α → Prop} {Q : β → Prop} (h : To f P) (k : ∀ a, P a → To (fun n => g n a) Q) : To (fun n => (f n).bind (g n)) Q := by
  obtain ⟨a, e, p⟩ := h; obtain ⟨b, e', q⟩ := k a p; exact ⟨b, Ev.bind e e', q⟩
theorem To.pos {α : Type} {c : Prop} [Decidable c] {f g : Nat → Option α} {P : α → Prop} (h : c) (k : To f P) : To (fun n => if c then f n else g n) P := by
  simp only [if_pos h]; exact k
theorem To.neg {α : Type} {c : Prop} [Decidable c] {f g : Nat → Option α} {P : α → Prop} (h : ¬ c) (k : To g P) : To (fun n => if c then f n else g n) P := by
  simp only [if_neg h]; exact k
theorem To.ite {α : Type} {c : Prop} [Decidable c] {f g : Nat → Option α} {P : α → Prop} (h : c → To f P) (k : ¬ c → To g P) : To (fun n => if c then f n else g n) P := by
  by_cases hc : c
  · exact To.pos hc (h hc)
  · exact To.neg hc (k hc)
theorem To.now {α : Type} {P : α → Prop} {a : α} (p : P a) : To (fun _ => some a) P := ⟨a, Ev.now _, p⟩
theorem To.step {α : Type} {f g : Nat → Option α} {P : α → Prop} (h : ∀ n, f (n + 1) = g n) (k : To g P) : To f P := by
  obtain ⟨a, e, p⟩ := k; exact ⟨a, Ev.step h e, p⟩
theorem To.call {α β : Type} {o : Option α} {g : Nat → α → Option β} {P : α → Prop} {Q : β → Prop} (h : ∃ a, o = some a ∧ P a) (k : ∀ a, P a → To (fun n => g n a) Q) : To (fun n => o.bind (g n)) Q := by
  obtain ⟨a, rfl, p⟩ := h; exact k a p
theorem To.at_ {α : Type} {o : Option α} {P : α → Prop} (h : To (fun _ => o) P) : ∃ a, o = some a ∧ P a := by
  obtain ⟨a, e, p⟩ := h; obtain ⟨k, e⟩ := Ev.at_ e; exact ⟨a, e, p⟩
def Cur (l : List Int) (i : Int) : Prop := 0 ≤ i ∧ i ≤ l.length
theorem Cur.zero (l : List Int) : Cur l 0 := ⟨Int.le_refl _, by omega⟩
theorem and255 (x : Int) : 0 ≤ Go.bits .and .i64 x 255 ∧ Go.bits .and .i64 x 255 ≤ 255 := by
  have h : (BitVec.ofInt 64 x &&& BitVec.ofInt 64 255).toNat ≤ 255 := by
    rw [BitVec.toNat_and]
    exact Nat.le_trans Nat.and_le_right (by decide)
  have e : Go.bits .and .i64 x 255 = (((BitVec.ofInt 64 x &&& BitVec.ofInt 64 255).toNat : Nat) : Int) := by
    show IntKind.i64.wrap (((BitVec.ofInt 64 x &&& BitVec.ofInt 64 255).toNat : Nat) : Int) = _
    rw [IntKind.wrap_i64]
    omega
  rw [e]; omega
theorem rd_mem {xs : List Int} {b : Int} (h0 : 0 ≤ b) (h1 : b < xs.length) : rd xs b ∈ xs := by
  obtain ⟨n, rfl⟩ := Int.eq_ofNat_of_zero_le h0
  rw [rd_nat, List.getD_eq_getElem?_getD, List.getElem?_eq_getElem (by omega)]
  simp
theorem rdOf_mem {α : Type} {z : α} {xs : List α} {b : Int} (h0 : 0 ≤ b) (h1 : b < xs.length) : rdOf z xs b ∈ xs := by
  obtain ⟨n, rfl⟩ := Int.eq_ofNat_of_zero_le h0
  rw [rdOf, Int.toNat_natCast, List.getD_eq_getElem?_getD, List.getElem?_eq_getElem (by omega)]
  simp
theorem spec_l01New_loop (l : List Int) (hl : l.length ≤ 140737488351232) : ∀ (m n : Nat) (y : Int), l.length - n ≤ m → n ≤ l.length → To (fun k => spec_l01New.l0 k l y (n : Int)) (fun r => ∃ z, r = (l, 0, z)) := by
  intro m
  induction m with
  | zero =>
    intro n y h h1
    refine To.step (fun _ => rfl) ?_
    simp only [spec_l01New.l0]
    exact To.neg (by omega) (To.now ⟨_, rfl⟩)
  | succ m ih =>
    intro n y h h1
    refine To.step (fun _ => rfl) ?_
    simp only [spec_l01New.l0, wrap64_succ (show n ≤ 9223372036854775806 by omega)]
    exact To.ite (fun h2 => To.ite (fun h3 => To.pos (by omega) (ih (n + 1) _ (by omega) (by omega))) (fun _ => To.now ⟨_, rfl⟩)) (fun _ => To.now ⟨_, rfl⟩)
theorem spec_l01New_to (l : List Int) (hl : l.length ≤ 140737488351232) : To (fun k => spec_l01New.f k l) (fun r => ∃ z, r = (l, 0, z)) :=
  spec_l01New_loop l hl l.length 0 _ (by omega) (by omega)
theorem spec_l01Byte_to {l : List Int} (hl : l.length ≤ 140737488351232) {i : Int} (y : Int) (h : Cur l i) : To (fun _ => spec_l01Byte.f l i y) (fun r => 0 ≤ r.1 ∧ r.1 ≤ 255 ∧ Cur l r.2.1) := by
  unfold spec_l01Byte.f
  refine To.ite (fun c => To.pos h.1 (To.now ⟨(and255 _).1, (and255 _).2, ?_⟩)) (fun c => To.now ⟨(and255 _).1, (and255 _).2, h⟩)
  have := h.1
  simp only [Cur]
  rw [wrap64_id (by omega) (by omega)]
  omega
theorem spec_l01Below_to {l : List Int} (hl : l.length ≤ 140737488351232) {i : Int} (y : Int) (h : Cur l i) (n : Int) : To (fun _ => spec_l01Below.f l i y n) (fun r => 0 ≤ r.1 ∧ (0 < n → r.1 < n) ∧ Cur l r.2.1) := by
  unfold spec_l01Below.f
  refine To.ite (fun c => To.now ⟨Int.le_refl _, fun c' => by omega, h⟩) (fun c => To.ite (fun _ => ?_) (fun _ => ?_))
  · exact To.bind (spec_l01Byte_to hl y h) (fun r p => To.neg (by omega) (To.now ⟨Int.tmod_nonneg _ p.1, fun c => Int.tmod_lt_of_pos _ c, p.2.2⟩))
  · refine To.bind (spec_l01Byte_to hl y h) (fun r1 p1 => To.bind (spec_l01Byte_to hl _ p1.2.2) (fun r2 p2 => To.bind (spec_l01Byte_to hl _ p2.2.2) (fun r3 p3 => To.bind (spec_l01Byte_to hl _ p3.2.2) (fun r4 p4 => To.neg (by omega) (To.now ⟨Int.tmod_nonneg _ ?_, fun c => Int.tmod_lt_of_pos _ c, p4.2.2⟩)))))
    have q1 := p1.1; have q2 := p2.1; have q3 := p3.1; have q4 := p4.1
    have s1 := p1.2.1; have s2 := p2.2.1; have s3 := p3.2.1; have s4 := p4.2.1
    generalize r1.1 = a at *; generalize r2.1 = b at *; generalize r3.1 = c at *; generalize r4.1 = d at *
    rw [wrap64_id (n := a * 16777216) (by omega) (by omega), wrap64_id (n := b * 65536) (by omega) (by omega), wrap64_id (n := c * 256) (by omega) (by omega), wrap64_id (n := a * 16777216 + b * 65536) (by omega) (by omega), wrap64_id (n := a * 16777216 + b * 65536 + c * 256) (by omega) (by omega), wrap64_id (by omega) (by omega)]
    omega
theorem spec_l01PickInt_to {l : List Int} (hl : l.length ≤ 140737488351232) {i : Int} (y : Int) (h : Cur l i) (xs : List Int) (hx : 0 < xs.length) : To (fun _ => spec_l01PickInt.f l i y xs) (fun r => r.1 ∈ xs ∧ Cur l r.2.1) := by
  unfold spec_l01PickInt.f
  exact To.bind (spec_l01Below_to hl y h _) (fun r p => To.pos p.1 (To.pos (p.2.1 (by omega)) (To.now ⟨rd_mem p.1 (p.2.1 (by omega)), p.2.2⟩)))
theorem spec_l01Pick_to {l : List Int} (hl : l.length ≤ 140737488351232) {i : Int} (y : Int) (h : Cur l i) (xs : List ByteArray) (hx : 0 < xs.length) : To (fun _ => spec_l01Pick.f l i y xs) (fun r => r.1 ∈ xs ∧ Cur l r.2.1) := by
  unfold spec_l01Pick.f
  exact To.bind (spec_l01Below_to hl y h _) (fun r p => To.pos p.1 (To.pos (p.2.1 (by omega)) (To.now ⟨rdOf_mem p.1 (p.2.1 (by omega)), p.2.2⟩)))
theorem spec_l15Right_to {l : List Int} (hl : l.length ≤ 140737488351232) {i : Int} (y : Int) (h : Cur l i) : To (fun _ => spec_l15Right.f l i y) (fun r => Cur l r.2.2.2.2.2.2.1) := by
  unfold spec_l15Right.f
  refine To.bind (spec_l01Below_to hl y h 5) (fun r1 p1 => To.ite (fun _ => To.now p1.2.2) (fun _ => ?_))
  refine To.bind (spec_l01Below_to hl _ p1.2.2 4) (fun r2 p2 => To.bind (spec_l01Below_to hl _ p2.2.2 3) (fun r3 p3 => To.bind (spec_l01Pick_to hl _ p3.2.2 _ (by simp)) (fun r4 p4 => ?_)))
  refine To.ite (fun _ => To.bind (spec_l01Pick_to hl _ p4.2 _ (by simp)) (fun r5 p5 => To.now p5.2)) (fun _ => To.ite (fun _ => ?_) (fun _ => To.now p4.2))
  exact To.bind (spec_l01Pick_to hl _ p4.2 _ (by simp)) (fun r5 p5 => To.bind (spec_l01Pick_to hl _ p5.2 _ (by simp)) (fun r6 p6 => To.now p6.2))
theorem spec_l01Long_loop (a v : Int) (h1 : a ≤ 1000000) : ∀ (m n : Nat) (xs : List Int), (xs.length : Int) = a → a.toNat - n ≤ m → n ≤ a.toNat → To (fun k => spec_l01Long.l0 k a v xs (n : Int)) (fun r => (r.size : Int) = a) := by
  intro m
  induction m with
  | zero =>
    intro n xs hx h2 h3
    refine To.step (fun _ => rfl) ?_
    simp only [spec_l01Long.l0]
    exact To.neg (by omega) (To.now (by rw [strOfNums_size]; exact hx))
  | succ m ih =>
    intro n xs hx h2 h3
    refine To.step (fun _ => rfl) ?_
    simp only [spec_l01Long.l0, wrap64_succ (show n ≤ 9223372036854775806 by omega)]
    exact To.ite (fun c => To.pos (by omega) (To.pos (by omega) (ih (n + 1) _ (by rw [List.length_set]; exact hx) (by omega) (by omega)))) (fun _ => To.now (by rw [strOfNums_size]; exact hx))
theorem spec_l01Long_to (a v : Int) (h0 : 0 ≤ a) (h1 : a ≤ 1000000) : To (fun k => spec_l01Long.f k a v) (fun r => (r.size : Int) = a) := by
  unfold spec_l01Long.f
  exact To.pos h0 (To.pos (by omega) (spec_l01Long_loop a v h1 a.toNat 0 _ (by rw [List.length_replicate]; omega) (by omega) (by omega)))
theorem spec_l15Any_to {l : List Int} (hl : l.length ≤ 140737488351232) {i : Int} (y : Int) (h : Cur l i) : To (fun k => spec_l15Any.f k l i y) (fun r => Cur l r.2.2.2.2.2.2.1) := by
  unfold spec_l15Any.f
  refine To.bind (spec_l15Right_to hl y h) (fun r p => To.bind (spec_l01Below_to hl _ p 30) (fun r2 p2 => ?_))
  refine To.ite (fun _ => To.bind (spec_l01PickInt_to hl _ p2.2.2 _ (by simp)) (fun r3 p3 => To.now p3.2)) (fun _ => ?_)
  refine To.ite (fun _ => To.bind (spec_l01PickInt_to hl _ p2.2.2 _ (by simp)) (fun r3 p3 => To.now p3.2)) (fun _ => ?_)
  refine To.ite (fun _ => To.bind (spec_l01Pick_to hl _ p2.2.2 _ (by simp)) (fun r3 p3 => To.now p3.2)) (fun _ => ?_)
  refine To.ite (fun _ => To.bind (spec_l01Below_to hl _ p2.2.2 2) (fun r3 p3 => ?_)) (fun _ => To.ite (fun _ => To.now p2.2.2) (fun _ => To.now p2.2.2))
  have := p3.1; have := p3.2.1 (by omega)
  exact To.bind (spec_l01Long_to _ _ (by rw [wrap64_id (by omega) (by omega)]; omega) (by rw [wrap64_id (by omega) (by omega)]; omega)) (fun r4 p4 => To.now p3.2.2)
theorem spec_DrawCommandText_to (l : List Int) (hl : l.length ≤ 140737488351232) : To (fun k => spec_DrawCommandText.f k l) (fun _ => True) := by
  unfold spec_DrawCommandText.f
  refine To.bind (spec_l01New_to l hl) (fun r hr => ?_)
  obtain ⟨z, rfl⟩ := hr
  exact To.bind (spec_l15Any_to hl z (Cur.zero l)) (fun r p => To.now trivial)
theorem FnCommands_q (l : List Int) (q : l.length * 1 ≤ 140737488351232 ∧ ∀ x ∈ l, (Lit.int .u8 x).wf = true) : ∃ k, laws_FnCommands.f k l = some true := by
  apply Ev.rounds
  unfold laws_FnCommands.f
  refine Ev.call (a := decide ((l.length : Int) > 1048576)) rfl (Ev.ite (fun _ => Ev.now _) (fun hc => ?_))
  obtain ⟨⟨op, ss, qq, k, v, o⟩, hr, -⟩ := spec_DrawCommandText_to l (by omega)
  have hsz : (cmdText op ss qq k v o).1.size ≤ 1000 := cmdText_size _ _ _ _ _ _
  refine Ev.bind hr (Ev.bind (impl_CommandText_ev op ss qq k v o) ?_)
  obtain ⟨r1, e1, c1⟩ := impl_ReadCommand_ev (cmdText op ss qq k v o).1 (by omega)
  obtain ⟨r2, e2, c2⟩ := impl_ReadCommand_ev ((cmdText op ss qq k v o).1 ++ (⟨#[120]⟩ : ByteArray)) (by rw [size_append]; have : (⟨#[120]⟩ : ByteArray).size = 1 := rfl; omega)
  refine Ev.bind e1 (Ev.pos (by omega) (Ev.bind e2 (Ev.bind (spec_CommandOk_ev op ss qq k v o) ?_)))
  have e : (cmdText op ss qq k v o).2 = cmdOk op ss qq k v o := by unfold cmdText; cases cmdOk op ss qq k v o <;> simp
  rw [e]
  refine Ev.pos (by simp) (Ev.bind (impl_CommandOk_ev op ss qq k v o) (Ev.pos (by simp) (Ev.ite (fun hk => ?_) (fun _ => Ev.now _))))
  have hb := (cmdText_ok hk).1
  obtain rfl : r1 = (op, ss, qq, k, v, o, true) := c1.one (Or.inl ⟨op, ss, qq, k, v, o, rfl, hk, hb⟩)
  refine Ev.pos rfl (Ev.pos (by simp) (Ev.done ?_))
  rcases c2 with ⟨op', ss', qq', k', v', o', rfl, hk', hb'⟩ | ⟨rfl, -⟩
  · exfalso
    have hs : bytesOf ((cmdText op ss qq k v o).1 ++ (⟨#[120]⟩ : ByteArray)) = cmdBytes op ss qq k v o ++ bytesOf (⟨#[120]⟩ : ByteArray) := by rw [bytesOf_append, hb]
    exact absurd (cmd_more hk hk' hs hb') (by decide)
  · rfl

end Go.Proofs.Ytgpafelepkhdoaa.Pure
