/- The law FnVotes answers true: a drawn vote is read again as the last frame of its file, whatever votes stand ahead, and torn bytes behind it change nothing. For all arguments; no further condition. -/
import Derived.Test.YtgpafelepkhdoaaPFnVotesx5
import Derived.Test.YtgpafelepkhdoaaVFnVotesBase
namespace Go.Proofs.Ytgpafelepkhdoaa.Pure
open Go.RowKit Go.Proofs.Ytgpafelepkhdoaa.PFnVotes Go.Proofs.YtgpafelepkhdoaaW.PrintWords Go.Proofs.YtgpafelepkhdoaaW.PrintLast Go.Proofs.Ytgpafelepkhdoaa.Base
set_option linter.unusedVariables false

theorem spec_l01In_eq (a b c : Int) : spec_l01In.f a b c = some (inR a b c) := by
  unfold spec_l01In.f inR
  by_cases h : b ≤ a
  · rw [if_pos h]; simp [h]
  · rw [if_neg h]; simp [h]
theorem impl_within_eq (a b c : Int) : impl_within.f a b c = some (inR a b c) := by
  unfold impl_within.f inR
  by_cases h : b ≤ a
  · rw [if_pos h]; simp [h]
  · rw [if_neg h]; simp [h]
theorem spec_l01Var_loop : ∀ (n : Nat) (acc : List Int), acc.length + n < 140737488355328 →
    Ev (fun k => spec_l01Var.l0 k (n : Int) acc) (strOfNums (acc ++ varL n)) := by
  intro n
  induction n using Nat.strongRecOn with
  | ind n ih =>
    intro acc h
    refine Ev.step (fun _ => rfl) ?_
    simp only [spec_l01Var.l0, tdiv128 n (by omega), tmod128 n]
    refine Ev.ite (fun hc => ?_) (fun hc => ?_)
    · rw [varL_big (by omega)]
      exact Ev.pos (by omega) (Ev.eq (ih (n / 128) (by omega) _ (by simp; omega)) (by simp))
    · rw [varL_small (by omega)]
      exact Ev.pos (by omega) (Ev.done (by rw [Int.emod_eq_of_lt (by omega) (by omega)]))
theorem spec_l01Var_nat (n : Nat) (h : n ≤ 34359738367) : Ev (fun k => spec_l01Var.f k (n : Int)) (varText n) := spec_l01Var_loop n [] (by simp; omega)
theorem spec_l01Var_ev (n : Int) (h0 : 0 ≤ n) (h : n ≤ 34359738367) : Ev (fun k => spec_l01Var.f k n) (varText n.toNat) := by
  obtain ⟨m, rfl⟩ := Int.eq_ofNat_of_zero_le h0
  exact spec_l01Var_nat m (by omega)
theorem impl_VarText_loop : ∀ (n : Nat) (acc : List Int), acc.length + n < 140737488355328 →
    Ev (fun k => impl_VarText.l0 k (n : Int) acc) (strOfNums (acc ++ varL n), true) := by
  intro n
  induction n using Nat.strongRecOn with
  | ind n ih =>
    intro acc h
    refine Ev.step (fun _ => rfl) ?_
    simp only [impl_VarText.l0, tdiv128 n (by omega), tmod128 n]
    refine Ev.ite (fun hc => ?_) (fun hc => ?_)
    · rw [varL_big (by omega)]
      exact Ev.pos (by omega) (Ev.eq (ih (n / 128) (by omega) _ (by simp; omega)) (by simp))
    · rw [varL_small (by omega)]
      exact Ev.pos (by omega) (Ev.done (by rw [Int.emod_eq_of_lt (by omega) (by omega)]))
theorem impl_VarText_ev (n : Int) : Ev (fun k => impl_VarText.f k n) (varTextOf n) := by
  unfold impl_VarText.f varTextOf
  refine Ev.call (impl_within_eq _ _ _) ?_
  cases hb : inR n 0 1000000000
  · exact Ev.neg (by simp) (Ev.done (by simp))
  · have := inR_true.1 hb
    obtain ⟨m, rfl⟩ := Int.eq_ofNat_of_zero_le this.1
    exact Ev.pos rfl (Ev.eq (impl_VarText_loop m [] (by simp; omega)) (by simp [varText]))
theorem impl_VarText_nat (n : Nat) (h : n ≤ 1000000000) : Ev (fun k => impl_VarText.f k (n : Int)) (varText n, true) :=
  Ev.eq (impl_VarText_ev (n : Int)) (by rw [varTextOf, if_pos (inR_true.2 (by omega))]; rfl)
theorem impl_vars_loop (xs : List Int) (hx : xs.length ≤ 1048576) : ∀ (rest : List Int) (n : Nat) (acc : List Int), xs.drop n = rest → acc.length + 5 * rest.length < 140737488355328 →
    Ev (fun k => impl_vars.l0 k acc xs (xs.length : Int) (n : Int)) (if rest.all (fun n => inR n 0 1000000000) = true then (strOfNums (acc ++ rest.flatMap fun n => varL n.toNat), true) else (⟨#[]⟩, false)) := by
  intro rest
  induction rest with
  | nil =>
    intro n acc h ha
    have := drop_nil h
    refine Ev.step (fun _ => rfl) ?_
    simp only [impl_vars.l0]
    exact Ev.neg (by omega) (Ev.done (by simp))
  | cons x t ih =>
    intro n acc h ha
    obtain ⟨h1, -, h3⟩ := drop_cons h
    refine Ev.step (fun _ => rfl) ?_
    simp only [impl_vars.l0, drop_rd h, wrap64_succ (show n ≤ 9223372036854775806 by omega)]
    refine Ev.pos (by omega) (Ev.pos (by omega) (Ev.pos (by omega) (Ev.bind (impl_VarText_ev x) ?_)))
    unfold varTextOf
    cases hb : inR x 0 1000000000
    · exact Ev.neg (by simp) (Ev.done (by simp [hb]))
    · have hr := inR_true.1 hb
      have hv := varL_len (show x.toNat ≤ 34359738367 by omega)
      simp only [if_true, varText, strOfNums_size, bytesOf_strOfNums _ (varL_bytes _)]
      rw [List.length_cons] at ha
      refine Ev.pos (by omega) (Ev.eq (ih (n + 1) (acc ++ varL x.toNat) h3 (by rw [List.length_append]; omega)) ?_)
      simp [hb]
theorem impl_vars_ev (xs : List Int) (hx : xs.length ≤ 1048576) : Ev (fun k => impl_vars.f k xs) (varsOf xs) :=
  Ev.eq (impl_vars_loop xs hx xs 0 [] rfl (by simp; omega)) (by simp [varsOf])
theorem spec_l02Four_eq (x : Int) : spec_l02Four.f x = some (four x) := rfl
theorem spec_SumMore_bits (s : ByteArray) (i : Nat) (hi : i ≤ 9223372036854775806) (r : Int) : ∀ (d : Nat) (x : Int) (j : Nat), j + d = 8 →
    Ev (fun k => spec_SumMore.l0 k (sumBits d x) s ((i + 1 : Nat) : Int)) r → Ev (fun k => spec_SumMore.l1 k x s (i : Int) (j : Int)) r := by
  intro d
  induction d with
  | zero =>
    intro x j hj h
    refine Ev.step (fun _ => rfl) ?_
    simp only [spec_SumMore.l1, wrap64_succ hi]
    exact Ev.neg (by omega) h
  | succ d ih =>
    intro x j hj h
    refine Ev.step (fun _ => rfl) ?_
    simp only [spec_SumMore.l1, wrap64_succ (show j ≤ 9223372036854775806 by omega)]
    refine Ev.pos (by omega) (Ev.ite (fun hc => ih _ (j + 1) (by omega) ?_) (fun hc => ih _ (j + 1) (by omega) ?_))
    · rw [sumBits, sumBit, if_pos hc] at h; exact h
    · rw [sumBits, sumBit, if_neg hc] at h; exact h
theorem spec_SumMore_loop (s : ByteArray) (hs : s.size ≤ 9223372036854775806) : ∀ (rest : List Int) (n : Nat) (x : Int), (bytesOf s).drop n = rest →
    Ev (fun k => spec_SumMore.l0 k x s (n : Int)) (sumMore x rest) := by
  intro rest
  induction rest with
  | nil =>
    intro n x h
    have := bytesOf_drop_nil h
    refine Ev.step (fun _ => rfl) ?_
    simp only [spec_SumMore.l0]
    exact Ev.neg (by omega) (Ev.done rfl)
  | cons b t ih =>
    intro n x h
    obtain ⟨h1, h2, h3, h4, h5⟩ := bytesOf_drop_lt h
    refine Ev.step (fun _ => rfl) ?_
    simp only [spec_SumMore.l0, h2]
    exact Ev.pos (by omega) (Ev.pos (by omega) (spec_SumMore_bits s n (by omega) _ 8 _ 0 rfl (ih (n + 1) _ h3)))
theorem spec_SumMore_ev (x : Int) (s : ByteArray) (hs : s.size ≤ 9223372036854775806) : Ev (fun k => spec_SumMore.f k x s) (sumMore x (bytesOf s)) := spec_SumMore_loop s hs _ 0 x rfl
theorem spec_SumOf_ev (s : ByteArray) (hs : s.size ≤ 9223372036854775806) : Ev (fun k => spec_SumOf.f k s) (sumOf s) := Ev.bind (spec_SumMore_ev _ s hs) (Ev.now _)
theorem impl_SumMore_bits (s : ByteArray) (i : Nat) (hi : i ≤ 9223372036854775806) (r : Int) : ∀ (d : Nat) (x : Int) (j : Nat), j + d = 8 →
    Ev (fun k => impl_SumMore.l0 k (sumBits d x) s ((i + 1 : Nat) : Int)) r → Ev (fun k => impl_SumMore.l1 k x s (i : Int) (j : Int)) r := by
  intro d
  induction d with
  | zero =>
    intro x j hj h
    refine Ev.step (fun _ => rfl) ?_
    simp only [impl_SumMore.l1, wrap64_succ hi]
    exact Ev.neg (by omega) h
  | succ d ih =>
    intro x j hj h
    refine Ev.step (fun _ => rfl) ?_
    simp only [impl_SumMore.l1, wrap64_succ (show j ≤ 9223372036854775806 by omega)]
    refine Ev.pos (by omega) (Ev.ite (fun hc => ih _ (j + 1) (by omega) ?_) (fun hc => ih _ (j + 1) (by omega) ?_))
    · rw [sumBits, sumBit, if_pos hc] at h; exact h
    · rw [sumBits, sumBit, if_neg hc] at h; exact h
theorem impl_SumMore_loop (s : ByteArray) (hs : s.size ≤ 9223372036854775806) : ∀ (rest : List Int) (n : Nat) (x : Int), (bytesOf s).drop n = rest →
    Ev (fun k => impl_SumMore.l0 k x s (n : Int)) (sumMore x rest) := by
  intro rest
  induction rest with
  | nil =>
    intro n x h
    have := bytesOf_drop_nil h
    refine Ev.step (fun _ => rfl) ?_
    simp only [impl_SumMore.l0]
    exact Ev.neg (by omega) (Ev.done rfl)
  | cons b t ih =>
    intro n x h
    obtain ⟨h1, h2, h3, h4, h5⟩ := bytesOf_drop_lt h
    refine Ev.step (fun _ => rfl) ?_
    simp only [impl_SumMore.l0, h2]
    exact Ev.pos (by omega) (Ev.pos (by omega) (impl_SumMore_bits s n (by omega) _ 8 _ 0 rfl (ih (n + 1) _ h3)))
theorem impl_SumMore_ev (x : Int) (s : ByteArray) (hs : s.size ≤ 9223372036854775806) : Ev (fun k => impl_SumMore.f k x s) (sumMore x (bytesOf s)) := impl_SumMore_loop s hs _ 0 x rfl
theorem impl_SumOf_ev (s : ByteArray) (hs : s.size ≤ 9223372036854775806) : Ev (fun k => impl_SumOf.f k s) (sumOf s) := Ev.bind (impl_SumMore_ev _ s hs) (Ev.now _)
theorem spec_Frame_ev (s : ByteArray) (hs : s.size ≤ 1152921504606846976) : Ev (fun k => spec_Frame.f k s) (frame s) := by
  unfold spec_Frame.f frame
  refine Ev.call (spec_l01In_eq _ _ _) ?_
  cases hb : inR (s.size : Int) 1 9000
  · exact Ev.neg (by simp) (Ev.done (by simp))
  · have hr := inR_true.1 hb
    have hv := varText_size (show s.size ≤ 34359738367 by omega)
    have h4 := four_size (sumOf s)
    refine Ev.pos rfl (Ev.bind (spec_l01Var_nat _ (by omega)) (Ev.bind (spec_SumOf_ev s (by omega)) (Ev.call (spec_l02Four_eq _) ?_)))
    exact Ev.pos (by omega) (Ev.pos (by rw [size_append]; omega) (Ev.done (by simp)))
theorem impl_Frame_ev (s : ByteArray) (hs : s.size ≤ 1152921504606846976) : Ev (fun k => impl_Frame.f k s) (frame s) := by
  unfold impl_Frame.f frame
  refine Ev.call (impl_within_eq _ _ _) ?_
  cases hb : inR (s.size : Int) 1 9000
  · exact Ev.neg (by simp) (Ev.done (by simp))
  · have hr := inR_true.1 hb
    have hv := varText_size (show s.size ≤ 34359738367 by omega)
    have h4 := four_size (sumOf s)
    refine Ev.pos rfl (Ev.bind (impl_VarText_nat _ (by omega)) (Ev.bind (impl_SumOf_ev s (by omega)) (Ev.call rfl ?_)))
    rw [four] at h4
    exact Ev.pos (by dsimp only; omega) (Ev.pos (by rw [size_append]; dsimp only; omega) (Ev.done (by simp [four])))
theorem spec_VoteText_ev (t v : Int) : Ev (fun k => spec_VoteText.f k t v) (voteText t v) := by
  unfold spec_VoteText.f voteText
  refine Ev.call (spec_l01In_eq _ _ _) ?_
  cases ha : inR t 0 100000
  · refine Ev.neg (by simp) (Ev.step (fun _ => rfl) ?_)
    simp only [spec_VoteText.j0]
    exact Ev.pos trivial (Ev.done (by simp))
  · refine Ev.pos rfl (Ev.call (spec_l01In_eq _ _ _) (Ev.step (fun _ => rfl) ?_))
    simp only [spec_VoteText.j0]
    cases hb : inR v 0 4
    · exact Ev.pos rfl (Ev.done (by simp))
    · have h1 := inR_true.1 ha
      have h2 := inR_true.1 hb
      have s1 := varText_size (show t.toNat ≤ 34359738367 by omega)
      have s2 := varText_size (show v.toNat ≤ 34359738367 by omega)
      exact Ev.neg (by simp) (Ev.bind (spec_l01Var_ev t (by omega) (by omega)) (Ev.bind (spec_l01Var_ev v (by omega) (by omega)) (Ev.pos (by omega) (Ev.bind (spec_Frame_ev _ (by rw [size_append]; omega)) (Ev.done (by simp))))))
theorem impl_VoteText_ev (t v : Int) : Ev (fun k => impl_VoteText.f k t v) (voteText t v) := by
  unfold impl_VoteText.f voteText
  refine Ev.call (impl_within_eq _ _ _) ?_
  cases ha : inR t 0 100000
  · refine Ev.neg (by simp) (Ev.step (fun _ => rfl) ?_)
    simp only [impl_VoteText.j0]
    exact Ev.pos trivial (Ev.done (by simp))
  · refine Ev.pos rfl (Ev.call (impl_within_eq _ _ _) (Ev.step (fun _ => rfl) ?_))
    simp only [impl_VoteText.j0]
    cases hb : inR v 0 4
    · exact Ev.pos rfl (Ev.done (by simp))
    · have h1 := inR_true.1 ha
      have h2 := inR_true.1 hb
      have s1 := varText_size (show t.toNat ≤ 34359738367 by omega)
      have s2 := varText_size (show v.toNat ≤ 34359738367 by omega)
      have e : varsOf [t, v] = (varText t.toNat ++ varText v.toNat, true) := by
        rw [varsOf, if_pos (by simp [inR_true]; omega)]
        simp [varText, strOfNums_append]
      refine Ev.neg (by simp) (Ev.bind (Ev.eq (impl_vars_ev [t, v] (by simp)) e) (Ev.bind (impl_Frame_ev _ (by rw [size_append]; omega)) (Ev.done (by simp))))
theorem impl_ReadVar_loop (s : ByteArray) (a : Nat) (hs : s.size ≤ 1152921504606846976) (ha : a ≤ s.size) : ∀ (k : Nat) (rest done : List Int) (i : Nat), i + k = 5 → done.length = i → (bytesOf s).drop a = done ++ rest → (∀ bs, varSeg k rest = some bs → varSeg 5 ((bytesOf s).drop a) = some (done ++ bs)) →
    Ev (fun K => impl_ReadVar.l0 K s (a : Int) (val done : Int) (i : Int))
      (match varSeg k rest with | none => (0, 0, false) | some bs => if val (done ++ bs) ≤ 1000000000 ∧ varL (val (done ++ bs)) = done ++ bs then ((val (done ++ bs) : Int), ((a + (done ++ bs).length : Nat) : Int), true) else (0, 0, false)) := by
  intro k
  have hz := bytesOf_length s
  have no : ∀ (x7 x8 : Int) r, r = (0, 0, false) → Ev (fun K => impl_ReadVar.j1 K s (a : Int) x7 x8 false) r := by
    rintro x7 x8 r rfl
    refine Ev.step (fun _ => rfl) ?_
    simp only [impl_ReadVar.j1]
    exact Ev.neg (by simp) (Ev.now _)
  induction k with
  | zero =>
    intro rest done i hi hd hr _
    refine Ev.step (fun _ => rfl) ?_
    simp only [impl_ReadVar.l0]
    exact Ev.neg (by omega) (no _ _ _ rfl)
  | succ k ih =>
    intro rest done i hi hd hr hseg
    have hl : done.length + rest.length = s.size - a := by rw [← List.length_append, ← hr, List.length_drop, hz]
    cases rest with
    | nil =>
      refine Ev.step (fun _ => rfl) ?_
      simp only [impl_ReadVar.l0]
      rw [List.length_nil] at hl
      refine Ev.pos (by omega) ?_
      rw [wrap64_id (by omega) (by omega), decide_eq_false (by omega)]
      exact no _ _ _ rfl
    | cons b t =>
      have e0 : wrap64 ((a : Int) + (i : Int)) = ((a + i : Nat) : Int) := by rw [wrap64_id (by omega) (by omega)]; omega
      have hbt : bt s ((a + i : Nat) : Int) = b := by
        rw [← rd_bytesOf, rd_nat]
        have e : (bytesOf s).drop (a + i) = b :: t := by rw [← List.drop_drop, hr, List.drop_append_of_le_length (by omega), ← hd, List.drop_length, List.nil_append]
        exact (drop_cons e).2.1 0
      have hb := bytesOf_range s b (by
        have : b ∈ (bytesOf s).drop a := by rw [hr]; simp
        exact List.mem_of_mem_drop this)
      rw [List.length_cons] at hl
      have hsc := scale_bound (show i ≤ 5 by omega)
      have hvd := val_lt done
      rw [hd] at hvd
      have e1 : Int.tmod (wrap64 b) 128 = b % 128 := byte_mod hb.1 hb.2
      have hmul : (b % 128) * ((128 ^ i : Nat) : Int) = (((b % 128).toNat * 128 ^ i : Nat) : Int) := by
        rw [Int.natCast_mul, Int.toNat_of_nonneg (by omega)]
      have hmb : (b % 128).toNat * 128 ^ i ≤ 127 * 128 ^ i := Nat.mul_le_mul_right _ (by omega)
      have hpos : 0 < 128 ^ i := Nat.pow_pos (by omega)
      have e7 : wrap64 (7 * (i : Int)) = 7 * (i : Int) := wrap64_id (by omega) (by omega)
      have hshl : shl .i64 (b % 128) (7 * (i : Int)) = (b % 128) * ((128 ^ i : Nat) : Int) := by
        have hp : (2 : Int) ^ min (7 * (i : Int)).toNat (IntKind.bits .i64) = ((128 ^ i : Nat) : Int) := by
          rcases i with _ | _ | _ | _ | _ | i
          · rfl
          · rfl
          · rfl
          · rfl
          · rfl
          · omega
        unfold shl
        rw [hp, i64_w]
        exact wrap64_id (by omega) (by omega)
      have e2 : wrap64 ((val done : Int) + shl .i64 (Int.tmod (wrap64 b) 128) (wrap64 (7 * (i : Int)))) = (val (done ++ [b]) : Int) := by
        rw [e1, e7, hshl, hmul, wrap64_id (by omega) (by omega), val_append, hd]
        rw [show val [b] = (b % 128).toNat by simp [val], Nat.mul_comm (128 ^ i)]
        omega
      clear hsc hvd hmul hmb hpos hshl e1
      refine Ev.step (fun _ => rfl) ?_
      simp only [impl_ReadVar.l0, e0]
      refine Ev.pos (by omega) ?_
      rw [decide_eq_true (show ((a + i : Nat) : Int) < (s.size : Int) by omega)]
      refine Ev.step (fun _ => rfl) ?_
      simp only [impl_ReadVar.j1, e0, hbt, e2, wrap64_succ (show i ≤ 9223372036854775806 by omega), wrap64_succ (show a + i ≤ 9223372036854775806 by omega)]
      rw [wrap64_id (n := b) (by omega) (by omega)]
      refine Ev.pos trivial (Ev.pos (by omega) (Ev.pos (by omega) (Ev.pos (by rw [e7]; omega) (Ev.ite (fun hlt => ?_) (fun hge => ?_)))))
      · have hsg := hseg [b] (by rw [varSeg, if_pos hlt])
        have hck := varSeg_check (fun x hx => bytesOf_range s x (List.mem_of_mem_drop hx)) hsg
        rw [varSeg, if_pos hlt]
        simp only []
        by_cases hbig : val (done ++ [b]) ≤ 1000000000
        · refine Ev.bind (impl_VarText_nat _ hbig) (Ev.pos rfl ?_)
          simp only [varText, strOfNums_size]
          have hlen : (done ++ [b]).length = i + 1 := by simp [hd]
          refine Ev.ite (fun hc => Ev.done ?_) (fun hc => Ev.done ?_)
          · rw [if_pos ⟨hbig, hck.1 (by omega)⟩, hlen]; rfl
          · rw [if_neg (fun h => hc (by have := hck.2 h.2; omega))]
        · refine Ev.bind (Ev.eq (impl_VarText_ev _) (varTextOf_no (show ¬ ((val (done ++ [b]) : Int) ≤ 1000000000) by omega))) ?_
          refine Ev.neg (by simp) (Ev.done ?_)
          rw [if_neg (fun h => hbig h.1)]
      · have ih := ih t (done ++ [b]) (i + 1) (by omega) (by simp [hd]) (by rw [hr]; simp) (fun bs hbs => by
          have := hseg (b :: bs) (by rw [varSeg, if_neg hge, hbs]; rfl)
          rw [this]; simp)
        rw [varSeg, if_neg hge]
        refine Ev.eq ih ?_
        cases varSeg k t with
        | none => rfl
        | some bs => simp only [Option.map_some, List.append_assoc, List.cons_append, List.nil_append]
theorem impl_ReadVar_ev (s : ByteArray) (a : Int) (hs : s.size ≤ 1152921504606846976) : Ev (fun k => impl_ReadVar.f k s a) (readVar s a) := by
  unfold impl_ReadVar.f readVar
  refine Ev.call (impl_within_eq _ _ _) ?_
  cases hb : inR a 0 s.size
  · exact Ev.neg (by simp) (Ev.done (by simp))
  · have hr := inR_true.1 hb
    obtain ⟨n, rfl⟩ := Int.eq_ofNat_of_zero_le hr.1
    refine Ev.pos rfl (Ev.eq (impl_ReadVar_loop s n hs (by omega) 5 ((bytesOf s).drop n) [] 0 rfl rfl rfl (fun bs h => h)) ?_)
    rw [if_pos rfl, Int.toNat_natCast, readVarL]
    cases varSeg 5 ((bytesOf s).drop n) with
    | none => rfl
    | some bs =>
      simp only [List.nil_append]
      by_cases hc : val bs ≤ 1000000000 ∧ varL (val bs) = bs
      · rw [if_pos hc, if_pos hc]; simp
      · rw [if_neg hc, if_neg hc]
theorem impl_reader_num_ev (s : ByteArray) (a : Int) (bad : Bool) (hs : s.size ≤ 1152921504606846976) : Ev (fun k => impl_reader_num.f k s a bad) (curNum s a bad) := by
  unfold impl_reader_num.f curNum
  refine Ev.bind (impl_ReadVar_ev s a hs) (Ev.ite (fun h => Ev.done (by rw [if_pos h])) (fun h => Ev.ite (fun h' => Ev.done ?_) (fun h' => Ev.done ?_)))
  · rw [if_neg h, if_pos h']
  · rw [if_neg h, if_neg h']
theorem impl_reader_done_eq (s : ByteArray) (a : Int) (bad : Bool) : impl_reader_done.f s a bad = some (!bad && (a == (s.size : Int)), s, a, bad) := by
  unfold impl_reader_done.f
  cases bad <;> simp
def To {α : Type} (f : Nat → Option α) (P : α → Prop) : Prop := ∃ r, Ev f r ∧ P r
theorem To.ev {α : Type} {f : Nat → Option α} {P : α → Prop} {a : α} (h : Ev f a) (p : P a) : To f P := ⟨a, h, p⟩
theorem To.mono {α : Type} {f : Nat → Option α} {P Q : α → Prop} (h : To f P) (k : ∀ a, P a → Q a) : To f Q := by
  obtain ⟨a, e, p⟩ := h; exact ⟨a, e, k a p⟩
theorem To.bind {α β : Type} {f : Nat → Option α} {g : Nat → α → Option β} {P : α → Prop} {Q : β → Prop} (h : To f P) (k : ∀ a, P a → To (fun n => g n a) Q) : To (fun n => (f n).bind (g n)) Q := by
  obtain ⟨a, e, p⟩ := h; obtain ⟨b, e', q⟩ := k a p; exact ⟨b, Ev.bind e e', q⟩
theorem To.pos {α : Type} {c : Prop} [Decidable c] {f g : Nat → Option α} {P : α → Prop} (h : c) (k : To f P) : To (fun n => if c then f n else g n) P := by
  simp only [if_pos h]; exact k
theorem To.neg {α : Type} {c : Prop} [Decidable c] {f g : Nat → Option α} {P : α → Prop} (h : ¬ c) (k : To g P) : To (fun n => if c then f n else g n) P := by
  simp only [if_neg h]; exact k
theorem To.ite {α : Type} {c : Prop} [Decidable c] {f g : Nat → Option α} {P : α → Prop} (h : c → To f P) (k : ¬ c → To g P) : To (fun n => if c then f n else g n) P := by
  by_cases hc : c
  · exact To.pos hc (h hc)
  · exact To.neg hc (k hc)
theorem To.now {α : Type} {P : α → Prop} {a : α} (p : P a) : To (fun _ => some a) P := ⟨a, Ev.now _, p⟩
theorem To.step {α : Type} {f g : Nat → Option α} {P : α → Prop} (h : ∀ n, f (n + 1) = g n) (k : To g P) : To f P := by
  obtain ⟨a, e, p⟩ := k; exact ⟨a, Ev.step h e, p⟩
theorem To.call {α β : Type} {o : Option α} {g : Nat → α → Option β} {P : α → Prop} {Q : β → Prop} (h : ∃ a, o = some a ∧ P a) (k : ∀ a, P a → To (fun n => g n a) Q) : To (fun n => o.bind (g n)) Q := by
  obtain ⟨a, rfl, p⟩ := h; exact k a p
theorem To.at_ {α : Type} {o : Option α} {P : α → Prop} (h : To (fun _ => o) P) : ∃ a, o = some a ∧ P a := by
  obtain ⟨a, e, p⟩ := h; obtain ⟨k, e⟩ := Ev.at_ e; exact ⟨a, e, p⟩
def Cur (l : List Int) (i : Int) : Prop := 0 ≤ i ∧ i ≤ l.length
theorem Cur.zero (l : List Int) : Cur l 0 := ⟨Int.le_refl _, by omega⟩
theorem and255 (x : Int) : 0 ≤ Go.bits .and .i64 x 255 ∧ Go.bits .and .i64 x 255 ≤ 255 := by
  have h : (BitVec.ofInt 64 x &&& BitVec.ofInt 64 255).toNat ≤ 255 := by
    rw [BitVec.toNat_and]
    exact Nat.le_trans Nat.and_le_right (by decide)
  have e : Go.bits .and .i64 x 255 = (((BitVec.ofInt 64 x &&& BitVec.ofInt 64 255).toNat : Nat) : Int) := by
    show IntKind.i64.wrap (((BitVec.ofInt 64 x &&& BitVec.ofInt 64 255).toNat : Nat) : Int) = _
    rw [IntKind.wrap_i64]
    omega
  rw [e]; omega
theorem rd_mem {xs : List Int} {b : Int} (h0 : 0 ≤ b) (h1 : b < xs.length) : rd xs b ∈ xs := by
  obtain ⟨n, rfl⟩ := Int.eq_ofNat_of_zero_le h0
  rw [rd_nat, List.getD_eq_getElem?_getD, List.getElem?_eq_getElem (by omega)]
  simp
theorem rdOf_mem {α : Type} {z : α} {xs : List α} {b : Int} (h0 : 0 ≤ b) (h1 : b < xs.length) : rdOf z xs b ∈ xs := by
  obtain ⟨n, rfl⟩ := Int.eq_ofNat_of_zero_le h0
  rw [rdOf, Int.toNat_natCast, List.getD_eq_getElem?_getD, List.getElem?_eq_getElem (by omega)]
  simp
theorem spec_l01New_loop (l : List Int) (hl : l.length ≤ 140737488351232) : ∀ (m n : Nat) (y : Int), l.length - n ≤ m → n ≤ l.length → To (fun k => spec_l01New.l0 k l y (n : Int)) (fun r => ∃ z, r = (l, 0, z)) := by
  intro m
  induction m with
  | zero =>
    intro n y h h1
    refine To.step (fun _ => rfl) ?_
    simp only [spec_l01New.l0]
    exact To.neg (by omega) (To.now ⟨_, rfl⟩)
  | succ m ih =>
    intro n y h h1
    refine To.step (fun _ => rfl) ?_
    simp only [spec_l01New.l0, wrap64_succ (show n ≤ 9223372036854775806 by omega)]
    exact To.ite (fun h2 => To.ite (fun h3 => To.pos (by omega) (ih (n + 1) _ (by omega) (by omega))) (fun _ => To.now ⟨_, rfl⟩)) (fun _ => To.now ⟨_, rfl⟩)
theorem spec_l01New_to (l : List Int) (hl : l.length ≤ 140737488351232) : To (fun k => spec_l01New.f k l) (fun r => ∃ z, r = (l, 0, z)) :=
  spec_l01New_loop l hl l.length 0 _ (by omega) (by omega)
theorem spec_l01Byte_to {l : List Int} (hl : l.length ≤ 140737488351232) {i : Int} (y : Int) (h : Cur l i) : To (fun _ => spec_l01Byte.f l i y) (fun r => 0 ≤ r.1 ∧ r.1 ≤ 255 ∧ Cur l r.2.1) := by
  unfold spec_l01Byte.f
  refine To.ite (fun c => To.pos h.1 (To.now ⟨(and255 _).1, (and255 _).2, ?_⟩)) (fun c => To.now ⟨(and255 _).1, (and255 _).2, h⟩)
  have := h.1
  simp only [Cur]
  rw [wrap64_id (by omega) (by omega)]
  omega
theorem spec_l01Below_to {l : List Int} (hl : l.length ≤ 140737488351232) {i : Int} (y : Int) (h : Cur l i) (n : Int) : To (fun _ => spec_l01Below.f l i y n) (fun r => 0 ≤ r.1 ∧ (0 < n → r.1 < n) ∧ Cur l r.2.1) := by
  unfold spec_l01Below.f
  refine To.ite (fun c => To.now ⟨Int.le_refl _, fun c' => by omega, h⟩) (fun c => To.ite (fun _ => ?_) (fun _ => ?_))
  · exact To.bind (spec_l01Byte_to hl y h) (fun r p => To.neg (by omega) (To.now ⟨Int.tmod_nonneg _ p.1, fun c => Int.tmod_lt_of_pos _ c, p.2.2⟩))
  · refine To.bind (spec_l01Byte_to hl y h) (fun r1 p1 => To.bind (spec_l01Byte_to hl _ p1.2.2) (fun r2 p2 => To.bind (spec_l01Byte_to hl _ p2.2.2) (fun r3 p3 => To.bind (spec_l01Byte_to hl _ p3.2.2) (fun r4 p4 => To.neg (by omega) (To.now ⟨Int.tmod_nonneg _ ?_, fun c => Int.tmod_lt_of_pos _ c, p4.2.2⟩)))))
    have q1 := p1.1; have q2 := p2.1; have q3 := p3.1; have q4 := p4.1
    have s1 := p1.2.1; have s2 := p2.2.1; have s3 := p3.2.1; have s4 := p4.2.1
    generalize r1.1 = a at *; generalize r2.1 = b at *; generalize r3.1 = c at *; generalize r4.1 = d at *
    rw [wrap64_id (n := a * 16777216) (by omega) (by omega), wrap64_id (n := b * 65536) (by omega) (by omega), wrap64_id (n := c * 256) (by omega) (by omega), wrap64_id (n := a * 16777216 + b * 65536) (by omega) (by omega), wrap64_id (n := a * 16777216 + b * 65536 + c * 256) (by omega) (by omega), wrap64_id (by omega) (by omega)]
    omega
theorem spec_l01Once_to {l : List Int} (hl : l.length ≤ 140737488351232) {i : Int} (y : Int) (h : Cur l i) (n : Int) : To (fun _ => spec_l01Once.f l i y n) (fun r => Cur l r.2.1) := by
  unfold spec_l01Once.f
  exact To.bind (spec_l01Below_to hl y h n) (fun r p => To.now p.2.2)
theorem spec_l01PickInt_to {l : List Int} (hl : l.length ≤ 140737488351232) {i : Int} (y : Int) (h : Cur l i) (xs : List Int) (hx : 0 < xs.length) : To (fun _ => spec_l01PickInt.f l i y xs) (fun r => r.1 ∈ xs ∧ Cur l r.2.1) := by
  unfold spec_l01PickInt.f
  exact To.bind (spec_l01Below_to hl y h _) (fun r p => To.pos p.1 (To.pos (p.2.1 (by omega)) (To.now ⟨rd_mem p.1 (p.2.1 (by omega)), p.2.2⟩)))
theorem spec_l01Place_to {l : List Int} (hl : l.length ≤ 140737488351232) {i : Int} (y : Int) (h : Cur l i) (n : Int) : To (fun _ => spec_l01Place.f l i y n) (fun r => Cur l r.2.1) := by
  unfold spec_l01Place.f
  refine To.bind (spec_l01Once_to hl y h 15) (fun r p => To.ite (fun _ => ?_) (fun _ => ?_))
  · exact To.bind (spec_l01PickInt_to hl _ p _ (by simp)) (fun r2 p2 => To.now p2.2)
  · exact To.bind (spec_l01Below_to hl _ p n) (fun r2 p2 => To.now p2.2.2)
theorem spec_DrawVoteText_to (l : List Int) (hl : l.length ≤ 140737488351232) : To (fun k => spec_DrawVoteText.f k l) (fun _ => True) := by
  unfold spec_DrawVoteText.f
  refine To.bind (spec_l01New_to l hl) (fun r hr => ?_)
  obtain ⟨z, rfl⟩ := hr
  refine To.bind (spec_l01Below_to hl z (Cur.zero l) 300) (fun r p => To.bind (spec_l01Once_to hl _ p.2.2 8) (fun r2 p2 => To.ite (fun _ => ?_) (fun _ => ?_)))
  · exact To.bind (spec_l01PickInt_to hl _ p2 _ (by simp)) (fun r3 p3 => To.bind (spec_l01Place_to hl _ p3.2 5) (fun r4 p4 => To.now trivial))
  · exact To.bind (spec_l01Place_to hl _ p2 5) (fun r4 p4 => To.now trivial)
def voteBody (p : Int × Int) : ByteArray := varText p.1.toNat ++ varText p.2.toNat
def voteIn (p : Int × Int) : Bool := inR p.1 0 100000 && inR p.2 0 4
theorem voteBody_size {p : Int × Int} (h : voteIn p = true) : 2 ≤ (voteBody p).size ∧ (voteBody p).size ≤ 10 := by
  rw [voteIn, Bool.and_eq_true] at h
  have h1 := inR_true.1 h.1
  have h2 := inR_true.1 h.2
  have s1 := varText_size (show p.1.toNat ≤ 34359738367 by omega)
  have s2 := varText_size (show p.2.toNat ≤ 34359738367 by omega)
  have q1 := varText_pos p.1.toNat
  have q2 := varText_pos p.2.toNat
  rw [voteBody, size_append]; omega
theorem voteText_in {p : Int × Int} (h : voteIn p = true) : voteText p.1 p.2 = ((frame (voteBody p)).1, true) ∧ frame (voteBody p) = ((frame (voteBody p)).1, true) := by
  have hs := voteBody_size h
  have e : frame (voteBody p) = ((frame (voteBody p)).1, true) := by
    rw [frame, if_pos (inR_true.2 (by omega))]
  refine ⟨?_, e⟩
  have h' : (inR p.1 0 100000 && inR p.2 0 4) = true := h
  rw [voteText, if_pos h']
  exact e
theorem frame_size {p : Int × Int} (h : voteIn p = true) : (frame (voteBody p)).1.size ≤ 20 := by
  have hs := voteBody_size h
  have s1 := varText_size (show (voteBody p).size ≤ 34359738367 by omega)
  rw [frame, if_pos (inR_true.2 (by omega))]
  have := four_size (sumOf (voteBody p))
  simp only [size_append]; omega
theorem frame_bytes {c : ByteArray} (h : inR c.size 1 9000 = true) : bytesOf (frame c).1 = varL c.size ++ (bytesOf (four (sumOf c)) ++ bytesOf c) := by
  rw [frame, if_pos h]
  simp only [bytesOf_append, bytesOf_varText, List.append_assoc]
theorem impl_Unframe_one {s : ByteArray} (hs : s.size ≤ 20000) {p : Int × Int} (hp : voteIn p = true) {a b : Int} {acc : List ByteArray} (ha : acc.length ≤ 1000) {r : List ByteArray × Int}
    (h : At s a (bytesOf (frame (voteBody p)).1) b) (k : Ev (fun k => impl_Unframe.l0 k s (acc ++ [voteBody p]) b) r) : Ev (fun k => impl_Unframe.l0 k s acc a) r := by
  have hz := voteBody_size hp
  have hin : inR (voteBody p).size 1 9000 = true := inR_true.2 (by omega)
  have hw := h
  have hf := (voteText_in hp).2
  have hle := h.le
  rw [frame_bytes hin] at h
  obtain ⟨p1, h⟩ := h.split
  obtain ⟨p2, p3⟩ := h.split
  have l2 : (bytesOf (four (sumOf (voteBody p)))).length = 4 := by rw [bytesOf_length, four_size]
  rw [l2] at p3 p2
  have hv := readVar_fwd p1 (by omega)
  generalize a + ((varL (voteBody p).size).length : Int) = c at *
  have hb := p3.2.1
  rw [bytesOf_length] at hb
  have i1 := p1.le; have i2 := p2.le
  have e4 : wrap64 (c + ((4 : Nat) : Int)) = c + 4 := wrap64_id (by omega) (by omega)
  have e4' : wrap64 (c + 4) = c + 4 := wrap64_id (by omega) (by omega)
  have hb' : c + 4 + ((voteBody p).size : Int) = b := by omega
  have eb : wrap64 (c + 4 + ((voteBody p).size : Int)) = b := by rw [hb']; exact wrap64_id (by omega) (by omega)
  have es : wrap64 (wrap64 ((s.size : Int) - c) - 4) = s.size - c - 4 := by
    rw [wrap64_id (n := (s.size : Int) - c) (by omega) (by omega), wrap64_id (by omega) (by omega)]
  refine Ev.step (fun _ => rfl) ?_
  simp only [impl_Unframe.l0]
  refine Ev.bind (Ev.eq (impl_ReadVar_ev s a (by omega)) hv) (Ev.pos rfl ?_)
  refine Ev.step (fun _ => rfl) ?_
  simp only [impl_Unframe.j1, e4', eb, es]
  have x1 : s.extract (c + 4).toNat b.toNat = voteBody p := bytesOf_inj (extract_at p3)
  have x2 : s.extract a.toNat b.toNat = (frame (voteBody p)).1 := bytesOf_inj (extract_at hw)
  rw [x1, x2]
  refine Ev.neg (by simp; omega) (Ev.pos (by omega) (Ev.pos (by omega) (Ev.pos (by omega) (Ev.bind (Ev.eq (impl_Frame_ev (voteBody p) (by omega)) hf) (Ev.pos rfl (Ev.pos (by omega) (Ev.pos (by omega) (Ev.pos rfl (Ev.pos (by omega) k)))))))))
theorem readVar_end {s : ByteArray} {a : Int} (h : a = s.size) : (readVar s a).2.2 = false := by
  cases hb : (readVar s a).2.2
  · rfl
  · exfalso
    have e : readVar s a = ((readVar s a).1, (readVar s a).2.1, (readVar s a).2.2) := rfl
    rw [hb] at e
    have := readVar_true e
    omega
/-- What stands behind the frames: nothing, or the byte 5. -/
theorem impl_Unframe_end {s : ByteArray} (hs : s.size ≤ 20000) {T : List Int} (hT : T = [] ∨ T = [5]) {a : Int} {acc : List ByteArray} (h : At s a T s.size) : Ev (fun k => impl_Unframe.l0 k s acc a) (acc, a) := by
  have hle := h.le
  refine Ev.step (fun _ => rfl) ?_
  simp only [impl_Unframe.l0]
  rcases hT with rfl | rfl
  · have ha : a = s.size := by have := h.2.1; simp at this; omega
    have e : readVar s a = (0, 0, false) := readVar_false rfl (readVar_end ha)
    refine Ev.bind (Ev.eq (impl_ReadVar_ev s a (by omega)) e) (Ev.neg (by simp) (Ev.step (fun _ => rfl) ?_))
    simp only [impl_Unframe.j1]
    exact Ev.pos trivial (Ev.now _)
  · have h5 : At s a (varL 5) s.size := by rw [varL_small (by omega)]; exact h
    have e := readVar_fwd h5 (by omega)
    refine Ev.bind (Ev.eq (impl_ReadVar_ev s a (by omega)) e) (Ev.pos rfl (Ev.step (fun _ => rfl) ?_))
    simp only [impl_Unframe.j1]
    refine Ev.pos ?_ (Ev.now _)
    rw [show (s.size : Int) - (s.size : Int) = 0 by omega, show wrap64 (wrap64 0 - 4) = -4 by rw [wrap64_id (n := 0) (by omega) (by omega), wrap64_id (by omega) (by omega)]; rfl]
    exact decide_eq_true (by omega)
def votesBytes (vs : List (Int × Int)) : List Int := vs.flatMap fun p => bytesOf (frame (voteBody p)).1
theorem impl_Unframe_loop {s : ByteArray} (hs : s.size ≤ 20000) {T : List Int} (hT : T = [] ∨ T = [5]) : ∀ (vs : List (Int × Int)) (a b : Int) (acc : List ByteArray), (∀ p ∈ vs, voteIn p = true) → acc.length + vs.length ≤ 1000 → At s a (votesBytes vs) b → At s b T s.size →
    Ev (fun k => impl_Unframe.l0 k s acc a) (acc ++ vs.map voteBody, b) := by
  intro vs
  induction vs with
  | nil =>
    intro a b acc hv hl h1 h2
    have hb : b = a := by have := h1.2.1; simp [votesBytes] at this; exact this
    subst hb
    rw [List.map_nil, List.append_nil]
    exact impl_Unframe_end hs hT h2
  | cons p t ih =>
    intro a b acc hv hl h1 h2
    rw [List.length_cons] at hl
    rw [votesBytes, List.flatMap_cons] at h1
    obtain ⟨q1, q2⟩ := h1.split
    refine impl_Unframe_one hs (hv p List.mem_cons_self) (by omega) q1 ?_
    refine Ev.eq (ih _ b (acc ++ [voteBody p]) (fun x hx => hv x (List.mem_cons_of_mem _ hx)) (by simp only [List.length_append, List.length_singleton]; omega) q2 h2) ?_
    simp
theorem impl_Unframe_ev {s : ByteArray} (hs : s.size ≤ 20000) {T : List Int} (hT : T = [] ∨ T = [5]) {vs : List (Int × Int)} (hv : ∀ p ∈ vs, voteIn p = true) (hl : vs.length ≤ 1000) (h : bytesOf s = votesBytes vs ++ T) :
    Ev (fun k => impl_Unframe.f k s) (vs.map voteBody, (s.size : Int) - (T.length : Int)) := by
  have h0 := At.whole s
  rw [h] at h0
  obtain ⟨q1, q2⟩ := h0.split
  unfold impl_Unframe.f
  refine Ev.neg (by omega) (Ev.eq (impl_Unframe_loop hs hT vs 0 _ [] hv (by simp; omega) q1 q2) ?_)
  have := q2.2.1
  rw [List.nil_append, show (0 : Int) + ((votesBytes vs).length : Int) = (s.size : Int) - (T.length : Int) by omega]
def lastV : Int × Int → List (Int × Int) → Int × Int
  | d, [] => d
  | _, p :: t => lastV p t
theorem rdOf_drop {xs : List ByteArray} {n : Nat} {x : ByteArray} {t : List ByteArray} (h : xs.drop n = x :: t) : rdOf ByteArray.empty xs (n : Int) = x := by
  rw [rdOf, Int.toNat_natCast]; exact (drop_cons h).2.1 _
theorem impl_ReadVotes_loop (e : Int) (X : List ByteArray) (hX : X.length ≤ 1000) : ∀ (rest : List (Int × Int)) (n : Nat) (d : Int × Int) (b : Bool), (∀ p ∈ rest, voteIn p = true) → X.drop n = rest.map voteBody → (b = true ∨ rest ≠ []) →
    Ev (fun k => impl_ReadVotes.l0 k e d.1 d.2 b X (X.length : Int) (n : Int)) ((lastV d rest).1, (lastV d rest).2, e) := by
  intro rest
  induction rest with
  | nil =>
    intro n d b hv h hb
    have := drop_nil h
    refine Ev.step (fun _ => rfl) ?_
    simp only [impl_ReadVotes.l0]
    exact Ev.neg (by omega) (Ev.pos (by rcases hb with h | h; exact h; exact absurd rfl h) (Ev.now _))
  | cons p t ih =>
    intro n d b hv h hb
    rw [List.map_cons] at h
    obtain ⟨h1, -, h3⟩ := drop_cons h
    have hp := hv p List.mem_cons_self
    have hp' := hp
    have hz := voteBody_size hp
    rw [voteIn, Bool.and_eq_true] at hp'
    have i1 := inR_true.1 hp'.1
    have i2 := inR_true.1 hp'.2
    have h0 := At.whole (voteBody p)
    rw [show bytesOf (voteBody p) = varL p.1.toNat ++ varL p.2.toNat by rw [voteBody, bytesOf_append, bytesOf_varText, bytesOf_varText]] at h0
    obtain ⟨p1, p2⟩ := h0.split
    have c1 := curNum_fwd p1 (by omega)
    have c2 := curNum_fwd p2 (by omega)
    rw [Int.toNat_of_nonneg (by omega)] at c1 c2
    refine Ev.step (fun _ => rfl) ?_
    simp only [impl_ReadVotes.l0, rdOf_drop h, wrap64_succ (show n ≤ 9223372036854775806 by omega)]
    refine Ev.pos (by omega) (Ev.pos (by omega) (Ev.pos (by omega) (Ev.bind (Ev.eq (impl_reader_num_ev (voteBody p) 0 false (by omega)) c1) (Ev.bind (Ev.eq (impl_reader_num_ev (voteBody p) _ false (by omega)) c2) (Ev.bind (Ev.eq (impl_VoteText_ev p.1 p.2) (voteText_in hp).1) (Ev.call (impl_reader_done_eq _ _ _) ?_))))))
    exact Ev.pos (by simp) (Ev.pos rfl (ih (n + 1) p true (fun x hx => hv x (List.mem_cons_of_mem _ hx)) h3 (Or.inl rfl)))
theorem impl_ReadVotes_ev {s : ByteArray} (hs : s.size ≤ 20000) {T : List Int} (hT : T = [] ∨ T = [5]) {vs : List (Int × Int)} (hv : ∀ p ∈ vs, voteIn p = true) (hl : vs.length ≤ 1000) (hn : vs ≠ []) (h : bytesOf s = votesBytes vs ++ T) :
    Ev (fun k => impl_ReadVotes.f k s) ((lastV (0, 0) vs).1, (lastV (0, 0) vs).2, (s.size : Int) - (T.length : Int)) := by
  unfold impl_ReadVotes.f
  exact Ev.bind (impl_Unframe_ev hs hT hv hl h) (impl_ReadVotes_loop _ _ (by rw [List.length_map]; exact hl) vs 0 (0, 0) false hv rfl (Or.inr hn))
theorem FnVotes_q (l : List Int) (q : l.length * 1 ≤ 140737488351232 ∧ ∀ x ∈ l, (Lit.int .u8 x).wf = true) : ∃ k, laws_FnVotes.f k l = some true := by
  apply Ev.rounds
  unfold laws_FnVotes.f
  refine Ev.call (a := decide ((l.length : Int) > 1048576)) rfl (Ev.ite (fun _ => Ev.now _) (fun hc => ?_))
  obtain ⟨⟨t, v⟩, hr, -⟩ := spec_DrawVoteText_to l (by omega)
  have i1 : voteIn (1, 1) = true := rfl
  obtain ⟨o1, o2⟩ := voteText_in i1
  have z1 := frame_size i1
  refine Ev.bind hr (Ev.bind (impl_VoteText_ev t v) (Ev.bind (spec_VoteText_ev t v) (Ev.bind (Ev.eq (impl_VoteText_ev 1 1) o1) ?_)))
  have z5 : (⟨#[5]⟩ : ByteArray).size = 1 := rfl
  have b5 : bytesOf (⟨#[5]⟩ : ByteArray) = [5] := rfl
  cases hk : voteIn (t, v)
  · have e : voteText t v = (⟨#[]⟩, false) := by
      have hk' : (inR t 0 100000 && inR v 0 4) = false := hk
      rw [voteText, if_neg (by simp [hk'])]
    rw [e]
    have hv : ∀ p ∈ [((1 : Int), (1 : Int))], voteIn p = true := by intro p hp; rw [List.mem_singleton] at hp; rw [hp]; exact i1
    have a0 : (frame (voteBody (1, 1))).1 ++ (⟨#[]⟩ : ByteArray) = (frame (voteBody (1, 1))).1 := bytesOf_inj (by rw [bytesOf_append]; simp [bytesOf])
    simp only [a0]
    have g1 := impl_ReadVotes_ev (s := (frame (voteBody (1, 1))).1) (by omega) (Or.inl rfl) hv (by simp) (by simp) (by simp [votesBytes])
    have g2 := impl_ReadVotes_ev (s := (frame (voteBody (1, 1))).1 ++ (⟨#[5]⟩ : ByteArray)) (by rw [size_append]; omega) (Or.inr rfl) hv (by simp) (by simp) (by rw [bytesOf_append, b5]; simp [votesBytes])
    refine Ev.pos (by show (frame (voteBody (1, 1))).1.size + 0 ≤ _; omega) (Ev.bind g1 (Ev.pos (by omega) (Ev.bind g2 (Ev.neg (by simp) ?_))))
    refine Ev.step (fun _ => rfl) ?_
    simp only [laws_FnVotes.j0]
    exact Ev.neg (by simp) (Ev.neg (by simp) (Ev.pos rfl (Ev.done rfl)))
  · obtain ⟨e, e'⟩ := voteText_in hk
    have z2 := frame_size hk
    have e : voteText t v = ((frame (voteBody (t, v))).1, true) := e
    rw [e]
    have hv : ∀ p ∈ [((1 : Int), (1 : Int)), (t, v)], voteIn p = true := by
      intro p hp
      rcases List.mem_cons.1 hp with rfl | hp
      · exact i1
      · rw [List.mem_singleton] at hp; rw [hp]; exact hk
    simp only
    have g1 := impl_ReadVotes_ev (s := (frame (voteBody (1, 1))).1 ++ (frame (voteBody (t, v))).1) (by rw [size_append]; omega) (Or.inl rfl) hv (by simp) (by simp) (by rw [bytesOf_append]; simp [votesBytes])
    have g2 := impl_ReadVotes_ev (s := (frame (voteBody (1, 1))).1 ++ (frame (voteBody (t, v))).1 ++ (⟨#[5]⟩ : ByteArray)) (by simp only [size_append]; omega) (Or.inr rfl) hv (by simp) (by simp) (by rw [bytesOf_append, b5, bytesOf_append]; simp [votesBytes])
    refine Ev.pos (by omega) (Ev.bind g1 (Ev.pos (by rw [size_append]; omega) (Ev.bind g2 (Ev.neg (by simp) ?_))))
    refine Ev.step (fun _ => rfl) ?_
    simp only [laws_FnVotes.j0]
    refine Ev.neg (by simp) (Ev.pos trivial (Ev.pos rfl (Ev.pos rfl (Ev.pos ?_ (Ev.pos rfl (Ev.pos rfl (Ev.done ?_)))))))
    · rw [wrap64_id (by omega) (by omega), size_append]; simp; omega
    · simp only [size_append, z5]; simp


end Go.Proofs.Ytgpafelepkhdoaa.Pure
