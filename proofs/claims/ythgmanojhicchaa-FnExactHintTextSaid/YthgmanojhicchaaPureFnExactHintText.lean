/- The law FnExactHintText answers true: the program's HintText returns what the reference's returns, and leaves its argument as it was. For all arguments; no further condition. -/
import Derived.Test.YthgmanojhicchaaPFnExactHintTextx7
import Derived.Test.YthgmanojhicchaaVFnExactHintTextBase
namespace Go.Proofs.Ythgmanojhicchaa.Pure
open Go.RowKit Go.Proofs.Ythgmanojhicchaa.PFnExactHintText Go.Proofs.YthgmanojhicchaaW.PrintWords Go.Proofs.YthgmanojhicchaaW.PrintLast Go.Proofs.Ythgmanojhicchaa.Base
set_option linter.unusedVariables false

theorem rdT87_drop {xs : List S87} {n : Nat} {x : S87} {t : List S87} (h : xs.drop n = x :: t) : rd_T87 xs (n : Int) = x := by
  unfold rd_T87
  rw [Int.toNat_natCast]
  exact (drop_cons h).2.1 _
theorem rdT87_at {a : List S87} {n : Nat} (h : a.length = n) (v : S87) (t : List S87) : rd_T87 (a ++ v :: t) (n : Int) = v := by
  unfold rd_T87
  rw [Int.toNat_natCast]
  exact getD_at h v t _
theorem rdT87_get {xs : List S87} {n : Nat} (h : n < xs.length) : xs[n]? = some (rd_T87 xs (n : Int)) := by
  unfold rd_T87
  rw [Int.toNat_natCast]
  exact getD_get h
theorem rdT89_drop {xs : List S89} {n : Nat} {x : S89} {t : List S89} (h : xs.drop n = x :: t) : rd_T89 xs (n : Int) = x := by
  unfold rd_T89
  rw [Int.toNat_natCast]
  exact (drop_cons h).2.1 _
theorem rdT89_at {a : List S89} {n : Nat} (h : a.length = n) (v : S89) (t : List S89) : rd_T89 (a ++ v :: t) (n : Int) = v := by
  unfold rd_T89
  rw [Int.toNat_natCast]
  exact getD_at h v t _
theorem rdT89_get {xs : List S89} {n : Nat} (h : n < xs.length) : xs[n]? = some (rd_T89 xs (n : Int)) := by
  unfold rd_T89
  rw [Int.toNat_natCast]
  exact getD_get h
theorem laws_szSpot_some (x0 : ByteArray) (x1 : Int) (x2 : Int) (x3 : Int) (c : Int) (hc0 : 0 ≤ c) (hc : c ≤ 1048576) (h0 : x0.size ≤ 140737488351232) :
    ∃ r, laws_szSpot.f x0 x1 x2 x3 c = some r ∧ (¬ r < 0 → r = c - ((x0.size : Nat) : Int)) := by
  unfold laws_szSpot.f wrap64
  by_cases c0 : (c - (x0.size : Int) + 9223372036854775808) % 18446744073709551616 - 9223372036854775808 < 0
  · exact ⟨-1, by rw [if_pos c0], by omega⟩
  rw [if_neg c0]
  exact ⟨_, rfl, by omega⟩
def wtSpot (x : S87) : Nat := x.f0.size
theorem laws_szSpotS_loop (xs : List S87) (hx : xs.length ≤ 1048576) : ∀ (rest : List S87) (n : Nat) (c : Int), xs.drop n = rest → (∀ x ∈ rest, x.f0.size ≤ 140737488351232) → 0 ≤ c → c ≤ 1048576 →
    ∃ r, Ev (fun k => laws_szSpotS.l0 k xs c (n : Int)) r ∧ (¬ r < 0 → r = c - (((rest.map wtSpot).sum : Nat) : Int)) := by
  intro rest
  induction rest with
  | nil =>
    intro n c h _ h0 h1
    have := drop_nil h
    refine ⟨c, Ev.step (fun _ => rfl) ?_, by simp⟩
    simp only [laws_szSpotS.l0]
    exact Ev.neg (by omega) (Ev.now _)
  | cons x t ih =>
    intro n c h hq0 h0 h1
    obtain ⟨hn, -, h3⟩ := drop_cons h
    have hq := hq0 x List.mem_cons_self
    obtain ⟨r, hr, hb⟩ := laws_szSpot_some x.f0 x.f1 x.f2 x.f3 c h0 h1 hq
    by_cases hc : r < 0
    · refine ⟨-1, Ev.step (fun _ => rfl) ?_, by omega⟩
      simp only [laws_szSpotS.l0, rdT87_drop h]
      exact Ev.pos (by omega) (Ev.pos (by omega) (Ev.call hr (Ev.pos hc (Ev.now _))))
    · have hb := hb hc
      obtain ⟨r', hr', hb'⟩ := ih (n + 1) r h3 (fun y hy => hq0 y (List.mem_cons_of_mem _ hy)) (by omega) (by omega)
      refine ⟨r', Ev.step (fun _ => rfl) ?_, fun hn => ?_⟩
      · simp only [laws_szSpotS.l0, rdT87_drop h, wrap64_succ (show n ≤ 9223372036854775806 by omega)]
        exact Ev.pos (by omega) (Ev.pos (by omega) (Ev.call hr (Ev.neg hc hr')))
      · have := hb' hn
        rw [List.map_cons, List.sum_cons, wtSpot]
        omega
theorem laws_szSpotS_ev (xs : List S87) (hx : xs.length ≤ 17592186044416) (hq : ∀ x ∈ xs, x.f0.size ≤ 140737488351232) (c : Int) (h0 : 0 ≤ c) (h1 : c ≤ 1048576) :
    ∃ r, Ev (fun k => laws_szSpotS.f k xs c) r ∧ (¬ r < 0 → r = c - ((xs.length + (xs.map wtSpot).sum : Nat) : Int)) := by
  unfold laws_szSpotS.f
  rw [wrap64_id (by omega) (by omega)]
  by_cases hc : c - (xs.length : Int) < 0
  · exact ⟨-1, Ev.pos hc (Ev.now _), by omega⟩
  · obtain ⟨r, hr, hb⟩ := laws_szSpotS_loop xs (by omega) xs 0 (c - (xs.length : Int)) rfl hq (by omega) (by omega)
    exact ⟨r, Ev.neg hc hr, fun hn => by have := hb hn; omega⟩
theorem sum_wtSpot {xs : List S87} {x : S87} (h : x ∈ xs) : wtSpot x ≤ (xs.map wtSpot).sum := le_sum (List.mem_map_of_mem h)
def toSpot (x : S87) : S89 := ⟨x.f0, x.f1, x.f2, x.f3⟩
theorem laws_toSpotS_loop (xs : List S87) (hx : xs.length ≤ 1048576) : ∀ (d n : Nat), n + d = xs.length →
    Ev (fun k => laws_toSpotS.l0 k xs ((xs.map toSpot).take n ++ List.replicate d z89) (n : Int)) (xs.map toSpot) := by
  intro d
  induction d with
  | zero =>
    intro n h
    refine Ev.step (fun _ => rfl) ?_
    simp only [laws_toSpotS.l0]
    exact Ev.neg (by omega) (Ev.done (by rw [List.take_of_length_le (by simp; omega)]; simp))
  | succ d ih =>
    intro n h
    refine Ev.step (fun _ => rfl) ?_
    simp only [laws_toSpotS.l0, wrap64_succ (show n ≤ 9223372036854775806 by omega)]
    refine Ev.pos (by omega) (Ev.pos (by omega) (Ev.call rfl (Ev.pos (by simp; omega) (Ev.congr (fun k => ?_) (ih (n + 1) (by omega))))))
    rw [Int.toNat_natCast, set_fill (xs.map toSpot) n d z89 _ (by simpa using h) (by rw [List.getElem?_map, rdT87_get (show n < xs.length by omega)]; rfl)]
theorem laws_toSpotS_ev (xs : List S87) (hx : xs.length ≤ 1048576) : Ev (fun k => laws_toSpotS.f k xs) (xs.map toSpot) := by
  unfold laws_toSpotS.f
  refine Ev.pos (by omega) (Ev.pos (by omega) ?_)
  exact Ev.congr (fun k => by simp) (laws_toSpotS_loop xs hx xs.length 0 (by omega))
theorem laws_eqSpot_refl (x0 : ByteArray) (x1 : Int) (x2 : Int) (x3 : Int) : laws_eqSpot.f x0 x1 x2 x3 x0 x1 x2 x3 = some true := by simp [laws_eqSpot.f]
theorem laws_eqSpotS_loop (xs : List S89) (hx : xs.length ≤ 9223372036854775806) : ∀ (rest : List S89) (n : Nat), xs.drop n = rest → Ev (fun k => laws_eqSpotS.l0 k xs xs (n : Int)) true := by
  intro rest
  induction rest with
  | nil =>
    intro n h
    have := drop_nil h
    refine Ev.step (fun _ => rfl) ?_
    simp only [laws_eqSpotS.l0]
    exact Ev.neg (by omega) (Ev.now _)
  | cons x t ih =>
    intro n h
    obtain ⟨h1, -, h3⟩ := drop_cons h
    refine Ev.step (fun _ => rfl) ?_
    simp only [laws_eqSpotS.l0, wrap64_succ (show n ≤ 9223372036854775806 by omega)]
    exact Ev.pos (by omega) (Ev.pos (by omega) (Ev.pos (by omega) (Ev.call (laws_eqSpot_refl _ _ _ _) (Ev.pos rfl (ih (n + 1) h3)))))
theorem laws_eqSpotS_refl (xs : List S89) (hx : xs.length ≤ 9223372036854775806) : Ev (fun k => laws_eqSpotS.f k xs xs) true :=
  Ev.pos rfl (laws_eqSpotS_loop xs hx xs 0 rfl)
theorem spec_l01In_eq (a b c : Int) : spec_l01In.f a b c = some (inR a b c) := by
  unfold spec_l01In.f inR
  by_cases h : b ≤ a
  · rw [if_pos h]; simp [h]
  · rw [if_neg h]; simp [h]
theorem impl_within_eq (a b c : Int) : impl_within.f a b c = some (inR a b c) := by
  unfold impl_within.f inR
  by_cases h : b ≤ a
  · rw [if_pos h]; simp [h]
  · rw [if_neg h]; simp [h]
theorem spec_l01Var_loop : ∀ (n : Nat) (acc : List Int), acc.length + n < 140737488355328 →
    Ev (fun k => spec_l01Var.l0 k (n : Int) acc) (strOfNums (acc ++ varL n)) := by
  intro n
  induction n using Nat.strongRecOn with
  | ind n ih =>
    intro acc h
    refine Ev.step (fun _ => rfl) ?_
    simp only [spec_l01Var.l0, tdiv128 n (by omega), tmod128 n]
    refine Ev.ite (fun hc => ?_) (fun hc => ?_)
    · rw [varL_big (by omega)]
      exact Ev.pos (by omega) (Ev.eq (ih (n / 128) (by omega) _ (by simp; omega)) (by simp))
    · rw [varL_small (by omega)]
      exact Ev.pos (by omega) (Ev.done (by rw [Int.emod_eq_of_lt (by omega) (by omega)]))
theorem spec_l01Var_nat (n : Nat) (h : n ≤ 34359738367) : Ev (fun k => spec_l01Var.f k (n : Int)) (varText n) := spec_l01Var_loop n [] (by simp; omega)
theorem spec_l01Var_ev (n : Int) (h0 : 0 ≤ n) (h : n ≤ 34359738367) : Ev (fun k => spec_l01Var.f k n) (varText n.toNat) := by
  obtain ⟨m, rfl⟩ := Int.eq_ofNat_of_zero_le h0
  exact spec_l01Var_nat m (by omega)
theorem impl_VarText_loop : ∀ (n : Nat) (acc : List Int), acc.length + n < 140737488355328 →
    Ev (fun k => impl_VarText.l0 k (n : Int) acc) (strOfNums (acc ++ varL n), true) := by
  intro n
  induction n using Nat.strongRecOn with
  | ind n ih =>
    intro acc h
    refine Ev.step (fun _ => rfl) ?_
    simp only [impl_VarText.l0, tdiv128 n (by omega), tmod128 n]
    refine Ev.ite (fun hc => ?_) (fun hc => ?_)
    · rw [varL_big (by omega)]
      exact Ev.pos (by omega) (Ev.eq (ih (n / 128) (by omega) _ (by simp; omega)) (by simp))
    · rw [varL_small (by omega)]
      exact Ev.pos (by omega) (Ev.done (by rw [Int.emod_eq_of_lt (by omega) (by omega)]))
theorem impl_VarText_ev (n : Int) : Ev (fun k => impl_VarText.f k n) (varTextOf n) := by
  unfold impl_VarText.f varTextOf
  refine Ev.call (impl_within_eq _ _ _) ?_
  cases hb : inR n 0 1000000000
  · exact Ev.neg (by simp) (Ev.done (by simp))
  · have := inR_true.1 hb
    obtain ⟨m, rfl⟩ := Int.eq_ofNat_of_zero_le this.1
    exact Ev.pos rfl (Ev.eq (impl_VarText_loop m [] (by simp; omega)) (by simp [varText]))
theorem impl_VarText_nat (n : Nat) (h : n ≤ 1000000000) : Ev (fun k => impl_VarText.f k (n : Int)) (varText n, true) :=
  Ev.eq (impl_VarText_ev (n : Int)) (by rw [varTextOf, if_pos (inR_true.2 (by omega))]; rfl)
theorem impl_vars_loop (xs : List Int) (hx : xs.length ≤ 1048576) : ∀ (rest : List Int) (n : Nat) (acc : List Int), xs.drop n = rest → acc.length + 5 * rest.length < 140737488355328 →
    Ev (fun k => impl_vars.l0 k acc xs (xs.length : Int) (n : Int)) (if rest.all (fun n => inR n 0 1000000000) = true then (strOfNums (acc ++ rest.flatMap fun n => varL n.toNat), true) else (⟨#[]⟩, false)) := by
  intro rest
  induction rest with
  | nil =>
    intro n acc h ha
    have := drop_nil h
    refine Ev.step (fun _ => rfl) ?_
    simp only [impl_vars.l0]
    exact Ev.neg (by omega) (Ev.done (by simp))
  | cons x t ih =>
    intro n acc h ha
    obtain ⟨h1, -, h3⟩ := drop_cons h
    refine Ev.step (fun _ => rfl) ?_
    simp only [impl_vars.l0, drop_rd h, wrap64_succ (show n ≤ 9223372036854775806 by omega)]
    refine Ev.pos (by omega) (Ev.pos (by omega) (Ev.pos (by omega) (Ev.bind (impl_VarText_ev x) ?_)))
    unfold varTextOf
    cases hb : inR x 0 1000000000
    · exact Ev.neg (by simp) (Ev.done (by simp [hb]))
    · have hr := inR_true.1 hb
      have hv := varL_len (show x.toNat ≤ 34359738367 by omega)
      simp only [if_true, varText, strOfNums_size, bytesOf_strOfNums _ (varL_bytes _)]
      rw [List.length_cons] at ha
      refine Ev.pos (by omega) (Ev.eq (ih (n + 1) (acc ++ varL x.toNat) h3 (by rw [List.length_append]; omega)) ?_)
      simp [hb]
theorem impl_vars_ev (xs : List Int) (hx : xs.length ≤ 1048576) : Ev (fun k => impl_vars.f k xs) (varsOf xs) :=
  Ev.eq (impl_vars_loop xs hx xs 0 [] rfl (by simp; omega)) (by simp [varsOf])
theorem spec_l02Four_eq (x : Int) : spec_l02Four.f x = some (four x) := rfl
theorem spec_SumMore_bits (s : ByteArray) (i : Nat) (hi : i ≤ 9223372036854775806) (r : Int) : ∀ (d : Nat) (x : Int) (j : Nat), j + d = 8 →
    Ev (fun k => spec_SumMore.l0 k (sumBits d x) s ((i + 1 : Nat) : Int)) r → Ev (fun k => spec_SumMore.l1 k x s (i : Int) (j : Int)) r := by
  intro d
  induction d with
  | zero =>
    intro x j hj h
    refine Ev.step (fun _ => rfl) ?_
    simp only [spec_SumMore.l1, wrap64_succ hi]
    exact Ev.neg (by omega) h
  | succ d ih =>
    intro x j hj h
    refine Ev.step (fun _ => rfl) ?_
    simp only [spec_SumMore.l1, wrap64_succ (show j ≤ 9223372036854775806 by omega)]
    refine Ev.pos (by omega) (Ev.ite (fun hc => ih _ (j + 1) (by omega) ?_) (fun hc => ih _ (j + 1) (by omega) ?_))
    · rw [sumBits, sumBit, if_pos hc] at h; exact h
    · rw [sumBits, sumBit, if_neg hc] at h; exact h
theorem spec_SumMore_loop (s : ByteArray) (hs : s.size ≤ 9223372036854775806) : ∀ (rest : List Int) (n : Nat) (x : Int), (bytesOf s).drop n = rest →
    Ev (fun k => spec_SumMore.l0 k x s (n : Int)) (sumMore x rest) := by
  intro rest
  induction rest with
  | nil =>
    intro n x h
    have := bytesOf_drop_nil h
    refine Ev.step (fun _ => rfl) ?_
    simp only [spec_SumMore.l0]
    exact Ev.neg (by omega) (Ev.done rfl)
  | cons b t ih =>
    intro n x h
    obtain ⟨h1, h2, h3, h4, h5⟩ := bytesOf_drop_lt h
    refine Ev.step (fun _ => rfl) ?_
    simp only [spec_SumMore.l0, h2]
    exact Ev.pos (by omega) (Ev.pos (by omega) (spec_SumMore_bits s n (by omega) _ 8 _ 0 rfl (ih (n + 1) _ h3)))
theorem spec_SumMore_ev (x : Int) (s : ByteArray) (hs : s.size ≤ 9223372036854775806) : Ev (fun k => spec_SumMore.f k x s) (sumMore x (bytesOf s)) := spec_SumMore_loop s hs _ 0 x rfl
theorem spec_SumOf_ev (s : ByteArray) (hs : s.size ≤ 9223372036854775806) : Ev (fun k => spec_SumOf.f k s) (sumOf s) := Ev.bind (spec_SumMore_ev _ s hs) (Ev.now _)
theorem impl_SumMore_bits (s : ByteArray) (i : Nat) (hi : i ≤ 9223372036854775806) (r : Int) : ∀ (d : Nat) (x : Int) (j : Nat), j + d = 8 →
    Ev (fun k => impl_SumMore.l0 k (sumBits d x) s ((i + 1 : Nat) : Int)) r → Ev (fun k => impl_SumMore.l1 k x s (i : Int) (j : Int)) r := by
  intro d
  induction d with
  | zero =>
    intro x j hj h
    refine Ev.step (fun _ => rfl) ?_
    simp only [impl_SumMore.l1, wrap64_succ hi]
    exact Ev.neg (by omega) h
  | succ d ih =>
    intro x j hj h
    refine Ev.step (fun _ => rfl) ?_
    simp only [impl_SumMore.l1, wrap64_succ (show j ≤ 9223372036854775806 by omega)]
    refine Ev.pos (by omega) (Ev.ite (fun hc => ih _ (j + 1) (by omega) ?_) (fun hc => ih _ (j + 1) (by omega) ?_))
    · rw [sumBits, sumBit, if_pos hc] at h; exact h
    · rw [sumBits, sumBit, if_neg hc] at h; exact h
theorem impl_SumMore_loop (s : ByteArray) (hs : s.size ≤ 9223372036854775806) : ∀ (rest : List Int) (n : Nat) (x : Int), (bytesOf s).drop n = rest →
    Ev (fun k => impl_SumMore.l0 k x s (n : Int)) (sumMore x rest) := by
  intro rest
  induction rest with
  | nil =>
    intro n x h
    have := bytesOf_drop_nil h
    refine Ev.step (fun _ => rfl) ?_
    simp only [impl_SumMore.l0]
    exact Ev.neg (by omega) (Ev.done rfl)
  | cons b t ih =>
    intro n x h
    obtain ⟨h1, h2, h3, h4, h5⟩ := bytesOf_drop_lt h
    refine Ev.step (fun _ => rfl) ?_
    simp only [impl_SumMore.l0, h2]
    exact Ev.pos (by omega) (Ev.pos (by omega) (impl_SumMore_bits s n (by omega) _ 8 _ 0 rfl (ih (n + 1) _ h3)))
theorem impl_SumMore_ev (x : Int) (s : ByteArray) (hs : s.size ≤ 9223372036854775806) : Ev (fun k => impl_SumMore.f k x s) (sumMore x (bytesOf s)) := impl_SumMore_loop s hs _ 0 x rfl
theorem impl_SumOf_ev (s : ByteArray) (hs : s.size ≤ 9223372036854775806) : Ev (fun k => impl_SumOf.f k s) (sumOf s) := Ev.bind (impl_SumMore_ev _ s hs) (Ev.now _)
theorem spec_l05Short_ev (s : ByteArray) (hs : s.size ≤ 1073741824) : Ev (fun k => spec_l05Short.f k s) (shortText s) := by
  have h := varText_size (show s.size ≤ 34359738367 by omega)
  exact Ev.bind (spec_l01Var_nat _ (by omega)) (Ev.pos (by omega) (Ev.now _))
theorem impl_ShortText_ev (s : ByteArray) (hs : s.size ≤ 20000) : Ev (fun k => impl_ShortText.f k s) (shortText s, true) := by
  have h := varText_size (show s.size ≤ 34359738367 by omega)
  exact Ev.neg (by omega) (Ev.bind (impl_VarText_nat _ (by omega)) (Ev.pos (by dsimp only; omega) (Ev.now _)))
theorem impl_short_ev (s : ByteArray) (hs : s.size ≤ 20000) : Ev (fun k => impl_short.f k s) (shortText s) := Ev.bind (impl_ShortText_ev s hs) (Ev.now _)
theorem spec_l05Key_eq (s : ByteArray) : spec_l05Key.f s = some (inR s.size 1 10) := by
  unfold spec_l05Key.f; rw [spec_l01In_eq]; rfl
theorem impl_keyOk_eq (s : ByteArray) : impl_keyOk.f s = some (inR s.size 1 10) := by
  unfold impl_keyOk.f; rw [impl_within_eq]; rfl
def spotOk (x : S89) : Bool := inR x.f0.size 1 10 && (inR x.f1 0 999 && (inR x.f2 0 20000 && inR x.f3 0 40))
def keyRise : Option ByteArray → ByteArray → Bool
  | none, _ => true
  | some q, s => Op.bytesLess q.toList s.toList
def dirIn : Option ByteArray → List S89 → Bool
  | _, [] => true
  | p, x :: t => spotOk x && (keyRise p x.f0 && dirIn (some x.f0) t)
def dirOk (l : List S89) : Bool := decide (l.length ≤ 60) && dirIn none l
def keyOf (xs : List S89) : Nat → Option ByteArray
  | 0 => none
  | n + 1 => some (rd_T89 xs (n : Int)).f0
theorem dirIn_mem : ∀ {l : List S89} {p : Option ByteArray}, dirIn p l = true → ∀ x ∈ l, spotOk x = true
  | [], _, _, x, hx => by cases hx
  | y :: t, p, h, x, hx => by
    rw [dirIn, Bool.and_eq_true, Bool.and_eq_true] at h
    rcases List.mem_cons.1 hx with rfl | hx
    · exact h.1
    · exact dirIn_mem h.2.2 x hx
theorem spec_DirOk_loop (l : List S89) (hl : l.length ≤ 1048576) : ∀ (rest : List S89) (n : Nat), l.drop n = rest → Ev (fun k => spec_DirOk.l0 k l (n : Int)) (dirIn (keyOf l n) rest) := by
  intro rest
  induction rest with
  | nil =>
    intro n h
    have := drop_nil h
    refine Ev.step (fun _ => rfl) ?_
    simp only [spec_DirOk.l0]
    exact Ev.neg (by omega) (Ev.done (by simp [dirIn]))
  | cons x t ih =>
    intro n h
    obtain ⟨h1, -, h3⟩ := drop_cons h
    have hk : keyOf l (n + 1) = some x.f0 := by rw [keyOf, rdT89_drop h]
    have ih := ih (n + 1) h3
    rw [hk] at ih
    have tail : ∀ r, r = (inR x.f1 0 999 && (inR x.f2 0 20000 && (inR x.f3 0 40 && dirIn (some x.f0) t))) → Ev (fun k => (spec_l01In.f x.f1 0 999).bind fun t1 => (if t1 = true then ((spec_l01In.f x.f2 0 20000).bind fun t2 => (if t2 = true then ((spec_l01In.f x.f3 0 40).bind fun t3 => (if t3 = true then (spec_DirOk.l0 k l ((n + 1 : Nat) : Int)) else (some false))) else (some false))) else (some false))) r := by
      rintro r rfl
      refine Ev.call (spec_l01In_eq _ _ _) ?_
      cases inR x.f1 0 999
      · exact Ev.neg (by simp) (Ev.done (by simp))
      refine Ev.pos rfl (Ev.call (spec_l01In_eq _ _ _) ?_)
      cases inR x.f2 0 20000
      · exact Ev.neg (by simp) (Ev.done (by simp))
      refine Ev.pos rfl (Ev.call (spec_l01In_eq _ _ _) ?_)
      cases inR x.f3 0 40
      · exact Ev.neg (by simp) (Ev.done (by simp))
      exact Ev.pos rfl (Ev.eq ih (by simp))
    refine Ev.step (fun _ => rfl) ?_
    simp only [spec_DirOk.l0, rdT89_drop h, wrap64_succ (show n ≤ 9223372036854775806 by omega)]
    refine Ev.pos (by omega) (Ev.pos (by omega) (Ev.call (spec_l05Key_eq _) ?_))
    rw [dirIn, spotOk]
    cases h0 : inR x.f0.size 1 10
    · exact Ev.neg (by simp) (Ev.done (by simp))
    refine Ev.pos rfl ?_
    cases n with
    | zero => exact Ev.neg (by omega) (tail _ (by simp [keyOf, keyRise, Bool.and_assoc]))
    | succ m =>
      simp only [wrap64_pred (show m ≤ 9223372036854775806 by omega)]
      refine Ev.pos (by omega) (Ev.pos (by omega) (Ev.pos (by omega) (Ev.ite (fun hc => tail _ ?_) (fun hc => Ev.done ?_))))
      · simp only [keyOf, keyRise, hc]; simp [Bool.and_assoc]
      · simp only [keyOf, keyRise, Bool.eq_false_iff.2 hc]; simp
theorem spec_DirOk_ev (l : List S89) (hl : l.length ≤ 1048576) : Ev (fun k => spec_DirOk.f k l) (dirOk l) := by
  unfold spec_DirOk.f dirOk
  refine Ev.ite (fun hc => Ev.done ?_) (fun hc => Ev.eq (spec_DirOk_loop l hl l 0 rfl) ?_)
  · rw [decide_eq_false (show ¬ l.length ≤ 60 by omega)]; rfl
  · rw [decide_eq_true (show l.length ≤ 60 by omega)]; rfl
theorem impl_DirOk_loop (l : List S89) (hl : l.length ≤ 1048576) : ∀ (rest : List S89) (n : Nat), l.drop n = rest → Ev (fun k => impl_DirOk.l0 k l l (l.length : Int) (n : Int)) (decide (l.length ≤ 60) && dirIn (keyOf l n) rest) := by
  intro rest
  induction rest with
  | nil =>
    intro n h
    have := drop_nil h
    refine Ev.step (fun _ => rfl) ?_
    simp only [impl_DirOk.l0]
    refine Ev.neg (by omega) (Ev.done ?_)
    rw [dirIn, Bool.and_true]
    exact decide_eq_decide.2 (by omega)
  | cons x t ih =>
    intro n h
    obtain ⟨h1, -, h3⟩ := drop_cons h
    have hk : keyOf l (n + 1) = some x.f0 := by rw [keyOf, rdT89_drop h]
    have ih := ih (n + 1) h3
    rw [hk] at ih
    refine Ev.step (fun _ => rfl) ?_
    simp only [impl_DirOk.l0, rdT89_drop h, wrap64_succ (show n ≤ 9223372036854775806 by omega)]
    refine Ev.pos (by omega) (Ev.pos (by omega) (Ev.pos (by omega) (Ev.call (impl_keyOk_eq _) ?_)))
    rw [dirIn, spotOk]
    cases h0 : inR x.f0.size 1 10
    · exact Ev.neg (by simp) (Ev.done (by simp))
    refine Ev.pos rfl (Ev.call (impl_within_eq _ _ _) ?_)
    cases inR x.f1 0 999
    · exact Ev.neg (by simp) (Ev.done (by simp))
    refine Ev.pos rfl (Ev.call (impl_within_eq _ _ _) ?_)
    cases inR x.f2 0 20000
    · exact Ev.neg (by simp) (Ev.done (by simp))
    refine Ev.pos rfl (Ev.call (impl_within_eq _ _ _) ?_)
    cases inR x.f3 0 40
    · exact Ev.neg (by simp) (Ev.done (by simp))
    refine Ev.pos rfl ?_
    cases n with
    | zero => exact Ev.neg (by omega) (Ev.eq ih (by simp [keyOf, keyRise]))
    | succ m =>
      simp only [wrap64_pred (show m ≤ 9223372036854775806 by omega)]
      refine Ev.pos (by omega) (Ev.pos (by omega) (Ev.pos (by omega) (Ev.ite (fun hc => Ev.eq ih ?_) (fun hc => Ev.done ?_))))
      · simp only [keyOf, keyRise, hc]; simp
      · simp only [keyOf, keyRise, Bool.eq_false_iff.2 hc]; simp
theorem impl_DirOk_ev (l : List S89) (hl : l.length ≤ 1048576) : Ev (fun k => impl_DirOk.f k l) (dirOk l) :=
  impl_DirOk_loop l hl l 0 rfl
def sealT (s : ByteArray) : ByteArray × Bool := if s.size > 20000 then (⟨#[]⟩, false) else (s ++ four (sumOf s), true)
theorem spec_Sealed_ev (s : ByteArray) (hs : s.size ≤ 1152921504606846976) : Ev (fun k => spec_Sealed.f k s) (sealT s) := by
  unfold spec_Sealed.f sealT
  have h4 := four_size (sumOf s)
  refine Ev.ite (fun hc => Ev.done ?_) (fun hc => Ev.bind (spec_SumOf_ev s (by omega)) (Ev.call (spec_l02Four_eq _) (Ev.pos (by omega) (Ev.done ?_))))
  · rw [if_pos (show s.size > 20000 by omega)]
  · rw [if_neg (show ¬ s.size > 20000 by omega)]
theorem impl_Sealed_ev (s : ByteArray) (hs : s.size ≤ 1152921504606846976) : Ev (fun k => impl_Sealed.f k s) (sealT s) := by
  unfold impl_Sealed.f sealT
  have h4 := four_size (sumOf s)
  refine Ev.ite (fun hc => Ev.done ?_) (fun hc => Ev.bind (impl_SumOf_ev s (by omega)) (Ev.call rfl ?_))
  · rw [if_pos (show s.size > 20000 by omega)]
  · rw [if_neg (show ¬ s.size > 20000 by omega)]
    rw [four] at h4
    exact Ev.pos (by omega) (Ev.done rfl)
def hintRow (x : S89) : ByteArray := shortText x.f0 ++ varText x.f1.toNat ++ varText x.f2.toNat ++ varText x.f3.toNat
def hintRows : ByteArray → List S89 → ByteArray
  | s, [] => s
  | s, x :: t => hintRows (s ++ hintRow x) t
def hintText (l : List S89) : ByteArray × Bool := if dirOk l = true then sealT (hintRows (varText l.length) l) else (⟨#[]⟩, false)
theorem spotOk_sizes {x : S89} (h : spotOk x = true) : (1 ≤ x.f0.size ∧ x.f0.size ≤ 10) ∧ (0 ≤ x.f1 ∧ x.f1 ≤ 999) ∧ (0 ≤ x.f2 ∧ x.f2 ≤ 20000) ∧ (0 ≤ x.f3 ∧ x.f3 ≤ 40) := by
  simp only [spotOk, Bool.and_eq_true] at h
  obtain ⟨h1, h2, h3, h4⟩ := h
  have := inR_true.1 h1; have := inR_true.1 h2; have := inR_true.1 h3; have := inR_true.1 h4
  omega
theorem spec_HintText_loop (l : List S89) (hl : l.length ≤ 1048576) : ∀ (rest : List S89) (n : Nat) (acc : ByteArray), l.drop n = rest → (∀ x ∈ rest, spotOk x = true) → acc.size + 40 * rest.length ≤ 1000000 → Ev (fun k => spec_HintText.l0 k l acc (n : Int)) (sealT (hintRows acc rest)) := by
  intro rest
  induction rest with
  | nil =>
    intro n acc h hm hs
    have := drop_nil h
    refine Ev.step (fun _ => rfl) ?_
    simp only [spec_HintText.l0]
    exact Ev.neg (by omega) (Ev.bind (spec_Sealed_ev acc (by omega)) (Ev.now _))
  | cons x t ih =>
    intro n acc h hm hs
    obtain ⟨h1, -, h3⟩ := drop_cons h
    rw [List.length_cons] at hs
    obtain ⟨z0, z1, z2, z3⟩ := spotOk_sizes (hm x List.mem_cons_self)
    have s0 := shortText_size (show x.f0.size ≤ 34359738367 by omega)
    have s1 := varText_size (show x.f1.toNat ≤ 34359738367 by omega)
    have s2 := varText_size (show x.f2.toNat ≤ 34359738367 by omega)
    have s3 := varText_size (show x.f3.toNat ≤ 34359738367 by omega)
    have ih := ih (n + 1) (acc ++ hintRow x) h3 (fun y hy => hm y (List.mem_cons_of_mem _ hy)) (by rw [hintRow]; simp only [size_append]; omega)
    refine Ev.step (fun _ => rfl) ?_
    simp only [spec_HintText.l0, rdT89_drop h, wrap64_succ (show n ≤ 9223372036854775806 by omega)]
    refine Ev.pos (by omega) (Ev.pos (by omega) (Ev.bind (spec_l05Short_ev x.f0 (by omega)) (Ev.pos (by omega) (Ev.bind (spec_l01Var_ev x.f1 (by omega) (by omega)) (Ev.pos (by simp only [size_append]; omega) (Ev.bind (spec_l01Var_ev x.f2 (by omega) (by omega)) (Ev.pos (by simp only [size_append]; omega) (Ev.bind (spec_l01Var_ev x.f3 (by omega) (by omega)) (Ev.pos (by simp only [size_append]; omega) ?_)))))))))
    have e : acc ++ shortText x.f0 ++ varText x.f1.toNat ++ varText x.f2.toNat ++ varText x.f3.toNat = acc ++ hintRow x := by simp only [hintRow, ByteArray.append_assoc]
    rw [e]
    exact ih
theorem dirOk_len {l : List S89} (h : dirOk l = true) : l.length ≤ 60 ∧ ∀ x ∈ l, spotOk x = true := by
  rw [dirOk, Bool.and_eq_true] at h
  exact ⟨of_decide_eq_true h.1, dirIn_mem h.2⟩
theorem spec_HintText_ev (l : List S89) (hl : l.length ≤ 1048576) : Ev (fun k => spec_HintText.f k l) (hintText l) := by
  unfold spec_HintText.f hintText
  refine Ev.bind (spec_DirOk_ev l hl) ?_
  cases hk : dirOk l
  · exact Ev.neg (by simp) (Ev.done (by simp))
  · obtain ⟨h1, h2⟩ := dirOk_len hk
    have s1 := varText_size (show l.length ≤ 34359738367 by omega)
    exact Ev.pos rfl (Ev.bind (spec_l01Var_nat _ (by omega)) (Ev.eq (spec_HintText_loop l hl l 0 _ rfl h2 (by omega)) (by simp)))
theorem impl_HintText_loop (l : List S89) (hl : l.length ≤ 1048576) : ∀ (rest : List S89) (n : Nat) (acc : ByteArray), l.drop n = rest → (∀ x ∈ rest, spotOk x = true) → acc.size + 40 * rest.length ≤ 1000000 → Ev (fun k => impl_HintText.l0 k acc l (l.length : Int) (n : Int)) (sealT (hintRows acc rest)) := by
  intro rest
  induction rest with
  | nil =>
    intro n acc h hm hs
    have := drop_nil h
    refine Ev.step (fun _ => rfl) ?_
    simp only [impl_HintText.l0]
    exact Ev.neg (by omega) (Ev.bind (impl_Sealed_ev acc (by omega)) (Ev.now _))
  | cons x t ih =>
    intro n acc h hm hs
    obtain ⟨h1, -, h3⟩ := drop_cons h
    rw [List.length_cons] at hs
    obtain ⟨z0, z1, z2, z3⟩ := spotOk_sizes (hm x List.mem_cons_self)
    have s0 := shortText_size (show x.f0.size ≤ 34359738367 by omega)
    have s1 := varText_size (show x.f1.toNat ≤ 34359738367 by omega)
    have s2 := varText_size (show x.f2.toNat ≤ 34359738367 by omega)
    have s3 := varText_size (show x.f3.toNat ≤ 34359738367 by omega)
    have ih := ih (n + 1) (acc ++ hintRow x) h3 (fun y hy => hm y (List.mem_cons_of_mem _ hy)) (by rw [hintRow]; simp only [size_append]; omega)
    have ev : varsOf [x.f1, x.f2, x.f3] = (varText x.f1.toNat ++ (varText x.f2.toNat ++ varText x.f3.toNat), true) := by
      rw [varsOf, if_pos (by simp [inR_true]; omega)]
      simp [varText, strOfNums_append]
    refine Ev.step (fun _ => rfl) ?_
    simp only [impl_HintText.l0, rdT89_drop h, wrap64_succ (show n ≤ 9223372036854775806 by omega)]
    refine Ev.pos (by omega) (Ev.pos (by omega) (Ev.pos (by omega) (Ev.bind (Ev.eq (impl_vars_ev _ (by simp)) ev) (Ev.bind (impl_short_ev x.f0 (by omega)) (Ev.pos (by simp only [size_append]; omega) (Ev.pos (by simp only [size_append]; omega) ?_))))))
    have e : acc ++ (shortText x.f0 ++ (varText x.f1.toNat ++ (varText x.f2.toNat ++ varText x.f3.toNat))) = acc ++ hintRow x := by simp only [hintRow, ByteArray.append_assoc]
    simp only [e]
    exact ih
theorem impl_HintText_ev (l : List S89) (hl : l.length ≤ 1048576) : Ev (fun k => impl_HintText.f k l) (hintText l) := by
  unfold impl_HintText.f hintText
  refine Ev.bind (impl_DirOk_ev l hl) ?_
  cases hk : dirOk l
  · exact Ev.neg (by simp) (Ev.done (by simp))
  · obtain ⟨h1, h2⟩ := dirOk_len hk
    have s1 := varText_size (show l.length ≤ 34359738367 by omega)
    have ev : varsOf [(l.length : Int)] = (varText l.length, true) := by
      rw [varsOf, if_pos (by simp [inR_true]; omega)]
      simp [varText]
    exact Ev.pos rfl (Ev.bind (Ev.eq (impl_vars_ev _ (by simp)) ev) (Ev.eq (impl_HintText_loop l hl l 0 _ rfl h2 (by dsimp only; omega)) (by simp)))
theorem FnExactHintText_q (l : List S87) (q : l.length * 40 ≤ 140737488351232 ∧ ∀ x ∈ l, x.f0.size ≤ 140737488351232 ∧ (Lit.int .i64 x.f1).wf = true ∧ (Lit.int .i64 x.f2).wf = true ∧ (Lit.int .i64 x.f3).wf = true) :
    ∃ k, laws_FnExactHintText.f k l = some true := by
  apply Ev.rounds
  unfold laws_FnExactHintText.f
  obtain ⟨r, hr, hb⟩ := laws_szSpotS_ev l (by omega) (fun x hx => (q.2 x hx).1) 1048576 (by omega) (by omega)
  refine Ev.bind hr (Ev.ite (fun _ => Ev.now _) (fun hn => ?_))
  have hb := hb hn
  have hl : l.length ≤ 1048576 := by omega
  have hm : (l.map toSpot).length ≤ 1048576 := by simpa using hl
  refine Ev.bind (laws_toSpotS_ev l hl) (Ev.bind (spec_HintText_ev _ hm) (Ev.bind (laws_toSpotS_ev l hl) (Ev.bind (impl_HintText_ev _ hm) (Ev.pos rfl ?_))))
  refine Ev.step (fun _ => rfl) ?_
  simp only [laws_FnExactHintText.j0]
  exact Ev.neg (by simp) (Ev.bind (laws_toSpotS_ev l hl) (Ev.bind (laws_eqSpotS_refl _ (by omega)) (Ev.pos rfl (Ev.now _))))

end Go.Proofs.Ythgmanojhicchaa.Pure
