/- The pure statement of the law FnExactFormatShelf: it answers true. For all arguments; no further condition. -/
import Derived.Test.YtbcgnncbiblibaaDoorPFnExactFormatShelfx7
import Derived.Test.YtbcgnncbiblibaaDoorBase
namespace Go.Proofs.YtbcgnncbiblibaaDoor.Pure
open Go.RowKit Go.Proofs.YtbcgnncbiblibaaDoor.PFnExactFormatShelf Go.Proofs.YtbcgnncbiblibaaDoorW.PrintWords Go.Proofs.YtbcgnncbiblibaaDoorW.PrintLast Go.Proofs.YtbcgnncbiblibaaDoor.Base
set_option linter.unusedVariables false

theorem laws_markText_loop : ∀ (n : Nat) (acc : ByteArray), acc.size + n ≤ 4611686018427387904 → Ev (fun k => laws_markText.l0 k (n : Int) acc) (markTextL n acc) := by
  intro n
  induction n using Nat.strongRecOn with
  | ind n ih =>
    intro acc h
    refine Ev.step (fun _ => rfl) ?_
    simp only [laws_markText.l0, tdiv10 n (by omega), tmod10 n, Option.bind_some, strOfNums_size, List.length_singleton]
    rw [markTextL]
    refine Ev.ite (fun hc => ?_) (fun hc => ?_)
    · rw [if_pos (show n > 0 by omega)]
      exact Ev.pos (by omega) (ih (n / 10) (by omega) _ (by rw [size_append, strOfNums_size, List.length_singleton]; omega))
    · rw [if_neg (show ¬ n > 0 by omega)]
      exact Ev.pos (by omega) (Ev.now _)
theorem laws_markText_ev (m : Int) (hm : m ≤ 4611686018427387904) : Ev (fun k => laws_markText.f k m) (markTextOf m) := by
  unfold laws_markText.f markTextOf
  by_cases hc : m ≤ 0
  · rw [if_pos hc]; exact Ev.pos hc (Ev.now _)
  · rw [if_neg hc]
    obtain ⟨n, rfl⟩ := Int.eq_ofNat_of_zero_le (show 0 ≤ m by omega)
    exact Ev.neg hc (laws_markText_loop n _ (by show 0 + n ≤ _; omega))
theorem rdT62_drop {xs : List S62} {n : Nat} {x : S62} {t : List S62} (h : xs.drop n = x :: t) : rd_T62 xs (n : Int) = x := by
  unfold rd_T62
  rw [Int.toNat_natCast]
  exact (drop_cons h).2.1 _
theorem rdT62_at {a : List S62} {n : Nat} (h : a.length = n) (v : S62) (t : List S62) : rd_T62 (a ++ v :: t) (n : Int) = v := by
  unfold rd_T62
  rw [Int.toNat_natCast]
  exact getD_at h v t _
theorem rdT62_get {xs : List S62} {n : Nat} (h : n < xs.length) : xs[n]? = some (rd_T62 xs (n : Int)) := by
  unfold rd_T62
  rw [Int.toNat_natCast]
  exact getD_get h
theorem laws_eqFile_refl (x0 : ByteArray) (x1 : ByteArray) : laws_eqFile.f x0 x1 x0 x1 = some true := by simp [laws_eqFile.f]
theorem laws_eqFileS_loop (xs : List S62) (hx : xs.length ≤ 9223372036854775806) : ∀ (rest : List S62) (n : Nat), xs.drop n = rest → Ev (fun k => laws_eqFileS.l0 k xs xs (n : Int)) true := by
  intro rest
  induction rest with
  | nil =>
    intro n h
    have := drop_nil h
    refine Ev.step (fun _ => rfl) ?_
    simp only [laws_eqFileS.l0]
    exact Ev.neg (by omega) (Ev.now _)
  | cons x t ih =>
    intro n h
    obtain ⟨h1, -, h3⟩ := drop_cons h
    refine Ev.step (fun _ => rfl) ?_
    simp only [laws_eqFileS.l0, wrap64_succ (show n ≤ 9223372036854775806 by omega)]
    exact Ev.pos (by omega) (Ev.pos (by omega) (Ev.pos (by omega) (Ev.call (laws_eqFile_refl _ _) (Ev.pos rfl (ih (n + 1) h3)))))
theorem laws_eqFileS_refl (xs : List S62) (hx : xs.length ≤ 9223372036854775806) : Ev (fun k => laws_eqFileS.f k xs xs) true :=
  Ev.pos rfl (laws_eqFileS_loop xs hx xs 0 rfl)
def mkFile (m : Int) : S62 := ⟨markTextOf (m), markTextOf (m + 1)⟩
def markedFile : List S62 → Int → List S62
  | [], _ => []
  | _ :: t, m => mkFile m :: markedFile t (m + 1 + 1)
theorem markedFile_length : ∀ (l : List S62) (m : Int), (markedFile l m).length = l.length
  | [], _ => rfl
  | x :: t, m => by rw [markedFile, List.length_cons, List.length_cons, markedFile_length t]
theorem laws_markFileS_loop : ∀ (rest done : List S62) (n : Nat) (m : Int), done.length = n → 0 ≤ m → m + 2 * (rest.length : Int) ≤ 4611686018427387904 → n + rest.length ≤ 1152921504606846976 →
    Ev (fun k => laws_markFileS.l0 k (done ++ rest) m (n : Int)) (m + 2 * (rest.length : Int), done ++ markedFile rest m) := by
  intro rest
  induction rest with
  | nil =>
    intro done n m hd h0 hm hb
    refine Ev.step (fun _ => rfl) ?_
    simp only [laws_markFileS.l0]
    exact Ev.neg (by rw [List.append_nil]; omega) (Ev.done (by simp [markedFile]))
  | cons x t ih =>
    intro done n m hd h0 hm hb
    have hn : n ≤ 9223372036854775806 := by rw [List.length_cons] at hb; omega
    have hm' : m + 2 ≤ 4611686018427387904 := by rw [List.length_cons] at hm; omega
    have w1 : wrap64 (m + 1) = m + 1 := wrap64_id (by omega) (by omega)
    have w2 : wrap64 (m + 1 + 1) = m + 1 + 1 := wrap64_id (by omega) (by omega)
    have ih := ih (done ++ [mkFile m]) (n + 1) (m + 1 + 1) (by simp [hd]) (by omega) (by rw [List.length_cons] at hm; omega) (by rw [List.length_cons] at hb; omega)
    refine Ev.step (fun _ => rfl) ?_
    simp only [laws_markFileS.l0, wrap64_succ hn, Int.toNat_natCast, set_at hd, rdT62_at hd, Option.bind_some, w1, w2]
    refine Ev.pos (by rw [List.length_append, List.length_cons]; omega) (Ev.bind (laws_markText_ev (m) (by omega)) (Ev.pos (by omega) (Ev.bind (laws_markText_ev (m + 1) (by omega)) (?_))))
    try simp only [Option.bind_some, set_at hd, rdT62_at hd]
    refine Ev.eq (Ev.congr (fun k => ?_) ih) ?_
    · simp only [List.append_assoc, List.cons_append, List.nil_append]; rfl
    · rw [markedFile, List.append_assoc, List.length_cons]
      refine Prod.ext ?_ rfl
      show (m + 1 + 1) + 2 * (t.length : Int) = m + 2 * ((t.length + 1 : Nat) : Int)
      omega
theorem laws_markFileS_ev (l : List S62) (m : Int) (h0 : 0 ≤ m) (hm : m + 2 * (l.length : Int) ≤ 4611686018427387904) (hl : l.length ≤ 1152921504606846976) : Ev (fun k => laws_markFileS.f k l m) (m + 2 * (l.length : Int), markedFile l m) :=
  laws_markFileS_loop l [] 0 m rfl h0 hm (by omega)
theorem laws_heldFileS_loop (xs : List S62) (hx : xs.length ≤ 1152921504606846976) : ∀ (rest : List S62) (n : Nat) (m : Int), xs.drop n = markedFile rest m → 0 ≤ m → m + 2 * (rest.length : Int) ≤ 4611686018427387904 →
    Ev (fun k => laws_heldFileS.l0 k xs m (n : Int)) (m + 2 * (rest.length : Int)) := by
  intro rest
  induction rest with
  | nil =>
    intro n m h h0 hm
    have := drop_nil h
    refine Ev.step (fun _ => rfl) ?_
    simp only [laws_heldFileS.l0]
    exact Ev.neg (by omega) (Ev.done (by simp))
  | cons x t ih =>
    intro n m h h0 hm
    rw [markedFile] at h
    obtain ⟨h1, -, h3⟩ := drop_cons h
    have hm' : m + 2 ≤ 4611686018427387904 := by rw [List.length_cons] at hm; omega
    have w1 : wrap64 (m + 1) = m + 1 := wrap64_id (by omega) (by omega)
    have w2 : wrap64 (m + 1 + 1) = m + 1 + 1 := wrap64_id (by omega) (by omega)
    have ih := ih (n + 1) (m + 1 + 1) h3 (by omega) (by rw [List.length_cons] at hm; omega)
    refine Ev.step (fun _ => rfl) ?_
    simp only [laws_heldFileS.l0, wrap64_succ (show n ≤ 9223372036854775806 by omega), rdT62_drop h, w1, w2]
    refine Ev.pos (by omega) (Ev.pos (by omega) (Ev.bind (laws_markText_ev (m) (by omega)) (Ev.pos rfl (Ev.bind (laws_markText_ev (m + 1) (by omega)) (Ev.pos rfl (?_))))))
    refine Ev.eq ih ?_
    rw [List.length_cons]
    show (m + 1 + 1) + 2 * (t.length : Int) = m + 2 * ((t.length + 1 : Nat) : Int)
    omega
theorem laws_heldFileS_ev (l : List S62) (m : Int) (h0 : 0 ≤ m) (hm : m + 2 * (l.length : Int) ≤ 4611686018427387904) (hl : l.length ≤ 1152921504606846976) : Ev (fun k => laws_heldFileS.f k (markedFile l m) m) (m + 2 * (l.length : Int)) :=
  laws_heldFileS_loop _ (by rw [markedFile_length]; omega) l 0 m rfl h0 hm
theorem spec_l01In_eq (a b c : Int) : spec_l01In.f a b c = some (inR a b c) := by
  unfold spec_l01In.f inR
  by_cases h : b ≤ a
  · rw [if_pos h]; simp [h]
  · rw [if_neg h]; simp [h]
theorem impl_within_eq (a b c : Int) : impl_within.f a b c = some (inR a b c) := by
  unfold impl_within.f inR
  by_cases h : b ≤ a
  · rw [if_pos h]; simp [h]
  · rw [if_neg h]; simp [h]
theorem spec_l07Rise_loop (xs : List Int) (lo hi : Int) (hx : xs.length ≤ 9223372036854775806) : ∀ (rest : List Int) (n : Nat), xs.drop n = rest →
    Ev (fun k => spec_l07Rise.l0 k xs lo hi (n : Int)) (rise lo hi (prevOf xs n) rest) := by
  intro rest
  induction rest with
  | nil =>
    intro n h
    have := drop_nil h
    refine Ev.step (fun _ => rfl) ?_
    simp only [spec_l07Rise.l0]
    exact Ev.neg (by omega) (Ev.done (by cases n <;> rfl))
  | cons x t ih =>
    intro n h
    obtain ⟨h1, -, h3⟩ := drop_cons h
    have ih := ih (n + 1) h3
    rw [prevOf_next h] at ih
    refine Ev.step (fun _ => rfl) ?_
    simp only [spec_l07Rise.l0, drop_rd h, wrap64_succ (show n ≤ 9223372036854775806 by omega)]
    refine Ev.pos (by omega) (Ev.pos (by omega) (Ev.call (spec_l01In_eq _ _ _) ?_))
    cases hb : inR x lo hi
    · exact Ev.neg (by simp) (Ev.done (by cases n <;> simp [rise, prevOf, hb]))
    · refine Ev.pos rfl ?_
      cases n with
      | zero => exact Ev.neg (by omega) (Ev.eq ih (by simp [rise, prevOf, hb]))
      | succ m =>
        refine Ev.pos (by omega) ?_
        simp only [wrap64_pred (show m ≤ 9223372036854775806 by omega)]
        refine Ev.pos (by omega) (Ev.pos (by omega) (Ev.ite (fun hc => Ev.done ?_) (fun hc => Ev.eq ih ?_)))
        · simp only [prevOf, rise, hb, decide_eq_false (show ¬ rd xs (m : Int) < x by omega)]; simp
        · simp only [prevOf, rise, hb, decide_eq_true (show rd xs (m : Int) < x by omega)]; simp
theorem spec_l07Rise_ev (xs : List Int) (lo hi : Int) (hx : xs.length ≤ 9223372036854775806) : Ev (fun k => spec_l07Rise.f k xs lo hi) (rise lo hi none xs) :=
  spec_l07Rise_loop xs lo hi hx xs 0 rfl
theorem spec_ConfOk_ev (xs : List Int) (hx : xs.length ≤ 9223372036854775806) : Ev (fun k => spec_ConfOk.f k xs) (confOk xs) := by
  unfold spec_ConfOk.f
  refine Ev.call (spec_l01In_eq _ _ _) ?_
  cases hb : inR xs.length 1 4
  · exact Ev.neg (by simp) (Ev.done (by simp [confOk, hb]))
  · exact Ev.pos rfl (Ev.bind (spec_l07Rise_ev xs 1 4 hx) (Ev.done (by simp [confOk, hb])))
theorem impl_ConfOk_loop (xs : List Int) (hx : xs.length ≤ 9223372036854775806) : ∀ (rest : List Int) (n : Nat), xs.drop n = rest →
    Ev (fun k => impl_ConfOk.l0 k xs xs (xs.length : Int) (n : Int)) (rise 1 4 (prevOf xs n) rest && inR xs.length 1 4) := by
  intro rest
  induction rest with
  | nil =>
    intro n h
    have := drop_nil h
    refine Ev.step (fun _ => rfl) ?_
    simp only [impl_ConfOk.l0]
    exact Ev.neg (by omega) (Ev.call (impl_within_eq _ _ _) (Ev.done (by cases n <;> simp [rise])))
  | cons x t ih =>
    intro n h
    obtain ⟨h1, -, h3⟩ := drop_cons h
    have ih := ih (n + 1) h3
    rw [prevOf_next h] at ih
    refine Ev.step (fun _ => rfl) ?_
    simp only [impl_ConfOk.l0, drop_rd h, wrap64_succ (show n ≤ 9223372036854775806 by omega)]
    refine Ev.pos (by omega) (Ev.pos (by omega) (Ev.pos (by omega) (Ev.call (impl_within_eq _ _ _) ?_)))
    cases hb : inR x 1 4
    · exact Ev.neg (by simp) (Ev.done (by cases n <;> simp [rise, prevOf, hb]))
    · refine Ev.pos rfl ?_
      cases n with
      | zero => exact Ev.neg (by omega) (Ev.eq ih (by simp [rise, prevOf, hb]))
      | succ m =>
        refine Ev.pos (by omega) ?_
        simp only [wrap64_pred (show m ≤ 9223372036854775806 by omega)]
        refine Ev.pos (by omega) (Ev.pos (by omega) (Ev.ite (fun hc => Ev.done ?_) (fun hc => Ev.eq ih ?_)))
        · simp only [prevOf, rise, hb, decide_eq_false (show ¬ rd xs (m : Int) < x by omega)]; simp
        · simp only [prevOf, rise, hb, decide_eq_true (show rd xs (m : Int) < x by omega)]; simp
theorem impl_ConfOk_ev (xs : List Int) (hx : xs.length ≤ 9223372036854775806) : Ev (fun k => impl_ConfOk.f k xs) (confOk xs) :=
  Ev.eq (impl_ConfOk_loop xs hx xs 0 rfl) (by rw [confOk, Bool.and_comm]; rfl)
theorem laws_toIntS_loop (xs : List Int) (hx : xs.length ≤ 1048576) : ∀ (d n : Nat), n + d = xs.length →
    Ev (fun k => laws_toIntS.l0 k xs (xs.take n ++ List.replicate d 0) (n : Int)) xs := by
  intro d
  induction d with
  | zero =>
    intro n h
    refine Ev.step (fun _ => rfl) ?_
    simp only [laws_toIntS.l0]
    exact Ev.neg (by omega) (Ev.done (by rw [List.take_of_length_le (by omega)]; simp))
  | succ d ih =>
    intro n h
    refine Ev.step (fun _ => rfl) ?_
    simp only [laws_toIntS.l0, wrap64_succ (show n ≤ 9223372036854775806 by omega)]
    refine Ev.pos (by omega) (Ev.pos (by omega) (Ev.pos (by simp; omega) (Ev.eq (Ev.congr (fun k => ?_) (ih (n + 1) (by omega))) rfl)))
    rw [Int.toNat_natCast, set_fill xs n d 0 _ h (by rw [rd_nat]; exact getD_get (by omega))]
theorem laws_toIntS_ev (xs : List Int) (hx : xs.length ≤ 1048576) : Ev (fun k => laws_toIntS.f k xs) xs := by
  unfold laws_toIntS.f
  refine Ev.pos (by omega) (Ev.pos (by omega) ?_)
  exact Ev.congr (fun k => by simp) (laws_toIntS_loop xs hx xs.length 0 (by omega))
theorem laws_eqIntS_loop (xs : List Int) (hx : xs.length ≤ 9223372036854775806) : ∀ (rest : List Int) (n : Nat), xs.drop n = rest → Ev (fun k => laws_eqIntS.l0 k xs xs (n : Int)) true := by
  intro rest
  induction rest with
  | nil =>
    intro n h
    have := drop_nil h
    refine Ev.step (fun _ => rfl) ?_
    simp only [laws_eqIntS.l0]
    exact Ev.neg (by omega) (Ev.now _)
  | cons x t ih =>
    intro n h
    obtain ⟨h1, -, h3⟩ := drop_cons h
    refine Ev.step (fun _ => rfl) ?_
    simp only [laws_eqIntS.l0, wrap64_succ (show n ≤ 9223372036854775806 by omega)]
    exact Ev.pos (by omega) (Ev.pos (by omega) (Ev.pos (by omega) (Ev.pos trivial (ih (n + 1) h3))))
theorem laws_eqIntS_refl (xs : List Int) (hx : xs.length ≤ 9223372036854775806) : Ev (fun k => laws_eqIntS.f k xs xs) true :=
  Ev.pos rfl (laws_eqIntS_loop xs hx xs 0 rfl)
theorem laws_markIntS_loop (m : Int) (hm : 0 ≤ m) (hm' : m ≤ 1152921504606846976) : ∀ (d : Nat) (n : Nat) (rest : List Int), rest.length = d → n + d ≤ 1152921504606846976 →
    Ev (fun k => laws_markIntS.l0 k (upFrom m n ++ rest) (m + n) (n : Int)) (m + ((n + d : Nat) : Int), upFrom m (n + d)) := by
  intro d
  induction d with
  | zero =>
    intro n rest h hn
    obtain rfl : rest = [] := List.eq_nil_of_length_eq_zero h
    refine Ev.step (fun _ => rfl) ?_
    simp only [laws_markIntS.l0]
    exact Ev.neg (by simp [upFrom_length]) (Ev.done (by simp))
  | succ d ih =>
    intro n rest h hn
    obtain ⟨x, t, rfl⟩ : ∃ x t, rest = x :: t := by cases rest with | nil => simp at h | cons x t => exact ⟨x, t, rfl⟩
    refine Ev.step (fun _ => rfl) ?_
    simp only [laws_markIntS.l0, wrap64_succ (show n ≤ 9223372036854775806 by omega), Int.toNat_natCast, set_mark _ x (m + n) t n (upFrom_length n m), ← upFrom_snoc]
    rw [wrap64_id (by omega) (by omega)]
    refine Ev.pos (by simp [upFrom_length]; omega) (Ev.pos (by omega) (Ev.eq (Ev.congr (fun k => ?_) (ih (n + 1) t (by simpa using h) (by omega))) ?_))
    · rw [show m + (n : Int) + 1 = m + ((n + 1 : Nat) : Int) by omega]
    · rw [show n + 1 + d = n + (d + 1) by omega]
theorem laws_markIntS_ev (l : List Int) (m : Int) (hm : 0 ≤ m) (hm' : m ≤ 1152921504606846976) (hl : l.length ≤ 1152921504606846976) : Ev (fun k => laws_markIntS.f k l m) (m + (l.length : Int), upFrom m l.length) := by
  have := laws_markIntS_loop m hm hm' l.length 0 l rfl (by omega)
  unfold laws_markIntS.f; simpa [upFrom] using this
theorem spec_l01Var_loop : ∀ (n : Nat) (acc : List Int), acc.length + n < 140737488355328 →
    Ev (fun k => spec_l01Var.l0 k (n : Int) acc) (strOfNums (acc ++ varL n)) := by
  intro n
  induction n using Nat.strongRecOn with
  | ind n ih =>
    intro acc h
    refine Ev.step (fun _ => rfl) ?_
    simp only [spec_l01Var.l0, tdiv128 n (by omega), tmod128 n]
    refine Ev.ite (fun hc => ?_) (fun hc => ?_)
    · rw [varL_big (by omega)]
      exact Ev.pos (by omega) (Ev.eq (ih (n / 128) (by omega) _ (by simp; omega)) (by simp))
    · rw [varL_small (by omega)]
      exact Ev.pos (by omega) (Ev.done (by rw [Int.emod_eq_of_lt (by omega) (by omega)]))
theorem spec_l01Var_nat (n : Nat) (h : n ≤ 34359738367) : Ev (fun k => spec_l01Var.f k (n : Int)) (varText n) := spec_l01Var_loop n [] (by simp; omega)
theorem spec_l01Var_ev (n : Int) (h0 : 0 ≤ n) (h : n ≤ 34359738367) : Ev (fun k => spec_l01Var.f k n) (varText n.toNat) := by
  obtain ⟨m, rfl⟩ := Int.eq_ofNat_of_zero_le h0
  exact spec_l01Var_nat m (by omega)
theorem impl_VarText_loop : ∀ (n : Nat) (acc : List Int), acc.length + n < 140737488355328 →
    Ev (fun k => impl_VarText.l0 k (n : Int) acc) (strOfNums (acc ++ varL n), true) := by
  intro n
  induction n using Nat.strongRecOn with
  | ind n ih =>
    intro acc h
    refine Ev.step (fun _ => rfl) ?_
    simp only [impl_VarText.l0, tdiv128 n (by omega), tmod128 n]
    refine Ev.ite (fun hc => ?_) (fun hc => ?_)
    · rw [varL_big (by omega)]
      exact Ev.pos (by omega) (Ev.eq (ih (n / 128) (by omega) _ (by simp; omega)) (by simp))
    · rw [varL_small (by omega)]
      exact Ev.pos (by omega) (Ev.done (by rw [Int.emod_eq_of_lt (by omega) (by omega)]))
theorem impl_VarText_ev (n : Int) : Ev (fun k => impl_VarText.f k n) (varTextOf n) := by
  unfold impl_VarText.f varTextOf
  refine Ev.call (impl_within_eq _ _ _) ?_
  cases hb : inR n 0 1000000000
  · exact Ev.neg (by simp) (Ev.done (by simp))
  · have := inR_true.1 hb
    obtain ⟨m, rfl⟩ := Int.eq_ofNat_of_zero_le this.1
    exact Ev.pos rfl (Ev.eq (impl_VarText_loop m [] (by simp; omega)) (by simp [varText]))
theorem impl_VarText_nat (n : Nat) (h : n ≤ 1000000000) : Ev (fun k => impl_VarText.f k (n : Int)) (varText n, true) :=
  Ev.eq (impl_VarText_ev (n : Int)) (by rw [varTextOf, if_pos (inR_true.2 (by omega))]; rfl)
theorem impl_vars_loop (xs : List Int) (hx : xs.length ≤ 1048576) : ∀ (rest : List Int) (n : Nat) (acc : List Int), xs.drop n = rest → acc.length + 5 * rest.length < 140737488355328 →
    Ev (fun k => impl_vars.l0 k acc xs (xs.length : Int) (n : Int)) (if rest.all (fun n => inR n 0 1000000000) = true then (strOfNums (acc ++ rest.flatMap fun n => varL n.toNat), true) else (⟨#[]⟩, false)) := by
  intro rest
  induction rest with
  | nil =>
    intro n acc h ha
    have := drop_nil h
    refine Ev.step (fun _ => rfl) ?_
    simp only [impl_vars.l0]
    exact Ev.neg (by omega) (Ev.done (by simp))
  | cons x t ih =>
    intro n acc h ha
    obtain ⟨h1, -, h3⟩ := drop_cons h
    refine Ev.step (fun _ => rfl) ?_
    simp only [impl_vars.l0, drop_rd h, wrap64_succ (show n ≤ 9223372036854775806 by omega)]
    refine Ev.pos (by omega) (Ev.pos (by omega) (Ev.pos (by omega) (Ev.bind (impl_VarText_ev x) ?_)))
    unfold varTextOf
    cases hb : inR x 0 1000000000
    · exact Ev.neg (by simp) (Ev.done (by simp [hb]))
    · have hr := inR_true.1 hb
      have hv := varL_len (show x.toNat ≤ 34359738367 by omega)
      simp only [if_true, varText, strOfNums_size, bytesOf_strOfNums _ (varL_bytes _)]
      rw [List.length_cons] at ha
      refine Ev.pos (by omega) (Ev.eq (ih (n + 1) (acc ++ varL x.toNat) h3 (by rw [List.length_append]; omega)) ?_)
      simp [hb]
theorem impl_vars_ev (xs : List Int) (hx : xs.length ≤ 1048576) : Ev (fun k => impl_vars.f k xs) (varsOf xs) :=
  Ev.eq (impl_vars_loop xs hx xs 0 [] rfl (by simp; omega)) (by simp [varsOf])
theorem spec_l02Four_eq (x : Int) : spec_l02Four.f x = some (four x) := rfl
theorem spec_SumMore_bits (s : ByteArray) (i : Nat) (hi : i ≤ 9223372036854775806) (r : Int) : ∀ (d : Nat) (x : Int) (j : Nat), j + d = 8 →
    Ev (fun k => spec_SumMore.l0 k (sumBits d x) s ((i + 1 : Nat) : Int)) r → Ev (fun k => spec_SumMore.l1 k x s (i : Int) (j : Int)) r := by
  intro d
  induction d with
  | zero =>
    intro x j hj h
    refine Ev.step (fun _ => rfl) ?_
    simp only [spec_SumMore.l1, wrap64_succ hi]
    exact Ev.neg (by omega) h
  | succ d ih =>
    intro x j hj h
    refine Ev.step (fun _ => rfl) ?_
    simp only [spec_SumMore.l1, wrap64_succ (show j ≤ 9223372036854775806 by omega)]
    refine Ev.pos (by omega) (Ev.ite (fun hc => ih _ (j + 1) (by omega) ?_) (fun hc => ih _ (j + 1) (by omega) ?_))
    · rw [sumBits, sumBit, if_pos hc] at h; exact h
    · rw [sumBits, sumBit, if_neg hc] at h; exact h
theorem spec_SumMore_loop (s : ByteArray) (hs : s.size ≤ 9223372036854775806) : ∀ (rest : List Int) (n : Nat) (x : Int), (bytesOf s).drop n = rest →
    Ev (fun k => spec_SumMore.l0 k x s (n : Int)) (sumMore x rest) := by
  intro rest
  induction rest with
  | nil =>
    intro n x h
    have := bytesOf_drop_nil h
    refine Ev.step (fun _ => rfl) ?_
    simp only [spec_SumMore.l0]
    exact Ev.neg (by omega) (Ev.done rfl)
  | cons b t ih =>
    intro n x h
    obtain ⟨h1, h2, h3, h4, h5⟩ := bytesOf_drop_lt h
    refine Ev.step (fun _ => rfl) ?_
    simp only [spec_SumMore.l0, h2]
    exact Ev.pos (by omega) (Ev.pos (by omega) (spec_SumMore_bits s n (by omega) _ 8 _ 0 rfl (ih (n + 1) _ h3)))
theorem spec_SumMore_ev (x : Int) (s : ByteArray) (hs : s.size ≤ 9223372036854775806) : Ev (fun k => spec_SumMore.f k x s) (sumMore x (bytesOf s)) := spec_SumMore_loop s hs _ 0 x rfl
theorem spec_SumOf_ev (s : ByteArray) (hs : s.size ≤ 9223372036854775806) : Ev (fun k => spec_SumOf.f k s) (sumOf s) := Ev.bind (spec_SumMore_ev _ s hs) (Ev.now _)
theorem impl_SumMore_bits (s : ByteArray) (i : Nat) (hi : i ≤ 9223372036854775806) (r : Int) : ∀ (d : Nat) (x : Int) (j : Nat), j + d = 8 →
    Ev (fun k => impl_SumMore.l0 k (sumBits d x) s ((i + 1 : Nat) : Int)) r → Ev (fun k => impl_SumMore.l1 k x s (i : Int) (j : Int)) r := by
  intro d
  induction d with
  | zero =>
    intro x j hj h
    refine Ev.step (fun _ => rfl) ?_
    simp only [impl_SumMore.l1, wrap64_succ hi]
    exact Ev.neg (by omega) h
  | succ d ih =>
    intro x j hj h
    refine Ev.step (fun _ => rfl) ?_
    simp only [impl_SumMore.l1, wrap64_succ (show j ≤ 9223372036854775806 by omega)]
    refine Ev.pos (by omega) (Ev.ite (fun hc => ih _ (j + 1) (by omega) ?_) (fun hc => ih _ (j + 1) (by omega) ?_))
    · rw [sumBits, sumBit, if_pos hc] at h; exact h
    · rw [sumBits, sumBit, if_neg hc] at h; exact h
theorem impl_SumMore_loop (s : ByteArray) (hs : s.size ≤ 9223372036854775806) : ∀ (rest : List Int) (n : Nat) (x : Int), (bytesOf s).drop n = rest →
    Ev (fun k => impl_SumMore.l0 k x s (n : Int)) (sumMore x rest) := by
  intro rest
  induction rest with
  | nil =>
    intro n x h
    have := bytesOf_drop_nil h
    refine Ev.step (fun _ => rfl) ?_
    simp only [impl_SumMore.l0]
    exact Ev.neg (by omega) (Ev.done rfl)
  | cons b t ih =>
    intro n x h
    obtain ⟨h1, h2, h3, h4, h5⟩ := bytesOf_drop_lt h
    refine Ev.step (fun _ => rfl) ?_
    simp only [impl_SumMore.l0, h2]
    exact Ev.pos (by omega) (Ev.pos (by omega) (impl_SumMore_bits s n (by omega) _ 8 _ 0 rfl (ih (n + 1) _ h3)))
theorem impl_SumMore_ev (x : Int) (s : ByteArray) (hs : s.size ≤ 9223372036854775806) : Ev (fun k => impl_SumMore.f k x s) (sumMore x (bytesOf s)) := impl_SumMore_loop s hs _ 0 x rfl
theorem impl_SumOf_ev (s : ByteArray) (hs : s.size ≤ 9223372036854775806) : Ev (fun k => impl_SumOf.f k s) (sumOf s) := Ev.bind (impl_SumMore_ev _ s hs) (Ev.now _)
def sealT (s : ByteArray) : ByteArray × Bool := if s.size > 20000 then (⟨#[]⟩, false) else (s ++ four (sumOf s), true)
theorem spec_Sealed_ev (s : ByteArray) (hs : s.size ≤ 1152921504606846976) : Ev (fun k => spec_Sealed.f k s) (sealT s) := by
  unfold spec_Sealed.f sealT
  have h4 := four_size (sumOf s)
  refine Ev.ite (fun hc => Ev.done ?_) (fun hc => Ev.bind (spec_SumOf_ev s (by omega)) (Ev.call (spec_l02Four_eq _) (Ev.pos (by omega) (Ev.done ?_))))
  · rw [if_pos (show s.size > 20000 by omega)]
  · rw [if_neg (show ¬ s.size > 20000 by omega)]
theorem impl_Sealed_ev (s : ByteArray) (hs : s.size ≤ 1152921504606846976) : Ev (fun k => impl_Sealed.f k s) (sealT s) := by
  unfold impl_Sealed.f sealT
  have h4 := four_size (sumOf s)
  refine Ev.ite (fun hc => Ev.done ?_) (fun hc => Ev.bind (impl_SumOf_ev s (by omega)) (Ev.call rfl ?_))
  · rw [if_pos (show s.size > 20000 by omega)]
  · rw [if_neg (show ¬ s.size > 20000 by omega)]
    rw [four] at h4
    exact Ev.pos (by omega) (Ev.done rfl)
def manOk (segs : List Int) (next base bt : Int) (conf : List Int) : Bool := inR segs.length 1 8 && (inR next 0 1000 && (rise 0 (next - 1) none segs && (inR base 0 100000 && (inR bt 0 100000 && confOk conf))))
theorem spec_ManifestOk_ev (segs : List Int) (next base bt : Int) (conf : List Int) (hs : segs.length ≤ 9223372036854775806) (hc : conf.length ≤ 9223372036854775806) : Ev (fun k => spec_ManifestOk.f k segs next base bt conf) (manOk segs next base bt conf) := by
  unfold spec_ManifestOk.f manOk
  refine Ev.call (spec_l01In_eq _ _ _) ?_
  cases h1 : inR segs.length 1 8
  · exact Ev.neg (by simp) (Ev.done (by simp))
  refine Ev.pos rfl (Ev.call (spec_l01In_eq _ _ _) ?_)
  cases h2 : inR next 0 1000
  · exact Ev.neg (by simp) (Ev.done (by simp))
  have h2' := inR_true.1 h2
  rw [wrap64_id (by omega) (by omega)]
  refine Ev.pos rfl (Ev.bind (spec_l07Rise_ev segs 0 (next - 1) hs) ?_)
  cases h3 : rise 0 (next - 1) none segs
  · exact Ev.neg (by simp) (Ev.done (by simp))
  refine Ev.pos rfl (Ev.call (spec_l01In_eq _ _ _) ?_)
  cases h4 : inR base 0 100000
  · exact Ev.neg (by simp) (Ev.done (by simp))
  refine Ev.pos rfl (Ev.call (spec_l01In_eq _ _ _) ?_)
  cases h5 : inR bt 0 100000
  · exact Ev.neg (by simp) (Ev.done (by simp))
  exact Ev.pos rfl (Ev.bind (spec_ConfOk_ev conf hc) (Ev.done (by simp)))
def manNums (segs : List Int) (next base bt : Int) (conf : List Int) : List Int := (segs.length : Int) :: (segs ++ (next :: base :: bt :: (conf.length : Int) :: conf))
def manText (segs : List Int) (next base bt : Int) (conf : List Int) : ByteArray × Bool :=
  if manOk segs next base bt conf = true then sealT (strOfNums ((manNums segs next base bt conf).flatMap fun n => varL n.toNat)) else (⟨#[]⟩, false)
theorem manOk_bounds {segs : List Int} {next base bt : Int} {conf : List Int} (h : manOk segs next base bt conf = true) :
    (1 ≤ segs.length ∧ segs.length ≤ 8) ∧ (0 ≤ next ∧ next ≤ 1000) ∧ (0 ≤ base ∧ base ≤ 100000) ∧ (0 ≤ bt ∧ bt ≤ 100000) ∧ (1 ≤ conf.length ∧ conf.length ≤ 4) ∧ (∀ x ∈ segs, 0 ≤ x ∧ x ≤ 999) ∧ (∀ x ∈ conf, 1 ≤ x ∧ x ≤ 4) := by
  simp only [manOk, Bool.and_eq_true] at h
  obtain ⟨h1, h2, h3, h4, h5, h6⟩ := h
  have h1 := inR_true.1 h1; have h2 := inR_true.1 h2; have h4 := inR_true.1 h4; have h5 := inR_true.1 h5
  refine ⟨by omega, h2, h4, h5, confOk_len h6, ?_, confOk_mem h6⟩
  have rm : ∀ (l : List Int) (p : Option Int), rise 0 (next - 1) p l = true → ∀ x ∈ l, 0 ≤ x ∧ x ≤ 999 := by
    intro l
    induction l with
    | nil => intro p _ x hx; cases hx
    | cons y t ih =>
      intro p hp x hx
      have hy : inR y 0 (next - 1) = true ∧ rise 0 (next - 1) (some y) t = true := by
        cases p <;> simp only [rise, Bool.and_eq_true] at hp
        · exact hp
        · exact ⟨hp.1, hp.2.2⟩
      rcases List.mem_cons.1 hx with rfl | hx
      · have := inR_true.1 hy.1; omega
      · exact ih _ hy.2 x hx
  exact rm segs none h3
theorem spec_ManifestText_loop1 (segs : List Int) (next base bt : Int) (conf : List Int) (hc : conf.length ≤ 1000) : ∀ (rest : List Int) (n : Nat) (a : List Int), conf.drop n = rest → (∀ x ∈ rest, 0 ≤ x ∧ x ≤ 1000000) → a.length + 5 * rest.length ≤ 1000000 →
    Ev (fun k => spec_ManifestText.l1 k (strOfNums a) (n : Int) segs next base bt conf) (sealT (strOfNums (a ++ rest.flatMap fun n => varL n.toNat))) := by
  intro rest
  induction rest with
  | nil =>
    intro n a h _ ha
    have := drop_nil h
    refine Ev.step (fun _ => rfl) ?_
    simp only [spec_ManifestText.l1]
    exact Ev.neg (by omega) (Ev.bind (spec_Sealed_ev _ (by rw [strOfNums_size]; omega)) (Ev.done (by simp)))
  | cons x t ih =>
    intro n a h hm ha
    obtain ⟨h1, -, h3⟩ := drop_cons h
    have hx := hm x List.mem_cons_self
    have hv := varL_len (show x.toNat ≤ 34359738367 by omega)
    rw [List.length_cons] at ha
    refine Ev.step (fun _ => rfl) ?_
    simp only [spec_ManifestText.l1, drop_rd h, wrap64_succ (show n ≤ 9223372036854775806 by omega)]
    refine Ev.pos (by omega) (Ev.pos (by omega) (Ev.bind (spec_l01Var_ev x (by omega) (by omega)) ?_))
    simp only [varText, ← strOfNums_append, strOfNums_size]
    exact Ev.pos (by omega) (Ev.eq (ih (n + 1) (a ++ varL x.toNat) h3 (fun y hy => hm y (List.mem_cons_of_mem _ hy)) (by rw [List.length_append]; omega)) (by simp))
theorem spec_ManifestText_loop0 (segs : List Int) (next base bt : Int) (conf : List Int) (hs : segs.length ≤ 1000) (hn : 0 ≤ next ∧ next ≤ 1000000) (hb : 0 ≤ base ∧ base ≤ 1000000) (ht : 0 ≤ bt ∧ bt ≤ 1000000) (hc : conf.length ≤ 1000) (hm1 : ∀ x ∈ conf, 0 ≤ x ∧ x ≤ 1000000) : ∀ (rest : List Int) (n : Nat) (a : List Int), segs.drop n = rest → (∀ x ∈ rest, 0 ≤ x ∧ x ≤ 1000000) → a.length + 5 * rest.length ≤ 100000 →
    Ev (fun k => spec_ManifestText.l0 k (strOfNums a) (n : Int) segs next base bt conf) (sealT (strOfNums (a ++ (rest ++ (next :: base :: bt :: (conf.length : Int) :: conf)).flatMap fun n => varL n.toNat))) := by
  intro rest
  induction rest with
  | nil =>
    intro n a h _ ha
    have := drop_nil h
    have v1 := varL_len (show next.toNat ≤ 34359738367 by omega)
    have v2 := varL_len (show base.toNat ≤ 34359738367 by omega)
    have v3 := varL_len (show bt.toNat ≤ 34359738367 by omega)
    have v4 := varL_len (show conf.length ≤ 34359738367 by omega)
    rw [List.length_nil] at ha
    refine Ev.step (fun _ => rfl) ?_
    simp only [spec_ManifestText.l0]
    refine Ev.neg (by omega) (Ev.bind (spec_l01Var_ev next (by omega) (by omega)) ?_)
    simp only [varText, ← strOfNums_append, strOfNums_size]
    refine Ev.pos (by omega) (Ev.bind (spec_l01Var_ev base (by omega) (by omega)) ?_)
    simp only [varText, ← strOfNums_append, strOfNums_size]
    refine Ev.pos (by rw [List.length_append]; omega) (Ev.bind (spec_l01Var_ev bt (by omega) (by omega)) ?_)
    simp only [varText, ← strOfNums_append, strOfNums_size]
    refine Ev.pos (by rw [List.length_append, List.length_append]; omega) (Ev.bind (spec_l01Var_nat conf.length (by omega)) ?_)
    simp only [varText, ← strOfNums_append, strOfNums_size]
    refine Ev.pos (by rw [List.length_append, List.length_append, List.length_append]; omega) (Ev.eq (spec_ManifestText_loop1 segs next base bt conf hc conf 0 _ rfl hm1 (by simp only [List.length_append]; omega)) ?_)
    simp
  | cons x t ih =>
    intro n a h hm ha
    obtain ⟨h1, -, h3⟩ := drop_cons h
    have hx := hm x List.mem_cons_self
    have hv := varL_len (show x.toNat ≤ 34359738367 by omega)
    rw [List.length_cons] at ha
    refine Ev.step (fun _ => rfl) ?_
    simp only [spec_ManifestText.l0, drop_rd h, wrap64_succ (show n ≤ 9223372036854775806 by omega)]
    refine Ev.pos (by omega) (Ev.pos (by omega) (Ev.bind (spec_l01Var_ev x (by omega) (by omega)) ?_))
    simp only [varText, ← strOfNums_append, strOfNums_size]
    exact Ev.pos (by omega) (Ev.eq (ih (n + 1) (a ++ varL x.toNat) h3 (fun y hy => hm y (List.mem_cons_of_mem _ hy)) (by rw [List.length_append]; omega)) (by simp))
theorem spec_ManifestText_ev (segs : List Int) (next base bt : Int) (conf : List Int) (hs : segs.length ≤ 9223372036854775806) (hc : conf.length ≤ 9223372036854775806) : Ev (fun k => spec_ManifestText.f k segs next base bt conf) (manText segs next base bt conf) := by
  unfold spec_ManifestText.f manText
  refine Ev.bind (spec_ManifestOk_ev segs next base bt conf hs hc) ?_
  cases h : manOk segs next base bt conf
  · exact Ev.neg (by simp) (Ev.done (by simp))
  · obtain ⟨b1, b2, b3, b4, b5, b6, b7⟩ := manOk_bounds h
    have v0 := varL_len (show segs.length ≤ 34359738367 by omega)
    refine Ev.pos rfl (Ev.bind (spec_l01Var_nat segs.length (by omega)) ?_)
    exact Ev.eq (spec_ManifestText_loop0 segs next base bt conf (by omega) (by omega) (by omega) (by omega) (by omega) (fun x hx => by have := b7 x hx; omega) segs 0 _ rfl (fun x hx => by have := b6 x hx; omega) (by omega)) (by simp [manNums])
theorem spec_Decimal_zero : Ev (fun k => spec_Decimal.f k 0) (⟨#[48]⟩ : ByteArray) := Ev.pos rfl (Ev.now _)
theorem spec_SegName_zero : Ev (fun k => spec_SegName.f k 0) ((⟨#[103]⟩ : ByteArray) ++ ⟨#[48]⟩) :=
  Ev.call (spec_l01In_eq _ _ _) (Ev.pos rfl (Ev.bind spec_Decimal_zero (Ev.pos (by decide) (Ev.now _))))
def formatShelf (l : List Int) : List S62 × Bool := if (manText [0] 1 0 0 l).2 = true then ([⟨(⟨#[103]⟩ : ByteArray) ++ ⟨#[48]⟩, ⟨#[]⟩⟩, ⟨⟨#[109]⟩, (manText [0] 1 0 0 l).1⟩], true) else ([], false)
theorem spec_FormatShelf_ev (l : List Int) (hl : l.length ≤ 1048576) : Ev (fun k => spec_FormatShelf.f k l) (formatShelf l) := by
  unfold spec_FormatShelf.f formatShelf
  refine Ev.bind (spec_ManifestText_ev [0] 1 0 0 l (by simp) (by omega)) ?_
  exact Ev.ite (fun h => Ev.bind spec_SegName_zero (Ev.done (by rw [if_pos h]))) (fun h => Ev.done (by rw [if_neg h]))
def irise (next : Int) : Option Int → List Int → Bool
  | _, [] => true
  | none, x :: t => inR x 0 999 && (decide (x < next) && irise next (some x) t)
  | some q, x :: t => inR x 0 999 && (decide (x < next) && (decide (q < x) && irise next (some x) t))
theorem impl_ManifestOk_loop (xs : List Int) (hx : xs.length ≤ 9223372036854775806) (next base bt : Int) (conf : List Int) (hc : conf.length ≤ 9223372036854775806) : ∀ (rest : List Int) (n : Nat), xs.drop n = rest →
    Ev (fun k => impl_ManifestOk.l0 k xs (xs.length : Int) (n : Int) xs next base bt conf) (irise next (prevOf xs n) rest && (inR xs.length 1 8 && (decide (next ≤ 1000) && (inR base 0 100000 && (inR bt 0 100000 && confOk conf))))) := by
  intro rest
  induction rest with
  | nil =>
    intro n h
    have := drop_nil h
    have hi : irise next (prevOf xs n) [] = true := by cases n <;> rfl
    rw [hi, Bool.true_and]
    refine Ev.step (fun _ => rfl) ?_
    simp only [impl_ManifestOk.l0]
    refine Ev.neg (by omega) (Ev.call (impl_within_eq _ _ _) ?_)
    cases h1 : inR xs.length 1 8
    · exact Ev.neg (by simp) (Ev.done (by simp))
    refine Ev.pos rfl (Ev.ite (fun h2 => ?_) (fun h2 => Ev.done (by simp [h2])))
    rw [decide_eq_true h2]
    refine Ev.call (impl_within_eq _ _ _) ?_
    cases h4 : inR base 0 100000
    · exact Ev.neg (by simp) (Ev.done (by simp))
    refine Ev.pos rfl (Ev.call (impl_within_eq _ _ _) ?_)
    cases h5 : inR bt 0 100000
    · exact Ev.neg (by simp) (Ev.done (by simp))
    exact Ev.pos rfl (Ev.bind (impl_ConfOk_ev conf hc) (Ev.done (by simp)))
  | cons x t ih =>
    intro n h
    obtain ⟨h1, -, h3⟩ := drop_cons h
    have ih := ih (n + 1) h3
    rw [prevOf_next h] at ih
    refine Ev.step (fun _ => rfl) ?_
    simp only [impl_ManifestOk.l0, drop_rd h, wrap64_succ (show n ≤ 9223372036854775806 by omega)]
    refine Ev.pos (by omega) (Ev.pos (by omega) (Ev.pos (by omega) (Ev.call (impl_within_eq _ _ _) ?_)))
    cases hb : inR x 0 999
    · exact Ev.neg (by simp) (Ev.done (by cases n <;> simp [irise, prevOf, hb]))
    refine Ev.pos rfl (Ev.ite (fun hc => Ev.done ?_) (fun hn => ?_))
    · have : decide (x < next) = false := decide_eq_false (by omega)
      cases n <;> simp [irise, prevOf, this]
    have hn : decide (x < next) = true := decide_eq_true (by omega)
    cases n with
    | zero => exact Ev.neg (by omega) (Ev.eq ih (by simp [irise, prevOf, hb, hn]))
    | succ m =>
      refine Ev.pos (by omega) ?_
      simp only [wrap64_pred (show m ≤ 9223372036854775806 by omega)]
      refine Ev.pos (by omega) (Ev.pos (by omega) (Ev.ite (fun hc => Ev.done ?_) (fun hc => Ev.eq ih ?_)))
      · simp only [prevOf, irise, hb, hn, decide_eq_false (show ¬ rd xs (m : Int) < x by omega)]; simp
      · simp only [prevOf, irise, hb, hn, decide_eq_true (show rd xs (m : Int) < x by omega)]; simp
theorem irise_rise (next : Int) (h : next ≤ 1000) : ∀ (l : List Int) (p : Option Int), irise next p l = rise 0 (next - 1) p l := by
  intro l
  induction l with
  | nil => intro p; cases p <;> rfl
  | cons x t ih =>
    intro p
    have e : (inR x 0 999 && decide (x < next)) = inR x 0 (next - 1) := by
      rw [Bool.eq_iff_iff, Bool.and_eq_true, inR_true, inR_true, decide_eq_true_iff]; omega
    cases p with
    | none => rw [irise, rise, ← ih, ← e, Bool.and_assoc]
    | some q => rw [irise, rise, ← ih, ← e, Bool.and_assoc]
theorem impl_ManifestOk_ev (segs : List Int) (next base bt : Int) (conf : List Int) (hs : segs.length ≤ 9223372036854775806) (hc : conf.length ≤ 9223372036854775806) : Ev (fun k => impl_ManifestOk.f k segs next base bt conf) (manOk segs next base bt conf) := by
  refine Ev.eq (impl_ManifestOk_loop segs hs next base bt conf hc segs 0 rfl) ?_
  unfold manOk
  show (irise next none segs && _) = _
  by_cases h : next ≤ 1000
  · rw [irise_rise next h, decide_eq_true h]
    cases segs with
    | nil => simp [inR]
    | cons x t =>
      by_cases h0 : 0 ≤ next
      · rw [show inR next 0 1000 = true from inR_true.2 ⟨h0, h⟩]
        simp only [Bool.true_and]
        cases rise 0 (next - 1) none (x :: t) <;> simp
      · have : rise 0 (next - 1) none (x :: t) = false := by
          rw [rise, show inR x 0 (next - 1) = false from inR_false.2 (by omega), Bool.false_and]
        rw [this]; simp
  · rw [decide_eq_false h, show inR next 0 1000 = false from inR_false.2 (by omega)]
    simp
theorem impl_ManifestText_ev (segs : List Int) (next base bt : Int) (conf : List Int) (hs : segs.length ≤ 9223372036854775806) (hc : conf.length ≤ 9223372036854775806) : Ev (fun k => impl_ManifestText.f k segs next base bt conf) (manText segs next base bt conf) := by
  unfold impl_ManifestText.f manText
  refine Ev.bind (impl_ManifestOk_ev segs next base bt conf hs hc) ?_
  cases h : manOk segs next base bt conf
  · exact Ev.neg (by simp) (Ev.done (by simp))
  · obtain ⟨b1, b2, b3, b4, b5, b6, b7⟩ := manOk_bounds h
    refine Ev.pos rfl (Ev.pos (by omega) (Ev.bind (impl_vars_ev (manNums segs next base bt conf) (by simp only [manNums, List.length_cons, List.length_append]; omega)) ?_))
    have ha : (manNums segs next base bt conf).all (fun n => inR n 0 1000000000) = true := by
      rw [List.all_eq_true]
      intro x hx
      rw [inR_true]
      simp only [manNums, List.mem_cons, List.mem_append] at hx
      rcases hx with rfl | hx | rfl | rfl | rfl | rfl | hx
      · omega
      · have := b6 x hx; omega
      · omega
      · omega
      · omega
      · omega
      · have := b7 x hx; omega
    have hl : ∀ l : List Int, (∀ x ∈ l, 0 ≤ x ∧ x ≤ 34359738367) → (l.flatMap fun n => varL n.toNat).length ≤ 5 * l.length := by
      intro l
      induction l with
      | nil => intro _; simp
      | cons x t ih =>
        intro hm
        have := ih (fun y hy => hm y (List.mem_cons_of_mem _ hy))
        have hx := hm x List.mem_cons_self
        have := varL_len (show x.toNat ≤ 34359738367 by omega)
        rw [List.flatMap_cons, List.length_append, List.length_cons]
        omega
    have hl := hl (manNums segs next base bt conf) (fun x hx => by have := inR_true.1 (List.all_eq_true.1 ha x hx); omega)
    have hn : (manNums segs next base bt conf).length = segs.length + conf.length + 5 := by simp only [manNums, List.length_cons, List.length_append]; omega
    rw [varsOf, if_pos ha]
    exact Ev.eq (impl_Sealed_ev _ (by rw [strOfNums_size]; omega)) (by simp)
theorem impl_Decimal_zero : impl_Decimal.f 0 = some (⟨#[48]⟩ : ByteArray) := rfl
theorem impl_SegName_zero : impl_SegName.f 0 = some ((⟨#[103]⟩ : ByteArray) ++ ⟨#[48]⟩) := by
  unfold impl_SegName.f
  rw [impl_within_eq, show inR 0 0 999 = true from rfl, Option.bind_some, if_pos rfl, impl_Decimal_zero, Option.bind_some, if_pos (by decide)]
theorem impl_FormatShelf_ev (l : List Int) (hl : l.length ≤ 1048576) : Ev (fun k => impl_FormatShelf.f k l) (formatShelf l) := by
  unfold impl_FormatShelf.f formatShelf
  refine Ev.bind (impl_ManifestText_ev [0] 1 0 0 l (by simp) (by omega)) ?_
  exact Ev.ite (fun h => Ev.call impl_SegName_zero (Ev.done (by rw [if_pos h]))) (fun h => Ev.done (by rw [if_neg h]))
theorem laws_eqDisk_refl (l : List S62) (h : l.length ≤ 9223372036854775806) : Ev (fun k => laws_eqDisk.f k l l) true :=
  Ev.bind (laws_eqFileS_refl l h) (Ev.pos rfl (Ev.now _))
theorem laws_markDisk_ev (l : List S62) (m : Int) (h0 : 0 ≤ m) (hm : m + 2 * (l.length : Int) ≤ 4611686018427387904) (hl : l.length ≤ 1152921504606846976) : Ev (fun k => laws_markDisk.f k l m) (m + 2 * (l.length : Int), markedFile l m) :=
  Ev.bind (laws_markFileS_ev l m h0 hm hl) (Ev.now _)
theorem laws_heldDisk_ev (l : List S62) (m : Int) (h0 : 0 ≤ m) (hm : m + 2 * (l.length : Int) ≤ 4611686018427387904) (hl : l.length ≤ 1152921504606846976) : Ev (fun k => laws_heldDisk.f k (markedFile l m) m) (m + 2 * (l.length : Int)) :=
  Ev.bind (laws_heldFileS_ev l m h0 hm hl) (Ev.neg (by omega) (Ev.now _))
theorem FnExactFormatShelf_q (l : List Int) (_ : l.length * 8 ≤ 140737488351232 ∧ ∀ x ∈ l, (Lit.int .i64 x).wf = true) : ∃ k, laws_FnExactFormatShelf.f k l = some true := by
  apply Ev.rounds
  unfold laws_FnExactFormatShelf.f
  refine Ev.ite (fun _ => Ev.now _) (fun hc => ?_)
  have hl : l.length ≤ 1048576 := by omega
  have tl := laws_toIntS_ev l hl
  have hs := spec_FormatShelf_ev l hl
  have hi := impl_FormatShelf_ev l hl
  have hw : (formatShelf l).1.length ≤ 2 := by unfold formatShelf; split <;> simp
  generalize formatShelf l = w at hs hi hw
  have e0 := laws_eqIntS_refl l (by omega)
  have e1 := laws_eqDisk_refl w.1 (by omega)
  have k0 := laws_markIntS_ev l 1 (by omega) (by omega) (by omega)
  have k1 := laws_markDisk_ev w.1 1 (by omega) (by omega) (by omega)
  have k2 := laws_heldDisk_ev w.1 1 (by omega) (by omega) (by omega)
  refine Ev.bind tl (Ev.bind hs (Ev.bind tl (Ev.bind hi (Ev.bind e1 (Ev.pos rfl ?_)))))
  refine Ev.step (fun _ => rfl) ?_
  simp only [laws_FnExactFormatShelf.j0]
  refine Ev.neg (by simp) (Ev.bind tl (Ev.bind e0 (Ev.pos rfl (Ev.bind k0 (Ev.neg (by dsimp only; omega) (Ev.bind e1 (Ev.pos rfl ?_)))))))
  refine Ev.step (fun _ => rfl) ?_
  simp only [laws_FnExactFormatShelf.j1]
  refine Ev.neg (by simp) (Ev.bind k1 (Ev.bind k2 (Ev.neg (by omega) (Ev.pos rfl (Ev.bind tl (Ev.bind hi (Ev.bind e1 (Ev.pos rfl ?_))))))))
  refine Ev.step (fun _ => rfl) ?_
  simp only [laws_FnExactFormatShelf.j2]
  exact Ev.neg (by simp) (Ev.bind k2 (Ev.neg (by omega) (Ev.pos rfl (Ev.now _))))

end Go.Proofs.YtbcgnncbiblibaaDoor.Pure
