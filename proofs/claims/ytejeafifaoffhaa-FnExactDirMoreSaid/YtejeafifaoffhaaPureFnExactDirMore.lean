/- The law FnExactDirMore answers true: the program's DirMore returns the directory and the answer that the reference's returns, in memory of its own, and leaves its arguments as they were. For all arguments; no further condition. -/
import Derived.Test.YtejeafifaoffhaaPFnExactDirMorex7
import Derived.Test.YtejeafifaoffhaaBase
namespace Go.Proofs.Ytejeafifaoffhaa.Pure
open Go.RowKit Go.Proofs.Ytejeafifaoffhaa.PFnExactDirMore Go.Proofs.YtejeafifaoffhaaW.PrintWords Go.Proofs.YtejeafifaoffhaaW.PrintLast Go.Proofs.Ytejeafifaoffhaa.Base
set_option linter.unusedVariables false

theorem laws_markText_loop : ∀ (n : Nat) (acc : ByteArray), acc.size + n ≤ 4611686018427387904 → Ev (fun k => laws_markText.l0 k (n : Int) acc) (markTextL n acc) := by
  intro n
  induction n using Nat.strongRecOn with
  | ind n ih =>
    intro acc h
    refine Ev.step (fun _ => rfl) ?_
    simp only [laws_markText.l0, tdiv10 n (by omega), tmod10 n, Option.bind_some, strOfNums_size, List.length_singleton]
    rw [markTextL]
    refine Ev.ite (fun hc => ?_) (fun hc => ?_)
    · rw [if_pos (show n > 0 by omega)]
      exact Ev.pos (by omega) (ih (n / 10) (by omega) _ (by rw [size_append, strOfNums_size, List.length_singleton]; omega))
    · rw [if_neg (show ¬ n > 0 by omega)]
      exact Ev.pos (by omega) (Ev.now _)
theorem laws_markText_ev (m : Int) (hm : m ≤ 4611686018427387904) : Ev (fun k => laws_markText.f k m) (markTextOf m) := by
  unfold laws_markText.f markTextOf
  by_cases hc : m ≤ 0
  · rw [if_pos hc]; exact Ev.pos hc (Ev.now _)
  · rw [if_neg hc]
    obtain ⟨n, rfl⟩ := Int.eq_ofNat_of_zero_le (show 0 ≤ m by omega)
    exact Ev.neg hc (laws_markText_loop n _ (by show 0 + n ≤ _; omega))
theorem rdT33_drop {xs : List S33} {n : Nat} {x : S33} {t : List S33} (h : xs.drop n = x :: t) : rd_T33 xs (n : Int) = x := by
  unfold rd_T33
  rw [Int.toNat_natCast]
  exact (drop_cons h).2.1 _
theorem rdT33_at {a : List S33} {n : Nat} (h : a.length = n) (v : S33) (t : List S33) : rd_T33 (a ++ v :: t) (n : Int) = v := by
  unfold rd_T33
  rw [Int.toNat_natCast]
  exact getD_at h v t _
theorem rdT33_get {xs : List S33} {n : Nat} (h : n < xs.length) : xs[n]? = some (rd_T33 xs (n : Int)) := by
  unfold rd_T33
  rw [Int.toNat_natCast]
  exact getD_get h
theorem rdT36_drop {xs : List S36} {n : Nat} {x : S36} {t : List S36} (h : xs.drop n = x :: t) : rd_T36 xs (n : Int) = x := by
  unfold rd_T36
  rw [Int.toNat_natCast]
  exact (drop_cons h).2.1 _
theorem rdT36_at {a : List S36} {n : Nat} (h : a.length = n) (v : S36) (t : List S36) : rd_T36 (a ++ v :: t) (n : Int) = v := by
  unfold rd_T36
  rw [Int.toNat_natCast]
  exact getD_at h v t _
theorem rdT36_get {xs : List S36} {n : Nat} (h : n < xs.length) : xs[n]? = some (rd_T36 xs (n : Int)) := by
  unfold rd_T36
  rw [Int.toNat_natCast]
  exact getD_get h
theorem laws_szSpot_some (x0 : ByteArray) (x1 : Int) (x2 : Int) (x3 : Int) (c : Int) (hc0 : 0 ≤ c) (hc : c ≤ 1048576) (h0 : x0.size ≤ 140737488351232) :
    ∃ r, laws_szSpot.f x0 x1 x2 x3 c = some r ∧ (¬ r < 0 → r = c - ((x0.size : Nat) : Int)) := by
  unfold laws_szSpot.f wrap64
  by_cases c0 : (c - (x0.size : Int) + 9223372036854775808) % 18446744073709551616 - 9223372036854775808 < 0
  · exact ⟨-1, by rw [if_pos c0], by omega⟩
  rw [if_neg c0]
  exact ⟨_, rfl, by omega⟩
def wtSpot (x : S33) : Nat := x.f0.size
theorem laws_szSpotS_loop (xs : List S33) (hx : xs.length ≤ 1048576) : ∀ (rest : List S33) (n : Nat) (c : Int), xs.drop n = rest → (∀ x ∈ rest, x.f0.size ≤ 140737488351232) → 0 ≤ c → c ≤ 1048576 →
    ∃ r, Ev (fun k => laws_szSpotS.l0 k xs c (n : Int)) r ∧ (¬ r < 0 → r = c - (((rest.map wtSpot).sum : Nat) : Int)) := by
  intro rest
  induction rest with
  | nil =>
    intro n c h _ h0 h1
    have := drop_nil h
    refine ⟨c, Ev.step (fun _ => rfl) ?_, by simp⟩
    simp only [laws_szSpotS.l0]
    exact Ev.neg (by omega) (Ev.now _)
  | cons x t ih =>
    intro n c h hq0 h0 h1
    obtain ⟨hn, -, h3⟩ := drop_cons h
    have hq := hq0 x List.mem_cons_self
    obtain ⟨r, hr, hb⟩ := laws_szSpot_some x.f0 x.f1 x.f2 x.f3 c h0 h1 hq
    by_cases hc : r < 0
    · refine ⟨-1, Ev.step (fun _ => rfl) ?_, by omega⟩
      simp only [laws_szSpotS.l0, rdT33_drop h]
      exact Ev.pos (by omega) (Ev.pos (by omega) (Ev.call hr (Ev.pos hc (Ev.now _))))
    · have hb := hb hc
      obtain ⟨r', hr', hb'⟩ := ih (n + 1) r h3 (fun y hy => hq0 y (List.mem_cons_of_mem _ hy)) (by omega) (by omega)
      refine ⟨r', Ev.step (fun _ => rfl) ?_, fun hn => ?_⟩
      · simp only [laws_szSpotS.l0, rdT33_drop h, wrap64_succ (show n ≤ 9223372036854775806 by omega)]
        exact Ev.pos (by omega) (Ev.pos (by omega) (Ev.call hr (Ev.neg hc hr')))
      · have := hb' hn
        rw [List.map_cons, List.sum_cons, wtSpot]
        omega
theorem laws_szSpotS_ev (xs : List S33) (hx : xs.length ≤ 17592186044416) (hq : ∀ x ∈ xs, x.f0.size ≤ 140737488351232) (c : Int) (h0 : 0 ≤ c) (h1 : c ≤ 1048576) :
    ∃ r, Ev (fun k => laws_szSpotS.f k xs c) r ∧ (¬ r < 0 → r = c - ((xs.length + (xs.map wtSpot).sum : Nat) : Int)) := by
  unfold laws_szSpotS.f
  rw [wrap64_id (by omega) (by omega)]
  by_cases hc : c - (xs.length : Int) < 0
  · exact ⟨-1, Ev.pos hc (Ev.now _), by omega⟩
  · obtain ⟨r, hr, hb⟩ := laws_szSpotS_loop xs (by omega) xs 0 (c - (xs.length : Int)) rfl hq (by omega) (by omega)
    exact ⟨r, Ev.neg hc hr, fun hn => by have := hb hn; omega⟩
theorem sum_wtSpot {xs : List S33} {x : S33} (h : x ∈ xs) : wtSpot x ≤ (xs.map wtSpot).sum := le_sum (List.mem_map_of_mem h)
def toSpot (x : S33) : S36 := ⟨x.f0, x.f1, x.f2, x.f3⟩
theorem laws_toSpotS_loop (xs : List S33) (hx : xs.length ≤ 1048576) : ∀ (d n : Nat), n + d = xs.length →
    Ev (fun k => laws_toSpotS.l0 k xs ((xs.map toSpot).take n ++ List.replicate d z36) (n : Int)) (xs.map toSpot) := by
  intro d
  induction d with
  | zero =>
    intro n h
    refine Ev.step (fun _ => rfl) ?_
    simp only [laws_toSpotS.l0]
    exact Ev.neg (by omega) (Ev.done (by rw [List.take_of_length_le (by simp; omega)]; simp))
  | succ d ih =>
    intro n h
    refine Ev.step (fun _ => rfl) ?_
    simp only [laws_toSpotS.l0, wrap64_succ (show n ≤ 9223372036854775806 by omega)]
    refine Ev.pos (by omega) (Ev.pos (by omega) (Ev.call rfl (Ev.pos (by simp; omega) (Ev.congr (fun k => ?_) (ih (n + 1) (by omega))))))
    rw [Int.toNat_natCast, set_fill (xs.map toSpot) n d z36 _ (by simpa using h) (by rw [List.getElem?_map, rdT33_get (show n < xs.length by omega)]; rfl)]
theorem laws_toSpotS_ev (xs : List S33) (hx : xs.length ≤ 1048576) : Ev (fun k => laws_toSpotS.f k xs) (xs.map toSpot) := by
  unfold laws_toSpotS.f
  refine Ev.pos (by omega) (Ev.pos (by omega) ?_)
  exact Ev.congr (fun k => by simp) (laws_toSpotS_loop xs hx xs.length 0 (by omega))
theorem laws_eqSpot_refl (x0 : ByteArray) (x1 : Int) (x2 : Int) (x3 : Int) : laws_eqSpot.f x0 x1 x2 x3 x0 x1 x2 x3 = some true := by simp [laws_eqSpot.f]
theorem laws_eqSpotS_loop (xs : List S36) (hx : xs.length ≤ 9223372036854775806) : ∀ (rest : List S36) (n : Nat), xs.drop n = rest → Ev (fun k => laws_eqSpotS.l0 k xs xs (n : Int)) true := by
  intro rest
  induction rest with
  | nil =>
    intro n h
    have := drop_nil h
    refine Ev.step (fun _ => rfl) ?_
    simp only [laws_eqSpotS.l0]
    exact Ev.neg (by omega) (Ev.now _)
  | cons x t ih =>
    intro n h
    obtain ⟨h1, -, h3⟩ := drop_cons h
    refine Ev.step (fun _ => rfl) ?_
    simp only [laws_eqSpotS.l0, wrap64_succ (show n ≤ 9223372036854775806 by omega)]
    exact Ev.pos (by omega) (Ev.pos (by omega) (Ev.pos (by omega) (Ev.call (laws_eqSpot_refl _ _ _ _) (Ev.pos rfl (ih (n + 1) h3)))))
theorem laws_eqSpotS_refl (xs : List S36) (hx : xs.length ≤ 9223372036854775806) : Ev (fun k => laws_eqSpotS.f k xs xs) true :=
  Ev.pos rfl (laws_eqSpotS_loop xs hx xs 0 rfl)
def mkSpot (m : Int) : S36 := ⟨markTextOf (m), m + 1, m + 1 + 1, m + 1 + 1 + 1⟩
def markedSpot : List S36 → Int → List S36
  | [], _ => []
  | _ :: t, m => mkSpot m :: markedSpot t (m + 1 + 1 + 1 + 1)
theorem markedSpot_length : ∀ (l : List S36) (m : Int), (markedSpot l m).length = l.length
  | [], _ => rfl
  | x :: t, m => by rw [markedSpot, List.length_cons, List.length_cons, markedSpot_length t]
theorem laws_markSpotS_loop : ∀ (rest done : List S36) (n : Nat) (m : Int), done.length = n → 0 ≤ m → m + 4 * (rest.length : Int) ≤ 4611686018427387904 → n + rest.length ≤ 1152921504606846976 →
    Ev (fun k => laws_markSpotS.l0 k (done ++ rest) m (n : Int)) (m + 4 * (rest.length : Int), done ++ markedSpot rest m) := by
  intro rest
  induction rest with
  | nil =>
    intro done n m hd h0 hm hb
    refine Ev.step (fun _ => rfl) ?_
    simp only [laws_markSpotS.l0]
    exact Ev.neg (by rw [List.append_nil]; omega) (Ev.done (by simp [markedSpot]))
  | cons x t ih =>
    intro done n m hd h0 hm hb
    have hn : n ≤ 9223372036854775806 := by rw [List.length_cons] at hb; omega
    have hm' : m + 4 ≤ 4611686018427387904 := by rw [List.length_cons] at hm; omega
    have w1 : wrap64 (m + 1) = m + 1 := wrap64_id (by omega) (by omega)
    have w2 : wrap64 (m + 1 + 1) = m + 1 + 1 := wrap64_id (by omega) (by omega)
    have w3 : wrap64 (m + 1 + 1 + 1) = m + 1 + 1 + 1 := wrap64_id (by omega) (by omega)
    have w4 : wrap64 (m + 1 + 1 + 1 + 1) = m + 1 + 1 + 1 + 1 := wrap64_id (by omega) (by omega)
    have ih := ih (done ++ [mkSpot m]) (n + 1) (m + 1 + 1 + 1 + 1) (by simp [hd]) (by omega) (by rw [List.length_cons] at hm; omega) (by rw [List.length_cons] at hb; omega)
    refine Ev.step (fun _ => rfl) ?_
    simp only [laws_markSpotS.l0, wrap64_succ hn, Int.toNat_natCast, set_at hd, rdT36_at hd, Option.bind_some, w1, w2, w3, w4]
    refine Ev.pos (by rw [List.length_append, List.length_cons]; omega) (Ev.bind (laws_markText_ev (m) (by omega)) (Ev.pos (by omega) (?_)))
    try simp only [Option.bind_some, set_at hd, rdT36_at hd]
    refine Ev.eq (Ev.congr (fun k => ?_) ih) ?_
    · simp only [List.append_assoc, List.cons_append, List.nil_append]; rfl
    · rw [markedSpot, List.append_assoc, List.length_cons]
      refine Prod.ext ?_ rfl
      show (m + 1 + 1 + 1 + 1) + 4 * (t.length : Int) = m + 4 * ((t.length + 1 : Nat) : Int)
      omega
theorem laws_markSpotS_ev (l : List S36) (m : Int) (h0 : 0 ≤ m) (hm : m + 4 * (l.length : Int) ≤ 4611686018427387904) (hl : l.length ≤ 1152921504606846976) : Ev (fun k => laws_markSpotS.f k l m) (m + 4 * (l.length : Int), markedSpot l m) :=
  laws_markSpotS_loop l [] 0 m rfl h0 hm (by omega)
theorem laws_heldSpotS_loop (xs : List S36) (hx : xs.length ≤ 1152921504606846976) : ∀ (rest : List S36) (n : Nat) (m : Int), xs.drop n = markedSpot rest m → 0 ≤ m → m + 4 * (rest.length : Int) ≤ 4611686018427387904 →
    Ev (fun k => laws_heldSpotS.l0 k xs m (n : Int)) (m + 4 * (rest.length : Int)) := by
  intro rest
  induction rest with
  | nil =>
    intro n m h h0 hm
    have := drop_nil h
    refine Ev.step (fun _ => rfl) ?_
    simp only [laws_heldSpotS.l0]
    exact Ev.neg (by omega) (Ev.done (by simp))
  | cons x t ih =>
    intro n m h h0 hm
    rw [markedSpot] at h
    obtain ⟨h1, -, h3⟩ := drop_cons h
    have hm' : m + 4 ≤ 4611686018427387904 := by rw [List.length_cons] at hm; omega
    have w1 : wrap64 (m + 1) = m + 1 := wrap64_id (by omega) (by omega)
    have w2 : wrap64 (m + 1 + 1) = m + 1 + 1 := wrap64_id (by omega) (by omega)
    have w3 : wrap64 (m + 1 + 1 + 1) = m + 1 + 1 + 1 := wrap64_id (by omega) (by omega)
    have w4 : wrap64 (m + 1 + 1 + 1 + 1) = m + 1 + 1 + 1 + 1 := wrap64_id (by omega) (by omega)
    have ih := ih (n + 1) (m + 1 + 1 + 1 + 1) h3 (by omega) (by rw [List.length_cons] at hm; omega)
    refine Ev.step (fun _ => rfl) ?_
    simp only [laws_heldSpotS.l0, wrap64_succ (show n ≤ 9223372036854775806 by omega), rdT36_drop h, w1, w2, w3, w4]
    refine Ev.pos (by omega) (Ev.pos (by omega) (Ev.bind (laws_markText_ev (m) (by omega)) (Ev.pos rfl (Ev.pos rfl (Ev.pos rfl (Ev.pos rfl (?_)))))))
    refine Ev.eq ih ?_
    rw [List.length_cons]
    show (m + 1 + 1 + 1 + 1) + 4 * (t.length : Int) = m + 4 * ((t.length + 1 : Nat) : Int)
    omega
theorem laws_heldSpotS_ev (l : List S36) (m : Int) (h0 : 0 ≤ m) (hm : m + 4 * (l.length : Int) ≤ 4611686018427387904) (hl : l.length ≤ 1152921504606846976) : Ev (fun k => laws_heldSpotS.f k (markedSpot l m) m) (m + 4 * (l.length : Int)) :=
  laws_heldSpotS_loop _ (by rw [markedSpot_length]; omega) l 0 m rfl h0 hm
theorem spec_l01In_eq (a b c : Int) : spec_l01In.f a b c = some (inR a b c) := by
  unfold spec_l01In.f inR
  by_cases h : b ≤ a
  · rw [if_pos h]; simp [h]
  · rw [if_neg h]; simp [h]
theorem impl_within_eq (a b c : Int) : impl_within.f a b c = some (inR a b c) := by
  unfold impl_within.f inR
  by_cases h : b ≤ a
  · rw [if_pos h]; simp [h]
  · rw [if_neg h]; simp [h]
theorem spec_l05Key_eq (s : ByteArray) : spec_l05Key.f s = some (inR s.size 1 10) := by
  unfold spec_l05Key.f; rw [spec_l01In_eq]; rfl
theorem impl_keyOk_eq (s : ByteArray) : impl_keyOk.f s = some (inR s.size 1 10) := by
  unfold impl_keyOk.f; rw [impl_within_eq]; rfl
def spotOk (x : S36) : Bool := inR x.f0.size 1 10 && (inR x.f1 0 999 && (inR x.f2 0 20000 && inR x.f3 0 40))
def keyRise : Option ByteArray → ByteArray → Bool
  | none, _ => true
  | some q, s => Op.bytesLess q.toList s.toList
def dirIn : Option ByteArray → List S36 → Bool
  | _, [] => true
  | p, x :: t => spotOk x && (keyRise p x.f0 && dirIn (some x.f0) t)
def dirOk (l : List S36) : Bool := decide (l.length ≤ 60) && dirIn none l
def keyOf (xs : List S36) : Nat → Option ByteArray
  | 0 => none
  | n + 1 => some (rd_T36 xs (n : Int)).f0
theorem dirIn_mem : ∀ {l : List S36} {p : Option ByteArray}, dirIn p l = true → ∀ x ∈ l, spotOk x = true
  | [], _, _, x, hx => by cases hx
  | y :: t, p, h, x, hx => by
    rw [dirIn, Bool.and_eq_true, Bool.and_eq_true] at h
    rcases List.mem_cons.1 hx with rfl | hx
    · exact h.1
    · exact dirIn_mem h.2.2 x hx
theorem spec_DirOk_loop (l : List S36) (hl : l.length ≤ 1048576) : ∀ (rest : List S36) (n : Nat), l.drop n = rest → Ev (fun k => spec_DirOk.l0 k l (n : Int)) (dirIn (keyOf l n) rest) := by
  intro rest
  induction rest with
  | nil =>
    intro n h
    have := drop_nil h
    refine Ev.step (fun _ => rfl) ?_
    simp only [spec_DirOk.l0]
    exact Ev.neg (by omega) (Ev.done (by simp [dirIn]))
  | cons x t ih =>
    intro n h
    obtain ⟨h1, -, h3⟩ := drop_cons h
    have hk : keyOf l (n + 1) = some x.f0 := by rw [keyOf, rdT36_drop h]
    have ih := ih (n + 1) h3
    rw [hk] at ih
    have tail : ∀ r, r = (inR x.f1 0 999 && (inR x.f2 0 20000 && (inR x.f3 0 40 && dirIn (some x.f0) t))) → Ev (fun k => (spec_l01In.f x.f1 0 999).bind fun t1 => (if t1 = true then ((spec_l01In.f x.f2 0 20000).bind fun t2 => (if t2 = true then ((spec_l01In.f x.f3 0 40).bind fun t3 => (if t3 = true then (spec_DirOk.l0 k l ((n + 1 : Nat) : Int)) else (some false))) else (some false))) else (some false))) r := by
      rintro r rfl
      refine Ev.call (spec_l01In_eq _ _ _) ?_
      cases inR x.f1 0 999
      · exact Ev.neg (by simp) (Ev.done (by simp))
      refine Ev.pos rfl (Ev.call (spec_l01In_eq _ _ _) ?_)
      cases inR x.f2 0 20000
      · exact Ev.neg (by simp) (Ev.done (by simp))
      refine Ev.pos rfl (Ev.call (spec_l01In_eq _ _ _) ?_)
      cases inR x.f3 0 40
      · exact Ev.neg (by simp) (Ev.done (by simp))
      exact Ev.pos rfl (Ev.eq ih (by simp))
    refine Ev.step (fun _ => rfl) ?_
    simp only [spec_DirOk.l0, rdT36_drop h, wrap64_succ (show n ≤ 9223372036854775806 by omega)]
    refine Ev.pos (by omega) (Ev.pos (by omega) (Ev.call (spec_l05Key_eq _) ?_))
    rw [dirIn, spotOk]
    cases h0 : inR x.f0.size 1 10
    · exact Ev.neg (by simp) (Ev.done (by simp))
    refine Ev.pos rfl ?_
    cases n with
    | zero => exact Ev.neg (by omega) (tail _ (by simp [keyOf, keyRise, Bool.and_assoc]))
    | succ m =>
      simp only [wrap64_pred (show m ≤ 9223372036854775806 by omega)]
      refine Ev.pos (by omega) (Ev.pos (by omega) (Ev.pos (by omega) (Ev.ite (fun hc => tail _ ?_) (fun hc => Ev.done ?_))))
      · simp only [keyOf, keyRise, hc]; simp [Bool.and_assoc]
      · simp only [keyOf, keyRise, Bool.eq_false_iff.2 hc]; simp
theorem spec_DirOk_ev (l : List S36) (hl : l.length ≤ 1048576) : Ev (fun k => spec_DirOk.f k l) (dirOk l) := by
  unfold spec_DirOk.f dirOk
  refine Ev.ite (fun hc => Ev.done ?_) (fun hc => Ev.eq (spec_DirOk_loop l hl l 0 rfl) ?_)
  · rw [decide_eq_false (show ¬ l.length ≤ 60 by omega)]; rfl
  · rw [decide_eq_true (show l.length ≤ 60 by omega)]; rfl
theorem impl_DirOk_loop (l : List S36) (hl : l.length ≤ 1048576) : ∀ (rest : List S36) (n : Nat), l.drop n = rest → Ev (fun k => impl_DirOk.l0 k l l (l.length : Int) (n : Int)) (decide (l.length ≤ 60) && dirIn (keyOf l n) rest) := by
  intro rest
  induction rest with
  | nil =>
    intro n h
    have := drop_nil h
    refine Ev.step (fun _ => rfl) ?_
    simp only [impl_DirOk.l0]
    refine Ev.neg (by omega) (Ev.done ?_)
    rw [dirIn, Bool.and_true]
    exact decide_eq_decide.2 (by omega)
  | cons x t ih =>
    intro n h
    obtain ⟨h1, -, h3⟩ := drop_cons h
    have hk : keyOf l (n + 1) = some x.f0 := by rw [keyOf, rdT36_drop h]
    have ih := ih (n + 1) h3
    rw [hk] at ih
    refine Ev.step (fun _ => rfl) ?_
    simp only [impl_DirOk.l0, rdT36_drop h, wrap64_succ (show n ≤ 9223372036854775806 by omega)]
    refine Ev.pos (by omega) (Ev.pos (by omega) (Ev.pos (by omega) (Ev.call (impl_keyOk_eq _) ?_)))
    rw [dirIn, spotOk]
    cases h0 : inR x.f0.size 1 10
    · exact Ev.neg (by simp) (Ev.done (by simp))
    refine Ev.pos rfl (Ev.call (impl_within_eq _ _ _) ?_)
    cases inR x.f1 0 999
    · exact Ev.neg (by simp) (Ev.done (by simp))
    refine Ev.pos rfl (Ev.call (impl_within_eq _ _ _) ?_)
    cases inR x.f2 0 20000
    · exact Ev.neg (by simp) (Ev.done (by simp))
    refine Ev.pos rfl (Ev.call (impl_within_eq _ _ _) ?_)
    cases inR x.f3 0 40
    · exact Ev.neg (by simp) (Ev.done (by simp))
    refine Ev.pos rfl ?_
    cases n with
    | zero => exact Ev.neg (by omega) (Ev.eq ih (by simp [keyOf, keyRise]))
    | succ m =>
      simp only [wrap64_pred (show m ≤ 9223372036854775806 by omega)]
      refine Ev.pos (by omega) (Ev.pos (by omega) (Ev.pos (by omega) (Ev.ite (fun hc => Ev.eq ih ?_) (fun hc => Ev.done ?_))))
      · simp only [keyOf, keyRise, hc]; simp
      · simp only [keyOf, keyRise, Bool.eq_false_iff.2 hc]; simp
theorem impl_DirOk_ev (l : List S36) (hl : l.length ≤ 1048576) : Ev (fun k => impl_DirOk.f k l) (dirOk l) :=
  impl_DirOk_loop l hl l 0 rfl
theorem less_irr : ∀ (a : List UInt8), Op.bytesLess a a = false
  | [] => rfl
  | a :: x => by
    have h1 : ¬ a < a := fun e => by have := UInt8.lt_iff_toNat_lt.mp e; omega
    simp [Op.bytesLess, h1, less_irr x]
theorem less_trans : ∀ {a b c : List UInt8}, Op.bytesLess a b = true → Op.bytesLess b c = true → Op.bytesLess a c = true
  | _, [], _, h, _ => by simp [Op.bytesLess] at h
  | _, _ :: _, [], _, h => by simp [Op.bytesLess] at h
  | [], _ :: _, _ :: _, _, _ => rfl
  | a :: x, b :: y, c :: z, h, k => by
    simp only [Op.bytesLess, Bool.or_eq_true, Bool.and_eq_true, decide_eq_true_iff, beq_iff_eq] at h k ⊢
    rcases h with h | ⟨rfl, h⟩
    · rcases k with k | ⟨rfl, k⟩
      · exact .inl (UInt8.lt_trans h k)
      · exact .inl h
    · rcases k with k | ⟨rfl, k⟩
      · exact .inl k
      · exact .inr ⟨rfl, less_trans h k⟩
theorem less_tri : ∀ {a b : List UInt8}, Op.bytesLess a b = false → Op.bytesLess b a = false → a = b
  | [], [], _, _ => rfl
  | [], _ :: _, h, _ => by simp [Op.bytesLess] at h
  | _ :: _, [], _, k => by simp [Op.bytesLess] at k
  | a :: x, b :: y, h, k => by
    simp only [Op.bytesLess, Bool.or_eq_false_iff, Bool.and_eq_false_iff, decide_eq_false_iff_not, beq_eq_false_iff_ne] at h k
    obtain ⟨h1, h2⟩ := h
    obtain ⟨k1, k2⟩ := k
    have e : a = b := by
      rw [UInt8.lt_iff_toNat_lt] at h1 k1
      exact UInt8.toNat_inj.mp (by omega)
    subst e
    rw [less_tri (a := x) (b := y) (by simpa using h2) (by simpa using k2)]
def lessK (a b : ByteArray) : Bool := Op.bytesLess a.toList b.toList
/-- A spot laid to others: what stands under its key goes. -/
def layS (out : List S36) (s : S36) : List S36 :=
  out.filter (fun x => lessK x.f0 s.f0) ++ (if s.f3 = -1 then [] else [s]) ++ out.filter (fun x => lessK s.f0 x.f0)
theorem laySl (out : List S36) (s : S36) : (layS out s).length ≤ out.length + 1 := by
  have h : ∀ l : List S36, (l.filter fun x => lessK x.f0 s.f0).length + (l.filter fun x => lessK s.f0 x.f0).length ≤ l.length := by
    intro l
    induction l with
    | nil => simp
    | cons x t ih =>
      have hn : ¬ (lessK x.f0 s.f0 = true ∧ lessK s.f0 x.f0 = true) := fun e => by
        have := less_trans e.1 e.2
        rw [less_irr] at this; cases this
      cases h1 : lessK x.f0 s.f0 <;> cases h2 : lessK s.f0 x.f0 <;> simp [h1, h2] <;> first | omega | exact absurd ⟨h1, h2⟩ hn
  have := h out
  unfold layS
  split <;> simp <;> omega
theorem spec_l08More_l2 (l1 out : List S36) (n : Nat) (a : ByteArray) (b c d : Int) (ho : out.length ≤ 4000000) (r : List S36) : ∀ (rest : List S36) (m : Nat) (acc : List S36), out.drop m = rest → acc.length + rest.length ≤ 8388608 →
    Ev (fun k => spec_l08More.l0 k l1 (acc ++ rest.filter fun x => lessK a x.f0) (wrap64 ((n : Int) + 1))) r → Ev (fun k => spec_l08More.l2 k l1 out (n : Int) acc (m : Int) a b c d) r := by
  intro rest
  induction rest with
  | nil =>
    intro m acc h hl hr
    have := drop_nil h
    refine Ev.step (fun _ => rfl) ?_
    simp only [spec_l08More.l2]
    refine Ev.neg (by omega) ?_
    simpa using hr
  | cons x t ih =>
    intro m acc h hl hr
    obtain ⟨h1, -, h3⟩ := drop_cons h
    rw [List.length_cons] at hl
    refine Ev.step (fun _ => rfl) ?_
    simp only [spec_l08More.l2, rdT36_drop h, wrap64_succ (show m ≤ 9223372036854775806 by omega)]
    refine Ev.pos (by omega) (Ev.pos (by omega) (Ev.ite (fun hc => Ev.pos (by omega) (ih (m + 1) _ h3 (by simp; omega) ?_)) (fun hc => ih (m + 1) _ h3 (by omega) ?_)))
    · rw [List.filter_cons_of_pos (by exact hc)] at hr
      simpa using hr
    · rw [List.filter_cons_of_neg (by exact hc)] at hr
      exact hr
theorem spec_l08More_l1 (l1 out : List S36) (n : Nat) (s : S36) (ho : out.length ≤ 4000000) (r : List S36) (hr : Ev (fun k => spec_l08More.l0 k l1 (layS out s) (wrap64 ((n : Int) + 1))) r) : ∀ (rest : List S36) (m : Nat) (acc : List S36), out.drop m = rest → acc.length ≤ m → acc ++ rest.filter (fun x => lessK x.f0 s.f0) = out.filter (fun x => lessK x.f0 s.f0) →
    Ev (fun k => spec_l08More.l1 k l1 out (n : Int) acc (m : Int) s.f0 s.f1 s.f2 s.f3) r := by
  intro rest
  induction rest with
  | nil =>
    intro m acc h hl he
    have := drop_nil h
    rw [List.filter_nil, List.append_nil] at he
    have fin : ∀ acc' : List S36, acc' = acc ++ (if s.f3 = -1 then [] else [s]) → Ev (fun k => spec_l08More.j2 k l1 out (n : Int) acc' s.f0 s.f1 s.f2 s.f3) r := by
      rintro acc' rfl
      refine Ev.step (fun _ => rfl) ?_
      simp only [spec_l08More.j2]
      have hal : acc.length ≤ out.length := by rw [he]; exact List.length_filter_le _ _
      refine spec_l08More_l2 l1 out n s.f0 s.f1 s.f2 s.f3 ho r out 0 _ rfl (by simp; split <;> simp <;> omega) ?_
      rw [he]
      exact hr
    have hal : acc.length ≤ out.length := by rw [he]; exact List.length_filter_le _ _
    refine Ev.step (fun _ => rfl) ?_
    simp only [spec_l08More.l1]
    refine Ev.neg (by omega) (Ev.ite (fun hc => fin _ (by rw [if_pos hc, List.append_nil])) (fun hc => Ev.pos (by omega) (fin _ (by rw [if_neg hc]))))
  | cons x t ih =>
    intro m acc h hl he
    obtain ⟨h1, -, h3⟩ := drop_cons h
    refine Ev.step (fun _ => rfl) ?_
    simp only [spec_l08More.l1, rdT36_drop h, wrap64_succ (show m ≤ 9223372036854775806 by omega)]
    refine Ev.pos (by omega) (Ev.pos (by omega) (Ev.ite (fun hc => Ev.pos (by omega) (ih (m + 1) _ h3 (by simp; omega) ?_)) (fun hc => ih (m + 1) _ h3 (by omega) ?_)))
    · rw [List.filter_cons_of_pos (by exact hc)] at he
      rw [← he]; simp
    · rw [List.filter_cons_of_neg (by exact hc)] at he
      exact he
theorem spec_l08More_l0 (l1 : List S36) (hl1 : l1.length ≤ 1048576) : ∀ (rest : List S36) (n : Nat) (out : List S36), l1.drop n = rest → out.length + rest.length ≤ 4000000 → Ev (fun k => spec_l08More.l0 k l1 out (n : Int)) (rest.foldl layS out) := by
  intro rest
  induction rest with
  | nil =>
    intro n out h ho
    have := drop_nil h
    refine Ev.step (fun _ => rfl) ?_
    simp only [spec_l08More.l0]
    exact Ev.neg (by omega) (Ev.now _)
  | cons x t ih =>
    intro n out h ho
    obtain ⟨h1, -, h3⟩ := drop_cons h
    rw [List.length_cons] at ho
    refine Ev.step (fun _ => rfl) ?_
    simp only [spec_l08More.l0, rdT36_drop h]
    have := laySl out x
    refine Ev.pos (by omega) (Ev.pos (by omega) (spec_l08More_l1 l1 out n x (by omega) _ ?_ out 0 [] rfl (by simp) (by simp)))
    rw [wrap64_succ (show n ≤ 9223372036854775806 by omega)]
    exact ih (n + 1) (layS out x) h3 (by omega)
theorem spec_l08More_ev (l0 l1 : List S36) (h0 : l0.length ≤ 1048576) (h1 : l1.length ≤ 1048576) : Ev (fun k => spec_l08More.f k l0 l1) (l1.foldl layS l0) := by
  unfold spec_l08More.f
  simp only [Option.bind_some, List.nil_append]
  exact Ev.pos (by simp; omega) (spec_l08More_l0 l1 h1 l1 0 l0 rfl (by omega))
def keysUp (l : List S36) : Prop := l.Pairwise fun x y => lessK x.f0 y.f0 = true
theorem dirIn_up : ∀ {l : List S36} {p : Option ByteArray}, dirIn p l = true → keysUp l ∧ ∀ q, p = some q → ∀ x ∈ l, lessK q x.f0 = true
  | [], p, _ => ⟨List.Pairwise.nil, fun _ _ x hx => by cases hx⟩
  | y :: t, p, h => by
    rw [dirIn, Bool.and_eq_true, Bool.and_eq_true] at h
    obtain ⟨h1, h2⟩ := dirIn_up h.2.2
    refine ⟨List.pairwise_cons.mpr ⟨fun x hx => h2 _ rfl x hx, h1⟩, ?_⟩
    rintro q rfl x hx
    rcases List.mem_cons.1 hx with rfl | hx
    · exact h.2.1
    · exact less_trans h.2.1 (h2 _ rfl x hx)
theorem keysUp_lay {l : List S36} (h : keysUp l) (s : S36) : keysUp (layS l s) := by
  unfold layS keysUp
  have h1 := List.Pairwise.filter (fun x : S36 => lessK x.f0 s.f0) h
  have h2 := List.Pairwise.filter (fun x : S36 => lessK s.f0 x.f0) h
  have m1 : ∀ x ∈ l.filter (fun x => lessK x.f0 s.f0), lessK x.f0 s.f0 = true := fun x hx => (List.mem_filter.1 hx).2
  have m2 : ∀ x ∈ l.filter (fun x => lessK s.f0 x.f0), lessK s.f0 x.f0 = true := fun x hx => (List.mem_filter.1 hx).2
  have m3 : ∀ x ∈ (if s.f3 = -1 then [] else [s]), x = s := fun x hx => by split at hx <;> simp at hx; exact hx
  rw [List.pairwise_append, List.pairwise_append]
  refine ⟨⟨h1, by split <;> simp, fun x hx y hy => ?_⟩, h2, fun x hx y hy => ?_⟩
  · rw [m3 y hy]; exact m1 x hx
  · rcases List.mem_append.1 hx with hx | hx
    · exact less_trans (m1 x hx) (m2 y hy)
    · rw [m3 x hx]; exact m2 y hy
def dirMore (l0 l1 : List S36) : List S36 × Bool := if dirOk l0 = true then (if dirOk (l1.foldl layS l0) = true then (l1.foldl layS l0, true) else ([], false)) else ([], false)
theorem lay_len (l1 : List S36) : ∀ (l0 : List S36), (l1.foldl layS l0).length ≤ l0.length + l1.length := by
  induction l1 with
  | nil => simp
  | cons x t ih =>
    intro l0
    have := ih (layS l0 x)
    have := laySl l0 x
    rw [List.foldl_cons, List.length_cons]
    omega
theorem dirMore_len (l0 l1 : List S36) : (dirMore l0 l1).1.length ≤ 60 := by
  unfold dirMore
  split
  · split
    · next h => unfold dirOk at h; rw [Bool.and_eq_true, decide_eq_true_iff] at h; exact h.1
    · simp
  · simp
theorem spec_DirMore_ev (l0 l1 : List S36) (h0 : l0.length + l1.length ≤ 1048576) : Ev (fun k => spec_DirMore.f k l0 l1) (dirMore l0 l1) := by
  unfold spec_DirMore.f dirMore
  refine Ev.bind (spec_DirOk_ev l0 (by omega)) ?_
  have := lay_len l1 l0
  cases hd : dirOk l0
  · exact Ev.neg (by simp) (Ev.done (by simp))
  · refine Ev.pos rfl (Ev.bind (spec_l08More_ev l0 l1 (by omega) (by omega)) (Ev.bind (spec_DirOk_ev _ (by omega)) ?_))
    cases hr : dirOk (l1.foldl layS l0)
    · exact Ev.neg (by simp) (Ev.done (by simp))
    · exact Ev.pos rfl (Ev.done (by simp))
theorem cmp_less : ∀ (a b : List UInt8), (Lib.compareBytes a b < 0 ↔ Op.bytesLess a b = true) ∧ (Lib.compareBytes a b = 0 ↔ a = b)
  | [], [] => by simp [Lib.compareBytes, Op.bytesLess]
  | [], _ :: _ => by simp [Lib.compareBytes, Op.bytesLess]
  | _ :: _, [] => by simp [Lib.compareBytes, Op.bytesLess]
  | a :: x, b :: y => by
    obtain ⟨ih1, ih2⟩ := cmp_less x y
    unfold Lib.compareBytes
    simp only [Op.bytesLess, Bool.or_eq_true, Bool.and_eq_true, decide_eq_true_iff, beq_iff_eq, List.cons.injEq]
    by_cases h1 : a < b
    · have h3 : ¬ a = b := fun e => by subst e; exact absurd h1 (by rw [UInt8.lt_iff_toNat_lt]; omega)
      rw [if_pos h1]
      exact ⟨by simp [h1], by simp [h3]⟩
    · rw [if_neg h1]
      by_cases h2 : b < a
      · have h3 : ¬ a = b := fun e => by subst e; exact absurd h2 (by rw [UInt8.lt_iff_toNat_lt]; omega)
        rw [if_pos h2]
        exact ⟨by simp [h1, h3], by simp [h3]⟩
      · rw [if_neg h2]
        have e : a = b := by
          rw [UInt8.lt_iff_toNat_lt] at h1 h2
          exact UInt8.toNat_inj.mp (by omega)
        subst e
        exact ⟨by rw [ih1]; simp [h1], by rw [ih2]; simp⟩
theorem key_lt (key : ByteArray) (x : S36) : keyCmp key x < 0 ↔ lessK x.f0 key = true := by unfold keyCmp lessK; rw [← ByteArray.toList_eq, ← ByteArray.toList_eq]; exact (cmp_less _ _).1
theorem key_eq (key : ByteArray) (x : S36) : keyCmp key x = 0 ↔ x.f0.toList = key.toList := by unfold keyCmp; rw [← ByteArray.toList_eq, ← ByteArray.toList_eq]; exact (cmp_less _ _).2
theorem ahead_cons (key : ByteArray) (x : S36) (t : List S36) : aheadN (keyCmp key) (x :: t) = aheadN (keyCmp key) t + (if lessK x.f0 key = true then 1 else 0) := by
  unfold aheadN
  rw [List.countP_cons]
  congr 1
  by_cases h : lessK x.f0 key = true
  · rw [if_pos h, if_pos (by rw [decide_eq_true_iff, key_lt]; exact h)]
  · rw [if_neg h, if_neg (by rw [decide_eq_true_iff, key_lt]; exact h)]
theorem up_none {key : ByteArray} {x : S36} {t : List S36} (h : keysUp (x :: t)) (hx : ¬ lessK x.f0 key = true) : ∀ y ∈ t, ¬ lessK y.f0 key = true := fun y hy e => hx (less_trans ((List.pairwise_cons.mp h).1 y hy) e)
theorem ahead_none {key : ByteArray} {t : List S36} (h : ∀ y ∈ t, ¬ lessK y.f0 key = true) : aheadN (keyCmp key) t = 0 := by
  unfold aheadN
  rw [List.countP_eq_zero]
  intro y hy
  rw [decide_eq_true_iff, key_lt]
  exact h y hy
theorem ahead_take (key : ByteArray) : ∀ (l : List S36), keysUp l → l.take (aheadN (keyCmp key) l) = l.filter (fun x => lessK x.f0 key) ∧ l.drop (aheadN (keyCmp key) l) = l.filter (fun x => !lessK x.f0 key)
  | [], _ => by simp
  | x :: t, h => by
    by_cases hx : lessK x.f0 key = true
    · obtain ⟨h1, h2⟩ := ahead_take key t (List.pairwise_cons.mp h).2
      rw [ahead_cons, if_pos hx, List.take_succ_cons, List.drop_succ_cons, List.filter_cons_of_pos (by exact hx), List.filter_cons_of_neg (by simp [hx]), h1, h2]
      exact ⟨rfl, rfl⟩
    · have hn := up_none h hx
      rw [ahead_cons, if_neg hx, ahead_none hn]
      refine ⟨?_, ?_⟩
      · rw [List.filter_eq_nil_iff.mpr (fun y hy => by rcases List.mem_cons.1 hy with rfl | hy; exact hx; exact hn y hy)]; rfl
      · rw [List.filter_eq_self.mpr (fun y hy => by rcases List.mem_cons.1 hy with rfl | hy; · simp [hx]
                                                    · simp [hn y hy])]; rfl
theorem stands_at (key : ByteArray) {l : List S36} (h : keysUp l) :
    (stands (keyCmp key) l = true → aheadN (keyCmp key) l < l.length ∧ l.drop (aheadN (keyCmp key) l + 1) = l.filter (fun x => lessK key x.f0)) ∧
    (stands (keyCmp key) l = false → l.drop (aheadN (keyCmp key) l) = l.filter (fun x => lessK key x.f0)) := by
  have hd := (ahead_take key l h).2
  have hf : ∀ {t : List S36}, (∀ x ∈ t, lessK key x.f0 = true) → ∀ {a : List S36}, l = a ++ t → (∀ x ∈ a, ¬ lessK key x.f0 = true) → l.filter (fun x => lessK key x.f0) = t := by
    intro t ht a hl ha
    rw [hl, List.filter_append, List.filter_eq_nil_iff.mpr (fun x hx => ha x hx), List.filter_eq_self.mpr (fun x hx => ht x hx), List.nil_append]
  have ht : ∀ x ∈ l.take (aheadN (keyCmp key) l), ¬ lessK key x.f0 = true := by
    intro x hx e
    rw [(ahead_take key l h).1] at hx
    have := less_trans e (List.mem_filter.1 hx).2
    rw [less_irr] at this; cases this
  have hup : keysUp (l.drop (aheadN (keyCmp key) l)) := List.Pairwise.sublist (List.drop_sublist _ _) h
  have hge : ∀ x ∈ l.drop (aheadN (keyCmp key) l), ¬ lessK x.f0 key = true := by
    intro x hx
    rw [hd] at hx
    simpa using (List.mem_filter.1 hx).2
  unfold stands
  rw [← List.head?_drop]
  cases hq : l.drop (aheadN (keyCmp key) l) with
  | nil =>
    refine ⟨fun e => by simp at e, fun _ => ?_⟩
    exact (hf (t := []) (by simp) (a := l.take (aheadN (keyCmp key) l)) (by rw [← hq, List.take_append_drop]) ht).symm
  | cons m t =>
    rw [hq] at hup hge
    have hlt : aheadN (keyCmp key) l < l.length := by
      rcases Nat.lt_or_ge (aheadN (keyCmp key) l) l.length with h1 | h1
      · exact h1
      · rw [List.drop_eq_nil_of_le h1] at hq; cases hq
    have hl : l = l.take (aheadN (keyCmp key) l) ++ (m :: t) := by rw [← hq, List.take_append_drop]
    have ht1 : l.drop (aheadN (keyCmp key) l + 1) = t := by rw [← List.drop_drop, hq]; rfl
    simp only [List.head?_cons, decide_eq_true_iff, decide_eq_false_iff_not, key_eq]
    refine ⟨fun e => ⟨hlt, ?_⟩, fun e => ?_⟩
    · rw [ht1]
      refine (hf (t := t) (fun x hx => ?_) (a := l.take (aheadN (keyCmp key) l) ++ [m]) (by rw [List.append_assoc]; exact hl) (fun x hx => ?_)).symm
      · have := (List.pairwise_cons.mp hup).1 x hx
        unfold lessK at this ⊢
        rw [← e]; exact this
      · rcases List.mem_append.1 hx with hx | hx
        · exact ht x hx
        · rw [List.mem_singleton] at hx
          unfold lessK
          rw [hx, e, less_irr]; simp
    · refine (hf (t := m :: t) (fun x hx => ?_) hl ht).symm
      have hm : lessK key m.f0 = true := by
        cases hc : lessK key m.f0
        · exact absurd (less_tri (by simpa [lessK] using hge m List.mem_cons_self) hc) e
        · rfl
      rcases List.mem_cons.1 hx with rfl | hx
      · exact hm
      · exact less_trans hm ((List.pairwise_cons.mp hup).1 x hx)
theorem step_lay {l : List S36} (h : keysUp l) (s : S36) : impl_DirMore.step s l = layS l s := by
  obtain ⟨h1, h2⟩ := stands_at s.f0 h
  have ht := (ahead_take s.f0 l h).1
  unfold impl_DirMore.step layS
  by_cases hd : s.f3 = -1
  · rw [if_pos hd, if_pos hd, List.append_nil]
    cases hs : stands (keyCmp s.f0) l
    · rw [if_neg (by simp), ← ht, ← h2 hs, List.take_append_drop]
    · rw [if_pos rfl, ht, (h1 hs).2]
  · rw [if_neg hd, if_neg hd]
    cases hs : stands (keyCmp s.f0) l
    · rw [if_neg (by simp), ht, h2 hs]; simp
    · rw [if_pos rfl, List.set_eq_take_append_cons_drop, if_pos (h1 hs).1, ht, (h1 hs).2]; simp
theorem okB_up {l : List S36} (h : keysUp l) (hl : l.length ≤ 3000000) (s : S36) : impl_DirMore.okB s l = true := by
  unfold impl_DirMore.okB
  rw [Bool.and_eq_true, decide_eq_true_iff, decide_eq_true_iff]
  refine ⟨List.Pairwise.imp (fun hxy hy => ?_) h, by omega⟩
  rw [key_lt] at hy ⊢
  exact less_trans hxy hy
theorem more_fold : ∀ (l1 l0 : List S36), keysUp l0 → l0.length + l1.length ≤ 2900000 → impl_DirMore.more l1 l0 = some (l1.foldl layS l0)
  | [], _, _, _ => rfl
  | s :: t, l0, h, hl => by
    rw [List.length_cons] at hl
    have := laySl l0 s
    rw [impl_DirMore.more, if_pos (okB_up h (by omega) s), step_lay h, List.foldl_cons]
    exact more_fold t (layS l0 s) (keysUp_lay h s) (by omega)
theorem impl_DirMore_ev (l0 l1 : List S36) (h0 : l0.length + l1.length ≤ 1048576) : Ev (fun k => impl_DirMore.f k l0 l1) (dirMore l0 l1) := by
  unfold impl_DirMore.f dirMore
  refine Ev.bind (impl_DirOk_ev l0 (by omega)) ?_
  have := lay_len l1 l0
  cases hd : dirOk l0
  · exact Ev.neg (by simp) (Ev.done (by simp))
  · have hup : keysUp l0 := by unfold dirOk at hd; rw [Bool.and_eq_true] at hd; exact (dirIn_up hd.2).1
    refine Ev.pos rfl (Ev.pos (by omega) (Ev.call (more_fold l1 l0 hup (by omega)) (Ev.bind (impl_DirOk_ev _ (by omega)) ?_)))
    cases hr : dirOk (l1.foldl layS l0)
    · exact Ev.neg (by simp) (Ev.done (by simp))
    · exact Ev.pos rfl (Ev.done (by simp))
theorem FnExactDirMore_q (l m : List S33) (q : l.length * 40 ≤ 140737488351232 ∧ ∀ x ∈ l, x.f0.size ≤ 140737488351232 ∧ (Lit.int .i64 x.f1).wf = true ∧ (Lit.int .i64 x.f2).wf = true ∧ (Lit.int .i64 x.f3).wf = true)
    (q' : m.length * 40 ≤ 140737488351232 ∧ ∀ x ∈ m, x.f0.size ≤ 140737488351232 ∧ (Lit.int .i64 x.f1).wf = true ∧ (Lit.int .i64 x.f2).wf = true ∧ (Lit.int .i64 x.f3).wf = true) :
    ∃ k, laws_FnExactDirMore.f k l m = some true := by
  apply Ev.rounds
  unfold laws_FnExactDirMore.f
  obtain ⟨r, hr, hb⟩ := laws_szSpotS_ev l (by omega) (fun x hx => (q.2 x hx).1) 1048576 (by omega) (by omega)
  refine Ev.bind hr (Ev.ite (fun _ => Ev.now _) (fun hn => ?_))
  have hb := hb hn
  obtain ⟨r2, hr2, hb2⟩ := laws_szSpotS_ev m (by omega) (fun x hx => (q'.2 x hx).1) r (by omega) (by omega)
  refine Ev.bind hr2 (Ev.ite (fun _ => Ev.now _) (fun hn2 => ?_))
  have hb2 := hb2 hn2
  have hl : l.length ≤ 1048576 := by omega
  have hm : m.length ≤ 1048576 := by omega
  have hlm : (l.map toSpot).length + (m.map toSpot).length ≤ 1048576 := by simp only [List.length_map]; omega
  have tl := laws_toSpotS_ev l hl
  have tm := laws_toSpotS_ev m hm
  have hs := spec_DirMore_ev (l.map toSpot) (m.map toSpot) hlm
  have hi := impl_DirMore_ev (l.map toSpot) (m.map toSpot) hlm
  have hw := dirMore_len (l.map toSpot) (m.map toSpot)
  generalize dirMore (l.map toSpot) (m.map toSpot) = w at hs hi hw
  have e0 := laws_eqSpotS_refl (l.map toSpot) (by omega)
  have e1 := laws_eqSpotS_refl (m.map toSpot) (by omega)
  have e2 := laws_eqSpotS_refl w.1 (by omega)
  have k0 := laws_markSpotS_ev (l.map toSpot) 1 (by omega) (by omega) (by omega)
  have k1 := laws_markSpotS_ev (m.map toSpot) (1 + 4 * ((l.map toSpot).length : Int)) (by omega) (by omega) (by omega)
  have k2 := laws_markSpotS_ev w.1 1 (by omega) (by omega) (by omega)
  have hh := laws_heldSpotS_ev w.1 1 (by omega) (by omega) (by omega)
  refine Ev.bind tl (Ev.bind tm (Ev.bind hs (Ev.bind tl (Ev.bind tm (Ev.bind hi (Ev.bind e2 (Ev.pos rfl ?_)))))))
  refine Ev.step (fun _ => rfl) ?_
  simp only [laws_FnExactDirMore.j0]
  refine Ev.neg (by simp) (Ev.bind tl (Ev.bind e0 (Ev.pos rfl (Ev.bind tm (Ev.bind e1 (Ev.pos rfl (Ev.bind k0 (Ev.bind k1 (Ev.neg (by dsimp only; omega) (Ev.bind e2 (Ev.pos rfl ?_)))))))))))
  refine Ev.step (fun _ => rfl) ?_
  simp only [laws_FnExactDirMore.j1]
  refine Ev.neg (by simp) (Ev.bind k2 (Ev.bind hh (Ev.neg (by omega) (Ev.pos rfl (Ev.bind tl (Ev.bind tm (Ev.bind hi (Ev.bind e2 (Ev.pos rfl ?_)))))))))
  refine Ev.step (fun _ => rfl) ?_
  simp only [laws_FnExactDirMore.j2]
  exact Ev.neg (by simp) (Ev.bind hh (Ev.neg (by omega) (Ev.pos rfl (Ev.now _))))

end Go.Proofs.Ytejeafifaoffhaa.Pure
