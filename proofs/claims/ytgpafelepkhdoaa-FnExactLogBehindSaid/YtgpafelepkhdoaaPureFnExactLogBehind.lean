/- The law FnExactLogBehind answers true: the program's LogBehind returns what the reference's returns, in memory of its own, and leaves its argument as it was. For all arguments; no further condition. -/
import Derived.Test.YtgpafelepkhdoaaPFnExactLogBehindx9
import Derived.Test.YtgpafelepkhdoaaVFnExactLogBehindBase
namespace Go.Proofs.Ytgpafelepkhdoaa.Pure
open Go.RowKit Go.Proofs.Ytgpafelepkhdoaa.PFnExactLogBehind Go.Proofs.YtgpafelepkhdoaaW.PrintWords Go.Proofs.YtgpafelepkhdoaaW.PrintLast Go.Proofs.Ytgpafelepkhdoaa.Base
set_option linter.unusedVariables false

theorem laws_markText_loop : ∀ (n : Nat) (acc : ByteArray), acc.size + n ≤ 4611686018427387904 → Ev (fun k => laws_markText.l0 k (n : Int) acc) (markTextL n acc) := by
  intro n
  induction n using Nat.strongRecOn with
  | ind n ih =>
    intro acc h
    refine Ev.step (fun _ => rfl) ?_
    simp only [laws_markText.l0, tdiv10 n (by omega), tmod10 n, Option.bind_some, strOfNums_size, List.length_singleton]
    rw [markTextL]
    refine Ev.ite (fun hc => ?_) (fun hc => ?_)
    · rw [if_pos (show n > 0 by omega)]
      exact Ev.pos (by omega) (ih (n / 10) (by omega) _ (by rw [size_append, strOfNums_size, List.length_singleton]; omega))
    · rw [if_neg (show ¬ n > 0 by omega)]
      exact Ev.pos (by omega) (Ev.now _)
theorem laws_markText_ev (m : Int) (hm : m ≤ 4611686018427387904) : Ev (fun k => laws_markText.f k m) (markTextOf m) := by
  unfold laws_markText.f markTextOf
  by_cases hc : m ≤ 0
  · rw [if_pos hc]; exact Ev.pos hc (Ev.now _)
  · rw [if_neg hc]
    obtain ⟨n, rfl⟩ := Int.eq_ofNat_of_zero_le (show 0 ≤ m by omega)
    exact Ev.neg hc (laws_markText_loop n _ (by show 0 + n ≤ _; omega))
theorem rdT167_drop {xs : List S167} {n : Nat} {x : S167} {t : List S167} (h : xs.drop n = x :: t) : rd_T167 xs (n : Int) = x := by
  unfold rd_T167
  rw [Int.toNat_natCast]
  exact (drop_cons h).2.1 _
theorem rdT167_at {a : List S167} {n : Nat} (h : a.length = n) (v : S167) (t : List S167) : rd_T167 (a ++ v :: t) (n : Int) = v := by
  unfold rd_T167
  rw [Int.toNat_natCast]
  exact getD_at h v t _
theorem rdT167_get {xs : List S167} {n : Nat} (h : n < xs.length) : xs[n]? = some (rd_T167 xs (n : Int)) := by
  unfold rd_T167
  rw [Int.toNat_natCast]
  exact getD_get h
theorem rdT37_drop {xs : List S37} {n : Nat} {x : S37} {t : List S37} (h : xs.drop n = x :: t) : rd_T37 xs (n : Int) = x := by
  unfold rd_T37
  rw [Int.toNat_natCast]
  exact (drop_cons h).2.1 _
theorem rdT37_at {a : List S37} {n : Nat} (h : a.length = n) (v : S37) (t : List S37) : rd_T37 (a ++ v :: t) (n : Int) = v := by
  unfold rd_T37
  rw [Int.toNat_natCast]
  exact getD_at h v t _
theorem rdT37_get {xs : List S37} {n : Nat} (h : n < xs.length) : xs[n]? = some (rd_T37 xs (n : Int)) := by
  unfold rd_T37
  rw [Int.toNat_natCast]
  exact getD_get h
def entriesOk (t : Int) : List S37 → Bool
  | [] => true
  | e :: r => entryOk e.f0 e.f1 e.f2 && (decide (t ≤ e.f0) && entriesOk e.f0 r)
def logOk (s t : Int) (l : List S37) : Bool := inR s 0 100000 && (inR t 0 100000 && (decide (l.length ≤ 120) && (decide (s + (l.length : Int) ≤ 100000) && entriesOk t l)))
theorem logOk_bounds {s t : Int} {l : List S37} (h : logOk s t l = true) : (0 ≤ s ∧ s ≤ 100000) ∧ (0 ≤ t ∧ t ≤ 100000) ∧ l.length ≤ 120 ∧ s + (l.length : Int) ≤ 100000 := by
  unfold logOk at h
  simp only [Bool.and_eq_true, inR_true, decide_eq_true_eq] at h
  exact ⟨h.1, h.2.1, h.2.2.1, h.2.2.2.1⟩
def entriesIn (t T : Int) : List S37 → Bool
  | [] => true
  | e :: r => entryOk e.f0 e.f1 e.f2 && (decide (t ≤ e.f0) && (decide (e.f0 ≤ T) && entriesIn e.f0 T r))
def msgOk (kd fr tt tm ix lt cm : Int) (ok : Bool) (es : List S37) (cf : List Int) (da : ByteArray) (la : Bool) : Bool :=
  inR kd 1 6 && (inR fr 1 4 && (inR tt 1 4 && (!(fr == tt) && (inR tm 0 100000 && (inR lt 0 100000 && (inR ix 0 100000 && (inR cm 0 100000 && (decide (es.length ≤ 4) && (decide (es.length = 0 ∨ kd = 3) && (entriesIn lt tm es &&
    (if kd = 5 then confOk cf && decide (da.size ≤ 60) else decide (cf.length = 0) && (emp da && !la))))))))))))
theorem laws_szEntry_some (x0 : Int) (x1 : Int) (x2 : ByteArray) (c : Int) (hc0 : 0 ≤ c) (hc : c ≤ 1048576) (h2 : x2.size ≤ 140737488351232) :
    ∃ r, laws_szEntry.f x0 x1 x2 c = some r ∧ (¬ r < 0 → r = c - ((x2.size : Nat) : Int)) := by
  unfold laws_szEntry.f wrap64
  by_cases c0 : (c - (x2.size : Int) + 9223372036854775808) % 18446744073709551616 - 9223372036854775808 < 0
  · exact ⟨-1, by rw [if_pos c0], by omega⟩
  rw [if_neg c0]
  exact ⟨_, rfl, by omega⟩
def wtEntry (x : S167) : Nat := x.f2.size
theorem laws_szEntryS_loop (xs : List S167) (hx : xs.length ≤ 1048576) : ∀ (rest : List S167) (n : Nat) (c : Int), xs.drop n = rest → (∀ x ∈ rest, x.f2.size ≤ 140737488351232) → 0 ≤ c → c ≤ 1048576 →
    ∃ r, Ev (fun k => laws_szEntryS.l0 k xs c (n : Int)) r ∧ (¬ r < 0 → r = c - (((rest.map wtEntry).sum : Nat) : Int)) := by
  intro rest
  induction rest with
  | nil =>
    intro n c h _ h0 h1
    have := drop_nil h
    refine ⟨c, Ev.step (fun _ => rfl) ?_, by simp⟩
    simp only [laws_szEntryS.l0]
    exact Ev.neg (by omega) (Ev.now _)
  | cons x t ih =>
    intro n c h hq0 h0 h1
    obtain ⟨hn, -, h3⟩ := drop_cons h
    have hq := hq0 x List.mem_cons_self
    obtain ⟨r, hr, hb⟩ := laws_szEntry_some x.f0 x.f1 x.f2 c h0 h1 hq
    by_cases hc : r < 0
    · refine ⟨-1, Ev.step (fun _ => rfl) ?_, by omega⟩
      simp only [laws_szEntryS.l0, rdT167_drop h]
      exact Ev.pos (by omega) (Ev.pos (by omega) (Ev.call hr (Ev.pos hc (Ev.now _))))
    · have hb := hb hc
      obtain ⟨r', hr', hb'⟩ := ih (n + 1) r h3 (fun y hy => hq0 y (List.mem_cons_of_mem _ hy)) (by omega) (by omega)
      refine ⟨r', Ev.step (fun _ => rfl) ?_, fun hn => ?_⟩
      · simp only [laws_szEntryS.l0, rdT167_drop h, wrap64_succ (show n ≤ 9223372036854775806 by omega)]
        exact Ev.pos (by omega) (Ev.pos (by omega) (Ev.call hr (Ev.neg hc hr')))
      · have := hb' hn
        rw [List.map_cons, List.sum_cons, wtEntry]
        omega
theorem laws_szEntryS_ev (xs : List S167) (hx : xs.length ≤ 17592186044416) (hq : ∀ x ∈ xs, x.f2.size ≤ 140737488351232) (c : Int) (h0 : 0 ≤ c) (h1 : c ≤ 1048576) :
    ∃ r, Ev (fun k => laws_szEntryS.f k xs c) r ∧ (¬ r < 0 → r = c - ((xs.length + (xs.map wtEntry).sum : Nat) : Int)) := by
  unfold laws_szEntryS.f
  rw [wrap64_id (by omega) (by omega)]
  by_cases hc : c - (xs.length : Int) < 0
  · exact ⟨-1, Ev.pos hc (Ev.now _), by omega⟩
  · obtain ⟨r, hr, hb⟩ := laws_szEntryS_loop xs (by omega) xs 0 (c - (xs.length : Int)) rfl hq (by omega) (by omega)
    exact ⟨r, Ev.neg hc hr, fun hn => by have := hb hn; omega⟩
theorem sum_wtEntry {xs : List S167} {x : S167} (h : x ∈ xs) : wtEntry x ≤ (xs.map wtEntry).sum := le_sum (List.mem_map_of_mem h)
def toEntry (x : S167) : S37 := ⟨x.f0, x.f1, x.f2⟩
theorem laws_toEntryS_loop (xs : List S167) (hx : xs.length ≤ 1048576) : ∀ (d n : Nat), n + d = xs.length →
    Ev (fun k => laws_toEntryS.l0 k xs ((xs.map toEntry).take n ++ List.replicate d z37) (n : Int)) (xs.map toEntry) := by
  intro d
  induction d with
  | zero =>
    intro n h
    refine Ev.step (fun _ => rfl) ?_
    simp only [laws_toEntryS.l0]
    exact Ev.neg (by omega) (Ev.done (by rw [List.take_of_length_le (by simp; omega)]; simp))
  | succ d ih =>
    intro n h
    refine Ev.step (fun _ => rfl) ?_
    simp only [laws_toEntryS.l0, wrap64_succ (show n ≤ 9223372036854775806 by omega)]
    refine Ev.pos (by omega) (Ev.pos (by omega) (Ev.call rfl (Ev.pos (by simp; omega) (Ev.congr (fun k => ?_) (ih (n + 1) (by omega))))))
    rw [Int.toNat_natCast, set_fill (xs.map toEntry) n d z37 _ (by simpa using h) (by rw [List.getElem?_map, rdT167_get (show n < xs.length by omega)]; rfl)]
theorem laws_toEntryS_ev (xs : List S167) (hx : xs.length ≤ 1048576) : Ev (fun k => laws_toEntryS.f k xs) (xs.map toEntry) := by
  unfold laws_toEntryS.f
  refine Ev.pos (by omega) (Ev.pos (by omega) ?_)
  exact Ev.congr (fun k => by simp) (laws_toEntryS_loop xs hx xs.length 0 (by omega))
theorem laws_eqEntry_refl (x0 : Int) (x1 : Int) (x2 : ByteArray) : laws_eqEntry.f x0 x1 x2 x0 x1 x2 = some true := by simp [laws_eqEntry.f]
theorem laws_eqEntryS_loop (xs : List S37) (hx : xs.length ≤ 9223372036854775806) : ∀ (rest : List S37) (n : Nat), xs.drop n = rest → Ev (fun k => laws_eqEntryS.l0 k xs xs (n : Int)) true := by
  intro rest
  induction rest with
  | nil =>
    intro n h
    have := drop_nil h
    refine Ev.step (fun _ => rfl) ?_
    simp only [laws_eqEntryS.l0]
    exact Ev.neg (by omega) (Ev.now _)
  | cons x t ih =>
    intro n h
    obtain ⟨h1, -, h3⟩ := drop_cons h
    refine Ev.step (fun _ => rfl) ?_
    simp only [laws_eqEntryS.l0, wrap64_succ (show n ≤ 9223372036854775806 by omega)]
    exact Ev.pos (by omega) (Ev.pos (by omega) (Ev.pos (by omega) (Ev.call (laws_eqEntry_refl _ _ _) (Ev.pos rfl (ih (n + 1) h3)))))
theorem laws_eqEntryS_refl (xs : List S37) (hx : xs.length ≤ 9223372036854775806) : Ev (fun k => laws_eqEntryS.f k xs xs) true :=
  Ev.pos rfl (laws_eqEntryS_loop xs hx xs 0 rfl)
def mkEntry (m : Int) : S37 := ⟨m, m + 1, markTextOf (m + 1 + 1)⟩
def markedEntry : List S37 → Int → List S37
  | [], _ => []
  | _ :: t, m => mkEntry m :: markedEntry t (m + 1 + 1 + 1)
theorem markedEntry_length : ∀ (l : List S37) (m : Int), (markedEntry l m).length = l.length
  | [], _ => rfl
  | x :: t, m => by rw [markedEntry, List.length_cons, List.length_cons, markedEntry_length t]
theorem laws_markEntryS_loop : ∀ (rest done : List S37) (n : Nat) (m : Int), done.length = n → 0 ≤ m → m + 3 * (rest.length : Int) ≤ 4611686018427387904 → n + rest.length ≤ 1152921504606846976 →
    Ev (fun k => laws_markEntryS.l0 k (done ++ rest) m (n : Int)) (m + 3 * (rest.length : Int), done ++ markedEntry rest m) := by
  intro rest
  induction rest with
  | nil =>
    intro done n m hd h0 hm hb
    refine Ev.step (fun _ => rfl) ?_
    simp only [laws_markEntryS.l0]
    exact Ev.neg (by rw [List.append_nil]; omega) (Ev.done (by simp [markedEntry]))
  | cons x t ih =>
    intro done n m hd h0 hm hb
    have hn : n ≤ 9223372036854775806 := by rw [List.length_cons] at hb; omega
    have hm' : m + 3 ≤ 4611686018427387904 := by rw [List.length_cons] at hm; omega
    have w1 : wrap64 (m + 1) = m + 1 := wrap64_id (by omega) (by omega)
    have w2 : wrap64 (m + 1 + 1) = m + 1 + 1 := wrap64_id (by omega) (by omega)
    have w3 : wrap64 (m + 1 + 1 + 1) = m + 1 + 1 + 1 := wrap64_id (by omega) (by omega)
    have ih := ih (done ++ [mkEntry m]) (n + 1) (m + 1 + 1 + 1) (by simp [hd]) (by omega) (by rw [List.length_cons] at hm; omega) (by rw [List.length_cons] at hb; omega)
    refine Ev.step (fun _ => rfl) ?_
    simp only [laws_markEntryS.l0, wrap64_succ hn, Int.toNat_natCast, set_at hd, rdT37_at hd, Option.bind_some, w1, w2, w3]
    refine Ev.pos (by rw [List.length_append, List.length_cons]; omega) (Ev.pos (by omega) (Ev.bind (laws_markText_ev (m + 1 + 1) (by omega)) (?_)))
    try simp only [Option.bind_some, set_at hd, rdT37_at hd]
    refine Ev.eq (Ev.congr (fun k => ?_) ih) ?_
    · simp only [List.append_assoc, List.cons_append, List.nil_append]; rfl
    · rw [markedEntry, List.append_assoc, List.length_cons]
      refine Prod.ext ?_ rfl
      show (m + 1 + 1 + 1) + 3 * (t.length : Int) = m + 3 * ((t.length + 1 : Nat) : Int)
      omega
theorem laws_markEntryS_ev (l : List S37) (m : Int) (h0 : 0 ≤ m) (hm : m + 3 * (l.length : Int) ≤ 4611686018427387904) (hl : l.length ≤ 1152921504606846976) : Ev (fun k => laws_markEntryS.f k l m) (m + 3 * (l.length : Int), markedEntry l m) :=
  laws_markEntryS_loop l [] 0 m rfl h0 hm (by omega)
theorem laws_heldEntryS_loop (xs : List S37) (hx : xs.length ≤ 1152921504606846976) : ∀ (rest : List S37) (n : Nat) (m : Int), xs.drop n = markedEntry rest m → 0 ≤ m → m + 3 * (rest.length : Int) ≤ 4611686018427387904 →
    Ev (fun k => laws_heldEntryS.l0 k xs m (n : Int)) (m + 3 * (rest.length : Int)) := by
  intro rest
  induction rest with
  | nil =>
    intro n m h h0 hm
    have := drop_nil h
    refine Ev.step (fun _ => rfl) ?_
    simp only [laws_heldEntryS.l0]
    exact Ev.neg (by omega) (Ev.done (by simp))
  | cons x t ih =>
    intro n m h h0 hm
    rw [markedEntry] at h
    obtain ⟨h1, -, h3⟩ := drop_cons h
    have hm' : m + 3 ≤ 4611686018427387904 := by rw [List.length_cons] at hm; omega
    have w1 : wrap64 (m + 1) = m + 1 := wrap64_id (by omega) (by omega)
    have w2 : wrap64 (m + 1 + 1) = m + 1 + 1 := wrap64_id (by omega) (by omega)
    have w3 : wrap64 (m + 1 + 1 + 1) = m + 1 + 1 + 1 := wrap64_id (by omega) (by omega)
    have ih := ih (n + 1) (m + 1 + 1 + 1) h3 (by omega) (by rw [List.length_cons] at hm; omega)
    refine Ev.step (fun _ => rfl) ?_
    simp only [laws_heldEntryS.l0, wrap64_succ (show n ≤ 9223372036854775806 by omega), rdT37_drop h, w1, w2, w3]
    refine Ev.pos (by omega) (Ev.pos (by omega) (Ev.pos rfl (Ev.pos rfl (Ev.bind (laws_markText_ev (m + 1 + 1) (by omega)) (Ev.pos rfl (?_))))))
    refine Ev.eq ih ?_
    rw [List.length_cons]
    show (m + 1 + 1 + 1) + 3 * (t.length : Int) = m + 3 * ((t.length + 1 : Nat) : Int)
    omega
theorem laws_heldEntryS_ev (l : List S37) (m : Int) (h0 : 0 ≤ m) (hm : m + 3 * (l.length : Int) ≤ 4611686018427387904) (hl : l.length ≤ 1152921504606846976) : Ev (fun k => laws_heldEntryS.f k (markedEntry l m) m) (m + 3 * (l.length : Int)) :=
  laws_heldEntryS_loop _ (by rw [markedEntry_length]; omega) l 0 m rfl h0 hm
theorem spec_l01In_eq (a b c : Int) : spec_l01In.f a b c = some (inR a b c) := by
  unfold spec_l01In.f inR
  by_cases h : b ≤ a
  · rw [if_pos h]; simp [h]
  · rw [if_neg h]; simp [h]
theorem impl_within_eq (a b c : Int) : impl_within.f a b c = some (inR a b c) := by
  unfold impl_within.f inR
  by_cases h : b ≤ a
  · rw [if_pos h]; simp [h]
  · rw [if_neg h]; simp [h]
theorem spec_l07Rise_loop (xs : List Int) (lo hi : Int) (hx : xs.length ≤ 9223372036854775806) : ∀ (rest : List Int) (n : Nat), xs.drop n = rest →
    Ev (fun k => spec_l07Rise.l0 k xs lo hi (n : Int)) (rise lo hi (prevOf xs n) rest) := by
  intro rest
  induction rest with
  | nil =>
    intro n h
    have := drop_nil h
    refine Ev.step (fun _ => rfl) ?_
    simp only [spec_l07Rise.l0]
    exact Ev.neg (by omega) (Ev.done (by cases n <;> rfl))
  | cons x t ih =>
    intro n h
    obtain ⟨h1, -, h3⟩ := drop_cons h
    have ih := ih (n + 1) h3
    rw [prevOf_next h] at ih
    refine Ev.step (fun _ => rfl) ?_
    simp only [spec_l07Rise.l0, drop_rd h, wrap64_succ (show n ≤ 9223372036854775806 by omega)]
    refine Ev.pos (by omega) (Ev.pos (by omega) (Ev.call (spec_l01In_eq _ _ _) ?_))
    cases hb : inR x lo hi
    · exact Ev.neg (by simp) (Ev.done (by cases n <;> simp [rise, prevOf, hb]))
    · refine Ev.pos rfl ?_
      cases n with
      | zero => exact Ev.neg (by omega) (Ev.eq ih (by simp [rise, prevOf, hb]))
      | succ m =>
        refine Ev.pos (by omega) ?_
        simp only [wrap64_pred (show m ≤ 9223372036854775806 by omega)]
        refine Ev.pos (by omega) (Ev.pos (by omega) (Ev.ite (fun hc => Ev.done ?_) (fun hc => Ev.eq ih ?_)))
        · simp only [prevOf, rise, hb, decide_eq_false (show ¬ rd xs (m : Int) < x by omega)]; simp
        · simp only [prevOf, rise, hb, decide_eq_true (show rd xs (m : Int) < x by omega)]; simp
theorem spec_l07Rise_ev (xs : List Int) (lo hi : Int) (hx : xs.length ≤ 9223372036854775806) : Ev (fun k => spec_l07Rise.f k xs lo hi) (rise lo hi none xs) :=
  spec_l07Rise_loop xs lo hi hx xs 0 rfl
theorem spec_ConfOk_ev (xs : List Int) (hx : xs.length ≤ 9223372036854775806) : Ev (fun k => spec_ConfOk.f k xs) (confOk xs) := by
  unfold spec_ConfOk.f
  refine Ev.call (spec_l01In_eq _ _ _) ?_
  cases hb : inR xs.length 1 4
  · exact Ev.neg (by simp) (Ev.done (by simp [confOk, hb]))
  · exact Ev.pos rfl (Ev.bind (spec_l07Rise_ev xs 1 4 hx) (Ev.done (by simp [confOk, hb])))
theorem impl_ConfOk_loop (xs : List Int) (hx : xs.length ≤ 9223372036854775806) : ∀ (rest : List Int) (n : Nat), xs.drop n = rest →
    Ev (fun k => impl_ConfOk.l0 k xs xs (xs.length : Int) (n : Int)) (rise 1 4 (prevOf xs n) rest && inR xs.length 1 4) := by
  intro rest
  induction rest with
  | nil =>
    intro n h
    have := drop_nil h
    refine Ev.step (fun _ => rfl) ?_
    simp only [impl_ConfOk.l0]
    exact Ev.neg (by omega) (Ev.call (impl_within_eq _ _ _) (Ev.done (by cases n <;> simp [rise])))
  | cons x t ih =>
    intro n h
    obtain ⟨h1, -, h3⟩ := drop_cons h
    have ih := ih (n + 1) h3
    rw [prevOf_next h] at ih
    refine Ev.step (fun _ => rfl) ?_
    simp only [impl_ConfOk.l0, drop_rd h, wrap64_succ (show n ≤ 9223372036854775806 by omega)]
    refine Ev.pos (by omega) (Ev.pos (by omega) (Ev.pos (by omega) (Ev.call (impl_within_eq _ _ _) ?_)))
    cases hb : inR x 1 4
    · exact Ev.neg (by simp) (Ev.done (by cases n <;> simp [rise, prevOf, hb]))
    · refine Ev.pos rfl ?_
      cases n with
      | zero => exact Ev.neg (by omega) (Ev.eq ih (by simp [rise, prevOf, hb]))
      | succ m =>
        refine Ev.pos (by omega) ?_
        simp only [wrap64_pred (show m ≤ 9223372036854775806 by omega)]
        refine Ev.pos (by omega) (Ev.pos (by omega) (Ev.ite (fun hc => Ev.done ?_) (fun hc => Ev.eq ih ?_)))
        · simp only [prevOf, rise, hb, decide_eq_false (show ¬ rd xs (m : Int) < x by omega)]; simp
        · simp only [prevOf, rise, hb, decide_eq_true (show rd xs (m : Int) < x by omega)]; simp
theorem impl_ConfOk_ev (xs : List Int) (hx : xs.length ≤ 9223372036854775806) : Ev (fun k => impl_ConfOk.f k xs) (confOk xs) :=
  Ev.eq (impl_ConfOk_loop xs hx xs 0 rfl) (by rw [confOk, Bool.and_comm]; rfl)
theorem spec_ReadConf_loop (s : ByteArray) (hx : s.size ≤ 1048576) : ∀ (rest : List Int) (n : Nat) (acc : List Int), (bytesOf s).drop n = rest → acc = (bytesOf s).take n → n ≤ 5 →
    Ev (fun k => spec_ReadConf.l0 k s acc (n : Int)) (readConf s) := by
  have hz := bytesOf_length s
  have whole : ∀ (acc : List Int), acc = bytesOf s → Ev (fun k => if (acc.length : Int) = (s.size : Int) then ((spec_ConfOk.f k acc).bind fun t => (if t = true then (some (acc, true)) else (some ((([] : List Int)), false)))) else (some ((([] : List Int)), false))) (readConf s) := by
    intro acc ha
    subst ha
    refine Ev.pos (by omega) (Ev.bind (spec_ConfOk_ev _ (by omega)) ?_)
    unfold readConf
    cases hb : confOk (bytesOf s)
    · exact Ev.neg (by simp) (Ev.done (by simp))
    · exact Ev.pos rfl (Ev.done (by simp))
  intro rest
  induction rest with
  | nil =>
    intro n acc h ha h5
    have := bytesOf_drop_nil h
    refine Ev.step (fun _ => rfl) ?_
    simp only [spec_ReadConf.l0]
    exact Ev.neg (by omega) (whole acc (by rw [ha, List.take_of_length_le (by omega)]))
  | cons x t ih =>
    intro n acc h ha h5
    obtain ⟨h1, h2, h3, h4, h6⟩ := bytesOf_drop_lt h
    refine Ev.step (fun _ => rfl) ?_
    simp only [spec_ReadConf.l0, h2, wrap64_id (show -9223372036854775808 ≤ x by omega) (show x ≤ 9223372036854775807 by omega), wrap64_succ (show n ≤ 9223372036854775806 by omega)]
    refine Ev.pos (by omega) (Ev.ite (fun hc => ?_) (fun hc => ?_))
    · refine Ev.pos (by omega) (Ev.pos (by rw [ha, List.length_take]; omega) (ih (n + 1) (acc ++ [x]) h3 ?_ (by omega)))
      rw [ha, List.take_succ_eq_append_getElem (show n < (bytesOf s).length by omega)]
      have e := drop_rd h
      rw [rd_nat, List.getD_eq_getElem?_getD, List.getElem?_eq_getElem (show n < (bytesOf s).length by omega)] at e
      rw [← e]; rfl
    · have hl : acc.length = n := by rw [ha, List.length_take]; omega
      have hf : confOk (bytesOf s) = false := by
        cases hb : confOk (bytesOf s)
        · rfl
        · have := confOk_len hb; omega
      by_cases he : n = s.size
      · exact whole acc (by rw [ha, List.take_of_length_le (by omega)])
      · exact Ev.neg (by omega) (Ev.done (by simp [readConf, hf]))
theorem spec_ReadConf_ev (s : ByteArray) (hx : s.size ≤ 1048576) : Ev (fun k => spec_ReadConf.f k s) (readConf s) :=
  spec_ReadConf_loop s hx _ 0 [] rfl rfl (by omega)
theorem impl_ReadConf_loop (s : ByteArray) (hx : s.size ≤ 1048576) : ∀ (rest : List Int) (n : Nat) (acc : List Int), (bytesOf s).drop n = rest → acc = (bytesOf s).take n →
    Ev (fun k => impl_ReadConf.l0 k s acc (n : Int)) (readConf s) := by
  have hz := bytesOf_length s
  intro rest
  induction rest with
  | nil =>
    intro n acc h ha
    have := bytesOf_drop_nil h
    refine Ev.step (fun _ => rfl) ?_
    simp only [impl_ReadConf.l0]
    obtain rfl : acc = bytesOf s := by rw [ha, List.take_of_length_le (by omega)]
    refine Ev.neg (by omega) (Ev.bind (impl_ConfOk_ev _ (by omega)) ?_)
    unfold readConf
    cases hb : confOk (bytesOf s)
    · exact Ev.neg (by simp) (Ev.done (by simp))
    · exact Ev.pos rfl (Ev.done (by simp))
  | cons x t ih =>
    intro n acc h ha
    obtain ⟨h1, h2, h3, h4, h6⟩ := bytesOf_drop_lt h
    refine Ev.step (fun _ => rfl) ?_
    simp only [impl_ReadConf.l0, h2, wrap64_id (show -9223372036854775808 ≤ x by omega) (show x ≤ 9223372036854775807 by omega), wrap64_succ (show n ≤ 9223372036854775806 by omega)]
    refine Ev.pos (by omega) (Ev.pos (by omega) (Ev.pos (by rw [ha, List.length_take]; omega) (ih (n + 1) (acc ++ [x]) h3 ?_)))
    rw [ha, List.take_succ_eq_append_getElem (show n < (bytesOf s).length by omega)]
    have e := drop_rd h
    rw [rd_nat, List.getD_eq_getElem?_getD, List.getElem?_eq_getElem (show n < (bytesOf s).length by omega)] at e
    rw [← e]; rfl
theorem impl_ReadConf_ev (s : ByteArray) (hx : s.size ≤ 1048576) : Ev (fun k => impl_ReadConf.f k s) (readConf s) :=
  impl_ReadConf_loop s hx _ 0 [] rfl rfl
theorem spec_EntryOk_ev (t d : Int) (s : ByteArray) (hs : s.size ≤ 1048576) : Ev (fun k => spec_EntryOk.f k t d s) (entryOk t d s) := by
  unfold spec_EntryOk.f entryOk
  simp only [emp_def]
  refine Ev.call (spec_l01In_eq _ _ _) ?_
  cases h1 : inR t 0 100000
  · exact Ev.neg (by simp) (Ev.done (by simp))
  refine Ev.pos rfl (Ev.ite (fun h => Ev.done (by simp [h])) (fun h => Ev.ite (fun h' => ?_) (fun h' => Ev.ite (fun h2 => Ev.done ?_) (fun h2 => Ev.done (by simp [h, h', h2])))))
  · refine Ev.bind (spec_ReadConf_ev s hs) (Ev.done ?_)
    subst h'
    unfold readConf
    cases hc : confOk (bytesOf s) <;> simp
  · subst h2
    simp
    omega
theorem impl_EntryOk_ev (t d : Int) (s : ByteArray) (hs : s.size ≤ 1048576) : Ev (fun k => impl_EntryOk.f k t d s) (entryOk t d s) := by
  unfold impl_EntryOk.f entryOk
  simp only [emp_def]
  refine Ev.call (impl_within_eq _ _ _) ?_
  cases h1 : inR t 0 100000
  · exact Ev.neg (by simp) (Ev.done (by simp))
  refine Ev.pos rfl (Ev.ite (fun h => Ev.done (by simp [h])) (fun h => Ev.ite (fun h' => ?_) (fun h' => Ev.ite (fun h2 => Ev.done ?_) (fun h2 => Ev.done (by simp [h, h', h2])))))
  · refine Ev.bind (impl_ReadConf_ev s hs) (Ev.done ?_)
    subst h'
    unfold readConf
    cases hc : confOk (bytesOf s) <;> simp
  · subst h2
    simp
    omega
theorem laws_szLog_ev (a0 a1 : Int) (l : List S167) (hx : l.length ≤ 17592186044416) (hq : ∀ x ∈ l, x.f2.size ≤ 140737488351232) :
    ∃ r, Ev (fun k => laws_szLog.f k a0 a1 l 1048576) r ∧ (¬ r < 0 → l.length ≤ 1048576 ∧ ∀ x ∈ l, x.f2.size ≤ 1048576) := by
  unfold laws_szLog.f
  obtain ⟨r, hr, hb⟩ := laws_szEntryS_ev l hx hq 1048576 (by omega) (by omega)
  by_cases hc : r < 0
  · exact ⟨-1, Ev.bind hr (Ev.pos hc (Ev.now _)), by omega⟩
  · refine ⟨r, Ev.bind hr (Ev.neg hc (Ev.now _)), fun _ => ?_⟩
    have := hb hc
    refine ⟨by omega, fun x hx => ?_⟩
    have h1 := sum_wtEntry hx
    have h2 : wtEntry x = x.f2.size := rfl
    omega
theorem laws_toLog_ev (a0 a1 : Int) (l : List S167) (hx : l.length ≤ 1048576) : Ev (fun k => laws_toLog.f k a0 a1 l) (a0, a1, l.map toEntry) :=
  Ev.bind (laws_toEntryS_ev l hx) (Ev.now _)
theorem laws_eqLog_refl (a0 a1 : Int) (l : List S37) (hx : l.length ≤ 9223372036854775806) : Ev (fun k => laws_eqLog.f k a0 a1 l a0 a1 l) true :=
  Ev.pos rfl (Ev.pos rfl (Ev.bind (laws_eqEntryS_refl l hx) (Ev.pos rfl (Ev.now _))))
theorem spec_LogOk_loop (a0 a1 : Int) (l : List S37) (hx : l.length ≤ 1048576) (hd : ∀ x ∈ l, x.f2.size ≤ 1048576) : ∀ (rest : List S37) (n : Nat) (t : Int), l.drop n = rest →
    Ev (fun k => spec_LogOk.l0 k t (n : Int) a0 a1 l) (entriesOk t rest) := by
  intro rest
  induction rest with
  | nil =>
    intro n t h
    have := drop_nil h
    refine Ev.step (fun _ => rfl) ?_
    simp only [spec_LogOk.l0]
    exact Ev.neg (by omega) (Ev.now _)
  | cons x r ih =>
    intro n t h
    obtain ⟨h1, -, h3⟩ := drop_cons h
    have hm : x ∈ l := List.mem_of_mem_drop (h ▸ List.mem_cons_self)
    refine Ev.step (fun _ => rfl) ?_
    simp only [spec_LogOk.l0, rdT37_drop h, wrap64_succ (show n ≤ 9223372036854775806 by omega)]
    refine Ev.pos (by omega) (Ev.pos (by omega) (Ev.bind (spec_EntryOk_ev _ _ _ (hd x hm)) ?_))
    cases hb : entryOk x.f0 x.f1 x.f2
    · exact Ev.neg (by simp) (Ev.done (by simp [entriesOk, hb]))
    · refine Ev.pos rfl (Ev.ite (fun hc => Ev.done ?_) (fun hc => Ev.eq (ih (n + 1) _ h3) ?_))
      · simp only [entriesOk, hb, decide_eq_false (show ¬ t ≤ x.f0 by omega)]; simp
      · simp only [entriesOk, hb, decide_eq_true (show t ≤ x.f0 by omega)]; simp
theorem spec_LogOk_ev (a0 a1 : Int) (l : List S37) (hx : l.length ≤ 1048576) (hd : ∀ x ∈ l, x.f2.size ≤ 1048576) : Ev (fun k => spec_LogOk.f k a0 a1 l) (logOk a0 a1 l) := by
  have bad : ∀ r, r = false → Ev (fun k => spec_LogOk.j0 k true a0 a1 l) r := by
    rintro r rfl
    refine Ev.step (fun _ => rfl) ?_
    simp only [spec_LogOk.j0]
    exact Ev.pos trivial (Ev.now _)
  unfold spec_LogOk.f logOk
  refine Ev.call (spec_l01In_eq _ _ _) ?_
  cases h1 : inR a0 0 100000
  · exact Ev.neg (by simp) (bad _ (by simp))
  refine Ev.pos rfl (Ev.call (spec_l01In_eq _ _ _) ?_)
  cases h2 : inR a1 0 100000
  · exact Ev.neg (by simp) (bad _ (by simp))
  have b1 := inR_true.1 h1
  refine Ev.pos rfl (Ev.ite (fun hc => bad _ ?_) (fun hc => ?_))
  · rw [decide_eq_false (show ¬ l.length ≤ 120 by omega)]; simp
  rw [decide_eq_true (show l.length ≤ 120 by omega), wrap64_id (by omega) (by omega)]
  by_cases hs : a0 + (l.length : Int) ≤ 100000
  · rw [decide_eq_true hs, decide_eq_false (show ¬ a0 + (l.length : Int) > 100000 by omega)]
    refine Ev.step (fun _ => rfl) ?_
    simp only [spec_LogOk.j0]
    exact Ev.neg (by simp) (Ev.eq (spec_LogOk_loop a0 a1 l hx hd l 0 a1 rfl) (by simp))
  · rw [decide_eq_false hs, decide_eq_true (show a0 + (l.length : Int) > 100000 by omega)]
    exact bad _ (by simp)
theorem impl_LogOk_loop (l : List S37) (hx : l.length ≤ 1048576) (hd : ∀ x ∈ l, x.f2.size ≤ 1048576) : ∀ (rest : List S37) (n : Nat) (t : Int), l.drop n = rest →
    Ev (fun k => impl_LogOk.l0 k t l (l.length : Int) (n : Int)) (entriesOk t rest) := by
  intro rest
  induction rest with
  | nil =>
    intro n t h
    have := drop_nil h
    refine Ev.step (fun _ => rfl) ?_
    simp only [impl_LogOk.l0]
    exact Ev.neg (by omega) (Ev.now _)
  | cons x r ih =>
    intro n t h
    obtain ⟨h1, -, h3⟩ := drop_cons h
    have hm : x ∈ l := List.mem_of_mem_drop (h ▸ List.mem_cons_self)
    refine Ev.step (fun _ => rfl) ?_
    simp only [impl_LogOk.l0, rdT37_drop h, wrap64_succ (show n ≤ 9223372036854775806 by omega)]
    refine Ev.pos (by omega) (Ev.pos (by omega) (Ev.pos (by omega) (Ev.bind (impl_EntryOk_ev _ _ _ (hd x hm)) ?_)))
    cases hb : entryOk x.f0 x.f1 x.f2
    · exact Ev.neg (by simp) (Ev.done (by simp [entriesOk, hb]))
    · refine Ev.pos rfl (Ev.ite (fun hc => Ev.done ?_) (fun hc => Ev.eq (ih (n + 1) _ h3) ?_))
      · simp only [entriesOk, hb, decide_eq_false (show ¬ t ≤ x.f0 by omega)]; simp
      · simp only [entriesOk, hb, decide_eq_true (show t ≤ x.f0 by omega)]; simp
theorem impl_LogOk_ev (a0 a1 : Int) (l : List S37) (hx : l.length ≤ 1048576) (hd : ∀ x ∈ l, x.f2.size ≤ 1048576) : Ev (fun k => impl_LogOk.f k a0 a1 l) (logOk a0 a1 l) := by
  have bad : ∀ r, r = false → Ev (fun k => impl_LogOk.j0 k true a0 a1 l) r := by
    rintro r rfl
    refine Ev.step (fun _ => rfl) ?_
    simp only [impl_LogOk.j0]
    exact Ev.pos trivial (Ev.now _)
  unfold impl_LogOk.f logOk
  refine Ev.call (impl_within_eq _ _ _) ?_
  cases h1 : inR a0 0 100000
  · exact Ev.neg (by simp) (bad _ (by simp))
  refine Ev.pos rfl (Ev.call (impl_within_eq _ _ _) ?_)
  cases h2 : inR a1 0 100000
  · exact Ev.neg (by simp) (bad _ (by simp))
  have b1 := inR_true.1 h1
  refine Ev.pos rfl (Ev.ite (fun hc => bad _ ?_) (fun hc => ?_))
  · rw [decide_eq_false (show ¬ l.length ≤ 120 by omega)]; simp
  rw [decide_eq_true (show l.length ≤ 120 by omega), wrap64_id (by omega) (by omega)]
  by_cases hs : a0 + (l.length : Int) ≤ 100000
  · rw [decide_eq_true hs, decide_eq_false (show ¬ a0 + (l.length : Int) > 100000 by omega)]
    refine Ev.step (fun _ => rfl) ?_
    simp only [impl_LogOk.j0]
    exact Ev.neg (by simp) (Ev.eq (impl_LogOk_loop l hx hd l 0 a1 rfl) (by simp))
  · rw [decide_eq_false hs, decide_eq_true (show a0 + (l.length : Int) > 100000 by omega)]
    exact bad _ (by simp)
def logTerm (s t : Int) (l : List S37) (a : Int) : Int := if a = s then t else if s < a ∧ a ≤ s + (l.length : Int) then (rd_T37 l (a - s - 1)).f0 else -1
theorem spec_LogTerm_eq (s t : Int) (l : List S37) (a : Int) (hs : 0 ≤ s ∧ s ≤ 100000) (hl : l.length ≤ 120) : spec_LogTerm.f s t l a = some (logTerm s t l a) := by
  unfold spec_LogTerm.f logTerm spec_l12Last.f
  by_cases h1 : a = s
  · rw [if_pos h1, if_pos h1]
  rw [if_neg h1, if_neg h1]
  by_cases h2 : a < s
  · rw [if_pos h2, if_neg (by omega)]
  rw [if_neg h2]
  have w1 : wrap64 (s + (l.length : Int)) = s + (l.length : Int) := wrap64_id (by omega) (by omega)
  simp only [Option.bind_some, w1]
  by_cases h3 : a > s + (l.length : Int)
  · rw [if_pos h3, if_neg (by omega)]
  have w2 : wrap64 (a - s) = a - s := wrap64_id (by omega) (by omega)
  have w3 : wrap64 (a - s - 1) = a - s - 1 := wrap64_id (by omega) (by omega)
  rw [if_neg h3, w2, w3, if_pos (by omega), if_pos (by omega), if_pos (by omega)]
theorem impl_LogTerm_eq (s t : Int) (l : List S37) (a : Int) (hs : 0 ≤ s ∧ s ≤ 100000) (hl : l.length ≤ 120) (ha : a ≤ 9223372036854775807) : impl_LogTerm.f s t l a = some (logTerm s t l a) := by
  unfold impl_LogTerm.f logTerm impl_hasEntry.f
  by_cases h1 : a = s
  · rw [if_pos h1, if_pos h1]
  rw [if_neg h1, if_neg h1]
  by_cases h2 : a > s
  · have w2 : wrap64 (a - s) = a - s := wrap64_id (by omega) (by omega)
    have w3 : wrap64 (a - s - 1) = a - s - 1 := wrap64_id (by omega) (by omega)
    rw [if_pos h2, w2, impl_within_eq]
    simp only [Option.bind_some, w3]
    cases h4 : inR (a - s) 1 (l.length : Int)
    · have := inR_false.1 h4
      rw [if_neg (by simp), if_neg (by omega)]
    · have := inR_true.1 h4
      rw [if_pos rfl, if_pos (by omega), if_pos (by omega), if_pos (by omega)]
  · rw [if_neg h2]
    simp only [Option.bind_some]
    rw [if_neg (by simp), if_neg (by omega)]
def logBehind (s t : Int) (l : List S37) (a b : Int) : Int × Int × List S37 :=
  if (logOk s t l && (inR a s (s + (l.length : Int)) && decide (logTerm s t l a = b))) = true then (a, b, l.drop (a - s).toNat) else (a, b, [])
theorem spec_LogBehind_ev (s t : Int) (l : List S37) (a b : Int) (hl : l.length ≤ 1048576) (hd : ∀ x ∈ l, x.f2.size ≤ 1048576) : Ev (fun k => spec_LogBehind.f k s t l a b) (logBehind s t l a b) := by
  unfold spec_LogBehind.f logBehind
  refine Ev.bind (spec_LogOk_ev s t l hl hd) ?_
  cases hk : logOk s t l
  · exact Ev.neg (by simp) (Ev.done (by simp))
  obtain ⟨b1, b2, b3, b4⟩ := logOk_bounds hk
  have w1 : wrap64 (s + (l.length : Int)) = s + (l.length : Int) := wrap64_id (by omega) (by omega)
  refine Ev.pos rfl (Ev.call (a := s + (l.length : Int)) (by rw [spec_l12Last.f, w1]) (Ev.call (spec_l01In_eq _ _ _) ?_))
  cases h1 : inR a s (s + (l.length : Int))
  · exact Ev.neg (by simp) (Ev.done (by simp))
  have c1 := inR_true.1 h1
  have w2 : wrap64 (a - s) = a - s := wrap64_id (by omega) (by omega)
  refine Ev.pos rfl (Ev.call (spec_LogTerm_eq s t l a b1 b3) (Ev.ite (fun h2 => ?_) (fun h2 => Ev.done ?_)))
  · rw [w2]
    refine Ev.call rfl (Ev.pos (by omega) (Ev.pos (by omega) (Ev.call rfl (Ev.pos (by simp; omega) (Ev.done ?_)))))
    rw [if_pos (by simp [h2])]; simp
  · rw [if_neg (by simp [h2])]
theorem impl_LogBehind_ev (s t : Int) (l : List S37) (a b : Int) (hl : l.length ≤ 1048576) (hd : ∀ x ∈ l, x.f2.size ≤ 1048576) (ha : a ≤ 9223372036854775807) : Ev (fun k => impl_LogBehind.f k s t l a b) (logBehind s t l a b) := by
  unfold impl_LogBehind.f logBehind
  refine Ev.bind (impl_LogOk_ev s t l hl hd) ?_
  cases hk : logOk s t l
  · exact Ev.neg (by simp) (Ev.done (by simp))
  obtain ⟨b1, b2, b3, b4⟩ := logOk_bounds hk
  have w1 : wrap64 (s + (l.length : Int)) = s + (l.length : Int) := wrap64_id (by omega) (by omega)
  refine Ev.pos rfl (Ev.call (impl_LogTerm_eq s t l a b1 b3 ha) (Ev.ite (fun h2 => ?_) (fun h2 => Ev.done ?_)))
  · refine Ev.call (a := s + (l.length : Int)) (by rw [impl_last.f, w1]) (Ev.call (impl_within_eq _ _ _) ?_)
    cases h1 : inR a s (s + (l.length : Int))
    · exact Ev.neg (by simp) (Ev.done (by simp))
    have c1 := inR_true.1 h1
    have w2 : wrap64 (a - s) = a - s := wrap64_id (by omega) (by omega)
    rw [w2]
    refine Ev.pos rfl (Ev.pos (by omega) (Ev.pos (by omega) (Ev.call rfl (Ev.pos (by simp; omega) (Ev.done ?_)))))
    rw [if_pos (by simp [h2])]; simp
  · rw [if_neg (by simp [h2])]
theorem logBehind_len (s t : Int) (l : List S37) (a b : Int) : (logBehind s t l a b).2.2.length ≤ l.length := by
  unfold logBehind
  split
  · simp only [List.length_drop]; omega
  · simp
theorem laws_markLog_ev (s t : Int) (l : List S37) (hl : l.length ≤ 1048576) : Ev (fun k => laws_markLog.f k s t l 1) (1 + 3 * (l.length : Int), markedEntry l 1) :=
  Ev.bind (laws_markEntryS_ev l 1 (by omega) (by omega) (by omega)) (Ev.now _)
theorem laws_heldLog_ev (s t : Int) (l : List S37) (hl : l.length ≤ 1048576) : Ev (fun k => laws_heldLog.f k s t (markedEntry l 1) 1) (1 + 3 * (l.length : Int)) :=
  Ev.bind (laws_heldEntryS_ev l 1 (by omega) (by omega) (by omega)) (Ev.neg (by omega) (Ev.now _))
theorem FnExactLogBehind_q (a0 a1 : Int) (l : List S167) (a b : Int) (q : (Lit.int .i64 a0).wf = true ∧ (Lit.int .i64 a1).wf = true ∧ l.length * 32 ≤ 140737488351232 ∧ ∀ x ∈ l, (Lit.int .i64 x.f0).wf = true ∧ (Lit.int .i64 x.f1).wf = true ∧ x.f2.size ≤ 140737488351232) (qa : (Lit.int .i64 a).wf = true) (qb : (Lit.int .i64 b).wf = true) :
    ∃ k, laws_FnExactLogBehind.f k a0 a1 l a b = some true := by
  apply Ev.rounds
  unfold laws_FnExactLogBehind.f
  obtain ⟨r, hr, hb⟩ := laws_szLog_ev a0 a1 l (by omega) (fun x hx => (q.2.2.2 x hx).2.2)
  refine Ev.bind hr (Ev.ite (fun _ => Ev.now _) (fun hn => ?_))
  obtain ⟨hl, hd⟩ := hb hn
  have ha := (i64_wf qa).2
  have hm : (l.map toEntry).length ≤ 1048576 := by simpa using hl
  have hd' : ∀ x ∈ l.map toEntry, x.f2.size ≤ 1048576 := by
    intro x hx
    obtain ⟨y, hy, rfl⟩ := List.mem_map.1 hx
    exact hd y hy
  have hr := logBehind_len a0 a1 (l.map toEntry) a b
  have eqr := laws_eqLog_refl (logBehind a0 a1 (l.map toEntry) a b).1 (logBehind a0 a1 (l.map toEntry) a b).2.1 (logBehind a0 a1 (l.map toEntry) a b).2.2 (by omega)
  have eql := laws_eqLog_refl a0 a1 (l.map toEntry) (by omega)
  have ht := laws_toLog_ev a0 a1 l hl
  have hi := impl_LogBehind_ev a0 a1 (l.map toEntry) a b hm hd' ha
  have hh := laws_heldLog_ev (logBehind a0 a1 (l.map toEntry) a b).1 (logBehind a0 a1 (l.map toEntry) a b).2.1 (logBehind a0 a1 (l.map toEntry) a b).2.2 (by omega)
  refine Ev.bind ht (Ev.bind (spec_LogBehind_ev _ _ _ a b hm hd') (Ev.bind ht (Ev.bind hi (Ev.bind eqr (Ev.pos rfl (Ev.bind ht (Ev.bind eql (Ev.pos rfl (Ev.bind (laws_markLog_ev _ _ _ hm) (Ev.neg (by dsimp only; omega) (Ev.bind eqr ?_)))))))))))
  refine Ev.step (fun _ => rfl) ?_
  simp only [laws_FnExactLogBehind.j0]
  exact Ev.neg (by simp) (Ev.bind (laws_markLog_ev _ _ _ (by omega)) (Ev.bind hh (Ev.neg (by omega) (Ev.pos rfl (Ev.bind ht (Ev.bind hi (Ev.bind eqr (Ev.pos rfl (Ev.bind hh (Ev.neg (by omega) (Ev.pos rfl (Ev.now _))))))))))))

end Go.Proofs.Ytgpafelepkhdoaa.Pure
