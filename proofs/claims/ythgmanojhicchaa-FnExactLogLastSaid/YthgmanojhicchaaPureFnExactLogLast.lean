/- The law FnExactLogLast answers true: the program's LogLast returns what the reference's returns, and leaves its argument as it was. For all arguments; no further condition. -/
import Derived.Test.YthgmanojhicchaaPFnExactLogLastx3
import Derived.Test.YthgmanojhicchaaBase
namespace Go.Proofs.Ythgmanojhicchaa.Pure
open Go.RowKit Go.Proofs.Ythgmanojhicchaa.PFnExactLogLast Go.Proofs.YthgmanojhicchaaW.PrintWords Go.Proofs.YthgmanojhicchaaW.PrintLast Go.Proofs.Ythgmanojhicchaa.Base
set_option linter.unusedVariables false

theorem rdT40_drop {xs : List S40} {n : Nat} {x : S40} {t : List S40} (h : xs.drop n = x :: t) : rd_T40 xs (n : Int) = x := by
  unfold rd_T40
  rw [Int.toNat_natCast]
  exact (drop_cons h).2.1 _
theorem rdT40_at {a : List S40} {n : Nat} (h : a.length = n) (v : S40) (t : List S40) : rd_T40 (a ++ v :: t) (n : Int) = v := by
  unfold rd_T40
  rw [Int.toNat_natCast]
  exact getD_at h v t _
theorem rdT40_get {xs : List S40} {n : Nat} (h : n < xs.length) : xs[n]? = some (rd_T40 xs (n : Int)) := by
  unfold rd_T40
  rw [Int.toNat_natCast]
  exact getD_get h
theorem rdT43_drop {xs : List S43} {n : Nat} {x : S43} {t : List S43} (h : xs.drop n = x :: t) : rd_T43 xs (n : Int) = x := by
  unfold rd_T43
  rw [Int.toNat_natCast]
  exact (drop_cons h).2.1 _
theorem rdT43_at {a : List S43} {n : Nat} (h : a.length = n) (v : S43) (t : List S43) : rd_T43 (a ++ v :: t) (n : Int) = v := by
  unfold rd_T43
  rw [Int.toNat_natCast]
  exact getD_at h v t _
theorem rdT43_get {xs : List S43} {n : Nat} (h : n < xs.length) : xs[n]? = some (rd_T43 xs (n : Int)) := by
  unfold rd_T43
  rw [Int.toNat_natCast]
  exact getD_get h
def entriesOk (t : Int) : List S43 → Bool
  | [] => true
  | e :: r => entryOk e.f0 e.f1 e.f2 && (decide (t ≤ e.f0) && entriesOk e.f0 r)
def logOk (s t : Int) (l : List S43) : Bool := inR s 0 100000 && (inR t 0 100000 && (decide (l.length ≤ 120) && (decide (s + (l.length : Int) ≤ 100000) && entriesOk t l)))
theorem logOk_bounds {s t : Int} {l : List S43} (h : logOk s t l = true) : (0 ≤ s ∧ s ≤ 100000) ∧ (0 ≤ t ∧ t ≤ 100000) ∧ l.length ≤ 120 ∧ s + (l.length : Int) ≤ 100000 := by
  unfold logOk at h
  simp only [Bool.and_eq_true, inR_true, decide_eq_true_eq] at h
  exact ⟨h.1, h.2.1, h.2.2.1, h.2.2.2.1⟩
def entriesIn (t T : Int) : List S43 → Bool
  | [] => true
  | e :: r => entryOk e.f0 e.f1 e.f2 && (decide (t ≤ e.f0) && (decide (e.f0 ≤ T) && entriesIn e.f0 T r))
def msgOk (kd fr tt tm ix lt cm : Int) (ok : Bool) (es : List S43) (cf : List Int) (da : ByteArray) (la : Bool) : Bool :=
  inR kd 1 6 && (inR fr 1 4 && (inR tt 1 4 && (!(fr == tt) && (inR tm 0 100000 && (inR lt 0 100000 && (inR ix 0 100000 && (inR cm 0 100000 && (decide (es.length ≤ 4) && (decide (es.length = 0 ∨ kd = 3) && (entriesIn lt tm es &&
    (if kd = 5 then confOk cf && decide (da.size ≤ 60) else decide (cf.length = 0) && (emp da && !la))))))))))))
theorem laws_szEntry_some (x0 : Int) (x1 : Int) (x2 : ByteArray) (c : Int) (hc0 : 0 ≤ c) (hc : c ≤ 1048576) (h2 : x2.size ≤ 140737488351232) :
    ∃ r, laws_szEntry.f x0 x1 x2 c = some r ∧ (¬ r < 0 → r = c - ((x2.size : Nat) : Int)) := by
  unfold laws_szEntry.f wrap64
  by_cases c0 : (c - (x2.size : Int) + 9223372036854775808) % 18446744073709551616 - 9223372036854775808 < 0
  · exact ⟨-1, by rw [if_pos c0], by omega⟩
  rw [if_neg c0]
  exact ⟨_, rfl, by omega⟩
def wtEntry (x : S40) : Nat := x.f2.size
theorem laws_szEntryS_loop (xs : List S40) (hx : xs.length ≤ 1048576) : ∀ (rest : List S40) (n : Nat) (c : Int), xs.drop n = rest → (∀ x ∈ rest, x.f2.size ≤ 140737488351232) → 0 ≤ c → c ≤ 1048576 →
    ∃ r, Ev (fun k => laws_szEntryS.l0 k xs c (n : Int)) r ∧ (¬ r < 0 → r = c - (((rest.map wtEntry).sum : Nat) : Int)) := by
  intro rest
  induction rest with
  | nil =>
    intro n c h _ h0 h1
    have := drop_nil h
    refine ⟨c, Ev.step (fun _ => rfl) ?_, by simp⟩
    simp only [laws_szEntryS.l0]
    exact Ev.neg (by omega) (Ev.now _)
  | cons x t ih =>
    intro n c h hq0 h0 h1
    obtain ⟨hn, -, h3⟩ := drop_cons h
    have hq := hq0 x List.mem_cons_self
    obtain ⟨r, hr, hb⟩ := laws_szEntry_some x.f0 x.f1 x.f2 c h0 h1 hq
    by_cases hc : r < 0
    · refine ⟨-1, Ev.step (fun _ => rfl) ?_, by omega⟩
      simp only [laws_szEntryS.l0, rdT40_drop h]
      exact Ev.pos (by omega) (Ev.pos (by omega) (Ev.call hr (Ev.pos hc (Ev.now _))))
    · have hb := hb hc
      obtain ⟨r', hr', hb'⟩ := ih (n + 1) r h3 (fun y hy => hq0 y (List.mem_cons_of_mem _ hy)) (by omega) (by omega)
      refine ⟨r', Ev.step (fun _ => rfl) ?_, fun hn => ?_⟩
      · simp only [laws_szEntryS.l0, rdT40_drop h, wrap64_succ (show n ≤ 9223372036854775806 by omega)]
        exact Ev.pos (by omega) (Ev.pos (by omega) (Ev.call hr (Ev.neg hc hr')))
      · have := hb' hn
        rw [List.map_cons, List.sum_cons, wtEntry]
        omega
theorem laws_szEntryS_ev (xs : List S40) (hx : xs.length ≤ 17592186044416) (hq : ∀ x ∈ xs, x.f2.size ≤ 140737488351232) (c : Int) (h0 : 0 ≤ c) (h1 : c ≤ 1048576) :
    ∃ r, Ev (fun k => laws_szEntryS.f k xs c) r ∧ (¬ r < 0 → r = c - ((xs.length + (xs.map wtEntry).sum : Nat) : Int)) := by
  unfold laws_szEntryS.f
  rw [wrap64_id (by omega) (by omega)]
  by_cases hc : c - (xs.length : Int) < 0
  · exact ⟨-1, Ev.pos hc (Ev.now _), by omega⟩
  · obtain ⟨r, hr, hb⟩ := laws_szEntryS_loop xs (by omega) xs 0 (c - (xs.length : Int)) rfl hq (by omega) (by omega)
    exact ⟨r, Ev.neg hc hr, fun hn => by have := hb hn; omega⟩
theorem sum_wtEntry {xs : List S40} {x : S40} (h : x ∈ xs) : wtEntry x ≤ (xs.map wtEntry).sum := le_sum (List.mem_map_of_mem h)
def toEntry (x : S40) : S43 := ⟨x.f0, x.f1, x.f2⟩
theorem laws_toEntryS_loop (xs : List S40) (hx : xs.length ≤ 1048576) : ∀ (d n : Nat), n + d = xs.length →
    Ev (fun k => laws_toEntryS.l0 k xs ((xs.map toEntry).take n ++ List.replicate d z43) (n : Int)) (xs.map toEntry) := by
  intro d
  induction d with
  | zero =>
    intro n h
    refine Ev.step (fun _ => rfl) ?_
    simp only [laws_toEntryS.l0]
    exact Ev.neg (by omega) (Ev.done (by rw [List.take_of_length_le (by simp; omega)]; simp))
  | succ d ih =>
    intro n h
    refine Ev.step (fun _ => rfl) ?_
    simp only [laws_toEntryS.l0, wrap64_succ (show n ≤ 9223372036854775806 by omega)]
    refine Ev.pos (by omega) (Ev.pos (by omega) (Ev.call rfl (Ev.pos (by simp; omega) (Ev.congr (fun k => ?_) (ih (n + 1) (by omega))))))
    rw [Int.toNat_natCast, set_fill (xs.map toEntry) n d z43 _ (by simpa using h) (by rw [List.getElem?_map, rdT40_get (show n < xs.length by omega)]; rfl)]
theorem laws_toEntryS_ev (xs : List S40) (hx : xs.length ≤ 1048576) : Ev (fun k => laws_toEntryS.f k xs) (xs.map toEntry) := by
  unfold laws_toEntryS.f
  refine Ev.pos (by omega) (Ev.pos (by omega) ?_)
  exact Ev.congr (fun k => by simp) (laws_toEntryS_loop xs hx xs.length 0 (by omega))
theorem laws_eqEntry_refl (x : S43) : laws_eqEntry.f x.f0 x.f1 x.f2 x.f0 x.f1 x.f2 = some true := by simp [laws_eqEntry.f]
theorem laws_eqEntryS_loop (xs : List S43) (hx : xs.length ≤ 9223372036854775806) : ∀ (rest : List S43) (n : Nat), xs.drop n = rest → Ev (fun k => laws_eqEntryS.l0 k xs xs (n : Int)) true := by
  intro rest
  induction rest with
  | nil =>
    intro n h
    have := drop_nil h
    refine Ev.step (fun _ => rfl) ?_
    simp only [laws_eqEntryS.l0]
    exact Ev.neg (by omega) (Ev.now _)
  | cons x t ih =>
    intro n h
    obtain ⟨h1, -, h3⟩ := drop_cons h
    refine Ev.step (fun _ => rfl) ?_
    simp only [laws_eqEntryS.l0, wrap64_succ (show n ≤ 9223372036854775806 by omega)]
    exact Ev.pos (by omega) (Ev.pos (by omega) (Ev.pos (by omega) (Ev.call (laws_eqEntry_refl _) (Ev.pos rfl (ih (n + 1) h3)))))
theorem laws_eqEntryS_refl (xs : List S43) (hx : xs.length ≤ 9223372036854775806) : Ev (fun k => laws_eqEntryS.f k xs xs) true :=
  Ev.pos rfl (laws_eqEntryS_loop xs hx xs 0 rfl)
theorem laws_szLog_ev (a0 a1 : Int) (l : List S40) (hx : l.length ≤ 17592186044416) (hq : ∀ x ∈ l, x.f2.size ≤ 140737488351232) :
    ∃ r, Ev (fun k => laws_szLog.f k a0 a1 l 1048576) r ∧ (¬ r < 0 → l.length ≤ 1048576 ∧ ∀ x ∈ l, x.f2.size ≤ 1048576) := by
  unfold laws_szLog.f
  obtain ⟨r, hr, hb⟩ := laws_szEntryS_ev l hx hq 1048576 (by omega) (by omega)
  by_cases hc : r < 0
  · exact ⟨-1, Ev.bind hr (Ev.pos hc (Ev.now _)), by omega⟩
  · refine ⟨r, Ev.bind hr (Ev.neg hc (Ev.now _)), fun _ => ?_⟩
    have := hb hc
    refine ⟨by omega, fun x hx => ?_⟩
    have h1 := sum_wtEntry hx
    have h2 : wtEntry x = x.f2.size := rfl
    omega
theorem laws_toLog_ev (a0 a1 : Int) (l : List S40) (hx : l.length ≤ 1048576) : Ev (fun k => laws_toLog.f k a0 a1 l) (a0, a1, l.map toEntry) :=
  Ev.bind (laws_toEntryS_ev l hx) (Ev.now _)
theorem laws_eqLog_refl (a0 a1 : Int) (l : List S43) (hx : l.length ≤ 9223372036854775806) : Ev (fun k => laws_eqLog.f k a0 a1 l a0 a1 l) true :=
  Ev.pos rfl (Ev.pos rfl (Ev.bind (laws_eqEntryS_refl l hx) (Ev.pos rfl (Ev.now _))))
theorem spec_LogLast_some (a0 a1 : Int) (l : List S43) (hx : l.length ≤ 1048576) : ∃ r, spec_LogLast.f a0 a1 l = some r := by
  unfold spec_LogLast.f
  by_cases h : (l.length : Int) = 0
  · rw [if_pos h]; exact ⟨_, rfl⟩
  · rw [if_neg h, wrap64_id (by omega) (by omega), if_pos (by omega), if_pos (by omega)]
    exact ⟨_, rfl⟩
theorem impl_LogLast_eq (a0 a1 : Int) (l : List S43) : impl_LogLast.f a0 a1 l = spec_LogLast.f a0 a1 l := rfl
theorem FnExactLogLast_q (a0 a1 : Int) (l : List S40) (q : (Lit.int .i64 a0).wf = true ∧ (Lit.int .i64 a1).wf = true ∧ l.length * 32 ≤ 140737488351232 ∧ ∀ x ∈ l, (Lit.int .i64 x.f0).wf = true ∧ (Lit.int .i64 x.f1).wf = true ∧ x.f2.size ≤ 140737488351232) :
    ∃ k, laws_FnExactLogLast.f k a0 a1 l = some true := by
  apply Ev.rounds
  unfold laws_FnExactLogLast.f
  obtain ⟨r, hr, hb⟩ := laws_szLog_ev a0 a1 l (by omega) (fun x hx => (q.2.2.2 x hx).2.2)
  refine Ev.bind hr (Ev.ite (fun _ => Ev.now _) (fun hn => ?_))
  obtain ⟨hl, -⟩ := hb hn
  have hm : (l.map toEntry).length ≤ 1048576 := by simpa using hl
  obtain ⟨v, hv⟩ := spec_LogLast_some a0 a1 (l.map toEntry) hm
  refine Ev.bind (laws_toLog_ev a0 a1 l hl) (Ev.call hv (Ev.bind (laws_toLog_ev a0 a1 l hl) (Ev.call (by rw [impl_LogLast_eq]; exact hv) (Ev.pos rfl (Ev.step (fun _ => rfl) ?_)))))
  simp only [laws_FnExactLogLast.j0]
  exact Ev.neg (by simp) (Ev.bind (laws_toLog_ev a0 a1 l hl) (Ev.bind (laws_eqLog_refl _ _ _ (by omega)) (Ev.pos rfl (Ev.now _))))

end Go.Proofs.Ythgmanojhicchaa.Pure
