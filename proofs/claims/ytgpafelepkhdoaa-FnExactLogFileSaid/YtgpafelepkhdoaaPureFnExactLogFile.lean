/- The law FnExactLogFile answers true: the program's LogFile returns what the reference's returns, and leaves its argument as it was. For all arguments; no further condition. -/
import Derived.Test.YtgpafelepkhdoaaPFnExactLogFilex9
import Derived.Test.YtgpafelepkhdoaaVFnExactLogFileBase
namespace Go.Proofs.Ytgpafelepkhdoaa.Pure
open Go.RowKit Go.Proofs.Ytgpafelepkhdoaa.PFnExactLogFile Go.Proofs.YtgpafelepkhdoaaW.PrintWords Go.Proofs.YtgpafelepkhdoaaW.PrintLast Go.Proofs.Ytgpafelepkhdoaa.Base
set_option linter.unusedVariables false

theorem rdT167_drop {xs : List S167} {n : Nat} {x : S167} {t : List S167} (h : xs.drop n = x :: t) : rd_T167 xs (n : Int) = x := by
  unfold rd_T167
  rw [Int.toNat_natCast]
  exact (drop_cons h).2.1 _
theorem rdT167_at {a : List S167} {n : Nat} (h : a.length = n) (v : S167) (t : List S167) : rd_T167 (a ++ v :: t) (n : Int) = v := by
  unfold rd_T167
  rw [Int.toNat_natCast]
  exact getD_at h v t _
theorem rdT167_get {xs : List S167} {n : Nat} (h : n < xs.length) : xs[n]? = some (rd_T167 xs (n : Int)) := by
  unfold rd_T167
  rw [Int.toNat_natCast]
  exact getD_get h
theorem rdT37_drop {xs : List S37} {n : Nat} {x : S37} {t : List S37} (h : xs.drop n = x :: t) : rd_T37 xs (n : Int) = x := by
  unfold rd_T37
  rw [Int.toNat_natCast]
  exact (drop_cons h).2.1 _
theorem rdT37_at {a : List S37} {n : Nat} (h : a.length = n) (v : S37) (t : List S37) : rd_T37 (a ++ v :: t) (n : Int) = v := by
  unfold rd_T37
  rw [Int.toNat_natCast]
  exact getD_at h v t _
theorem rdT37_get {xs : List S37} {n : Nat} (h : n < xs.length) : xs[n]? = some (rd_T37 xs (n : Int)) := by
  unfold rd_T37
  rw [Int.toNat_natCast]
  exact getD_get h
def entriesOk (t : Int) : List S37 → Bool
  | [] => true
  | e :: r => entryOk e.f0 e.f1 e.f2 && (decide (t ≤ e.f0) && entriesOk e.f0 r)
def logOk (s t : Int) (l : List S37) : Bool := inR s 0 100000 && (inR t 0 100000 && (decide (l.length ≤ 120) && (decide (s + (l.length : Int) ≤ 100000) && entriesOk t l)))
theorem logOk_bounds {s t : Int} {l : List S37} (h : logOk s t l = true) : (0 ≤ s ∧ s ≤ 100000) ∧ (0 ≤ t ∧ t ≤ 100000) ∧ l.length ≤ 120 ∧ s + (l.length : Int) ≤ 100000 := by
  unfold logOk at h
  simp only [Bool.and_eq_true, inR_true, decide_eq_true_eq] at h
  exact ⟨h.1, h.2.1, h.2.2.1, h.2.2.2.1⟩
def entriesIn (t T : Int) : List S37 → Bool
  | [] => true
  | e :: r => entryOk e.f0 e.f1 e.f2 && (decide (t ≤ e.f0) && (decide (e.f0 ≤ T) && entriesIn e.f0 T r))
def msgOk (kd fr tt tm ix lt cm : Int) (ok : Bool) (es : List S37) (cf : List Int) (da : ByteArray) (la : Bool) : Bool :=
  inR kd 1 6 && (inR fr 1 4 && (inR tt 1 4 && (!(fr == tt) && (inR tm 0 100000 && (inR lt 0 100000 && (inR ix 0 100000 && (inR cm 0 100000 && (decide (es.length ≤ 4) && (decide (es.length = 0 ∨ kd = 3) && (entriesIn lt tm es &&
    (if kd = 5 then confOk cf && decide (da.size ≤ 60) else decide (cf.length = 0) && (emp da && !la))))))))))))
theorem laws_szEntry_some (x0 : Int) (x1 : Int) (x2 : ByteArray) (c : Int) (hc0 : 0 ≤ c) (hc : c ≤ 1048576) (h2 : x2.size ≤ 140737488351232) :
    ∃ r, laws_szEntry.f x0 x1 x2 c = some r ∧ (¬ r < 0 → r = c - ((x2.size : Nat) : Int)) := by
  unfold laws_szEntry.f wrap64
  by_cases c0 : (c - (x2.size : Int) + 9223372036854775808) % 18446744073709551616 - 9223372036854775808 < 0
  · exact ⟨-1, by rw [if_pos c0], by omega⟩
  rw [if_neg c0]
  exact ⟨_, rfl, by omega⟩
def wtEntry (x : S167) : Nat := x.f2.size
theorem laws_szEntryS_loop (xs : List S167) (hx : xs.length ≤ 1048576) : ∀ (rest : List S167) (n : Nat) (c : Int), xs.drop n = rest → (∀ x ∈ rest, x.f2.size ≤ 140737488351232) → 0 ≤ c → c ≤ 1048576 →
    ∃ r, Ev (fun k => laws_szEntryS.l0 k xs c (n : Int)) r ∧ (¬ r < 0 → r = c - (((rest.map wtEntry).sum : Nat) : Int)) := by
  intro rest
  induction rest with
  | nil =>
    intro n c h _ h0 h1
    have := drop_nil h
    refine ⟨c, Ev.step (fun _ => rfl) ?_, by simp⟩
    simp only [laws_szEntryS.l0]
    exact Ev.neg (by omega) (Ev.now _)
  | cons x t ih =>
    intro n c h hq0 h0 h1
    obtain ⟨hn, -, h3⟩ := drop_cons h
    have hq := hq0 x List.mem_cons_self
    obtain ⟨r, hr, hb⟩ := laws_szEntry_some x.f0 x.f1 x.f2 c h0 h1 hq
    by_cases hc : r < 0
    · refine ⟨-1, Ev.step (fun _ => rfl) ?_, by omega⟩
      simp only [laws_szEntryS.l0, rdT167_drop h]
      exact Ev.pos (by omega) (Ev.pos (by omega) (Ev.call hr (Ev.pos hc (Ev.now _))))
    · have hb := hb hc
      obtain ⟨r', hr', hb'⟩ := ih (n + 1) r h3 (fun y hy => hq0 y (List.mem_cons_of_mem _ hy)) (by omega) (by omega)
      refine ⟨r', Ev.step (fun _ => rfl) ?_, fun hn => ?_⟩
      · simp only [laws_szEntryS.l0, rdT167_drop h, wrap64_succ (show n ≤ 9223372036854775806 by omega)]
        exact Ev.pos (by omega) (Ev.pos (by omega) (Ev.call hr (Ev.neg hc hr')))
      · have := hb' hn
        rw [List.map_cons, List.sum_cons, wtEntry]
        omega
theorem laws_szEntryS_ev (xs : List S167) (hx : xs.length ≤ 17592186044416) (hq : ∀ x ∈ xs, x.f2.size ≤ 140737488351232) (c : Int) (h0 : 0 ≤ c) (h1 : c ≤ 1048576) :
    ∃ r, Ev (fun k => laws_szEntryS.f k xs c) r ∧ (¬ r < 0 → r = c - ((xs.length + (xs.map wtEntry).sum : Nat) : Int)) := by
  unfold laws_szEntryS.f
  rw [wrap64_id (by omega) (by omega)]
  by_cases hc : c - (xs.length : Int) < 0
  · exact ⟨-1, Ev.pos hc (Ev.now _), by omega⟩
  · obtain ⟨r, hr, hb⟩ := laws_szEntryS_loop xs (by omega) xs 0 (c - (xs.length : Int)) rfl hq (by omega) (by omega)
    exact ⟨r, Ev.neg hc hr, fun hn => by have := hb hn; omega⟩
theorem sum_wtEntry {xs : List S167} {x : S167} (h : x ∈ xs) : wtEntry x ≤ (xs.map wtEntry).sum := le_sum (List.mem_map_of_mem h)
def toEntry (x : S167) : S37 := ⟨x.f0, x.f1, x.f2⟩
theorem laws_toEntryS_loop (xs : List S167) (hx : xs.length ≤ 1048576) : ∀ (d n : Nat), n + d = xs.length →
    Ev (fun k => laws_toEntryS.l0 k xs ((xs.map toEntry).take n ++ List.replicate d z37) (n : Int)) (xs.map toEntry) := by
  intro d
  induction d with
  | zero =>
    intro n h
    refine Ev.step (fun _ => rfl) ?_
    simp only [laws_toEntryS.l0]
    exact Ev.neg (by omega) (Ev.done (by rw [List.take_of_length_le (by simp; omega)]; simp))
  | succ d ih =>
    intro n h
    refine Ev.step (fun _ => rfl) ?_
    simp only [laws_toEntryS.l0, wrap64_succ (show n ≤ 9223372036854775806 by omega)]
    refine Ev.pos (by omega) (Ev.pos (by omega) (Ev.call rfl (Ev.pos (by simp; omega) (Ev.congr (fun k => ?_) (ih (n + 1) (by omega))))))
    rw [Int.toNat_natCast, set_fill (xs.map toEntry) n d z37 _ (by simpa using h) (by rw [List.getElem?_map, rdT167_get (show n < xs.length by omega)]; rfl)]
theorem laws_toEntryS_ev (xs : List S167) (hx : xs.length ≤ 1048576) : Ev (fun k => laws_toEntryS.f k xs) (xs.map toEntry) := by
  unfold laws_toEntryS.f
  refine Ev.pos (by omega) (Ev.pos (by omega) ?_)
  exact Ev.congr (fun k => by simp) (laws_toEntryS_loop xs hx xs.length 0 (by omega))
theorem laws_eqEntry_refl (x0 : Int) (x1 : Int) (x2 : ByteArray) : laws_eqEntry.f x0 x1 x2 x0 x1 x2 = some true := by simp [laws_eqEntry.f]
theorem laws_eqEntryS_loop (xs : List S37) (hx : xs.length ≤ 9223372036854775806) : ∀ (rest : List S37) (n : Nat), xs.drop n = rest → Ev (fun k => laws_eqEntryS.l0 k xs xs (n : Int)) true := by
  intro rest
  induction rest with
  | nil =>
    intro n h
    have := drop_nil h
    refine Ev.step (fun _ => rfl) ?_
    simp only [laws_eqEntryS.l0]
    exact Ev.neg (by omega) (Ev.now _)
  | cons x t ih =>
    intro n h
    obtain ⟨h1, -, h3⟩ := drop_cons h
    refine Ev.step (fun _ => rfl) ?_
    simp only [laws_eqEntryS.l0, wrap64_succ (show n ≤ 9223372036854775806 by omega)]
    exact Ev.pos (by omega) (Ev.pos (by omega) (Ev.pos (by omega) (Ev.call (laws_eqEntry_refl _ _ _) (Ev.pos rfl (ih (n + 1) h3)))))
theorem laws_eqEntryS_refl (xs : List S37) (hx : xs.length ≤ 9223372036854775806) : Ev (fun k => laws_eqEntryS.f k xs xs) true :=
  Ev.pos rfl (laws_eqEntryS_loop xs hx xs 0 rfl)
theorem spec_l01In_eq (a b c : Int) : spec_l01In.f a b c = some (inR a b c) := by
  unfold spec_l01In.f inR
  by_cases h : b ≤ a
  · rw [if_pos h]; simp [h]
  · rw [if_neg h]; simp [h]
theorem impl_within_eq (a b c : Int) : impl_within.f a b c = some (inR a b c) := by
  unfold impl_within.f inR
  by_cases h : b ≤ a
  · rw [if_pos h]; simp [h]
  · rw [if_neg h]; simp [h]
theorem spec_l07Rise_loop (xs : List Int) (lo hi : Int) (hx : xs.length ≤ 9223372036854775806) : ∀ (rest : List Int) (n : Nat), xs.drop n = rest →
    Ev (fun k => spec_l07Rise.l0 k xs lo hi (n : Int)) (rise lo hi (prevOf xs n) rest) := by
  intro rest
  induction rest with
  | nil =>
    intro n h
    have := drop_nil h
    refine Ev.step (fun _ => rfl) ?_
    simp only [spec_l07Rise.l0]
    exact Ev.neg (by omega) (Ev.done (by cases n <;> rfl))
  | cons x t ih =>
    intro n h
    obtain ⟨h1, -, h3⟩ := drop_cons h
    have ih := ih (n + 1) h3
    rw [prevOf_next h] at ih
    refine Ev.step (fun _ => rfl) ?_
    simp only [spec_l07Rise.l0, drop_rd h, wrap64_succ (show n ≤ 9223372036854775806 by omega)]
    refine Ev.pos (by omega) (Ev.pos (by omega) (Ev.call (spec_l01In_eq _ _ _) ?_))
    cases hb : inR x lo hi
    · exact Ev.neg (by simp) (Ev.done (by cases n <;> simp [rise, prevOf, hb]))
    · refine Ev.pos rfl ?_
      cases n with
      | zero => exact Ev.neg (by omega) (Ev.eq ih (by simp [rise, prevOf, hb]))
      | succ m =>
        refine Ev.pos (by omega) ?_
        simp only [wrap64_pred (show m ≤ 9223372036854775806 by omega)]
        refine Ev.pos (by omega) (Ev.pos (by omega) (Ev.ite (fun hc => Ev.done ?_) (fun hc => Ev.eq ih ?_)))
        · simp only [prevOf, rise, hb, decide_eq_false (show ¬ rd xs (m : Int) < x by omega)]; simp
        · simp only [prevOf, rise, hb, decide_eq_true (show rd xs (m : Int) < x by omega)]; simp
theorem spec_l07Rise_ev (xs : List Int) (lo hi : Int) (hx : xs.length ≤ 9223372036854775806) : Ev (fun k => spec_l07Rise.f k xs lo hi) (rise lo hi none xs) :=
  spec_l07Rise_loop xs lo hi hx xs 0 rfl
theorem spec_ConfOk_ev (xs : List Int) (hx : xs.length ≤ 9223372036854775806) : Ev (fun k => spec_ConfOk.f k xs) (confOk xs) := by
  unfold spec_ConfOk.f
  refine Ev.call (spec_l01In_eq _ _ _) ?_
  cases hb : inR xs.length 1 4
  · exact Ev.neg (by simp) (Ev.done (by simp [confOk, hb]))
  · exact Ev.pos rfl (Ev.bind (spec_l07Rise_ev xs 1 4 hx) (Ev.done (by simp [confOk, hb])))
theorem impl_ConfOk_loop (xs : List Int) (hx : xs.length ≤ 9223372036854775806) : ∀ (rest : List Int) (n : Nat), xs.drop n = rest →
    Ev (fun k => impl_ConfOk.l0 k xs xs (xs.length : Int) (n : Int)) (rise 1 4 (prevOf xs n) rest && inR xs.length 1 4) := by
  intro rest
  induction rest with
  | nil =>
    intro n h
    have := drop_nil h
    refine Ev.step (fun _ => rfl) ?_
    simp only [impl_ConfOk.l0]
    exact Ev.neg (by omega) (Ev.call (impl_within_eq _ _ _) (Ev.done (by cases n <;> simp [rise])))
  | cons x t ih =>
    intro n h
    obtain ⟨h1, -, h3⟩ := drop_cons h
    have ih := ih (n + 1) h3
    rw [prevOf_next h] at ih
    refine Ev.step (fun _ => rfl) ?_
    simp only [impl_ConfOk.l0, drop_rd h, wrap64_succ (show n ≤ 9223372036854775806 by omega)]
    refine Ev.pos (by omega) (Ev.pos (by omega) (Ev.pos (by omega) (Ev.call (impl_within_eq _ _ _) ?_)))
    cases hb : inR x 1 4
    · exact Ev.neg (by simp) (Ev.done (by cases n <;> simp [rise, prevOf, hb]))
    · refine Ev.pos rfl ?_
      cases n with
      | zero => exact Ev.neg (by omega) (Ev.eq ih (by simp [rise, prevOf, hb]))
      | succ m =>
        refine Ev.pos (by omega) ?_
        simp only [wrap64_pred (show m ≤ 9223372036854775806 by omega)]
        refine Ev.pos (by omega) (Ev.pos (by omega) (Ev.ite (fun hc => Ev.done ?_) (fun hc => Ev.eq ih ?_)))
        · simp only [prevOf, rise, hb, decide_eq_false (show ¬ rd xs (m : Int) < x by omega)]; simp
        · simp only [prevOf, rise, hb, decide_eq_true (show rd xs (m : Int) < x by omega)]; simp
theorem impl_ConfOk_ev (xs : List Int) (hx : xs.length ≤ 9223372036854775806) : Ev (fun k => impl_ConfOk.f k xs) (confOk xs) :=
  Ev.eq (impl_ConfOk_loop xs hx xs 0 rfl) (by rw [confOk, Bool.and_comm]; rfl)
theorem spec_ReadConf_loop (s : ByteArray) (hx : s.size ≤ 1048576) : ∀ (rest : List Int) (n : Nat) (acc : List Int), (bytesOf s).drop n = rest → acc = (bytesOf s).take n → n ≤ 5 →
    Ev (fun k => spec_ReadConf.l0 k s acc (n : Int)) (readConf s) := by
  have hz := bytesOf_length s
  have whole : ∀ (acc : List Int), acc = bytesOf s → Ev (fun k => if (acc.length : Int) = (s.size : Int) then ((spec_ConfOk.f k acc).bind fun t => (if t = true then (some (acc, true)) else (some ((([] : List Int)), false)))) else (some ((([] : List Int)), false))) (readConf s) := by
    intro acc ha
    subst ha
    refine Ev.pos (by omega) (Ev.bind (spec_ConfOk_ev _ (by omega)) ?_)
    unfold readConf
    cases hb : confOk (bytesOf s)
    · exact Ev.neg (by simp) (Ev.done (by simp))
    · exact Ev.pos rfl (Ev.done (by simp))
  intro rest
  induction rest with
  | nil =>
    intro n acc h ha h5
    have := bytesOf_drop_nil h
    refine Ev.step (fun _ => rfl) ?_
    simp only [spec_ReadConf.l0]
    exact Ev.neg (by omega) (whole acc (by rw [ha, List.take_of_length_le (by omega)]))
  | cons x t ih =>
    intro n acc h ha h5
    obtain ⟨h1, h2, h3, h4, h6⟩ := bytesOf_drop_lt h
    refine Ev.step (fun _ => rfl) ?_
    simp only [spec_ReadConf.l0, h2, wrap64_id (show -9223372036854775808 ≤ x by omega) (show x ≤ 9223372036854775807 by omega), wrap64_succ (show n ≤ 9223372036854775806 by omega)]
    refine Ev.pos (by omega) (Ev.ite (fun hc => ?_) (fun hc => ?_))
    · refine Ev.pos (by omega) (Ev.pos (by rw [ha, List.length_take]; omega) (ih (n + 1) (acc ++ [x]) h3 ?_ (by omega)))
      rw [ha, List.take_succ_eq_append_getElem (show n < (bytesOf s).length by omega)]
      have e := drop_rd h
      rw [rd_nat, List.getD_eq_getElem?_getD, List.getElem?_eq_getElem (show n < (bytesOf s).length by omega)] at e
      rw [← e]; rfl
    · have hl : acc.length = n := by rw [ha, List.length_take]; omega
      have hf : confOk (bytesOf s) = false := by
        cases hb : confOk (bytesOf s)
        · rfl
        · have := confOk_len hb; omega
      by_cases he : n = s.size
      · exact whole acc (by rw [ha, List.take_of_length_le (by omega)])
      · exact Ev.neg (by omega) (Ev.done (by simp [readConf, hf]))
theorem spec_ReadConf_ev (s : ByteArray) (hx : s.size ≤ 1048576) : Ev (fun k => spec_ReadConf.f k s) (readConf s) :=
  spec_ReadConf_loop s hx _ 0 [] rfl rfl (by omega)
theorem impl_ReadConf_loop (s : ByteArray) (hx : s.size ≤ 1048576) : ∀ (rest : List Int) (n : Nat) (acc : List Int), (bytesOf s).drop n = rest → acc = (bytesOf s).take n →
    Ev (fun k => impl_ReadConf.l0 k s acc (n : Int)) (readConf s) := by
  have hz := bytesOf_length s
  intro rest
  induction rest with
  | nil =>
    intro n acc h ha
    have := bytesOf_drop_nil h
    refine Ev.step (fun _ => rfl) ?_
    simp only [impl_ReadConf.l0]
    obtain rfl : acc = bytesOf s := by rw [ha, List.take_of_length_le (by omega)]
    refine Ev.neg (by omega) (Ev.bind (impl_ConfOk_ev _ (by omega)) ?_)
    unfold readConf
    cases hb : confOk (bytesOf s)
    · exact Ev.neg (by simp) (Ev.done (by simp))
    · exact Ev.pos rfl (Ev.done (by simp))
  | cons x t ih =>
    intro n acc h ha
    obtain ⟨h1, h2, h3, h4, h6⟩ := bytesOf_drop_lt h
    refine Ev.step (fun _ => rfl) ?_
    simp only [impl_ReadConf.l0, h2, wrap64_id (show -9223372036854775808 ≤ x by omega) (show x ≤ 9223372036854775807 by omega), wrap64_succ (show n ≤ 9223372036854775806 by omega)]
    refine Ev.pos (by omega) (Ev.pos (by omega) (Ev.pos (by rw [ha, List.length_take]; omega) (ih (n + 1) (acc ++ [x]) h3 ?_)))
    rw [ha, List.take_succ_eq_append_getElem (show n < (bytesOf s).length by omega)]
    have e := drop_rd h
    rw [rd_nat, List.getD_eq_getElem?_getD, List.getElem?_eq_getElem (show n < (bytesOf s).length by omega)] at e
    rw [← e]; rfl
theorem impl_ReadConf_ev (s : ByteArray) (hx : s.size ≤ 1048576) : Ev (fun k => impl_ReadConf.f k s) (readConf s) :=
  impl_ReadConf_loop s hx _ 0 [] rfl rfl
theorem spec_l01Var_loop : ∀ (n : Nat) (acc : List Int), acc.length + n < 140737488355328 →
    Ev (fun k => spec_l01Var.l0 k (n : Int) acc) (strOfNums (acc ++ varL n)) := by
  intro n
  induction n using Nat.strongRecOn with
  | ind n ih =>
    intro acc h
    refine Ev.step (fun _ => rfl) ?_
    simp only [spec_l01Var.l0, tdiv128 n (by omega), tmod128 n]
    refine Ev.ite (fun hc => ?_) (fun hc => ?_)
    · rw [varL_big (by omega)]
      exact Ev.pos (by omega) (Ev.eq (ih (n / 128) (by omega) _ (by simp; omega)) (by simp))
    · rw [varL_small (by omega)]
      exact Ev.pos (by omega) (Ev.done (by rw [Int.emod_eq_of_lt (by omega) (by omega)]))
theorem spec_l01Var_nat (n : Nat) (h : n ≤ 34359738367) : Ev (fun k => spec_l01Var.f k (n : Int)) (varText n) := spec_l01Var_loop n [] (by simp; omega)
theorem spec_l01Var_ev (n : Int) (h0 : 0 ≤ n) (h : n ≤ 34359738367) : Ev (fun k => spec_l01Var.f k n) (varText n.toNat) := by
  obtain ⟨m, rfl⟩ := Int.eq_ofNat_of_zero_le h0
  exact spec_l01Var_nat m (by omega)
theorem impl_VarText_loop : ∀ (n : Nat) (acc : List Int), acc.length + n < 140737488355328 →
    Ev (fun k => impl_VarText.l0 k (n : Int) acc) (strOfNums (acc ++ varL n), true) := by
  intro n
  induction n using Nat.strongRecOn with
  | ind n ih =>
    intro acc h
    refine Ev.step (fun _ => rfl) ?_
    simp only [impl_VarText.l0, tdiv128 n (by omega), tmod128 n]
    refine Ev.ite (fun hc => ?_) (fun hc => ?_)
    · rw [varL_big (by omega)]
      exact Ev.pos (by omega) (Ev.eq (ih (n / 128) (by omega) _ (by simp; omega)) (by simp))
    · rw [varL_small (by omega)]
      exact Ev.pos (by omega) (Ev.done (by rw [Int.emod_eq_of_lt (by omega) (by omega)]))
theorem impl_VarText_ev (n : Int) : Ev (fun k => impl_VarText.f k n) (varTextOf n) := by
  unfold impl_VarText.f varTextOf
  refine Ev.call (impl_within_eq _ _ _) ?_
  cases hb : inR n 0 1000000000
  · exact Ev.neg (by simp) (Ev.done (by simp))
  · have := inR_true.1 hb
    obtain ⟨m, rfl⟩ := Int.eq_ofNat_of_zero_le this.1
    exact Ev.pos rfl (Ev.eq (impl_VarText_loop m [] (by simp; omega)) (by simp [varText]))
theorem impl_VarText_nat (n : Nat) (h : n ≤ 1000000000) : Ev (fun k => impl_VarText.f k (n : Int)) (varText n, true) :=
  Ev.eq (impl_VarText_ev (n : Int)) (by rw [varTextOf, if_pos (inR_true.2 (by omega))]; rfl)
theorem impl_vars_loop (xs : List Int) (hx : xs.length ≤ 1048576) : ∀ (rest : List Int) (n : Nat) (acc : List Int), xs.drop n = rest → acc.length + 5 * rest.length < 140737488355328 →
    Ev (fun k => impl_vars.l0 k acc xs (xs.length : Int) (n : Int)) (if rest.all (fun n => inR n 0 1000000000) = true then (strOfNums (acc ++ rest.flatMap fun n => varL n.toNat), true) else (⟨#[]⟩, false)) := by
  intro rest
  induction rest with
  | nil =>
    intro n acc h ha
    have := drop_nil h
    refine Ev.step (fun _ => rfl) ?_
    simp only [impl_vars.l0]
    exact Ev.neg (by omega) (Ev.done (by simp))
  | cons x t ih =>
    intro n acc h ha
    obtain ⟨h1, -, h3⟩ := drop_cons h
    refine Ev.step (fun _ => rfl) ?_
    simp only [impl_vars.l0, drop_rd h, wrap64_succ (show n ≤ 9223372036854775806 by omega)]
    refine Ev.pos (by omega) (Ev.pos (by omega) (Ev.pos (by omega) (Ev.bind (impl_VarText_ev x) ?_)))
    unfold varTextOf
    cases hb : inR x 0 1000000000
    · exact Ev.neg (by simp) (Ev.done (by simp [hb]))
    · have hr := inR_true.1 hb
      have hv := varL_len (show x.toNat ≤ 34359738367 by omega)
      simp only [if_true, varText, strOfNums_size, bytesOf_strOfNums _ (varL_bytes _)]
      rw [List.length_cons] at ha
      refine Ev.pos (by omega) (Ev.eq (ih (n + 1) (acc ++ varL x.toNat) h3 (by rw [List.length_append]; omega)) ?_)
      simp [hb]
theorem impl_vars_ev (xs : List Int) (hx : xs.length ≤ 1048576) : Ev (fun k => impl_vars.f k xs) (varsOf xs) :=
  Ev.eq (impl_vars_loop xs hx xs 0 [] rfl (by simp; omega)) (by simp [varsOf])
theorem spec_l02Four_eq (x : Int) : spec_l02Four.f x = some (four x) := rfl
theorem spec_SumMore_bits (s : ByteArray) (i : Nat) (hi : i ≤ 9223372036854775806) (r : Int) : ∀ (d : Nat) (x : Int) (j : Nat), j + d = 8 →
    Ev (fun k => spec_SumMore.l0 k (sumBits d x) s ((i + 1 : Nat) : Int)) r → Ev (fun k => spec_SumMore.l1 k x s (i : Int) (j : Int)) r := by
  intro d
  induction d with
  | zero =>
    intro x j hj h
    refine Ev.step (fun _ => rfl) ?_
    simp only [spec_SumMore.l1, wrap64_succ hi]
    exact Ev.neg (by omega) h
  | succ d ih =>
    intro x j hj h
    refine Ev.step (fun _ => rfl) ?_
    simp only [spec_SumMore.l1, wrap64_succ (show j ≤ 9223372036854775806 by omega)]
    refine Ev.pos (by omega) (Ev.ite (fun hc => ih _ (j + 1) (by omega) ?_) (fun hc => ih _ (j + 1) (by omega) ?_))
    · rw [sumBits, sumBit, if_pos hc] at h; exact h
    · rw [sumBits, sumBit, if_neg hc] at h; exact h
theorem spec_SumMore_loop (s : ByteArray) (hs : s.size ≤ 9223372036854775806) : ∀ (rest : List Int) (n : Nat) (x : Int), (bytesOf s).drop n = rest →
    Ev (fun k => spec_SumMore.l0 k x s (n : Int)) (sumMore x rest) := by
  intro rest
  induction rest with
  | nil =>
    intro n x h
    have := bytesOf_drop_nil h
    refine Ev.step (fun _ => rfl) ?_
    simp only [spec_SumMore.l0]
    exact Ev.neg (by omega) (Ev.done rfl)
  | cons b t ih =>
    intro n x h
    obtain ⟨h1, h2, h3, h4, h5⟩ := bytesOf_drop_lt h
    refine Ev.step (fun _ => rfl) ?_
    simp only [spec_SumMore.l0, h2]
    exact Ev.pos (by omega) (Ev.pos (by omega) (spec_SumMore_bits s n (by omega) _ 8 _ 0 rfl (ih (n + 1) _ h3)))
theorem spec_SumMore_ev (x : Int) (s : ByteArray) (hs : s.size ≤ 9223372036854775806) : Ev (fun k => spec_SumMore.f k x s) (sumMore x (bytesOf s)) := spec_SumMore_loop s hs _ 0 x rfl
theorem spec_SumOf_ev (s : ByteArray) (hs : s.size ≤ 9223372036854775806) : Ev (fun k => spec_SumOf.f k s) (sumOf s) := Ev.bind (spec_SumMore_ev _ s hs) (Ev.now _)
theorem impl_SumMore_bits (s : ByteArray) (i : Nat) (hi : i ≤ 9223372036854775806) (r : Int) : ∀ (d : Nat) (x : Int) (j : Nat), j + d = 8 →
    Ev (fun k => impl_SumMore.l0 k (sumBits d x) s ((i + 1 : Nat) : Int)) r → Ev (fun k => impl_SumMore.l1 k x s (i : Int) (j : Int)) r := by
  intro d
  induction d with
  | zero =>
    intro x j hj h
    refine Ev.step (fun _ => rfl) ?_
    simp only [impl_SumMore.l1, wrap64_succ hi]
    exact Ev.neg (by omega) h
  | succ d ih =>
    intro x j hj h
    refine Ev.step (fun _ => rfl) ?_
    simp only [impl_SumMore.l1, wrap64_succ (show j ≤ 9223372036854775806 by omega)]
    refine Ev.pos (by omega) (Ev.ite (fun hc => ih _ (j + 1) (by omega) ?_) (fun hc => ih _ (j + 1) (by omega) ?_))
    · rw [sumBits, sumBit, if_pos hc] at h; exact h
    · rw [sumBits, sumBit, if_neg hc] at h; exact h
theorem impl_SumMore_loop (s : ByteArray) (hs : s.size ≤ 9223372036854775806) : ∀ (rest : List Int) (n : Nat) (x : Int), (bytesOf s).drop n = rest →
    Ev (fun k => impl_SumMore.l0 k x s (n : Int)) (sumMore x rest) := by
  intro rest
  induction rest with
  | nil =>
    intro n x h
    have := bytesOf_drop_nil h
    refine Ev.step (fun _ => rfl) ?_
    simp only [impl_SumMore.l0]
    exact Ev.neg (by omega) (Ev.done rfl)
  | cons b t ih =>
    intro n x h
    obtain ⟨h1, h2, h3, h4, h5⟩ := bytesOf_drop_lt h
    refine Ev.step (fun _ => rfl) ?_
    simp only [impl_SumMore.l0, h2]
    exact Ev.pos (by omega) (Ev.pos (by omega) (impl_SumMore_bits s n (by omega) _ 8 _ 0 rfl (ih (n + 1) _ h3)))
theorem impl_SumMore_ev (x : Int) (s : ByteArray) (hs : s.size ≤ 9223372036854775806) : Ev (fun k => impl_SumMore.f k x s) (sumMore x (bytesOf s)) := impl_SumMore_loop s hs _ 0 x rfl
theorem impl_SumOf_ev (s : ByteArray) (hs : s.size ≤ 9223372036854775806) : Ev (fun k => impl_SumOf.f k s) (sumOf s) := Ev.bind (impl_SumMore_ev _ s hs) (Ev.now _)
theorem spec_Frame_ev (s : ByteArray) (hs : s.size ≤ 1152921504606846976) : Ev (fun k => spec_Frame.f k s) (frame s) := by
  unfold spec_Frame.f frame
  refine Ev.call (spec_l01In_eq _ _ _) ?_
  cases hb : inR (s.size : Int) 1 9000
  · exact Ev.neg (by simp) (Ev.done (by simp))
  · have hr := inR_true.1 hb
    have hv := varText_size (show s.size ≤ 34359738367 by omega)
    have h4 := four_size (sumOf s)
    refine Ev.pos rfl (Ev.bind (spec_l01Var_nat _ (by omega)) (Ev.bind (spec_SumOf_ev s (by omega)) (Ev.call (spec_l02Four_eq _) ?_)))
    exact Ev.pos (by omega) (Ev.pos (by rw [size_append]; omega) (Ev.done (by simp)))
theorem impl_Frame_ev (s : ByteArray) (hs : s.size ≤ 1152921504606846976) : Ev (fun k => impl_Frame.f k s) (frame s) := by
  unfold impl_Frame.f frame
  refine Ev.call (impl_within_eq _ _ _) ?_
  cases hb : inR (s.size : Int) 1 9000
  · exact Ev.neg (by simp) (Ev.done (by simp))
  · have hr := inR_true.1 hb
    have hv := varText_size (show s.size ≤ 34359738367 by omega)
    have h4 := four_size (sumOf s)
    refine Ev.pos rfl (Ev.bind (impl_VarText_nat _ (by omega)) (Ev.bind (impl_SumOf_ev s (by omega)) (Ev.call rfl ?_)))
    rw [four] at h4
    exact Ev.pos (by dsimp only; omega) (Ev.pos (by rw [size_append]; dsimp only; omega) (Ev.done (by simp [four])))
theorem spec_EntryOk_ev (t d : Int) (s : ByteArray) (hs : s.size ≤ 1048576) : Ev (fun k => spec_EntryOk.f k t d s) (entryOk t d s) := by
  unfold spec_EntryOk.f entryOk
  simp only [emp_def]
  refine Ev.call (spec_l01In_eq _ _ _) ?_
  cases h1 : inR t 0 100000
  · exact Ev.neg (by simp) (Ev.done (by simp))
  refine Ev.pos rfl (Ev.ite (fun h => Ev.done (by simp [h])) (fun h => Ev.ite (fun h' => ?_) (fun h' => Ev.ite (fun h2 => Ev.done ?_) (fun h2 => Ev.done (by simp [h, h', h2])))))
  · refine Ev.bind (spec_ReadConf_ev s hs) (Ev.done ?_)
    subst h'
    unfold readConf
    cases hc : confOk (bytesOf s) <;> simp
  · subst h2
    simp
    omega
theorem impl_EntryOk_ev (t d : Int) (s : ByteArray) (hs : s.size ≤ 1048576) : Ev (fun k => impl_EntryOk.f k t d s) (entryOk t d s) := by
  unfold impl_EntryOk.f entryOk
  simp only [emp_def]
  refine Ev.call (impl_within_eq _ _ _) ?_
  cases h1 : inR t 0 100000
  · exact Ev.neg (by simp) (Ev.done (by simp))
  refine Ev.pos rfl (Ev.ite (fun h => Ev.done (by simp [h])) (fun h => Ev.ite (fun h' => ?_) (fun h' => Ev.ite (fun h2 => Ev.done ?_) (fun h2 => Ev.done (by simp [h, h', h2])))))
  · refine Ev.bind (impl_ReadConf_ev s hs) (Ev.done ?_)
    subst h'
    unfold readConf
    cases hc : confOk (bytesOf s) <;> simp
  · subst h2
    simp
    omega
theorem laws_szLog_ev (a0 a1 : Int) (l : List S167) (hx : l.length ≤ 17592186044416) (hq : ∀ x ∈ l, x.f2.size ≤ 140737488351232) :
    ∃ r, Ev (fun k => laws_szLog.f k a0 a1 l 1048576) r ∧ (¬ r < 0 → l.length ≤ 1048576 ∧ ∀ x ∈ l, x.f2.size ≤ 1048576) := by
  unfold laws_szLog.f
  obtain ⟨r, hr, hb⟩ := laws_szEntryS_ev l hx hq 1048576 (by omega) (by omega)
  by_cases hc : r < 0
  · exact ⟨-1, Ev.bind hr (Ev.pos hc (Ev.now _)), by omega⟩
  · refine ⟨r, Ev.bind hr (Ev.neg hc (Ev.now _)), fun _ => ?_⟩
    have := hb hc
    refine ⟨by omega, fun x hx => ?_⟩
    have h1 := sum_wtEntry hx
    have h2 : wtEntry x = x.f2.size := rfl
    omega
theorem laws_toLog_ev (a0 a1 : Int) (l : List S167) (hx : l.length ≤ 1048576) : Ev (fun k => laws_toLog.f k a0 a1 l) (a0, a1, l.map toEntry) :=
  Ev.bind (laws_toEntryS_ev l hx) (Ev.now _)
theorem laws_eqLog_refl (a0 a1 : Int) (l : List S37) (hx : l.length ≤ 9223372036854775806) : Ev (fun k => laws_eqLog.f k a0 a1 l a0 a1 l) true :=
  Ev.pos rfl (Ev.pos rfl (Ev.bind (laws_eqEntryS_refl l hx) (Ev.pos rfl (Ev.now _))))
theorem spec_EntryText_ev (i t d : Int) (s : ByteArray) (hs : s.size ≤ 1048576) : Ev (fun k => spec_EntryText.f k i t d s) (entryText i t d s) := by
  unfold spec_EntryText.f entryText
  refine Ev.bind (spec_EntryOk_ev t d s hs) ?_
  cases hb : entryOk t d s
  · refine Ev.neg (by simp) (Ev.step (fun _ => rfl) ?_)
    simp only [spec_EntryText.j0]
    exact Ev.pos trivial (Ev.done (by simp))
  refine Ev.pos rfl (Ev.call (spec_l01In_eq _ _ _) (Ev.step (fun _ => rfl) ?_))
  simp only [spec_EntryText.j0]
  cases hi : inR i 1 100000
  · exact Ev.pos rfl (Ev.done (by simp))
  have h1 := inR_true.1 hi
  have h2 := entryOk_term hb
  have s1 := varText_size (show i.toNat ≤ 34359738367 by omega)
  have s2 := varText_size (show t.toNat ≤ 34359738367 by omega)
  have s3 : (strOfNums [d % 256]).size = 1 := by rw [strOfNums_size]; rfl
  have s4 : (⟨#[69]⟩ : ByteArray).size = 1 := rfl
  exact Ev.neg (by simp) (Ev.bind (spec_l01Var_ev i (by omega) (by omega)) (Ev.pos (by omega) (Ev.bind (spec_l01Var_ev t (by omega) (by omega)) (Ev.pos (by simp only [size_append]; omega) (Ev.call rfl (Ev.pos (by simp only [size_append]; omega) (Ev.pos (by simp only [size_append]; omega) (Ev.done (by simp)))))))))
theorem impl_EntryText_ev (i t d : Int) (s : ByteArray) (hs : s.size ≤ 1048576) : Ev (fun k => impl_EntryText.f k i t d s) (entryText i t d s) := by
  unfold impl_EntryText.f entryText
  refine Ev.bind (impl_EntryOk_ev t d s hs) ?_
  cases hb : entryOk t d s
  · exact Ev.neg (by simp) (Ev.done (by simp))
  refine Ev.pos rfl (Ev.call (impl_within_eq _ _ _) ?_)
  cases hi : inR i 1 100000
  · exact Ev.neg (by simp) (Ev.done (by simp))
  have h1 := inR_true.1 hi
  have h2 := entryOk_term hb
  have s1 := varText_size (show i.toNat ≤ 34359738367 by omega)
  have s2 := varText_size (show t.toNat ≤ 34359738367 by omega)
  have s3 : (strOfNums [d % 256]).size = 1 := by rw [strOfNums_size]; rfl
  have s4 : (⟨#[69]⟩ : ByteArray).size = 1 := rfl
  have e : varsOf [i, t] = (varText i.toNat ++ varText t.toNat, true) := varsOf_two (inR_true.2 (by omega)) (inR_true.2 (by omega))
  refine Ev.pos rfl (Ev.bind (Ev.eq (impl_vars_ev [i, t] (by simp)) e) (Ev.pos (by simp only [size_append]; omega) (Ev.call rfl (Ev.pos (by simp only [size_append]; omega) (Ev.pos (by simp only [size_append]; omega) (Ev.done ?_))))))
  simp [ByteArray.append_assoc]
theorem spec_LogOk_loop (a0 a1 : Int) (l : List S37) (hx : l.length ≤ 1048576) (hd : ∀ x ∈ l, x.f2.size ≤ 1048576) : ∀ (rest : List S37) (n : Nat) (t : Int), l.drop n = rest →
    Ev (fun k => spec_LogOk.l0 k t (n : Int) a0 a1 l) (entriesOk t rest) := by
  intro rest
  induction rest with
  | nil =>
    intro n t h
    have := drop_nil h
    refine Ev.step (fun _ => rfl) ?_
    simp only [spec_LogOk.l0]
    exact Ev.neg (by omega) (Ev.now _)
  | cons x r ih =>
    intro n t h
    obtain ⟨h1, -, h3⟩ := drop_cons h
    have hm : x ∈ l := List.mem_of_mem_drop (h ▸ List.mem_cons_self)
    refine Ev.step (fun _ => rfl) ?_
    simp only [spec_LogOk.l0, rdT37_drop h, wrap64_succ (show n ≤ 9223372036854775806 by omega)]
    refine Ev.pos (by omega) (Ev.pos (by omega) (Ev.bind (spec_EntryOk_ev _ _ _ (hd x hm)) ?_))
    cases hb : entryOk x.f0 x.f1 x.f2
    · exact Ev.neg (by simp) (Ev.done (by simp [entriesOk, hb]))
    · refine Ev.pos rfl (Ev.ite (fun hc => Ev.done ?_) (fun hc => Ev.eq (ih (n + 1) _ h3) ?_))
      · simp only [entriesOk, hb, decide_eq_false (show ¬ t ≤ x.f0 by omega)]; simp
      · simp only [entriesOk, hb, decide_eq_true (show t ≤ x.f0 by omega)]; simp
theorem spec_LogOk_ev (a0 a1 : Int) (l : List S37) (hx : l.length ≤ 1048576) (hd : ∀ x ∈ l, x.f2.size ≤ 1048576) : Ev (fun k => spec_LogOk.f k a0 a1 l) (logOk a0 a1 l) := by
  have bad : ∀ r, r = false → Ev (fun k => spec_LogOk.j0 k true a0 a1 l) r := by
    rintro r rfl
    refine Ev.step (fun _ => rfl) ?_
    simp only [spec_LogOk.j0]
    exact Ev.pos trivial (Ev.now _)
  unfold spec_LogOk.f logOk
  refine Ev.call (spec_l01In_eq _ _ _) ?_
  cases h1 : inR a0 0 100000
  · exact Ev.neg (by simp) (bad _ (by simp))
  refine Ev.pos rfl (Ev.call (spec_l01In_eq _ _ _) ?_)
  cases h2 : inR a1 0 100000
  · exact Ev.neg (by simp) (bad _ (by simp))
  have b1 := inR_true.1 h1
  refine Ev.pos rfl (Ev.ite (fun hc => bad _ ?_) (fun hc => ?_))
  · rw [decide_eq_false (show ¬ l.length ≤ 120 by omega)]; simp
  rw [decide_eq_true (show l.length ≤ 120 by omega), wrap64_id (by omega) (by omega)]
  by_cases hs : a0 + (l.length : Int) ≤ 100000
  · rw [decide_eq_true hs, decide_eq_false (show ¬ a0 + (l.length : Int) > 100000 by omega)]
    refine Ev.step (fun _ => rfl) ?_
    simp only [spec_LogOk.j0]
    exact Ev.neg (by simp) (Ev.eq (spec_LogOk_loop a0 a1 l hx hd l 0 a1 rfl) (by simp))
  · rw [decide_eq_false hs, decide_eq_true (show a0 + (l.length : Int) > 100000 by omega)]
    exact bad _ (by simp)
theorem impl_LogOk_loop (l : List S37) (hx : l.length ≤ 1048576) (hd : ∀ x ∈ l, x.f2.size ≤ 1048576) : ∀ (rest : List S37) (n : Nat) (t : Int), l.drop n = rest →
    Ev (fun k => impl_LogOk.l0 k t l (l.length : Int) (n : Int)) (entriesOk t rest) := by
  intro rest
  induction rest with
  | nil =>
    intro n t h
    have := drop_nil h
    refine Ev.step (fun _ => rfl) ?_
    simp only [impl_LogOk.l0]
    exact Ev.neg (by omega) (Ev.now _)
  | cons x r ih =>
    intro n t h
    obtain ⟨h1, -, h3⟩ := drop_cons h
    have hm : x ∈ l := List.mem_of_mem_drop (h ▸ List.mem_cons_self)
    refine Ev.step (fun _ => rfl) ?_
    simp only [impl_LogOk.l0, rdT37_drop h, wrap64_succ (show n ≤ 9223372036854775806 by omega)]
    refine Ev.pos (by omega) (Ev.pos (by omega) (Ev.pos (by omega) (Ev.bind (impl_EntryOk_ev _ _ _ (hd x hm)) ?_)))
    cases hb : entryOk x.f0 x.f1 x.f2
    · exact Ev.neg (by simp) (Ev.done (by simp [entriesOk, hb]))
    · refine Ev.pos rfl (Ev.ite (fun hc => Ev.done ?_) (fun hc => Ev.eq (ih (n + 1) _ h3) ?_))
      · simp only [entriesOk, hb, decide_eq_false (show ¬ t ≤ x.f0 by omega)]; simp
      · simp only [entriesOk, hb, decide_eq_true (show t ≤ x.f0 by omega)]; simp
theorem impl_LogOk_ev (a0 a1 : Int) (l : List S37) (hx : l.length ≤ 1048576) (hd : ∀ x ∈ l, x.f2.size ≤ 1048576) : Ev (fun k => impl_LogOk.f k a0 a1 l) (logOk a0 a1 l) := by
  have bad : ∀ r, r = false → Ev (fun k => impl_LogOk.j0 k true a0 a1 l) r := by
    rintro r rfl
    refine Ev.step (fun _ => rfl) ?_
    simp only [impl_LogOk.j0]
    exact Ev.pos trivial (Ev.now _)
  unfold impl_LogOk.f logOk
  refine Ev.call (impl_within_eq _ _ _) ?_
  cases h1 : inR a0 0 100000
  · exact Ev.neg (by simp) (bad _ (by simp))
  refine Ev.pos rfl (Ev.call (impl_within_eq _ _ _) ?_)
  cases h2 : inR a1 0 100000
  · exact Ev.neg (by simp) (bad _ (by simp))
  have b1 := inR_true.1 h1
  refine Ev.pos rfl (Ev.ite (fun hc => bad _ ?_) (fun hc => ?_))
  · rw [decide_eq_false (show ¬ l.length ≤ 120 by omega)]; simp
  rw [decide_eq_true (show l.length ≤ 120 by omega), wrap64_id (by omega) (by omega)]
  by_cases hs : a0 + (l.length : Int) ≤ 100000
  · rw [decide_eq_true hs, decide_eq_false (show ¬ a0 + (l.length : Int) > 100000 by omega)]
    refine Ev.step (fun _ => rfl) ?_
    simp only [impl_LogOk.j0]
    exact Ev.neg (by simp) (Ev.eq (impl_LogOk_loop l hx hd l 0 a1 rfl) (by simp))
  · rw [decide_eq_false hs, decide_eq_true (show a0 + (l.length : Int) > 100000 by omega)]
    exact bad _ (by simp)
def logHead (s t : Int) : ByteArray := (frame ((⟨#[83]⟩ : ByteArray) ++ varText s.toNat ++ varText t.toNat)).1
theorem spec_l12Head_ev (s t : Int) (l : List S37) (hs : 0 ≤ s ∧ s ≤ 100000) (ht : 0 ≤ t ∧ t ≤ 100000) : Ev (fun k => spec_l12Head.f k s t l) (logHead s t) := by
  unfold spec_l12Head.f
  have s1 := varText_size (show s.toNat ≤ 34359738367 by omega)
  have s2 := varText_size (show t.toNat ≤ 34359738367 by omega)
  have s3 : (⟨#[83]⟩ : ByteArray).size = 1 := rfl
  exact Ev.bind (spec_l01Var_ev s (by omega) (by omega)) (Ev.pos (by omega) (Ev.bind (spec_l01Var_ev t (by omega) (by omega)) (Ev.pos (by rw [size_append]; omega) (Ev.bind (spec_Frame_ev _ (by simp only [size_append]; omega)) (Ev.now _)))))
theorem frame_le (s : ByteArray) : (frame s).1.size ≤ 9009 := by
  unfold frame
  split
  · rename_i h
    have := inR_true.1 h
    have hv := varText_size (show s.size ≤ 34359738367 by omega)
    have h4 := four_size (sumOf s)
    simp only [size_append]; omega
  · exact Nat.zero_le _
def logFrames : List Int → Int → List S37 → List Int
  | acc, _, [] => acc
  | acc, i, x :: t => logFrames (acc ++ bytesOf (frame (entryText i x.f0 x.f1 x.f2).1).1) (i + 1) t
theorem logFrames_length : ∀ (l : List S37) (acc : List Int) (i : Int), (logFrames acc i l).length ≤ acc.length + 9009 * l.length
  | [], acc, i => by simp [logFrames]
  | x :: t, acc, i => by
    rw [logFrames]
    have h := logFrames_length t (acc ++ bytesOf (frame (entryText i x.f0 x.f1 x.f2).1).1) (i + 1)
    have h2 := frame_le (entryText i x.f0 x.f1 x.f2).1
    rw [List.length_append, bytesOf_length] at h
    rw [List.length_cons]
    omega
theorem spec_l12Frames_loop (s t : Int) (hs : 0 ≤ s ∧ s ≤ 100000) (l : List S37) (hl : l.length ≤ 1048576) (hd : ∀ x ∈ l, x.f2.size ≤ 1048576) : ∀ (rest : List S37) (n : Nat) (acc : List Int), l.drop n = rest → acc.length + 9009 * rest.length ≤ 100000000000 →
    Ev (fun k => spec_l12Frames.l0 k acc (n : Int) s t l) (strOfNums (logFrames acc (s + 1 + (n : Int)) rest)) := by
  intro rest
  induction rest with
  | nil =>
    intro n acc h ha
    have := drop_nil h
    refine Ev.step (fun _ => rfl) ?_
    simp only [spec_l12Frames.l0]
    exact Ev.neg (by omega) (Ev.done (by rw [logFrames]))
  | cons x r ih =>
    intro n acc h ha
    obtain ⟨h1, -, h3⟩ := drop_cons h
    have hm : x ∈ l := List.mem_of_mem_drop (h ▸ List.mem_cons_self)
    rw [List.length_cons] at ha
    have hf := frame_le (entryText (s + 1 + (n : Int)) x.f0 x.f1 x.f2).1
    have he := entryText_size (s + 1 + (n : Int)) x.f0 x.f1 x.f2
    have hx := hd x hm
    have w1 : wrap64 (s + 1) = s + 1 := wrap64_id (by omega) (by omega)
    have w2 : wrap64 (s + 1 + (n : Int)) = s + 1 + (n : Int) := wrap64_id (by omega) (by omega)
    have ih := ih (n + 1) (acc ++ bytesOf (frame (entryText (s + 1 + (n : Int)) x.f0 x.f1 x.f2).1).1) h3 (by rw [List.length_append, bytesOf_length]; omega)
    refine Ev.step (fun _ => rfl) ?_
    simp only [spec_l12Frames.l0, rdT37_drop h, wrap64_succ (show n ≤ 9223372036854775806 by omega), w1, w2]
    refine Ev.pos (by omega) (Ev.pos (by omega) (Ev.bind (spec_EntryText_ev _ _ _ _ hx) (Ev.bind (spec_Frame_ev _ (by omega)) (Ev.pos (by omega) (Ev.eq ih ?_)))))
    rw [logFrames, show s + 1 + ((n + 1 : Nat) : Int) = s + 1 + (n : Int) + 1 by omega]
def logFile (s t : Int) (l : List S37) : ByteArray × Bool := if logOk s t l = true then (if (logHead s t ++ strOfNums (logFrames [] (s + 1) l)).size > 20000 then (⟨#[]⟩, false) else (logHead s t ++ strOfNums (logFrames [] (s + 1) l), true)) else (⟨#[]⟩, false)
theorem spec_LogFile_ev (s t : Int) (l : List S37) (hl : l.length ≤ 1048576) (hd : ∀ x ∈ l, x.f2.size ≤ 1048576) : Ev (fun k => spec_LogFile.f k s t l) (logFile s t l) := by
  unfold spec_LogFile.f logFile
  refine Ev.bind (spec_LogOk_ev s t l hl hd) ?_
  cases hk : logOk s t l
  · exact Ev.neg (by simp) (Ev.done (by simp))
  obtain ⟨b1, b2, b3, b4⟩ := logOk_bounds hk
  have z1 : (logHead s t).size ≤ 9009 := frame_le _
  have z2 := logFrames_length l [] (s + 1)
  have z3 : (strOfNums (logFrames [] (s + 1) l)).size = (logFrames [] (s + 1) l).length := strOfNums_size _
  have e := spec_l12Frames_loop s t b1 l hl hd l 0 [] rfl (by simp; omega)
  rw [show s + 1 + ((0 : Nat) : Int) = s + 1 by omega] at e
  rw [List.length_nil] at z2
  refine Ev.pos rfl (Ev.bind (spec_l12Head_ev s t l b1 b2) (Ev.bind e (Ev.pos (by omega) ?_)))
  refine Ev.ite (fun hc => Ev.done ?_) (fun hc => Ev.done ?_)
  · rw [if_pos rfl, if_pos (show _ > 20000 by omega)]
  · rw [if_pos rfl, if_neg (show ¬ _ > 20000 by omega)]
theorem impl_framed_ev (s : ByteArray) (hs : s.size ≤ 1152921504606846976) : Ev (fun k => impl_framed.f k s) (frame s).1 := Ev.bind (impl_Frame_ev s hs) (Ev.now _)
theorem impl_entryFrames_loop (s t : Int) (hs : 0 ≤ s ∧ s ≤ 100000) (l : List S37) (hl : l.length ≤ 1048576) (hd : ∀ x ∈ l, x.f2.size ≤ 1048576) : ∀ (rest : List S37) (n : Nat) (acc : List Int), l.drop n = rest → acc.length + 9009 * rest.length ≤ 100000000000 →
    Ev (fun k => impl_entryFrames.l0 k acc (n : Int) s t l) (strOfNums (logFrames acc (s + 1 + (n : Int)) rest)) := by
  intro rest
  induction rest with
  | nil =>
    intro n acc h ha
    have := drop_nil h
    refine Ev.step (fun _ => rfl) ?_
    simp only [impl_entryFrames.l0]
    exact Ev.neg (by omega) (Ev.done (by rw [logFrames]))
  | cons x r ih =>
    intro n acc h ha
    obtain ⟨h1, -, h3⟩ := drop_cons h
    have hm : x ∈ l := List.mem_of_mem_drop (h ▸ List.mem_cons_self)
    rw [List.length_cons] at ha
    have hf := frame_le (entryText (s + 1 + (n : Int)) x.f0 x.f1 x.f2).1
    have he := entryText_size (s + 1 + (n : Int)) x.f0 x.f1 x.f2
    have hx := hd x hm
    have w1 : wrap64 (s + 1) = s + 1 := wrap64_id (by omega) (by omega)
    have w2 : wrap64 (s + 1 + (n : Int)) = s + 1 + (n : Int) := wrap64_id (by omega) (by omega)
    have ih := ih (n + 1) (acc ++ bytesOf (frame (entryText (s + 1 + (n : Int)) x.f0 x.f1 x.f2).1).1) h3 (by rw [List.length_append, bytesOf_length]; omega)
    refine Ev.step (fun _ => rfl) ?_
    simp only [impl_entryFrames.l0, rdT37_drop h, wrap64_succ (show n ≤ 9223372036854775806 by omega), w1, w2]
    refine Ev.pos (by omega) (Ev.pos (by omega) (Ev.bind (impl_EntryText_ev _ _ _ _ hx) (Ev.bind (impl_framed_ev _ (by omega)) (Ev.pos (by omega) (Ev.eq ih ?_)))))
    rw [logFrames, show s + 1 + ((n + 1 : Nat) : Int) = s + 1 + (n : Int) + 1 by omega]
theorem impl_LogFile_ev (s t : Int) (l : List S37) (hl : l.length ≤ 1048576) (hd : ∀ x ∈ l, x.f2.size ≤ 1048576) : Ev (fun k => impl_LogFile.f k s t l) (logFile s t l) := by
  unfold impl_LogFile.f logFile
  refine Ev.bind (impl_LogOk_ev s t l hl hd) ?_
  cases hk : logOk s t l
  · exact Ev.neg (by simp) (Ev.done (by simp))
  obtain ⟨b1, b2, b3, b4⟩ := logOk_bounds hk
  have z1 : (logHead s t).size ≤ 9009 := frame_le _
  have z2 := logFrames_length l [] (s + 1)
  have z3 : (strOfNums (logFrames [] (s + 1) l)).size = (logFrames [] (s + 1) l).length := strOfNums_size _
  have s1 := varText_size (show s.toNat ≤ 34359738367 by omega)
  have s2 := varText_size (show t.toNat ≤ 34359738367 by omega)
  have s3 : (⟨#[83]⟩ : ByteArray).size = 1 := rfl
  have e := impl_entryFrames_loop s t b1 l hl hd l 0 [] rfl (by simp; omega)
  rw [show s + 1 + ((0 : Nat) : Int) = s + 1 by omega] at e
  rw [List.length_nil] at z2
  have ev : varsOf [s, t] = (varText s.toNat ++ varText t.toNat, true) := varsOf_two (inR_true.2 (by omega)) (inR_true.2 (by omega))
  have eh : (frame ((⟨#[83]⟩ : ByteArray) ++ (varText s.toNat ++ varText t.toNat))).1 = logHead s t := by rw [logHead, ByteArray.append_assoc]
  refine Ev.pos rfl (Ev.bind (Ev.eq (impl_vars_ev [s, t] (by simp)) ev) (Ev.pos (by simp only [size_append]; omega) (Ev.bind (Ev.eq (impl_framed_ev _ (by simp only [size_append]; omega)) eh) (Ev.bind e (Ev.pos (by omega) ?_)))))
  refine Ev.ite (fun hc => Ev.done ?_) (fun hc => Ev.done ?_)
  · rw [if_pos rfl, if_pos (show _ > 20000 by omega)]
  · rw [if_pos rfl, if_neg (show ¬ _ > 20000 by omega)]
theorem FnExactLogFile_q (a0 a1 : Int) (l : List S167) (q : (Lit.int .i64 a0).wf = true ∧ (Lit.int .i64 a1).wf = true ∧ l.length * 32 ≤ 140737488351232 ∧ ∀ x ∈ l, (Lit.int .i64 x.f0).wf = true ∧ (Lit.int .i64 x.f1).wf = true ∧ x.f2.size ≤ 140737488351232) :
    ∃ k, laws_FnExactLogFile.f k a0 a1 l = some true := by
  apply Ev.rounds
  unfold laws_FnExactLogFile.f
  obtain ⟨r, hr, hb⟩ := laws_szLog_ev a0 a1 l (by omega) (fun x hx => (q.2.2.2 x hx).2.2)
  refine Ev.bind hr (Ev.ite (fun _ => Ev.now _) (fun hn => ?_))
  obtain ⟨hl, hd⟩ := hb hn
  have hm : (l.map toEntry).length ≤ 1048576 := by simpa using hl
  have hd' : ∀ x ∈ l.map toEntry, x.f2.size ≤ 1048576 := by
    intro x hx
    obtain ⟨y, hy, rfl⟩ := List.mem_map.1 hx
    exact hd y hy
  refine Ev.bind (laws_toLog_ev a0 a1 l hl) (Ev.bind (spec_LogFile_ev _ _ _ hm hd') (Ev.bind (laws_toLog_ev a0 a1 l hl) (Ev.bind (impl_LogFile_ev _ _ _ hm hd') (Ev.pos rfl ?_))))
  refine Ev.step (fun _ => rfl) ?_
  simp only [laws_FnExactLogFile.j0]
  exact Ev.neg (by simp) (Ev.bind (laws_toLog_ev a0 a1 l hl) (Ev.bind (laws_eqLog_refl _ _ _ (by first | omega | (dsimp only; omega))) (Ev.pos rfl (Ev.now _))))

end Go.Proofs.Ytgpafelepkhdoaa.Pure
