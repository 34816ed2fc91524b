/- Plain lists, numbers and bytes, and 'with enough rounds it tells r' (Ev): no Go and no memory. No conditions. -/
import Derived.Test.YthgmanojhicchaaWWords
import Derived.Test.YthgmanojhicchaaWMore
namespace Go.Proofs.Ythgmanojhicchaa.Base
open Go.RowKit Go.Proofs.YthgmanojhicchaaW.PrintWords
/-! Plain lists, numbers, bytes and rounds: no Go, no memory. -/
theorem wrap64_id {n : Int} (h0 : -9223372036854775808 ≤ n) (h1 : n ≤ 9223372036854775807) : wrap64 n = n := by
  unfold wrap64; omega
theorem wrap64_succ {n : Nat} (h : n ≤ 9223372036854775806) : wrap64 ((n : Int) + 1) = ((n + 1 : Nat) : Int) := by
  unfold wrap64; omega
theorem wrap64_pred {n : Nat} (h : n ≤ 9223372036854775806) : wrap64 (((n + 1 : Nat) : Int) - 1) = (n : Int) := by
  unfold wrap64; omega
theorem Ev.pos {α : Type} {c : Prop} [Decidable c] {f g : Nat → Option α} {r : α} (h : c) (k : Ev f r) : Ev (fun n => if c then f n else g n) r := by
  simp only [if_pos h]; exact k
theorem Ev.neg {α : Type} {c : Prop} [Decidable c] {f g : Nat → Option α} {r : α} (h : ¬ c) (k : Ev g r) : Ev (fun n => if c then f n else g n) r := by
  simp only [if_neg h]; exact k
theorem Ev.ite {α : Type} {c : Prop} [Decidable c] {f g : Nat → Option α} {r : α} (h : c → Ev f r) (k : ¬ c → Ev g r) : Ev (fun n => if c then f n else g n) r := by
  by_cases hc : c
  · exact Ev.pos hc (h hc)
  · exact Ev.neg hc (k hc)
theorem Ev.call {α β : Type} {o : Option α} {f : Nat → α → Option β} {a : α} {r : β} (h : o = some a) (k : Ev (fun n => f n a) r) : Ev (fun n => o.bind (f n)) r := by
  subst h; exact k
theorem Ev.done {α : Type} {a r : α} (h : a = r) : Ev (fun _ => some a) r := by subst h; exact Ev.now _
theorem Ev.eq {α : Type} {g : Nat → Option α} {a r : α} (h : Ev g a) (e : a = r) : Ev g r := e ▸ h
theorem Ev.at_ {α : Type} {g : Nat → Option α} {a : α} (h : Ev g a) : ∃ k, g k = some a := Ev.rounds h

def inR (a b c : Int) : Bool := decide (b ≤ a ∧ a ≤ c)
theorem inR_true {a b c : Int} : inR a b c = true ↔ b ≤ a ∧ a ≤ c := by simp [inR]
theorem inR_false {a b c : Int} : inR a b c = false ↔ ¬ (b ≤ a ∧ a ≤ c) := by simp [inR]
theorem rd_nat (xs : List Int) (n : Nat) : rd xs (n : Int) = xs.getD n 0 := by simp [rd]
theorem drop_cons {α : Type} {xs : List α} {n : Nat} {x : α} {t : List α} (h : xs.drop n = x :: t) : n < xs.length ∧ (∀ d, xs.getD n d = x) ∧ xs.drop (n + 1) = t := by
  have hn : n < xs.length := by
    rcases Nat.lt_or_ge n xs.length with h1 | h1
    · exact h1
    · rw [List.drop_eq_nil_of_le h1] at h; cases h
  rw [List.drop_eq_getElem_cons hn] at h
  injection h with h1 h2
  exact ⟨hn, fun d => by rw [List.getD_eq_getElem?_getD, List.getElem?_eq_getElem hn]; simpa using h1, h2⟩
theorem drop_nil {α : Type} {xs : List α} {n : Nat} (h : xs.drop n = []) : xs.length ≤ n := by simpa using h
theorem drop_rd {xs : List Int} {n : Nat} {x : Int} {t : List Int} (h : xs.drop n = x :: t) : rd xs (n : Int) = x := by
  rw [rd_nat]; exact (drop_cons h).2.1 0

/-! rising lists -/
def prevOf (xs : List Int) : Nat → Option Int
  | 0 => none
  | n + 1 => some (rd xs (n : Int))
def rise (lo hi : Int) : Option Int → List Int → Bool
  | _, [] => true
  | none, x :: t => inR x lo hi && rise lo hi (some x) t
  | some q, x :: t => inR x lo hi && (decide (q < x) && rise lo hi (some x) t)
theorem prevOf_next {xs : List Int} {n : Nat} {x : Int} {t : List Int} (h : xs.drop n = x :: t) : prevOf xs (n + 1) = some x := by
  rw [prevOf, drop_rd h]
theorem rise_mem {lo hi : Int} : ∀ {l : List Int} {p : Option Int}, rise lo hi p l = true → ∀ x ∈ l, lo ≤ x ∧ x ≤ hi
  | [], _, _, x, hx => by cases hx
  | y :: t, p, h, x, hx => by
    cases p with
    | none =>
      simp only [rise, Bool.and_eq_true] at h
      rcases List.mem_cons.1 hx with rfl | hx
      · exact inR_true.1 h.1
      · exact rise_mem h.2 x hx
    | some q =>
      simp only [rise, Bool.and_eq_true] at h
      rcases List.mem_cons.1 hx with rfl | hx
      · exact inR_true.1 h.1
      · exact rise_mem h.2.2 x hx
def confOk (l : List Int) : Bool := inR l.length 1 4 && rise 1 4 none l
theorem confOk_len {l : List Int} (h : confOk l = true) : 1 ≤ l.length ∧ l.length ≤ 4 := by
  simp only [confOk, Bool.and_eq_true] at h
  have := inR_true.1 h.1; omega
theorem confOk_mem {l : List Int} (h : confOk l = true) : ∀ x ∈ l, 1 ≤ x ∧ x ≤ 4 := by
  simp only [confOk, Bool.and_eq_true] at h
  exact rise_mem h.2
def confText (l : List Int) : ByteArray × Bool := if confOk l = true then (strOfNums (l.map (· % 256)), true) else (⟨#[]⟩, false)

/-! marks in new memory -/
def upFrom : Int → Nat → List Int
  | _, 0 => []
  | m, n + 1 => m :: upFrom (m + 1) n
theorem upFrom_length : ∀ (n : Nat) (m : Int), (upFrom m n).length = n
  | 0, _ => rfl
  | n + 1, m => by simp [upFrom, upFrom_length n]
theorem set_fill {α : Type} (ys : List α) (n d : Nat) (z v : α) (h : n + (d + 1) = ys.length) (hv : ys[n]? = some v) : (ys.take n ++ List.replicate (d + 1) z).set n v = ys.take (n + 1) ++ List.replicate d z := by
  apply List.ext_getElem?
  intro i
  have hl : (ys.take n).length = n := by rw [List.length_take]; omega
  rw [List.getElem?_set]
  by_cases hi : n = i
  · subst hi
    rw [if_pos rfl, if_pos (by simp; omega), List.getElem?_append_left (by rw [List.length_take]; omega), List.getElem?_take, if_pos (by omega), hv]
  · rw [if_neg hi]
    rcases Nat.lt_or_ge i n with h1 | h1
    · rw [List.getElem?_append_left (by omega), List.getElem?_append_left (by rw [List.length_take]; omega), List.getElem?_take, List.getElem?_take, if_pos h1, if_pos (by omega)]
    · rw [List.getElem?_append_right (by omega), List.getElem?_append_right (by rw [List.length_take]; omega), hl, List.length_take, Nat.min_eq_left (by omega), List.getElem?_replicate, List.getElem?_replicate]
      by_cases h2 : i - n < d + 1
      · rw [if_pos h2, if_pos (by omega)]
      · rw [if_neg h2, if_neg (by omega)]
theorem getD_get {α : Type} {xs : List α} {n : Nat} {z : α} (h : n < xs.length) : xs[n]? = some (xs.getD n z) := by
  rw [List.getD_eq_getElem?_getD, List.getElem?_eq_getElem h]; rfl
theorem upFrom_snoc : ∀ (n : Nat) (m : Int), upFrom m (n + 1) = upFrom m n ++ [m + n]
  | 0, m => by simp [upFrom]
  | n + 1, m => by
    rw [upFrom, upFrom_snoc n (m + 1), upFrom]
    simp; omega
theorem upFrom_get : ∀ (n i : Nat) (m : Int), i < n → (upFrom m n).getD i 0 = m + i
  | 0, i, m, h => by omega
  | n + 1, 0, m, h => by simp [upFrom]
  | n + 1, i + 1, m, h => by
    rw [upFrom, List.getD_cons_succ, upFrom_get n i (m + 1) (by omega)]; omega
theorem set_mark {α : Type} (a : List α) (x v : α) (t : List α) (n : Nat) (h : a.length = n) : (a ++ x :: t).set n v = a ++ [v] ++ t := by
  subst h
  rw [List.set_append_right _ _ (Nat.le_refl _)]; simp

/-! bytes -/
theorem bytesOf_drop_lt {s : ByteArray} {n : Nat} {x : Int} {t : List Int} (h : (bytesOf s).drop n = x :: t) : n < s.size ∧ bt s (n : Int) = x ∧ (bytesOf s).drop (n + 1) = t ∧ 0 ≤ x ∧ x ≤ 255 := by
  obtain ⟨h1, -, h3⟩ := drop_cons h
  have e := drop_rd h
  rw [rd_bytesOf] at e
  have := bt_range s (n : Int)
  rw [bytesOf_length] at h1
  exact ⟨h1, e, h3, by omega, by omega⟩
theorem bytesOf_drop_nil {s : ByteArray} {n : Nat} (h : (bytesOf s).drop n = []) : s.size ≤ n := by
  have := drop_nil h; rwa [bytesOf_length] at this
theorem bytesOf_strOfNums : ∀ (xs : List Int), (∀ x ∈ xs, 0 ≤ x ∧ x ≤ 255) → bytesOf (strOfNums xs) = xs := by
  intro xs h
  unfold bytesOf
  rw [strOfNums_data, List.map_map]
  conv => rhs; rw [← List.map_id xs]
  apply List.map_congr_left
  intro x hx
  have := h x hx
  simp only [Function.comp, id, UInt8.toNat_ofNat']
  omega
theorem strOfNums_append (xs ys : List Int) : strOfNums (xs ++ ys) = strOfNums xs ++ strOfNums ys := by
  apply ByteArray.ext
  simp [strOfNums]
theorem strOfNums_nil : strOfNums [] = (⟨#[]⟩ : ByteArray) := rfl
theorem empty_append (s : ByteArray) : (⟨#[]⟩ : ByteArray) ++ s = s := by
  apply ByteArray.ext; simp
theorem size_append (a b : ByteArray) : (a ++ b).size = a.size + b.size := ByteArray.size_append
def readConf (s : ByteArray) : List Int × Bool := if confOk (bytesOf s) = true then (bytesOf s, true) else ([], false)

/-! numbers in bytes -/
def varL (n : Nat) : List Int := if n > 127 then ((n % 128 + 128 : Nat) : Int) :: varL (n / 128) else [(n : Int)]
termination_by n
decreasing_by omega
def varText (n : Nat) : ByteArray := strOfNums (varL n)
theorem varL_big {n : Nat} (h : n > 127) : varL n = ((n % 128 + 128 : Nat) : Int) :: varL (n / 128) := by rw [varL, if_pos h]
theorem varL_small {n : Nat} (h : ¬ n > 127) : varL n = [(n : Int)] := by rw [varL, if_neg h]
theorem varL_bytes (n : Nat) : ∀ x ∈ varL n, 0 ≤ x ∧ x ≤ 255 := by
  induction n using Nat.strongRecOn with
  | ind n ih =>
    intro x hx
    by_cases h : n > 127
    · rw [varL_big h] at hx
      rcases List.mem_cons.1 hx with rfl | hx
      · omega
      · exact ih _ (by omega) x hx
    · rw [varL_small h] at hx
      obtain rfl := List.mem_singleton.1 hx
      omega
theorem varL_le : ∀ (j n : Nat), n < 128 ^ (j + 1) → (varL n).length ≤ j + 1
  | 0, n, h => by rw [varL_small (by omega)]; simp
  | j + 1, n, h => by
    by_cases hn : n > 127
    · rw [varL_big hn]
      have := varL_le j (n / 128) (by rw [Nat.div_lt_iff_lt_mul (by omega)]; rw [Nat.pow_succ] at h; exact h)
      simp; omega
    · rw [varL_small hn]; simp
theorem varL_len {n : Nat} (h : n ≤ 34359738367) : (varL n).length ≤ 5 := varL_le 4 n (by omega)
theorem varL_pos (n : Nat) : 1 ≤ (varL n).length := by
  by_cases hn : n > 127
  · rw [varL_big hn]; simp
  · rw [varL_small hn]; simp
theorem varText_size {n : Nat} (h : n ≤ 34359738367) : (varText n).size ≤ 5 := by rw [varText, strOfNums_size]; exact varL_len h
theorem varText_pos (n : Nat) : 1 ≤ (varText n).size := by rw [varText, strOfNums_size]; exact varL_pos n
theorem bytesOf_varText (n : Nat) : bytesOf (varText n) = varL n := bytesOf_strOfNums _ (varL_bytes n)
theorem tdiv128 (n : Nat) (h : n ≤ 9223372036854775807) : wrap64 (Int.tdiv (n : Int) 128) = ((n / 128 : Nat) : Int) := by
  rw [Int.tdiv_eq_ediv_of_nonneg (by omega), wrap64_id (by omega) (by omega)]; omega
theorem tmod128 (n : Nat) : (wrap64 ((Int.tmod (n : Int) 128) + 128)) % 256 = ((n % 128 + 128 : Nat) : Int) := by
  rw [Int.tmod_eq_emod_of_nonneg (by omega), wrap64_id (by omega) (by omega)]; omega
def varTextOf (n : Int) : ByteArray × Bool := if inR n 0 1000000000 = true then (varText n.toNat, true) else (⟨#[]⟩, false)
def varsOf (l : List Int) : ByteArray × Bool := if l.all (fun n => inR n 0 1000000000) = true then (strOfNums (l.flatMap fun n => varL n.toNat), true) else (⟨#[]⟩, false)

/-! sums and frames -/
def sumBit (s : Int) : Int := if Int.tmod s 2 = 1 then Go.bits .xor .u32 ((Int.tdiv s 2) % 4294967296) 3558460437 else (Int.tdiv s 2) % 4294967296
def sumBits : Nat → Int → Int
  | 0, s => s
  | n + 1, s => sumBits n (sumBit s)
def sumMore (s : Int) : List Int → Int
  | [] => s
  | b :: t => sumMore (sumBits 8 (Go.bits .xor .u32 s (b % 4294967296))) t
def sumOf (s : ByteArray) : Int := sumMore 4294967295 (bytesOf s)
def four (x : Int) : ByteArray := strOfNums [(x / 16777216) % 256, (x / 65536) % 256, (x / 256) % 256, x % 256]
theorem four_size (x : Int) : (four x).size = 4 := by rw [four, strOfNums_size]; rfl
def frame (s : ByteArray) : ByteArray × Bool := if inR s.size 1 9000 = true then (varText s.size ++ four (sumOf s) ++ s, true) else (⟨#[]⟩, false)
def voteText (t v : Int) : ByteArray × Bool := if (inR t 0 100000 && inR v 0 4) = true then frame (varText t.toNat ++ varText v.toNat) else (⟨#[]⟩, false)
def countIn (l : List Int) : List Int → Nat
  | [] => 0
  | x :: t => (if l.contains x = true then 1 else 0) + countIn l t
theorem countIn_le (l : List Int) : ∀ t : List Int, countIn l t ≤ t.length
  | [] => Nat.le_refl _
  | x :: t => by
    have := countIn_le l t
    rw [countIn, List.length_cons]
    by_cases h : l.contains x = true
    · rw [if_pos h]; omega
    · rw [if_neg h]; omega
def most (conf list : List Int) : Bool := confOk conf && decide (2 * countIn list conf > conf.length)

/-! texts -/
theorem toList_inj {a b : ByteArray} : a.toList = b.toList ↔ a = b := by
  constructor
  · intro h
    rw [ByteArray.toList_eq, ByteArray.toList_eq] at h
    exact ByteArray.ext (Array.toList_inj.1 h)
  · intro h; rw [h]
theorem toList_nil {a : ByteArray} : a.toList = [] ↔ a.size = 0 := by
  rw [ByteArray.toList_eq, ← List.length_eq_zero_iff, data_length]
def emp (s : ByteArray) : Bool := s.toList == ([] : List UInt8)
theorem emp_true {s : ByteArray} : emp s = true ↔ s.size = 0 := by
  unfold emp; rw [beq_iff_eq, toList_nil]
theorem emp_def (s : ByteArray) : (s.toList == ([] : List UInt8)) = emp s := rfl
theorem emp_iff (s : ByteArray) : s.toList = ([] : List UInt8) ↔ emp s = true := by unfold emp; rw [beq_iff_eq]

/-! commands and entries -/
def cmdOk (op s q : Int) (key value old : ByteArray) : Bool :=
  inR op 1 5 && (inR s 0 100000 && (inR q 0 100000 && (decide (value.size ≤ 12) && (decide (old.size ≤ 12) &&
    (if op = 1 then s == 0 && (q == 0 && (emp key && (emp value && emp old)))
     else inR key.size 1 9 && (if op = 2 ∨ op = 4 then emp value && emp old else if op = 3 then emp old else true))))))
def shortText (s : ByteArray) : ByteArray := varText s.size ++ s
def cmdText (op s q : Int) (key value old : ByteArray) : ByteArray × Bool :=
  if cmdOk op s q key value old = true then (strOfNums [op % 256] ++ varText s.toNat ++ varText q.toNat ++ shortText key ++ shortText value ++ shortText old, true) else (⟨#[]⟩, false)
def entryOk (term kind : Int) (data : ByteArray) : Bool :=
  inR term 0 100000 && (if kind = 1 then emp data else if kind = 2 then confOk (bytesOf data) else if kind = 3 then decide (data.size ≤ 120) else false)
def entryText (i term kind : Int) (data : ByteArray) : ByteArray × Bool :=
  if (entryOk term kind data && inR i 1 100000) = true then ((⟨#[69]⟩ : ByteArray) ++ varText i.toNat ++ varText term.toNat ++ strOfNums [kind % 256] ++ data, true) else (⟨#[]⟩, false)

/-! marks -/
def markTextL (n : Nat) (acc : ByteArray) : ByteArray := if n > 0 then markTextL (n / 10) (strOfNums [((48 + n % 10 : Nat) : Int)] ++ acc) else ⟨#[109]⟩ ++ acc
termination_by n
decreasing_by omega
def markTextOf (m : Int) : ByteArray := if m ≤ 0 then ⟨#[109, 48]⟩ else markTextL m.toNat ⟨#[]⟩
theorem tdiv10 (n : Nat) (h : n ≤ 9223372036854775807) : wrap64 (Int.tdiv (n : Int) 10) = ((n / 10 : Nat) : Int) := by
  rw [Int.tdiv_eq_ediv_of_nonneg (by omega), wrap64_id (by omega) (by omega)]; omega
theorem tmod10 (n : Nat) : (wrap64 (48 + (Int.tmod (n : Int) 10))) % 256 = ((48 + n % 10 : Nat) : Int) := by
  rw [Int.tmod_eq_emod_of_nonneg (by omega), wrap64_id (by omega) (by omega)]; omega
theorem set_at {α : Type} {a : List α} {n : Nat} (h : a.length = n) (v v' : α) (t : List α) : (a ++ v :: t).set n v' = a ++ v' :: t := by
  subst h; rw [List.set_append_right _ _ (Nat.le_refl _)]; simp
theorem getD_at {α : Type} {a : List α} {n : Nat} (h : a.length = n) (v : α) (t : List α) (z : α) : (a ++ v :: t).getD n z = v := by
  subst h; simp [List.getD_eq_getElem?_getD]
theorem le_sum : ∀ {l : List Nat} {x : Nat}, x ∈ l → x ≤ l.sum
  | y :: t, x, h => by
    rw [List.sum_cons]
    rcases List.mem_cons.1 h with rfl | h
    · omega
    · have := le_sum h; omega
theorem shortText_size {s : ByteArray} (h : s.size ≤ 34359738367) : (shortText s).size ≤ s.size + 5 := by
  have := varText_size h
  rw [shortText, size_append]; omega
theorem cmdOk_sizes {op s q : Int} {key value old : ByteArray} (h : cmdOk op s q key value old = true) : (0 ≤ s ∧ s ≤ 100000) ∧ (0 ≤ q ∧ q ≤ 100000) ∧ key.size ≤ 9 ∧ value.size ≤ 12 ∧ old.size ≤ 12 := by
  unfold cmdOk at h
  simp only [Bool.and_eq_true, inR_true, decide_eq_true_eq] at h
  obtain ⟨h1, h2, h3, h4, h5, h6⟩ := h
  refine ⟨h2, h3, ?_, h4, h5⟩
  split at h6
  · simp only [Bool.and_eq_true] at h6
    have := emp_true.1 h6.2.2.1; omega
  · simp only [Bool.and_eq_true, inR_true] at h6; omega
theorem varsOf_two {a b : Int} (ha : inR a 0 1000000000 = true) (hb : inR b 0 1000000000 = true) : varsOf [a, b] = (varText a.toNat ++ varText b.toNat, true) := by
  rw [varsOf, if_pos (by simp [ha, hb])]
  simp [varText, strOfNums_append]
theorem entryOk_term {t d : Int} {s : ByteArray} (h : entryOk t d s = true) : 0 ≤ t ∧ t ≤ 100000 := by
  unfold entryOk at h
  simp only [Bool.and_eq_true] at h
  exact inR_true.1 h.1

end Go.Proofs.Ythgmanojhicchaa.Base
