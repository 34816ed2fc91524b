/- The declarations of the shared text 'Base' that this claim needs, as the kit's print or this repo's generator wrote them; comments are taken out. -/
import Derived.Test.YtgpafelepkhdoaaVFnExactMessageOkWWords
import Derived.Test.YtgpafelepkhdoaaVFnExactMessageOkWMore
namespace Go.Proofs.Ytgpafelepkhdoaa.Base
open Go.RowKit Go.Proofs.YtgpafelepkhdoaaW.PrintWords
theorem wrap64_id {n : Int} (h0 : -9223372036854775808 ≤ n) (h1 : n ≤ 9223372036854775807) : wrap64 n = n := by
  unfold wrap64; omega
theorem wrap64_succ {n : Nat} (h : n ≤ 9223372036854775806) : wrap64 ((n : Int) + 1) = ((n + 1 : Nat) : Int) := by
  unfold wrap64; omega
theorem wrap64_pred {n : Nat} (h : n ≤ 9223372036854775806) : wrap64 (((n + 1 : Nat) : Int) - 1) = (n : Int) := by
  unfold wrap64; omega
theorem Ev.pos {α : Type} {c : Prop} [Decidable c] {f g : Nat → Option α} {r : α} (h : c) (k : Ev f r) : Ev (fun n => if c then f n else g n) r := by
  simp only [if_pos h]; exact k
theorem Ev.neg {α : Type} {c : Prop} [Decidable c] {f g : Nat → Option α} {r : α} (h : ¬ c) (k : Ev g r) : Ev (fun n => if c then f n else g n) r := by
  simp only [if_neg h]; exact k
theorem Ev.ite {α : Type} {c : Prop} [Decidable c] {f g : Nat → Option α} {r : α} (h : c → Ev f r) (k : ¬ c → Ev g r) : Ev (fun n => if c then f n else g n) r := by
  by_cases hc : c
  · exact Ev.pos hc (h hc)
  · exact Ev.neg hc (k hc)
theorem Ev.call {α β : Type} {o : Option α} {f : Nat → α → Option β} {a : α} {r : β} (h : o = some a) (k : Ev (fun n => f n a) r) : Ev (fun n => o.bind (f n)) r := by
  subst h; exact k
theorem Ev.done {α : Type} {a r : α} (h : a = r) : Ev (fun _ => some a) r := by subst h; exact Ev.now _
theorem Ev.eq {α : Type} {g : Nat → Option α} {a r : α} (h : Ev g a) (e : a = r) : Ev g r := e ▸ h
theorem Ev.at_ {α : Type} {g : Nat → Option α} {a : α} (h : Ev g a) : ∃ k, g k = some a := Ev.rounds h
def inR (a b c : Int) : Bool := decide (b ≤ a ∧ a ≤ c)
theorem inR_true {a b c : Int} : inR a b c = true ↔ b ≤ a ∧ a ≤ c := by simp [inR]
theorem inR_false {a b c : Int} : inR a b c = false ↔ ¬ (b ≤ a ∧ a ≤ c) := by simp [inR]
theorem rd_nat (xs : List Int) (n : Nat) : rd xs (n : Int) = xs.getD n 0 := by simp [rd]
theorem drop_cons {α : Type} {xs : List α} {n : Nat} {x : α} {t : List α} (h : xs.drop n = x :: t) : n < xs.length ∧ (∀ d, xs.getD n d = x) ∧ xs.drop (n + 1) = t := by
  have hn : n < xs.length := by
    rcases Nat.lt_or_ge n xs.length with h1 | h1
    · exact h1
    · rw [List.drop_eq_nil_of_le h1] at h; cases h
  rw [List.drop_eq_getElem_cons hn] at h
  injection h with h1 h2
  exact ⟨hn, fun d => by rw [List.getD_eq_getElem?_getD, List.getElem?_eq_getElem hn]; simpa using h1, h2⟩
theorem drop_nil {α : Type} {xs : List α} {n : Nat} (h : xs.drop n = []) : xs.length ≤ n := by simpa using h
theorem drop_rd {xs : List Int} {n : Nat} {x : Int} {t : List Int} (h : xs.drop n = x :: t) : rd xs (n : Int) = x := by
  rw [rd_nat]; exact (drop_cons h).2.1 0
def prevOf (xs : List Int) : Nat → Option Int
  | 0 => none
  | n + 1 => some (rd xs (n : Int))
def rise (lo hi : Int) : Option Int → List Int → Bool
  | _, [] => true
  | none, x :: t => inR x lo hi && rise lo hi (some x) t
  | some q, x :: t => inR x lo hi && (decide (q < x) && rise lo hi (some x) t)
theorem prevOf_next {xs : List Int} {n : Nat} {x : Int} {t : List Int} (h : xs.drop n = x :: t) : prevOf xs (n + 1) = some x := by
  rw [prevOf, drop_rd h]
def confOk (l : List Int) : Bool := inR l.length 1 4 && rise 1 4 none l
theorem confOk_len {l : List Int} (h : confOk l = true) : 1 ≤ l.length ∧ l.length ≤ 4 := by
  simp only [confOk, Bool.and_eq_true] at h
  have := inR_true.1 h.1; omega
theorem set_fill {α : Type} (ys : List α) (n d : Nat) (z v : α) (h : n + (d + 1) = ys.length) (hv : ys[n]? = some v) : (ys.take n ++ List.replicate (d + 1) z).set n v = ys.take (n + 1) ++ List.replicate d z := by
  apply List.ext_getElem?
  intro i
  have hl : (ys.take n).length = n := by rw [List.length_take]; omega
  rw [List.getElem?_set]
  by_cases hi : n = i
  · subst hi
    rw [if_pos rfl, if_pos (by simp; omega), List.getElem?_append_left (by rw [List.length_take]; omega), List.getElem?_take, if_pos (by omega), hv]
  · rw [if_neg hi]
    rcases Nat.lt_or_ge i n with h1 | h1
    · rw [List.getElem?_append_left (by omega), List.getElem?_append_left (by rw [List.length_take]; omega), List.getElem?_take, List.getElem?_take, if_pos h1, if_pos (by omega)]
    · rw [List.getElem?_append_right (by omega), List.getElem?_append_right (by rw [List.length_take]; omega), hl, List.length_take, Nat.min_eq_left (by omega), List.getElem?_replicate, List.getElem?_replicate]
      by_cases h2 : i - n < d + 1
      · rw [if_pos h2, if_pos (by omega)]
      · rw [if_neg h2, if_neg (by omega)]
theorem getD_get {α : Type} {xs : List α} {n : Nat} {z : α} (h : n < xs.length) : xs[n]? = some (xs.getD n z) := by
  rw [List.getD_eq_getElem?_getD, List.getElem?_eq_getElem h]; rfl
theorem bytesOf_drop_lt {s : ByteArray} {n : Nat} {x : Int} {t : List Int} (h : (bytesOf s).drop n = x :: t) : n < s.size ∧ bt s (n : Int) = x ∧ (bytesOf s).drop (n + 1) = t ∧ 0 ≤ x ∧ x ≤ 255 := by
  obtain ⟨h1, -, h3⟩ := drop_cons h
  have e := drop_rd h
  rw [rd_bytesOf] at e
  have := bt_range s (n : Int)
  rw [bytesOf_length] at h1
  exact ⟨h1, e, h3, by omega, by omega⟩
theorem bytesOf_drop_nil {s : ByteArray} {n : Nat} (h : (bytesOf s).drop n = []) : s.size ≤ n := by
  have := drop_nil h; rwa [bytesOf_length] at this
def readConf (s : ByteArray) : List Int × Bool := if confOk (bytesOf s) = true then (bytesOf s, true) else ([], false)
def varL (n : Nat) : List Int := if n > 127 then ((n % 128 + 128 : Nat) : Int) :: varL (n / 128) else [(n : Int)]
termination_by n
decreasing_by omega
def varText (n : Nat) : ByteArray := strOfNums (varL n)
def sumBit (s : Int) : Int := if Int.tmod s 2 = 1 then Go.bits .xor .u32 ((Int.tdiv s 2) % 4294967296) 3558460437 else (Int.tdiv s 2) % 4294967296
def sumBits : Nat → Int → Int
  | 0, s => s
  | n + 1, s => sumBits n (sumBit s)
def sumMore (s : Int) : List Int → Int
  | [] => s
  | b :: t => sumMore (sumBits 8 (Go.bits .xor .u32 s (b % 4294967296))) t
def sumOf (s : ByteArray) : Int := sumMore 4294967295 (bytesOf s)
def four (x : Int) : ByteArray := strOfNums [(x / 16777216) % 256, (x / 65536) % 256, (x / 256) % 256, x % 256]
def frame (s : ByteArray) : ByteArray × Bool := if inR s.size 1 9000 = true then (varText s.size ++ four (sumOf s) ++ s, true) else (⟨#[]⟩, false)
theorem toList_inj {a b : ByteArray} : a.toList = b.toList ↔ a = b := by
  constructor
  · intro h
    rw [ByteArray.toList_eq, ByteArray.toList_eq] at h
    exact ByteArray.ext (Array.toList_inj.1 h)
  · intro h; rw [h]
theorem toList_nil {a : ByteArray} : a.toList = [] ↔ a.size = 0 := by
  rw [ByteArray.toList_eq, ← List.length_eq_zero_iff, data_length]
def emp (s : ByteArray) : Bool := s.toList == ([] : List UInt8)
theorem emp_true {s : ByteArray} : emp s = true ↔ s.size = 0 := by
  unfold emp; rw [beq_iff_eq, toList_nil]
theorem emp_def (s : ByteArray) : (s.toList == ([] : List UInt8)) = emp s := rfl
theorem emp_iff (s : ByteArray) : s.toList = ([] : List UInt8) ↔ emp s = true := by unfold emp; rw [beq_iff_eq]
def entryOk (term kind : Int) (data : ByteArray) : Bool :=
  inR term 0 100000 && (if kind = 1 then emp data else if kind = 2 then confOk (bytesOf data) else if kind = 3 then decide (data.size ≤ 120) else false)
theorem getD_at {α : Type} {a : List α} {n : Nat} (h : a.length = n) (v : α) (t : List α) (z : α) : (a ++ v :: t).getD n z = v := by
  subst h; simp [List.getD_eq_getElem?_getD]
theorem le_sum : ∀ {l : List Nat} {x : Nat}, x ∈ l → x ≤ l.sum
  | y :: t, x, h => by
    rw [List.sum_cons]
    rcases List.mem_cons.1 h with rfl | h
    · omega
    · have := le_sum h; omega
def At (s : ByteArray) (a : Int) (P : List Int) (b : Int) : Prop := 0 ≤ a ∧ b = a + (P.length : Int) ∧ b ≤ s.size ∧ (bytesOf s).drop a.toNat = P ++ (bytesOf s).drop b.toNat
theorem At.nil {s : ByteArray} {a : Int} (h0 : 0 ≤ a) (h1 : a ≤ s.size) : At s a [] a := ⟨h0, by simp, h1, by simp⟩
theorem At.mk' {s : ByteArray} {a : Int} {P rest : List Int} (h0 : 0 ≤ a) (h1 : a ≤ s.size) (h : (bytesOf s).drop a.toNat = P ++ rest) : At s a P (a + (P.length : Int)) := by
  have hl : (bytesOf s).length - a.toNat = P.length + rest.length := by rw [← List.length_drop, h, List.length_append]
  rw [bytesOf_length] at hl
  refine ⟨h0, rfl, by omega, ?_⟩
  rw [show (a + (P.length : Int)).toNat = a.toNat + P.length by omega, ← List.drop_drop, h]
  simp
theorem At.split {s : ByteArray} {a b : Int} {P Q : List Int} (h : At s a (P ++ Q) b) : At s a P (a + (P.length : Int)) ∧ At s (a + (P.length : Int)) Q b := by
  obtain ⟨h0, h1, h2, h3⟩ := h
  rw [List.length_append] at h1
  have hA := At.mk' (s := s) (a := a) (P := P) (rest := Q ++ (bytesOf s).drop b.toNat) h0 (by omega) (by rw [h3, List.append_assoc])
  refine ⟨hA, by omega, by omega, h2, ?_⟩
  have := hA.2.2.2
  rw [h3, List.append_assoc] at this
  exact (List.append_cancel_left this).symm
theorem At.trans {s : ByteArray} {a b c : Int} {P Q : List Int} (h : At s a P b) (k : At s b Q c) : At s a (P ++ Q) c := by
  obtain ⟨h0, h1, h2, h3⟩ := h
  obtain ⟨k0, k1, k2, k3⟩ := k
  exact ⟨h0, by rw [List.length_append]; omega, k2, by rw [h3, k3, List.append_assoc]⟩
theorem At.whole (s : ByteArray) : At s 0 (bytesOf s) s.size := by
  have h := At.mk' (s := s) (a := 0) (P := bytesOf s) (rest := []) (by omega) (by omega) (by simp)
  rwa [bytesOf_length, Int.zero_add] at h
theorem At.all {s : ByteArray} {P : List Int} (h : At s 0 P s.size) : bytesOf s = P := by
  have := h.2.2.2
  rw [Int.toNat_natCast, List.drop_of_length_le (l := bytesOf s) (i := s.size) (by rw [bytesOf_length]; omega)] at this
  simpa using this
theorem At.le {s : ByteArray} {a b : Int} {P : List Int} (h : At s a P b) : 0 ≤ a ∧ a ≤ b ∧ b ≤ s.size ∧ b = a + (P.length : Int) := ⟨h.1, by have := h.2.1; omega, h.2.2.1, h.2.1⟩
theorem At.size {s : ByteArray} {a b : Int} {P : List Int} (h : At s a P b) : a ≤ s.size := by have := h.le; omega
end Go.Proofs.Ytgpafelepkhdoaa.Base

