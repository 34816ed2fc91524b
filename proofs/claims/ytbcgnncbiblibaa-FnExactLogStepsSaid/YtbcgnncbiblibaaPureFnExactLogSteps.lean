/- The law FnExactLogSteps answers true: the program's LogSteps returns what the reference's returns, in memory of its own, and leaves its arguments as they were. For all arguments; no further condition. -/
import Derived.Test.YtbcgnncbiblibaaPFnExactLogStepsx25
import Derived.Test.YtbcgnncbiblibaaVFnExactLogStepsBase
namespace Go.Proofs.Ytbcgnncbiblibaa.Pure
open Go.RowKit Go.Proofs.Ytbcgnncbiblibaa.PFnExactLogSteps Go.Proofs.YtbcgnncbiblibaaW.PrintWords Go.Proofs.YtbcgnncbiblibaaW.PrintLast Go.Proofs.Ytbcgnncbiblibaa.Base
set_option linter.unusedVariables false
theorem laws_markText_loop : ∀ (n : Nat) (acc : ByteArray), acc.size + n ≤ 4611686018427387904 → Ev (fun k => laws_markText.l0 k (n : Int) acc) (markTextL n acc) := by
 intro n
 induction n using Nat.strongRecOn with
 | ind n ih =>
  intro acc h;refine Ev.step (fun _ => rfl) ?_;simp only [laws_markText.l0,tdiv10 n (by omega),tmod10 n,Option.bind_some,strOfNums_size,List.length_singleton];rw [markTextL];refine Ev.ite (fun hc => ?_) (fun hc => ?_)
  ·rw [if_pos (show n > 0 by omega)];exact Ev.pos (by omega) (ih (n / 10) (by omega) _ (by rw [size_append,strOfNums_size,List.length_singleton];omega))
  ·rw [if_neg (show ¬ n > 0 by omega)];exact Ev.pos (by omega) (Ev.now _)
theorem laws_markText_ev (m : Int) (hm : m ≤ 4611686018427387904) : Ev (fun k => laws_markText.f k m) (markTextOf m) := by
 unfold laws_markText.f markTextOf
 by_cases hc : m ≤ 0
 ·rw [if_pos hc];exact Ev.pos hc (Ev.now _)
 ·rw [if_neg hc];obtain ⟨n,rfl⟩:=Int.eq_ofNat_of_zero_le (show 0 ≤ m by omega);exact Ev.neg hc (laws_markText_loop n _ (by show 0 + n ≤ _;omega))
theorem rdT126_drop {xs : List S126} {n : Nat} {x : S126} {t : List S126} (h : xs.drop n = x :: t) : rd_T126 xs (n : Int) = x := by
 unfold rd_T126
 rw [Int.toNat_natCast];exact (drop_cons h).2.1 _
theorem rdT126_at {a : List S126} {n : Nat} (h : a.length = n) (v : S126) (t : List S126) : rd_T126 (a ++ v :: t) (n : Int) = v := by
 unfold rd_T126
 rw [Int.toNat_natCast];exact getD_at h v t _
theorem laws_eqRaw_refl (x0 : Int) (x1 : ByteArray) (x2 : ByteArray) (x3 : ByteArray) : laws_eqRaw.f x0 x1 x2 x3 x0 x1 x2 x3 = some true := by simp [laws_eqRaw.f]
theorem laws_eqRawS_loop (xs : List S126) (hx : xs.length ≤ 9223372036854775806) : ∀ (rest : List S126) (n : Nat), xs.drop n = rest → Ev (fun k => laws_eqRawS.l0 k xs xs (n : Int)) true := by
 intro rest
 induction rest with
 | nil =>
  intro n h;have:=drop_nil h;refine Ev.step (fun _ => rfl) ?_;simp only [laws_eqRawS.l0];exact Ev.neg (by omega) (Ev.now _)
 | cons x t ih =>
  intro n h;obtain ⟨h1,-,h3⟩:=drop_cons h;refine Ev.step (fun _ => rfl) ?_;simp only [laws_eqRawS.l0,wrap64_succ (show n ≤ 9223372036854775806 by omega)];exact Ev.pos (by omega) (Ev.pos (by omega) (Ev.pos (by omega) (Ev.call (laws_eqRaw_refl _ _ _ _) (Ev.pos rfl (ih (n + 1) h3)))))
theorem laws_eqRawS_refl (xs : List S126) (hx : xs.length ≤ 9223372036854775806) : Ev (fun k => laws_eqRawS.f k xs xs) true :=
 Ev.pos rfl (laws_eqRawS_loop xs hx xs 0 rfl)
def mkRaw (m : Int) : S126 := ⟨m, markTextOf (m + 1), markTextOf (m + 1 + 1), markTextOf (m + 1 + 1 + 1)⟩
def markedRaw : List S126 → Int → List S126
 | [],_ => []
 | _ :: t,m => mkRaw m :: markedRaw t (m + 1 + 1 + 1 + 1)
theorem markedRaw_length : ∀ (l : List S126) (m : Int), (markedRaw l m).length = l.length
 | [],_ => rfl
 | x :: t,m => by rw [markedRaw,List.length_cons,List.length_cons,markedRaw_length t]
theorem laws_markRawS_loop : ∀ (rest done : List S126) (n : Nat) (m : Int), done.length = n → 0 ≤ m → m + 4 * (rest.length : Int) ≤ 4611686018427387904 → n + rest.length ≤ 1152921504606846976 →
  Ev (fun k => laws_markRawS.l0 k (done ++ rest) m (n : Int)) (m + 4 * (rest.length : Int),done ++ markedRaw rest m):=by
 intro rest
 induction rest with
 | nil =>
  intro done n m hd h0 hm hb;refine Ev.step (fun _ => rfl) ?_;simp only [laws_markRawS.l0];exact Ev.neg (by rw [List.append_nil];omega) (Ev.done (by simp [markedRaw]))
 | cons x t ih =>
  intro done n m hd h0 hm hb
  have hn : n ≤ 9223372036854775806:=by rw [List.length_cons] at hb;omega
  have hm' : m + 4 ≤ 4611686018427387904:=by rw [List.length_cons] at hm;omega
  have w1 : wrap64 (m + 1) = m + 1:=wrap64_id (by omega) (by omega);have w2 : wrap64 (m + 1 + 1) = m + 1 + 1:=wrap64_id (by omega) (by omega);have w3 : wrap64 (m + 1 + 1 + 1) = m + 1 + 1 + 1:=wrap64_id (by omega) (by omega);have w4 : wrap64 (m + 1 + 1 + 1 + 1) = m + 1 + 1 + 1 + 1:=wrap64_id (by omega) (by omega);have ih:=ih (done ++ [mkRaw m]) (n + 1) (m + 1 + 1 + 1 + 1) (by simp [hd]) (by omega) (by rw [List.length_cons] at hm;omega) (by rw [List.length_cons] at hb;omega);refine Ev.step (fun _ => rfl) ?_;simp only [laws_markRawS.l0,wrap64_succ hn,Int.toNat_natCast,set_at hd,rdT126_at hd,Option.bind_some,w1,w2,w3,w4];refine Ev.pos (by rw [List.length_append,List.length_cons];omega) (Ev.pos (by omega) (Ev.bind (laws_markText_ev (m + 1) (by omega)) (Ev.bind (laws_markText_ev (m + 1 + 1) (by omega)) (Ev.bind (laws_markText_ev (m + 1 + 1 + 1) (by omega)) (?_)))))
  try simp only [Option.bind_some,set_at hd,rdT126_at hd]
  refine Ev.eq (Ev.congr (fun k => ?_) ih) ?_
  ·simp only [List.append_assoc,List.cons_append,List.nil_append];rfl
  ·rw [markedRaw,List.append_assoc,List.length_cons];refine Prod.ext ?_ rfl;show (m + 1 + 1 + 1 + 1) + 4 * (t.length : Int) = m + 4 * ((t.length + 1 : Nat) : Int)
   omega
theorem laws_markRawS_ev (l : List S126) (m : Int) (h0 : 0 ≤ m) (hm : m + 4 * (l.length : Int) ≤ 4611686018427387904) (hl : l.length ≤ 1152921504606846976) : Ev (fun k => laws_markRawS.f k l m) (m + 4 * (l.length : Int), markedRaw l m) :=
 laws_markRawS_loop l [] 0 m rfl h0 hm (by omega)
theorem laws_heldRawS_loop (xs : List S126) (hx : xs.length ≤ 1152921504606846976) : ∀ (rest : List S126) (n : Nat) (m : Int), xs.drop n = markedRaw rest m → 0 ≤ m → m + 4 * (rest.length : Int) ≤ 4611686018427387904 →
  Ev (fun k => laws_heldRawS.l0 k xs m (n : Int)) (m + 4 * (rest.length : Int)):=by
 intro rest
 induction rest with
 | nil =>
  intro n m h h0 hm;have:=drop_nil h;refine Ev.step (fun _ => rfl) ?_;simp only [laws_heldRawS.l0];exact Ev.neg (by omega) (Ev.done (by simp))
 | cons x t ih =>
  intro n m h h0 hm;rw [markedRaw] at h;obtain ⟨h1,-,h3⟩:=drop_cons h
  have hm' : m + 4 ≤ 4611686018427387904:=by rw [List.length_cons] at hm;omega
  have w1 : wrap64 (m + 1) = m + 1:=wrap64_id (by omega) (by omega);have w2 : wrap64 (m + 1 + 1) = m + 1 + 1:=wrap64_id (by omega) (by omega);have w3 : wrap64 (m + 1 + 1 + 1) = m + 1 + 1 + 1:=wrap64_id (by omega) (by omega);have w4 : wrap64 (m + 1 + 1 + 1 + 1) = m + 1 + 1 + 1 + 1:=wrap64_id (by omega) (by omega);have ih:=ih (n + 1) (m + 1 + 1 + 1 + 1) h3 (by omega) (by rw [List.length_cons] at hm;omega);refine Ev.step (fun _ => rfl) ?_;simp only [laws_heldRawS.l0,wrap64_succ (show n ≤ 9223372036854775806 by omega),rdT126_drop h,w1,w2,w3,w4];refine Ev.pos (by omega) (Ev.pos (by omega) (Ev.pos rfl (Ev.bind (laws_markText_ev (m + 1) (by omega)) (Ev.pos rfl (Ev.bind (laws_markText_ev (m + 1 + 1) (by omega)) (Ev.pos rfl (Ev.bind (laws_markText_ev (m + 1 + 1 + 1) (by omega)) (Ev.pos rfl (?_)))))))));refine Ev.eq ih ?_;rw [List.length_cons];show (m + 1 + 1 + 1 + 1) + 4 * (t.length : Int) = m + 4 * ((t.length + 1 : Nat) : Int)
  omega
theorem laws_heldRawS_ev (l : List S126) (m : Int) (h0 : 0 ≤ m) (hm : m + 4 * (l.length : Int) ≤ 4611686018427387904) (hl : l.length ≤ 1152921504606846976) : Ev (fun k => laws_heldRawS.f k (markedRaw l m) m) (m + 4 * (l.length : Int)) :=
 laws_heldRawS_loop _ (by rw [markedRaw_length];omega) l 0 m rfl h0 hm
theorem rdT150_drop {xs : List S150} {n : Nat} {x : S150} {t : List S150} (h : xs.drop n = x :: t) : rd_T150 xs (n : Int) = x := by
 unfold rd_T150
 rw [Int.toNat_natCast];exact (drop_cons h).2.1 _
theorem rdT150_get {xs : List S150} {n : Nat} (h : n < xs.length) : xs[n]? = some (rd_T150 xs (n : Int)) := by
 unfold rd_T150
 rw [Int.toNat_natCast];exact getD_get h
theorem rdT69_drop {xs : List S69} {n : Nat} {x : S69} {t : List S69} (h : xs.drop n = x :: t) : rd_T69 xs (n : Int) = x := by
 unfold rd_T69
 rw [Int.toNat_natCast];exact (drop_cons h).2.1 _
theorem rdT69_at {a : List S69} {n : Nat} (h : a.length = n) (v : S69) (t : List S69) : rd_T69 (a ++ v :: t) (n : Int) = v := by
 unfold rd_T69
 rw [Int.toNat_natCast];exact getD_at h v t _
def entriesOk (t : Int) : List S69 → Bool
 | [] => true
 | e :: r => entryOk e.f0 e.f1 e.f2 && (decide (t ≤ e.f0) && entriesOk e.f0 r)
def logOk (s t : Int) (l : List S69) : Bool := inR s 0 100000 && (inR t 0 100000 && (decide (l.length ≤ 120) && (decide (s + (l.length : Int) ≤ 100000) && entriesOk t l)))
theorem logOk_bounds {s t : Int} {l : List S69} (h : logOk s t l = true) : (0 ≤ s ∧ s ≤ 100000) ∧ (0 ≤ t ∧ t ≤ 100000) ∧ l.length ≤ 120 ∧ s + (l.length : Int) ≤ 100000 := by
 unfold logOk at h
 simp only [Bool.and_eq_true,inR_true,decide_eq_true_eq] at h;exact ⟨h.1,h.2.1,h.2.2.1,h.2.2.2.1⟩
theorem entryOk_size {t k : Int} {d : ByteArray} (h : entryOk t k d = true) : d.size ≤ 120 := by
 unfold entryOk at h
 simp only [Bool.and_eq_true] at h;have h2:=h.2
 by_cases k1 : k = 1
 ·rw [if_pos k1] at h2;have:=emp_true.1 h2;omega
 rw [if_neg k1] at h2
 by_cases k2 : k = 2
 ·rw [if_pos k2] at h2;have:=confOk_len h2;rw [bytesOf_length] at this;omega
 rw [if_neg k2] at h2
 by_cases k3 : k = 3
 ·rw [if_pos k3] at h2;exact of_decide_eq_true h2
 ·rw [if_neg k3] at h2;cases h2
theorem entriesOk_mem : ∀ {l : List S69} {t : Int}, entriesOk t l = true → ∀ x ∈ l, entryOk x.f0 x.f1 x.f2 = true ∧ t ≤ x.f0
 | e :: r,t,h,x,hx => by
  simp only [entriesOk,Bool.and_eq_true,decide_eq_true_eq] at h
  rcases List.mem_cons.1 hx with rfl|hx
  ·exact ⟨h.1,h.2.1⟩
  ·have:=entriesOk_mem h.2.2 x hx;exact ⟨this.1,by omega⟩
theorem laws_szEntry_some (x0 : Int) (x1 : Int) (x2 : ByteArray) (c : Int) (hc0 : 0 ≤ c) (hc : c ≤ 1048576) (h2 : x2.size ≤ 140737488351232) :
  ∃ r,laws_szEntry.f x0 x1 x2 c = some r ∧ (¬ r < 0 → r = c - ((x2.size : Nat) : Int)):=by
 unfold laws_szEntry.f wrap64
 by_cases c0 : (c - (x2.size : Int) + 9223372036854775808) % 18446744073709551616 - 9223372036854775808 < 0
 ·exact ⟨-1,by rw [if_pos c0],by omega⟩
 rw [if_neg c0];exact ⟨_,rfl,by omega⟩
def wtEntry (x : S150) : Nat := x.f2.size
theorem laws_szEntryS_loop (xs : List S150) (hx : xs.length ≤ 1048576) : ∀ (rest : List S150) (n : Nat) (c : Int), xs.drop n = rest → (∀ x ∈ rest, x.f2.size ≤ 140737488351232) → 0 ≤ c → c ≤ 1048576 →
  ∃ r,Ev (fun k => laws_szEntryS.l0 k xs c (n : Int)) r ∧ (¬ r < 0 → r = c - (((rest.map wtEntry).sum : Nat) : Int)):=by
 intro rest
 induction rest with
 | nil =>
  intro n c h _ h0 h1;have:=drop_nil h;refine ⟨c,Ev.step (fun _ => rfl) ?_,by simp⟩;simp only [laws_szEntryS.l0];exact Ev.neg (by omega) (Ev.now _)
 | cons x t ih =>
  intro n c h hq0 h0 h1;obtain ⟨hn,-,h3⟩:=drop_cons h;have hq:=hq0 x List.mem_cons_self;obtain ⟨r,hr,hb⟩:=laws_szEntry_some x.f0 x.f1 x.f2 c h0 h1 hq
  by_cases hc : r < 0
  ·refine ⟨-1,Ev.step (fun _ => rfl) ?_,by omega⟩;simp only [laws_szEntryS.l0,rdT150_drop h];exact Ev.pos (by omega) (Ev.pos (by omega) (Ev.call hr (Ev.pos hc (Ev.now _))))
  ·have hb:=hb hc;obtain ⟨r',hr',hb'⟩:=ih (n + 1) r h3 (fun y hy => hq0 y (List.mem_cons_of_mem _ hy)) (by omega) (by omega);refine ⟨r',Ev.step (fun _ => rfl) ?_,fun hn => ?_⟩
   ·simp only [laws_szEntryS.l0,rdT150_drop h,wrap64_succ (show n ≤ 9223372036854775806 by omega)];exact Ev.pos (by omega) (Ev.pos (by omega) (Ev.call hr (Ev.neg hc hr')))
   ·have:=hb' hn;rw [List.map_cons,List.sum_cons,wtEntry]
    omega
theorem laws_szEntryS_ev (xs : List S150) (hx : xs.length ≤ 17592186044416) (hq : ∀ x ∈ xs, x.f2.size ≤ 140737488351232) (c : Int) (h0 : 0 ≤ c) (h1 : c ≤ 1048576) :
  ∃ r,Ev (fun k => laws_szEntryS.f k xs c) r ∧ (¬ r < 0 → r = c - ((xs.length + (xs.map wtEntry).sum : Nat) : Int)):=by
 unfold laws_szEntryS.f
 rw [wrap64_id (by omega) (by omega)]
 by_cases hc : c - (xs.length : Int) < 0
 ·exact ⟨-1,Ev.pos hc (Ev.now _),by omega⟩
 ·obtain ⟨r,hr,hb⟩:=laws_szEntryS_loop xs (by omega) xs 0 (c - (xs.length : Int)) rfl hq (by omega) (by omega);exact ⟨r,Ev.neg hc hr,fun hn => by have:=hb hn;omega⟩
theorem sum_wtEntry {xs : List S150} {x : S150} (h : x ∈ xs) : wtEntry x ≤ (xs.map wtEntry).sum := le_sum (List.mem_map_of_mem h)
def toEntry (x : S150) : S69 := ⟨x.f0, x.f1, x.f2⟩
theorem laws_toEntryS_loop (xs : List S150) (hx : xs.length ≤ 1048576) : ∀ (d n : Nat), n + d = xs.length →
  Ev (fun k => laws_toEntryS.l0 k xs ((xs.map toEntry).take n ++ List.replicate d z69) (n : Int)) (xs.map toEntry):=by
 intro d
 induction d with
 | zero =>
  intro n h;refine Ev.step (fun _ => rfl) ?_;simp only [laws_toEntryS.l0];exact Ev.neg (by omega) (Ev.done (by rw [List.take_of_length_le (by simp;omega)];simp))
 | succ d ih =>
  intro n h;refine Ev.step (fun _ => rfl) ?_;simp only [laws_toEntryS.l0,wrap64_succ (show n ≤ 9223372036854775806 by omega)];refine Ev.pos (by omega) (Ev.pos (by omega) (Ev.call rfl (Ev.pos (by simp;omega) (Ev.congr (fun k => ?_) (ih (n + 1) (by omega))))));rw [Int.toNat_natCast,set_fill (xs.map toEntry) n d z69 _ (by simpa using h) (by rw [List.getElem?_map,rdT150_get (show n < xs.length by omega)];rfl)]
theorem laws_toEntryS_ev (xs : List S150) (hx : xs.length ≤ 1048576) : Ev (fun k => laws_toEntryS.f k xs) (xs.map toEntry) := by
 unfold laws_toEntryS.f
 refine Ev.pos (by omega) (Ev.pos (by omega) ?_);exact Ev.congr (fun k => by simp) (laws_toEntryS_loop xs hx xs.length 0 (by omega))
theorem laws_eqEntry_refl (x0 : Int) (x1 : Int) (x2 : ByteArray) : laws_eqEntry.f x0 x1 x2 x0 x1 x2 = some true := by simp [laws_eqEntry.f]
theorem laws_eqEntryS_loop (xs : List S69) (hx : xs.length ≤ 9223372036854775806) : ∀ (rest : List S69) (n : Nat), xs.drop n = rest → Ev (fun k => laws_eqEntryS.l0 k xs xs (n : Int)) true := by
 intro rest
 induction rest with
 | nil =>
  intro n h;have:=drop_nil h;refine Ev.step (fun _ => rfl) ?_;simp only [laws_eqEntryS.l0];exact Ev.neg (by omega) (Ev.now _)
 | cons x t ih =>
  intro n h;obtain ⟨h1,-,h3⟩:=drop_cons h;refine Ev.step (fun _ => rfl) ?_;simp only [laws_eqEntryS.l0,wrap64_succ (show n ≤ 9223372036854775806 by omega)];exact Ev.pos (by omega) (Ev.pos (by omega) (Ev.pos (by omega) (Ev.call (laws_eqEntry_refl _ _ _) (Ev.pos rfl (ih (n + 1) h3)))))
theorem laws_eqEntryS_refl (xs : List S69) (hx : xs.length ≤ 9223372036854775806) : Ev (fun k => laws_eqEntryS.f k xs xs) true :=
 Ev.pos rfl (laws_eqEntryS_loop xs hx xs 0 rfl)
def mkEntry (m : Int) : S69 := ⟨m, m + 1, markTextOf (m + 1 + 1)⟩
def markedEntry : List S69 → Int → List S69
 | [],_ => []
 | _ :: t,m => mkEntry m :: markedEntry t (m + 1 + 1 + 1)
theorem laws_markEntryS_loop : ∀ (rest done : List S69) (n : Nat) (m : Int), done.length = n → 0 ≤ m → m + 3 * (rest.length : Int) ≤ 4611686018427387904 → n + rest.length ≤ 1152921504606846976 →
  Ev (fun k => laws_markEntryS.l0 k (done ++ rest) m (n : Int)) (m + 3 * (rest.length : Int),done ++ markedEntry rest m):=by
 intro rest
 induction rest with
 | nil =>
  intro done n m hd h0 hm hb;refine Ev.step (fun _ => rfl) ?_;simp only [laws_markEntryS.l0];exact Ev.neg (by rw [List.append_nil];omega) (Ev.done (by simp [markedEntry]))
 | cons x t ih =>
  intro done n m hd h0 hm hb
  have hn : n ≤ 9223372036854775806:=by rw [List.length_cons] at hb;omega
  have hm' : m + 3 ≤ 4611686018427387904:=by rw [List.length_cons] at hm;omega
  have w1 : wrap64 (m + 1) = m + 1:=wrap64_id (by omega) (by omega);have w2 : wrap64 (m + 1 + 1) = m + 1 + 1:=wrap64_id (by omega) (by omega);have w3 : wrap64 (m + 1 + 1 + 1) = m + 1 + 1 + 1:=wrap64_id (by omega) (by omega);have ih:=ih (done ++ [mkEntry m]) (n + 1) (m + 1 + 1 + 1) (by simp [hd]) (by omega) (by rw [List.length_cons] at hm;omega) (by rw [List.length_cons] at hb;omega);refine Ev.step (fun _ => rfl) ?_;simp only [laws_markEntryS.l0,wrap64_succ hn,Int.toNat_natCast,set_at hd,rdT69_at hd,Option.bind_some,w1,w2,w3];refine Ev.pos (by rw [List.length_append,List.length_cons];omega) (Ev.pos (by omega) (Ev.bind (laws_markText_ev (m + 1 + 1) (by omega)) (?_)))
  try simp only [Option.bind_some,set_at hd,rdT69_at hd]
  refine Ev.eq (Ev.congr (fun k => ?_) ih) ?_
  ·simp only [List.append_assoc,List.cons_append,List.nil_append];rfl
  ·rw [markedEntry,List.append_assoc,List.length_cons];refine Prod.ext ?_ rfl;show (m + 1 + 1 + 1) + 3 * (t.length : Int) = m + 3 * ((t.length + 1 : Nat) : Int)
   omega
theorem laws_markEntryS_ev (l : List S69) (m : Int) (h0 : 0 ≤ m) (hm : m + 3 * (l.length : Int) ≤ 4611686018427387904) (hl : l.length ≤ 1152921504606846976) : Ev (fun k => laws_markEntryS.f k l m) (m + 3 * (l.length : Int), markedEntry l m) :=
 laws_markEntryS_loop l [] 0 m rfl h0 hm (by omega)
theorem spec_l01In_eq (a b c : Int) : spec_l01In.f a b c = some (inR a b c) := by
 unfold spec_l01In.f inR
 by_cases h : b ≤ a
 ·rw [if_pos h];simp [h]
 ·rw [if_neg h];simp [h]
theorem impl_within_eq (a b c : Int) : impl_within.f a b c = some (inR a b c) := by
 unfold impl_within.f inR
 by_cases h : b ≤ a
 ·rw [if_pos h];simp [h]
 ·rw [if_neg h];simp [h]
theorem spec_l07Rise_loop (xs : List Int) (lo hi : Int) (hx : xs.length ≤ 9223372036854775806) : ∀ (rest : List Int) (n : Nat), xs.drop n = rest →
  Ev (fun k => spec_l07Rise.l0 k xs lo hi (n : Int)) (rise lo hi (prevOf xs n) rest):=by
 intro rest
 induction rest with
 | nil =>
  intro n h;have:=drop_nil h;refine Ev.step (fun _ => rfl) ?_;simp only [spec_l07Rise.l0];exact Ev.neg (by omega) (Ev.done (by cases n <;> rfl))
 | cons x t ih =>
  intro n h;obtain ⟨h1,-,h3⟩:=drop_cons h;have ih:=ih (n + 1) h3;rw [prevOf_next h] at ih;refine Ev.step (fun _ => rfl) ?_;simp only [spec_l07Rise.l0,drop_rd h,wrap64_succ (show n ≤ 9223372036854775806 by omega)];refine Ev.pos (by omega) (Ev.pos (by omega) (Ev.call (spec_l01In_eq _ _ _) ?_))
  cases hb : inR x lo hi
  ·exact Ev.neg (by simp) (Ev.done (by cases n <;> simp [rise,prevOf,hb]))
  ·refine Ev.pos rfl ?_
   cases n with
   | zero => exact Ev.neg (by omega) (Ev.eq ih (by simp [rise,prevOf,hb]))
   | succ m =>
    refine Ev.pos (by omega) ?_;simp only [wrap64_pred (show m ≤ 9223372036854775806 by omega)];refine Ev.pos (by omega) (Ev.pos (by omega) (Ev.ite (fun hc => Ev.done ?_) (fun hc => Ev.eq ih ?_)))
    ·simp only [prevOf,rise,hb,decide_eq_false (show ¬ rd xs (m : Int) < x by omega)];simp
    ·simp only [prevOf,rise,hb,decide_eq_true (show rd xs (m : Int) < x by omega)];simp
theorem spec_l07Rise_ev (xs : List Int) (lo hi : Int) (hx : xs.length ≤ 9223372036854775806) : Ev (fun k => spec_l07Rise.f k xs lo hi) (rise lo hi none xs) :=
 spec_l07Rise_loop xs lo hi hx xs 0 rfl
theorem spec_ConfOk_ev (xs : List Int) (hx : xs.length ≤ 9223372036854775806) : Ev (fun k => spec_ConfOk.f k xs) (confOk xs) := by
 unfold spec_ConfOk.f
 refine Ev.call (spec_l01In_eq _ _ _) ?_
 cases hb : inR xs.length 1 4
 ·exact Ev.neg (by simp) (Ev.done (by simp [confOk,hb]))
 ·exact Ev.pos rfl (Ev.bind (spec_l07Rise_ev xs 1 4 hx) (Ev.done (by simp [confOk,hb])))
theorem impl_ConfOk_loop (xs : List Int) (hx : xs.length ≤ 9223372036854775806) : ∀ (rest : List Int) (n : Nat), xs.drop n = rest →
  Ev (fun k => impl_ConfOk.l0 k xs xs (xs.length : Int) (n : Int)) (rise 1 4 (prevOf xs n) rest && inR xs.length 1 4):=by
 intro rest
 induction rest with
 | nil =>
  intro n h;have:=drop_nil h;refine Ev.step (fun _ => rfl) ?_;simp only [impl_ConfOk.l0];exact Ev.neg (by omega) (Ev.call (impl_within_eq _ _ _) (Ev.done (by cases n <;> simp [rise])))
 | cons x t ih =>
  intro n h;obtain ⟨h1,-,h3⟩:=drop_cons h;have ih:=ih (n + 1) h3;rw [prevOf_next h] at ih;refine Ev.step (fun _ => rfl) ?_;simp only [impl_ConfOk.l0,drop_rd h,wrap64_succ (show n ≤ 9223372036854775806 by omega)];refine Ev.pos (by omega) (Ev.pos (by omega) (Ev.pos (by omega) (Ev.call (impl_within_eq _ _ _) ?_)))
  cases hb : inR x 1 4
  ·exact Ev.neg (by simp) (Ev.done (by cases n <;> simp [rise,prevOf,hb]))
  ·refine Ev.pos rfl ?_
   cases n with
   | zero => exact Ev.neg (by omega) (Ev.eq ih (by simp [rise,prevOf,hb]))
   | succ m =>
    refine Ev.pos (by omega) ?_;simp only [wrap64_pred (show m ≤ 9223372036854775806 by omega)];refine Ev.pos (by omega) (Ev.pos (by omega) (Ev.ite (fun hc => Ev.done ?_) (fun hc => Ev.eq ih ?_)))
    ·simp only [prevOf,rise,hb,decide_eq_false (show ¬ rd xs (m : Int) < x by omega)];simp
    ·simp only [prevOf,rise,hb,decide_eq_true (show rd xs (m : Int) < x by omega)];simp
theorem impl_ConfOk_ev (xs : List Int) (hx : xs.length ≤ 9223372036854775806) : Ev (fun k => impl_ConfOk.f k xs) (confOk xs) :=
 Ev.eq (impl_ConfOk_loop xs hx xs 0 rfl) (by rw [confOk,Bool.and_comm];rfl)
theorem spec_ReadConf_loop (s : ByteArray) (hx : s.size ≤ 1048576) : ∀ (rest : List Int) (n : Nat) (acc : List Int), (bytesOf s).drop n = rest → acc = (bytesOf s).take n → n ≤ 5 →
  Ev (fun k => spec_ReadConf.l0 k s acc (n : Int)) (readConf s):=by
 have hz:=bytesOf_length s
 have whole : ∀ (acc : List Int),acc = bytesOf s → Ev (fun k => if (acc.length : Int) = (s.size : Int) then ((spec_ConfOk.f k acc).bind fun t => (if t = true then (some (acc,true)) else (some ((([] : List Int)),false)))) else (some ((([] : List Int)),false))) (readConf s):=by
  intro acc ha;subst ha;refine Ev.pos (by omega) (Ev.bind (spec_ConfOk_ev _ (by omega)) ?_)
  unfold readConf
  cases hb : confOk (bytesOf s)
  ·exact Ev.neg (by simp) (Ev.done (by simp))
  ·exact Ev.pos rfl (Ev.done (by simp))
 intro rest
 induction rest with
 | nil =>
  intro n acc h ha h5;have:=bytesOf_drop_nil h;refine Ev.step (fun _ => rfl) ?_;simp only [spec_ReadConf.l0];exact Ev.neg (by omega) (whole acc (by rw [ha,List.take_of_length_le (by omega)]))
 | cons x t ih =>
  intro n acc h ha h5;obtain ⟨h1,h2,h3,h4,h6⟩:=bytesOf_drop_lt h;refine Ev.step (fun _ => rfl) ?_;simp only [spec_ReadConf.l0,h2,wrap64_id (show -9223372036854775808 ≤ x by omega) (show x ≤ 9223372036854775807 by omega),wrap64_succ (show n ≤ 9223372036854775806 by omega)];refine Ev.pos (by omega) (Ev.ite (fun hc => ?_) (fun hc => ?_))
  ·refine Ev.pos (by omega) (Ev.pos (by rw [ha,List.length_take];omega) (ih (n + 1) (acc ++ [x]) h3 ?_ (by omega)));rw [ha,List.take_succ_eq_append_getElem (show n < (bytesOf s).length by omega)];have e:=drop_rd h;rw [rd_nat,List.getD_eq_getElem?_getD,List.getElem?_eq_getElem (show n < (bytesOf s).length by omega)] at e;rw [← e];rfl
  ·have hl : acc.length = n:=by rw [ha,List.length_take];omega
   have hf : confOk (bytesOf s) = false:=by
    cases hb : confOk (bytesOf s)
    ·rfl
    ·have:=confOk_len hb;omega
   by_cases he : n = s.size
   ·exact whole acc (by rw [ha,List.take_of_length_le (by omega)])
   ·exact Ev.neg (by omega) (Ev.done (by simp [readConf,hf]))
theorem spec_ReadConf_ev (s : ByteArray) (hx : s.size ≤ 1048576) : Ev (fun k => spec_ReadConf.f k s) (readConf s) :=
 spec_ReadConf_loop s hx _ 0 [] rfl rfl (by omega)
theorem impl_ReadConf_loop (s : ByteArray) (hx : s.size ≤ 1048576) : ∀ (rest : List Int) (n : Nat) (acc : List Int), (bytesOf s).drop n = rest → acc = (bytesOf s).take n →
  Ev (fun k => impl_ReadConf.l0 k s acc (n : Int)) (readConf s):=by
 have hz:=bytesOf_length s;intro rest
 induction rest with
 | nil =>
  intro n acc h ha;have:=bytesOf_drop_nil h;refine Ev.step (fun _ => rfl) ?_;simp only [impl_ReadConf.l0]
  obtain rfl : acc = bytesOf s:=by rw [ha,List.take_of_length_le (by omega)]
  refine Ev.neg (by omega) (Ev.bind (impl_ConfOk_ev _ (by omega)) ?_)
  unfold readConf
  cases hb : confOk (bytesOf s)
  ·exact Ev.neg (by simp) (Ev.done (by simp))
  ·exact Ev.pos rfl (Ev.done (by simp))
 | cons x t ih =>
  intro n acc h ha;obtain ⟨h1,h2,h3,h4,h6⟩:=bytesOf_drop_lt h;refine Ev.step (fun _ => rfl) ?_;simp only [impl_ReadConf.l0,h2,wrap64_id (show -9223372036854775808 ≤ x by omega) (show x ≤ 9223372036854775807 by omega),wrap64_succ (show n ≤ 9223372036854775806 by omega)];refine Ev.pos (by omega) (Ev.pos (by omega) (Ev.pos (by rw [ha,List.length_take];omega) (ih (n + 1) (acc ++ [x]) h3 ?_)));rw [ha,List.take_succ_eq_append_getElem (show n < (bytesOf s).length by omega)];have e:=drop_rd h;rw [rd_nat,List.getD_eq_getElem?_getD,List.getElem?_eq_getElem (show n < (bytesOf s).length by omega)] at e;rw [← e];rfl
theorem impl_ReadConf_ev (s : ByteArray) (hx : s.size ≤ 1048576) : Ev (fun k => impl_ReadConf.f k s) (readConf s) :=
 impl_ReadConf_loop s hx _ 0 [] rfl rfl
theorem spec_l01Var_loop : ∀ (n : Nat) (acc : List Int), acc.length + n < 140737488355328 →
  Ev (fun k => spec_l01Var.l0 k (n : Int) acc) (strOfNums (acc ++ varL n)):=by
 intro n
 induction n using Nat.strongRecOn with
 | ind n ih =>
  intro acc h;refine Ev.step (fun _ => rfl) ?_;simp only [spec_l01Var.l0,tdiv128 n (by omega),tmod128 n];refine Ev.ite (fun hc => ?_) (fun hc => ?_)
  ·rw [varL_big (by omega)];exact Ev.pos (by omega) (Ev.eq (ih (n / 128) (by omega) _ (by simp;omega)) (by simp))
  ·rw [varL_small (by omega)];exact Ev.pos (by omega) (Ev.done (by rw [Int.emod_eq_of_lt (by omega) (by omega)]))
theorem spec_l01Var_nat (n : Nat) (h : n ≤ 34359738367) : Ev (fun k => spec_l01Var.f k (n : Int)) (varText n) := spec_l01Var_loop n [] (by simp; omega)
theorem spec_l01Var_ev (n : Int) (h0 : 0 ≤ n) (h : n ≤ 34359738367) : Ev (fun k => spec_l01Var.f k n) (varText n.toNat) := by
 obtain ⟨m,rfl⟩:=Int.eq_ofNat_of_zero_le h0;exact spec_l01Var_nat m (by omega)
theorem impl_VarText_loop : ∀ (n : Nat) (acc : List Int), acc.length + n < 140737488355328 →
  Ev (fun k => impl_VarText.l0 k (n : Int) acc) (strOfNums (acc ++ varL n),true):=by
 intro n
 induction n using Nat.strongRecOn with
 | ind n ih =>
  intro acc h;refine Ev.step (fun _ => rfl) ?_;simp only [impl_VarText.l0,tdiv128 n (by omega),tmod128 n];refine Ev.ite (fun hc => ?_) (fun hc => ?_)
  ·rw [varL_big (by omega)];exact Ev.pos (by omega) (Ev.eq (ih (n / 128) (by omega) _ (by simp;omega)) (by simp))
  ·rw [varL_small (by omega)];exact Ev.pos (by omega) (Ev.done (by rw [Int.emod_eq_of_lt (by omega) (by omega)]))
theorem impl_VarText_ev (n : Int) : Ev (fun k => impl_VarText.f k n) (varTextOf n) := by
 unfold impl_VarText.f varTextOf
 refine Ev.call (impl_within_eq _ _ _) ?_
 cases hb : inR n 0 1000000000
 ·exact Ev.neg (by simp) (Ev.done (by simp))
 ·have:=inR_true.1 hb;obtain ⟨m,rfl⟩:=Int.eq_ofNat_of_zero_le this.1;exact Ev.pos rfl (Ev.eq (impl_VarText_loop m [] (by simp;omega)) (by simp [varText]))
theorem impl_VarText_nat (n : Nat) (h : n ≤ 1000000000) : Ev (fun k => impl_VarText.f k (n : Int)) (varText n, true) :=
 Ev.eq (impl_VarText_ev (n : Int)) (by rw [varTextOf,if_pos (inR_true.2 (by omega))];rfl)
theorem impl_vars_loop (xs : List Int) (hx : xs.length ≤ 1048576) : ∀ (rest : List Int) (n : Nat) (acc : List Int), xs.drop n = rest → acc.length + 5 * rest.length < 140737488355328 →
  Ev (fun k => impl_vars.l0 k acc xs (xs.length : Int) (n : Int)) (if rest.all (fun n => inR n 0 1000000000) = true then (strOfNums (acc ++ rest.flatMap fun n => varL n.toNat),true) else (⟨#[]⟩,false)):=by
 intro rest
 induction rest with
 | nil =>
  intro n acc h ha;have:=drop_nil h;refine Ev.step (fun _ => rfl) ?_;simp only [impl_vars.l0];exact Ev.neg (by omega) (Ev.done (by simp))
 | cons x t ih =>
  intro n acc h ha;obtain ⟨h1,-,h3⟩:=drop_cons h;refine Ev.step (fun _ => rfl) ?_;simp only [impl_vars.l0,drop_rd h,wrap64_succ (show n ≤ 9223372036854775806 by omega)];refine Ev.pos (by omega) (Ev.pos (by omega) (Ev.pos (by omega) (Ev.bind (impl_VarText_ev x) ?_)))
  unfold varTextOf
  cases hb : inR x 0 1000000000
  ·exact Ev.neg (by simp) (Ev.done (by simp [hb]))
  ·have hr:=inR_true.1 hb;have hv:=varL_len (show x.toNat ≤ 34359738367 by omega);simp only [if_true,varText,strOfNums_size,bytesOf_strOfNums _ (varL_bytes _)];rw [List.length_cons] at ha;refine Ev.pos (by omega) (Ev.eq (ih (n + 1) (acc ++ varL x.toNat) h3 (by rw [List.length_append];omega)) ?_)
   simp [hb]
theorem impl_vars_ev (xs : List Int) (hx : xs.length ≤ 1048576) : Ev (fun k => impl_vars.f k xs) (varsOf xs) :=
 Ev.eq (impl_vars_loop xs hx xs 0 [] rfl (by simp;omega)) (by simp [varsOf])
theorem spec_l02Four_eq (x : Int) : spec_l02Four.f x = some (four x) := rfl
theorem spec_SumMore_bits (s : ByteArray) (i : Nat) (hi : i ≤ 9223372036854775806) (r : Int) : ∀ (d : Nat) (x : Int) (j : Nat), j + d = 8 →
  Ev (fun k => spec_SumMore.l0 k (sumBits d x) s ((i + 1 : Nat) : Int)) r → Ev (fun k => spec_SumMore.l1 k x s (i : Int) (j : Int)) r:=by
 intro d
 induction d with
 | zero =>
  intro x j hj h;refine Ev.step (fun _ => rfl) ?_;simp only [spec_SumMore.l1,wrap64_succ hi];exact Ev.neg (by omega) h
 | succ d ih =>
  intro x j hj h;refine Ev.step (fun _ => rfl) ?_;simp only [spec_SumMore.l1,wrap64_succ (show j ≤ 9223372036854775806 by omega)];refine Ev.pos (by omega) (Ev.ite (fun hc => ih _ (j + 1) (by omega) ?_) (fun hc => ih _ (j + 1) (by omega) ?_))
  ·rw [sumBits,sumBit,if_pos hc] at h;exact h
  ·rw [sumBits,sumBit,if_neg hc] at h;exact h
theorem spec_SumMore_loop (s : ByteArray) (hs : s.size ≤ 9223372036854775806) : ∀ (rest : List Int) (n : Nat) (x : Int), (bytesOf s).drop n = rest →
  Ev (fun k => spec_SumMore.l0 k x s (n : Int)) (sumMore x rest):=by
 intro rest
 induction rest with
 | nil =>
  intro n x h;have:=bytesOf_drop_nil h;refine Ev.step (fun _ => rfl) ?_;simp only [spec_SumMore.l0];exact Ev.neg (by omega) (Ev.done rfl)
 | cons b t ih =>
  intro n x h;obtain ⟨h1,h2,h3,h4,h5⟩:=bytesOf_drop_lt h;refine Ev.step (fun _ => rfl) ?_;simp only [spec_SumMore.l0,h2];exact Ev.pos (by omega) (Ev.pos (by omega) (spec_SumMore_bits s n (by omega) _ 8 _ 0 rfl (ih (n + 1) _ h3)))
theorem spec_SumMore_ev (x : Int) (s : ByteArray) (hs : s.size ≤ 9223372036854775806) : Ev (fun k => spec_SumMore.f k x s) (sumMore x (bytesOf s)) := spec_SumMore_loop s hs _ 0 x rfl
theorem spec_SumOf_ev (s : ByteArray) (hs : s.size ≤ 9223372036854775806) : Ev (fun k => spec_SumOf.f k s) (sumOf s) := Ev.bind (spec_SumMore_ev _ s hs) (Ev.now _)
theorem impl_SumMore_bits (s : ByteArray) (i : Nat) (hi : i ≤ 9223372036854775806) (r : Int) : ∀ (d : Nat) (x : Int) (j : Nat), j + d = 8 →
  Ev (fun k => impl_SumMore.l0 k (sumBits d x) s ((i + 1 : Nat) : Int)) r → Ev (fun k => impl_SumMore.l1 k x s (i : Int) (j : Int)) r:=by
 intro d
 induction d with
 | zero =>
  intro x j hj h;refine Ev.step (fun _ => rfl) ?_;simp only [impl_SumMore.l1,wrap64_succ hi];exact Ev.neg (by omega) h
 | succ d ih =>
  intro x j hj h;refine Ev.step (fun _ => rfl) ?_;simp only [impl_SumMore.l1,wrap64_succ (show j ≤ 9223372036854775806 by omega)];refine Ev.pos (by omega) (Ev.ite (fun hc => ih _ (j + 1) (by omega) ?_) (fun hc => ih _ (j + 1) (by omega) ?_))
  ·rw [sumBits,sumBit,if_pos hc] at h;exact h
  ·rw [sumBits,sumBit,if_neg hc] at h;exact h
theorem impl_SumMore_loop (s : ByteArray) (hs : s.size ≤ 9223372036854775806) : ∀ (rest : List Int) (n : Nat) (x : Int), (bytesOf s).drop n = rest →
  Ev (fun k => impl_SumMore.l0 k x s (n : Int)) (sumMore x rest):=by
 intro rest
 induction rest with
 | nil =>
  intro n x h;have:=bytesOf_drop_nil h;refine Ev.step (fun _ => rfl) ?_;simp only [impl_SumMore.l0];exact Ev.neg (by omega) (Ev.done rfl)
 | cons b t ih =>
  intro n x h;obtain ⟨h1,h2,h3,h4,h5⟩:=bytesOf_drop_lt h;refine Ev.step (fun _ => rfl) ?_;simp only [impl_SumMore.l0,h2];exact Ev.pos (by omega) (Ev.pos (by omega) (impl_SumMore_bits s n (by omega) _ 8 _ 0 rfl (ih (n + 1) _ h3)))
theorem impl_SumMore_ev (x : Int) (s : ByteArray) (hs : s.size ≤ 9223372036854775806) : Ev (fun k => impl_SumMore.f k x s) (sumMore x (bytesOf s)) := impl_SumMore_loop s hs _ 0 x rfl
theorem impl_SumOf_ev (s : ByteArray) (hs : s.size ≤ 9223372036854775806) : Ev (fun k => impl_SumOf.f k s) (sumOf s) := Ev.bind (impl_SumMore_ev _ s hs) (Ev.now _)
theorem spec_Frame_ev (s : ByteArray) (hs : s.size ≤ 1152921504606846976) : Ev (fun k => spec_Frame.f k s) (frame s) := by
 unfold spec_Frame.f frame
 refine Ev.call (spec_l01In_eq _ _ _) ?_
 cases hb : inR (s.size : Int) 1 9000
 ·exact Ev.neg (by simp) (Ev.done (by simp))
 ·have hr:=inR_true.1 hb;have hv:=varText_size (show s.size ≤ 34359738367 by omega);have h4:=four_size (sumOf s);refine Ev.pos rfl (Ev.bind (spec_l01Var_nat _ (by omega)) (Ev.bind (spec_SumOf_ev s (by omega)) (Ev.call (spec_l02Four_eq _) ?_)));exact Ev.pos (by omega) (Ev.pos (by rw [size_append];omega) (Ev.done (by simp)))
theorem impl_Frame_ev (s : ByteArray) (hs : s.size ≤ 1152921504606846976) : Ev (fun k => impl_Frame.f k s) (frame s) := by
 unfold impl_Frame.f frame
 refine Ev.call (impl_within_eq _ _ _) ?_
 cases hb : inR (s.size : Int) 1 9000
 ·exact Ev.neg (by simp) (Ev.done (by simp))
 ·have hr:=inR_true.1 hb;have hv:=varText_size (show s.size ≤ 34359738367 by omega);have h4:=four_size (sumOf s);refine Ev.pos rfl (Ev.bind (impl_VarText_nat _ (by omega)) (Ev.bind (impl_SumOf_ev s (by omega)) (Ev.call rfl ?_)));rw [four] at h4;exact Ev.pos (by dsimp only;omega) (Ev.pos (by rw [size_append];dsimp only;omega) (Ev.done (by simp [four])))
theorem spec_EntryOk_ev (t d : Int) (s : ByteArray) (hs : s.size ≤ 1048576) : Ev (fun k => spec_EntryOk.f k t d s) (entryOk t d s) := by
 unfold spec_EntryOk.f entryOk
 simp only [emp_def];refine Ev.call (spec_l01In_eq _ _ _) ?_
 cases h1 : inR t 0 100000
 ·exact Ev.neg (by simp) (Ev.done (by simp))
 refine Ev.pos rfl (Ev.ite (fun h => Ev.done (by simp [h])) (fun h => Ev.ite (fun h' => ?_) (fun h' => Ev.ite (fun h2 => Ev.done ?_) (fun h2 => Ev.done (by simp [h,h',h2])))))
 ·refine Ev.bind (spec_ReadConf_ev s hs) (Ev.done ?_);subst h'
  unfold readConf
  cases hc : confOk (bytesOf s) <;> simp
 ·subst h2
  simp
  omega
theorem impl_EntryOk_ev (t d : Int) (s : ByteArray) (hs : s.size ≤ 1048576) : Ev (fun k => impl_EntryOk.f k t d s) (entryOk t d s) := by
 unfold impl_EntryOk.f entryOk
 simp only [emp_def];refine Ev.call (impl_within_eq _ _ _) ?_
 cases h1 : inR t 0 100000
 ·exact Ev.neg (by simp) (Ev.done (by simp))
 refine Ev.pos rfl (Ev.ite (fun h => Ev.done (by simp [h])) (fun h => Ev.ite (fun h' => ?_) (fun h' => Ev.ite (fun h2 => Ev.done ?_) (fun h2 => Ev.done (by simp [h,h',h2])))))
 ·refine Ev.bind (impl_ReadConf_ev s hs) (Ev.done ?_);subst h'
  unfold readConf
  cases hc : confOk (bytesOf s) <;> simp
 ·subst h2
  simp
  omega
theorem laws_toLog_ev (a0 a1 : Int) (l : List S150) (hx : l.length ≤ 1048576) : Ev (fun k => laws_toLog.f k a0 a1 l) (a0, a1, l.map toEntry) :=
 Ev.bind (laws_toEntryS_ev l hx) (Ev.now _)
theorem laws_eqLog_refl (a0 a1 : Int) (l : List S69) (hx : l.length ≤ 9223372036854775806) : Ev (fun k => laws_eqLog.f k a0 a1 l a0 a1 l) true :=
 Ev.pos rfl (Ev.pos rfl (Ev.bind (laws_eqEntryS_refl l hx) (Ev.pos rfl (Ev.now _))))
theorem spec_EntryText_ev (i t d : Int) (s : ByteArray) (hs : s.size ≤ 1048576) : Ev (fun k => spec_EntryText.f k i t d s) (entryText i t d s) := by
 unfold spec_EntryText.f entryText
 refine Ev.bind (spec_EntryOk_ev t d s hs) ?_
 cases hb : entryOk t d s
 ·refine Ev.neg (by simp) (Ev.step (fun _ => rfl) ?_);simp only [spec_EntryText.j0];exact Ev.pos trivial (Ev.done (by simp))
 refine Ev.pos rfl (Ev.call (spec_l01In_eq _ _ _) (Ev.step (fun _ => rfl) ?_));simp only [spec_EntryText.j0]
 cases hi : inR i 1 100000
 ·exact Ev.pos rfl (Ev.done (by simp))
 have h1:=inR_true.1 hi;have h2:=entryOk_term hb;have s1:=varText_size (show i.toNat ≤ 34359738367 by omega);have s2:=varText_size (show t.toNat ≤ 34359738367 by omega)
 have s3 : (strOfNums [d % 256]).size = 1:=by rw [strOfNums_size];rfl
 have s4 : (⟨#[69]⟩ : ByteArray).size = 1:=rfl;exact Ev.neg (by simp) (Ev.bind (spec_l01Var_ev i (by omega) (by omega)) (Ev.pos (by omega) (Ev.bind (spec_l01Var_ev t (by omega) (by omega)) (Ev.pos (by simp only [size_append];omega) (Ev.call rfl (Ev.pos (by simp only [size_append];omega) (Ev.pos (by simp only [size_append];omega) (Ev.done (by simp)))))))))
theorem impl_EntryText_ev (i t d : Int) (s : ByteArray) (hs : s.size ≤ 1048576) : Ev (fun k => impl_EntryText.f k i t d s) (entryText i t d s) := by
 unfold impl_EntryText.f entryText
 refine Ev.bind (impl_EntryOk_ev t d s hs) ?_
 cases hb : entryOk t d s
 ·exact Ev.neg (by simp) (Ev.done (by simp))
 refine Ev.pos rfl (Ev.call (impl_within_eq _ _ _) ?_)
 cases hi : inR i 1 100000
 ·exact Ev.neg (by simp) (Ev.done (by simp))
 have h1:=inR_true.1 hi;have h2:=entryOk_term hb;have s1:=varText_size (show i.toNat ≤ 34359738367 by omega);have s2:=varText_size (show t.toNat ≤ 34359738367 by omega)
 have s3 : (strOfNums [d % 256]).size = 1:=by rw [strOfNums_size];rfl
 have s4 : (⟨#[69]⟩ : ByteArray).size = 1:=rfl;have e : varsOf [i,t] = (varText i.toNat ++ varText t.toNat,true):=varsOf_two (inR_true.2 (by omega)) (inR_true.2 (by omega));refine Ev.pos rfl (Ev.bind (Ev.eq (impl_vars_ev [i,t] (by simp)) e) (Ev.pos (by simp only [size_append];omega) (Ev.call rfl (Ev.pos (by simp only [size_append];omega) (Ev.pos (by simp only [size_append];omega) (Ev.done ?_))))))
 simp [ByteArray.append_assoc]
theorem spec_LogOk_loop (a0 a1 : Int) (l : List S69) (hx : l.length ≤ 1048576) (hd : ∀ x ∈ l, x.f2.size ≤ 1048576) : ∀ (rest : List S69) (n : Nat) (t : Int), l.drop n = rest →
  Ev (fun k => spec_LogOk.l0 k t (n : Int) a0 a1 l) (entriesOk t rest):=by
 intro rest
 induction rest with
 | nil =>
  intro n t h;have:=drop_nil h;refine Ev.step (fun _ => rfl) ?_;simp only [spec_LogOk.l0];exact Ev.neg (by omega) (Ev.now _)
 | cons x r ih =>
  intro n t h;obtain ⟨h1,-,h3⟩:=drop_cons h;have hm : x ∈ l:=List.mem_of_mem_drop (h ▸ List.mem_cons_self);refine Ev.step (fun _ => rfl) ?_;simp only [spec_LogOk.l0,rdT69_drop h,wrap64_succ (show n ≤ 9223372036854775806 by omega)];refine Ev.pos (by omega) (Ev.pos (by omega) (Ev.bind (spec_EntryOk_ev _ _ _ (hd x hm)) ?_))
  cases hb : entryOk x.f0 x.f1 x.f2
  ·exact Ev.neg (by simp) (Ev.done (by simp [entriesOk,hb]))
  ·refine Ev.pos rfl (Ev.ite (fun hc => Ev.done ?_) (fun hc => Ev.eq (ih (n + 1) _ h3) ?_))
   ·simp only [entriesOk,hb,decide_eq_false (show ¬ t ≤ x.f0 by omega)];simp
   ·simp only [entriesOk,hb,decide_eq_true (show t ≤ x.f0 by omega)];simp
theorem spec_LogOk_ev (a0 a1 : Int) (l : List S69) (hx : l.length ≤ 1048576) (hd : ∀ x ∈ l, x.f2.size ≤ 1048576) : Ev (fun k => spec_LogOk.f k a0 a1 l) (logOk a0 a1 l) := by
 have bad : ∀ r,r = false → Ev (fun k => spec_LogOk.j0 k true a0 a1 l) r:=by
  rintro r rfl;refine Ev.step (fun _ => rfl) ?_;simp only [spec_LogOk.j0];exact Ev.pos trivial (Ev.now _)
 unfold spec_LogOk.f logOk
 refine Ev.call (spec_l01In_eq _ _ _) ?_
 cases h1 : inR a0 0 100000
 ·exact Ev.neg (by simp) (bad _ (by simp))
 refine Ev.pos rfl (Ev.call (spec_l01In_eq _ _ _) ?_)
 cases h2 : inR a1 0 100000
 ·exact Ev.neg (by simp) (bad _ (by simp))
 have b1:=inR_true.1 h1;refine Ev.pos rfl (Ev.ite (fun hc => bad _ ?_) (fun hc => ?_))
 ·rw [decide_eq_false (show ¬ l.length ≤ 120 by omega)];simp
 rw [decide_eq_true (show l.length ≤ 120 by omega),wrap64_id (by omega) (by omega)]
 by_cases hs : a0 + (l.length : Int) ≤ 100000
 ·rw [decide_eq_true hs,decide_eq_false (show ¬ a0 + (l.length : Int) > 100000 by omega)];refine Ev.step (fun _ => rfl) ?_;simp only [spec_LogOk.j0];exact Ev.neg (by simp) (Ev.eq (spec_LogOk_loop a0 a1 l hx hd l 0 a1 rfl) (by simp))
 ·rw [decide_eq_false hs,decide_eq_true (show a0 + (l.length : Int) > 100000 by omega)];exact bad _ (by simp)
theorem impl_LogOk_loop (l : List S69) (hx : l.length ≤ 1048576) (hd : ∀ x ∈ l, x.f2.size ≤ 1048576) : ∀ (rest : List S69) (n : Nat) (t : Int), l.drop n = rest →
  Ev (fun k => impl_LogOk.l0 k t l (l.length : Int) (n : Int)) (entriesOk t rest):=by
 intro rest
 induction rest with
 | nil =>
  intro n t h;have:=drop_nil h;refine Ev.step (fun _ => rfl) ?_;simp only [impl_LogOk.l0];exact Ev.neg (by omega) (Ev.now _)
 | cons x r ih =>
  intro n t h;obtain ⟨h1,-,h3⟩:=drop_cons h;have hm : x ∈ l:=List.mem_of_mem_drop (h ▸ List.mem_cons_self);refine Ev.step (fun _ => rfl) ?_;simp only [impl_LogOk.l0,rdT69_drop h,wrap64_succ (show n ≤ 9223372036854775806 by omega)];refine Ev.pos (by omega) (Ev.pos (by omega) (Ev.pos (by omega) (Ev.bind (impl_EntryOk_ev _ _ _ (hd x hm)) ?_)))
  cases hb : entryOk x.f0 x.f1 x.f2
  ·exact Ev.neg (by simp) (Ev.done (by simp [entriesOk,hb]))
  ·refine Ev.pos rfl (Ev.ite (fun hc => Ev.done ?_) (fun hc => Ev.eq (ih (n + 1) _ h3) ?_))
   ·simp only [entriesOk,hb,decide_eq_false (show ¬ t ≤ x.f0 by omega)];simp
   ·simp only [entriesOk,hb,decide_eq_true (show t ≤ x.f0 by omega)];simp
theorem impl_LogOk_ev (a0 a1 : Int) (l : List S69) (hx : l.length ≤ 1048576) (hd : ∀ x ∈ l, x.f2.size ≤ 1048576) : Ev (fun k => impl_LogOk.f k a0 a1 l) (logOk a0 a1 l) := by
 have bad : ∀ r,r = false → Ev (fun k => impl_LogOk.j0 k true a0 a1 l) r:=by
  rintro r rfl;refine Ev.step (fun _ => rfl) ?_;simp only [impl_LogOk.j0];exact Ev.pos trivial (Ev.now _)
 unfold impl_LogOk.f logOk
 refine Ev.call (impl_within_eq _ _ _) ?_
 cases h1 : inR a0 0 100000
 ·exact Ev.neg (by simp) (bad _ (by simp))
 refine Ev.pos rfl (Ev.call (impl_within_eq _ _ _) ?_)
 cases h2 : inR a1 0 100000
 ·exact Ev.neg (by simp) (bad _ (by simp))
 have b1:=inR_true.1 h1;refine Ev.pos rfl (Ev.ite (fun hc => bad _ ?_) (fun hc => ?_))
 ·rw [decide_eq_false (show ¬ l.length ≤ 120 by omega)];simp
 rw [decide_eq_true (show l.length ≤ 120 by omega),wrap64_id (by omega) (by omega)]
 by_cases hs : a0 + (l.length : Int) ≤ 100000
 ·rw [decide_eq_true hs,decide_eq_false (show ¬ a0 + (l.length : Int) > 100000 by omega)];refine Ev.step (fun _ => rfl) ?_;simp only [impl_LogOk.j0];exact Ev.neg (by simp) (Ev.eq (impl_LogOk_loop l hx hd l 0 a1 rfl) (by simp))
 ·rw [decide_eq_false hs,decide_eq_true (show a0 + (l.length : Int) > 100000 by omega)];exact bad _ (by simp)
theorem spec_ReadVar_loop (s : ByteArray) (a : Nat) (hs : s.size ≤ 1152921504606846976) (ha : a ≤ s.size) : ∀ (k : Nat) (rest done : List Int) (i : Nat), i + k = 5 → done.length = i → (bytesOf s).drop a = done ++ rest →
  Ev (fun K => spec_ReadVar.l0 K s (a : Int) (val done : Int) ((128 ^ i : Nat) : Int) ((a + i : Nat) : Int))
   (match varSeg k rest with|none => (0,0,false)|some bs => if val (done ++ bs) ≤ 1000000000 ∧ varL (val (done ++ bs)) = done ++ bs then ((val (done ++ bs) : Int),((a + (done ++ bs).length : Nat) : Int),true) else (0,0,false)):=by
 intro k;have hz:=bytesOf_length s
 have no : ∀ (x7 x8 x9 : Int) r,r = (0,0,false) → Ev (fun K => spec_ReadVar.j1 K s (a : Int) x7 x8 x9 false) r:=by
  rintro x7 x8 x9 r rfl;refine Ev.step (fun _ => rfl) ?_;simp only [spec_ReadVar.j1];exact Ev.neg (by simp) (Ev.now _)
 induction k with
 | zero =>
  intro rest done i hi hd hr;refine Ev.step (fun _ => rfl) ?_;simp only [spec_ReadVar.l0,wrap64_id (show -9223372036854775808 ≤ (a : Int) + 5 by omega) (show (a : Int) + 5 ≤ 9223372036854775807 by omega)];refine Ev.ite (fun _ => ?_) (fun _ => no _ _ _ _ rfl);rw [decide_eq_false (by omega)];exact no _ _ _ _ rfl
 | succ k ih =>
  intro rest done i hi hd hr
  have hl : done.length + rest.length = s.size - a:=by rw [← List.length_append,← hr,List.length_drop,hz]
  cases rest with
  | nil =>
   refine Ev.step (fun _ => rfl) ?_;simp only [spec_ReadVar.l0];rw [List.length_nil] at hl;exact Ev.neg (by omega) (no _ _ _ _ rfl)
  | cons b t =>
   have hbt : bt s ((a + i : Nat) : Int) = b:=by
    rw [← rd_bytesOf,rd_nat]
    have e : (bytesOf s).drop (a + i) = b :: t:=by rw [← List.drop_drop,hr,List.drop_append_of_le_length (by omega),← hd,List.drop_length,List.nil_append]
    exact (drop_cons e).2.1 0
   have hb:=bytesOf_range s b (by
    have : b ∈ (bytesOf s).drop a:=by rw [hr];simp
    exact List.mem_of_mem_drop this)
   rw [List.length_cons] at hl;have hsc:=scale_bound (show i ≤ 5 by omega);have hvd:=val_lt done;rw [hd] at hvd;have e1 : Int.tmod (wrap64 b) 128 = b % 128:=byte_mod hb.1 hb.2;have hpos : 0 < 128 ^ i:=Nat.pow_pos (by omega)
   have hmul : (b % 128) * ((128 ^ i : Nat) : Int) = (((b % 128).toNat * 128 ^ i : Nat) : Int):=by
    rw [Int.natCast_mul,Int.toNat_of_nonneg (by omega)]
   have hmb : (b % 128).toNat * 128 ^ i ≤ 127 * 128 ^ i:=Nat.mul_le_mul_right _ (by omega)
   have e2 : wrap64 ((val done : Int) + wrap64 (Int.tmod (wrap64 b) 128 * ((128 ^ i : Nat) : Int))) = (val (done ++ [b]) : Int):=by
    rw [e1,hmul,wrap64_id (n:=(((b % 128).toNat * 128 ^ i : Nat) : Int)) (by omega) (by omega),wrap64_id (by omega) (by omega),val_append,hd];rw [show val [b] = (b % 128).toNat by simp [val],Nat.mul_comm (128 ^ i)]
    omega
   have hval : val (done ++ [b]) < 128 ^ (i + 1):=by
    have:=val_lt (done ++ [b])
    rwa [List.length_append,hd] at this
   have hsc':=scale_bound (show i + 1 ≤ 5 by omega);refine Ev.step (fun _ => rfl) ?_;simp only [spec_ReadVar.l0,wrap64_id (show -9223372036854775808 ≤ (a : Int) + 5 by omega) (show (a : Int) + 5 ≤ 9223372036854775807 by omega)];rw [decide_eq_true (show ((a + i : Nat) : Int) < (a : Int) + 5 by omega)];refine Ev.pos (by omega) (Ev.step (fun _ => rfl) ?_);simp only [spec_ReadVar.j1,hbt,e2,wrap64_succ (show a + i ≤ 9223372036854775806 by omega)];refine Ev.pos trivial (Ev.pos (by omega) (Ev.pos (by omega) (Ev.ite (fun hlt => ?_) (fun hge => ?_))))
   ·rw [varSeg,if_pos hlt];simp only [];refine Ev.ite (fun hbig => Ev.done ?_) (fun hsmall => ?_)
    ·rw [if_neg (by omega)]
    ·have hex : (s.extract (a : Int).toNat ((a + i + 1 : Nat) : Int).toNat).toList = (strOfNums (done ++ [b])).toList:=by
      rw [toList_iff,bytesOf_extract,Int.toNat_natCast,Int.toNat_natCast,List.drop_take,hr,bytesOf_strOfNums _ (by
       intro x hx;refine bytesOf_range s x ?_
       have : x ∈ (bytesOf s).drop a:=by rw [hr];rcases List.mem_append.1 hx with h|h <;> simp_all
       exact List.mem_of_mem_drop this)]
      rw [show a + i + 1 - a = done.length + 1 by omega];rw [List.take_append,List.take_of_length_le (by omega)]
      simp
     refine Ev.bind (spec_l01Var_nat _ (by omega)) (Ev.pos (by omega) (Ev.pos (by omega) (Ev.pos (by omega) ?_)));rw [hex]
     have hiff : (varText (val (done ++ [b]))).toList = (strOfNums (done ++ [b])).toList ↔ varL (val (done ++ [b])) = done ++ [b]:=by
      rw [toList_iff,bytesOf_varText,bytesOf_strOfNums _ (by
       intro x hx;refine bytesOf_range s x ?_
       have : x ∈ (bytesOf s).drop a:=by rw [hr];rcases List.mem_append.1 hx with h|h <;> simp_all
       exact List.mem_of_mem_drop this)]
     refine Ev.ite (fun hc => Ev.done ?_) (fun hc => Ev.done ?_)
     ·rw [if_pos ⟨by omega,hiff.1 hc⟩,List.length_append,hd];rfl
     ·rw [if_neg (fun h => hc (hiff.2 h.2))]
   ·have ih:=ih t (done ++ [b]) (i + 1) (by omega) (by simp [hd]) (by rw [hr];simp);rw [varSeg,if_neg hge]
    have e3 : wrap64 (((128 ^ i : Nat) : Int) * 128) = ((128 ^ (i + 1) : Nat) : Int):=by
     rw [wrap64_id (by omega) (by omega),Nat.pow_succ,Int.natCast_mul];rfl
    rw [e3];refine Ev.eq ih ?_
    cases varSeg k t with
    | none => rfl
    | some bs => simp only [Option.map_some,List.append_assoc,List.cons_append,List.nil_append]
theorem spec_ReadVar_ev (s : ByteArray) (a : Int) (hs : s.size ≤ 1152921504606846976) : Ev (fun k => spec_ReadVar.f k s a) (readVar s a) := by
 unfold spec_ReadVar.f readVar
 refine Ev.call (spec_l01In_eq _ _ _) ?_
 cases hb : inR a 0 s.size
 ·exact Ev.neg (by simp) (Ev.done (by simp))
 ·have hr:=inR_true.1 hb;obtain ⟨n,rfl⟩:=Int.eq_ofNat_of_zero_le hr.1;refine Ev.pos rfl (Ev.eq (spec_ReadVar_loop s n hs (by omega) 5 ((bytesOf s).drop n) [] 0 rfl rfl rfl) ?_);rw [if_pos rfl,Int.toNat_natCast,readVarL]
  cases varSeg 5 ((bytesOf s).drop n) with
  | none => rfl
  | some bs =>
   simp only [List.nil_append]
   by_cases hc : val bs ≤ 1000000000 ∧ varL (val bs) = bs
   ·rw [if_pos hc,if_pos hc];simp
   ·rw [if_neg hc,if_neg hc]
theorem impl_ReadVar_loop (s : ByteArray) (a : Nat) (hs : s.size ≤ 1152921504606846976) (ha : a ≤ s.size) : ∀ (k : Nat) (rest done : List Int) (i : Nat), i + k = 5 → done.length = i → (bytesOf s).drop a = done ++ rest → (∀ bs, varSeg k rest = some bs → varSeg 5 ((bytesOf s).drop a) = some (done ++ bs)) →
  Ev (fun K => impl_ReadVar.l0 K s (a : Int) (val done : Int) (i : Int))
   (match varSeg k rest with|none => (0,0,false)|some bs => if val (done ++ bs) ≤ 1000000000 ∧ varL (val (done ++ bs)) = done ++ bs then ((val (done ++ bs) : Int),((a + (done ++ bs).length : Nat) : Int),true) else (0,0,false)):=by
 intro k;have hz:=bytesOf_length s
 have no : ∀ (x7 x8 : Int) r,r = (0,0,false) → Ev (fun K => impl_ReadVar.j1 K s (a : Int) x7 x8 false) r:=by
  rintro x7 x8 r rfl;refine Ev.step (fun _ => rfl) ?_;simp only [impl_ReadVar.j1];exact Ev.neg (by simp) (Ev.now _)
 induction k with
 | zero =>
  intro rest done i hi hd hr _;refine Ev.step (fun _ => rfl) ?_;simp only [impl_ReadVar.l0];exact Ev.neg (by omega) (no _ _ _ rfl)
 | succ k ih =>
  intro rest done i hi hd hr hseg
  have hl : done.length + rest.length = s.size - a:=by rw [← List.length_append,← hr,List.length_drop,hz]
  cases rest with
  | nil =>
   refine Ev.step (fun _ => rfl) ?_;simp only [impl_ReadVar.l0];rw [List.length_nil] at hl;refine Ev.pos (by omega) ?_;rw [wrap64_id (by omega) (by omega),decide_eq_false (by omega)];exact no _ _ _ rfl
  | cons b t =>
   have e0 : wrap64 ((a : Int) + (i : Int)) = ((a + i : Nat) : Int):=by rw [wrap64_id (by omega) (by omega)];omega
   have hbt : bt s ((a + i : Nat) : Int) = b:=by
    rw [← rd_bytesOf,rd_nat]
    have e : (bytesOf s).drop (a + i) = b :: t:=by rw [← List.drop_drop,hr,List.drop_append_of_le_length (by omega),← hd,List.drop_length,List.nil_append]
    exact (drop_cons e).2.1 0
   have hb:=bytesOf_range s b (by
    have : b ∈ (bytesOf s).drop a:=by rw [hr];simp
    exact List.mem_of_mem_drop this)
   rw [List.length_cons] at hl;have hsc:=scale_bound (show i ≤ 5 by omega);have hvd:=val_lt done;rw [hd] at hvd;have e1 : Int.tmod (wrap64 b) 128 = b % 128:=byte_mod hb.1 hb.2
   have hmul : (b % 128) * ((128 ^ i : Nat) : Int) = (((b % 128).toNat * 128 ^ i : Nat) : Int):=by
    rw [Int.natCast_mul,Int.toNat_of_nonneg (by omega)]
   have hmb : (b % 128).toNat * 128 ^ i ≤ 127 * 128 ^ i:=Nat.mul_le_mul_right _ (by omega);have hpos : 0 < 128 ^ i:=Nat.pow_pos (by omega);have e7 : wrap64 (7 * (i : Int)) = 7 * (i : Int):=wrap64_id (by omega) (by omega)
   have hshl : shl .i64 (b % 128) (7 * (i : Int)) = (b % 128) * ((128 ^ i : Nat) : Int):=by
    have hp : (2 : Int) ^ min (7 * (i : Int)).toNat (IntKind.bits .i64) = ((128 ^ i : Nat) : Int):=by
     rcases i with _|_|_|_|_|i
     ·rfl
     ·rfl
     ·rfl
     ·rfl
     ·rfl
     ·omega
    unfold shl
    rw [hp,i64_w];exact wrap64_id (by omega) (by omega)
   have e2 : wrap64 ((val done : Int) + shl .i64 (Int.tmod (wrap64 b) 128) (wrap64 (7 * (i : Int)))) = (val (done ++ [b]) : Int):=by
    rw [e1,e7,hshl,hmul,wrap64_id (by omega) (by omega),val_append,hd];rw [show val [b] = (b % 128).toNat by simp [val],Nat.mul_comm (128 ^ i)]
    omega
   clear hsc hvd hmul hmb hpos hshl e1;refine Ev.step (fun _ => rfl) ?_;simp only [impl_ReadVar.l0,e0];refine Ev.pos (by omega) ?_;rw [decide_eq_true (show ((a + i : Nat) : Int) < (s.size : Int) by omega)];refine Ev.step (fun _ => rfl) ?_;simp only [impl_ReadVar.j1,e0,hbt,e2,wrap64_succ (show i ≤ 9223372036854775806 by omega),wrap64_succ (show a + i ≤ 9223372036854775806 by omega)];rw [wrap64_id (n:=b) (by omega) (by omega)];refine Ev.pos trivial (Ev.pos (by omega) (Ev.pos (by omega) (Ev.pos (by rw [e7];omega) (Ev.ite (fun hlt => ?_) (fun hge => ?_)))))
   ·have hsg:=hseg [b] (by rw [varSeg,if_pos hlt]);have hck:=varSeg_check (fun x hx => bytesOf_range s x (List.mem_of_mem_drop hx)) hsg;rw [varSeg,if_pos hlt];simp only []
    by_cases hbig : val (done ++ [b]) ≤ 1000000000
    ·refine Ev.bind (impl_VarText_nat _ hbig) (Ev.pos rfl ?_);simp only [varText,strOfNums_size]
     have hlen : (done ++ [b]).length = i + 1:=by simp [hd]
     refine Ev.ite (fun hc => Ev.done ?_) (fun hc => Ev.done ?_)
     ·rw [if_pos ⟨hbig,hck.1 (by omega)⟩,hlen];rfl
     ·rw [if_neg (fun h => hc (by have:=hck.2 h.2;omega))]
    ·refine Ev.bind (Ev.eq (impl_VarText_ev _) (varTextOf_no (show ¬ ((val (done ++ [b]) : Int) ≤ 1000000000) by omega))) ?_;refine Ev.neg (by simp) (Ev.done ?_);rw [if_neg (fun h => hbig h.1)]
   ·have ih:=ih t (done ++ [b]) (i + 1) (by omega) (by simp [hd]) (by rw [hr];simp) (fun bs hbs => by
     have:=hseg (b :: bs) (by rw [varSeg,if_neg hge,hbs];rfl)
     rw [this];simp)
    rw [varSeg,if_neg hge];refine Ev.eq ih ?_
    cases varSeg k t with
    | none => rfl
    | some bs => simp only [Option.map_some,List.append_assoc,List.cons_append,List.nil_append]
theorem impl_ReadVar_ev (s : ByteArray) (a : Int) (hs : s.size ≤ 1152921504606846976) : Ev (fun k => impl_ReadVar.f k s a) (readVar s a) := by
 unfold impl_ReadVar.f readVar
 refine Ev.call (impl_within_eq _ _ _) ?_
 cases hb : inR a 0 s.size
 ·exact Ev.neg (by simp) (Ev.done (by simp))
 ·have hr:=inR_true.1 hb;obtain ⟨n,rfl⟩:=Int.eq_ofNat_of_zero_le hr.1;refine Ev.pos rfl (Ev.eq (impl_ReadVar_loop s n hs (by omega) 5 ((bytesOf s).drop n) [] 0 rfl rfl rfl (fun bs h => h)) ?_);rw [if_pos rfl,Int.toNat_natCast,readVarL]
  cases varSeg 5 ((bytesOf s).drop n) with
  | none => rfl
  | some bs =>
   simp only [List.nil_append]
   by_cases hc : val bs ≤ 1000000000 ∧ varL (val bs) = bs
   ·rw [if_pos hc,if_pos hc];simp
   ·rw [if_neg hc,if_neg hc]
theorem spec_l05Var_ev (s : ByteArray) (a : Int) (bad : Bool) (hs : s.size ≤ 1152921504606846976) : Ev (fun k => spec_l05Var.f k s a bad) (curNum s a bad) := by
 unfold spec_l05Var.f curNum
 refine Ev.bind (spec_ReadVar_ev s a hs) (Ev.ite (fun h => Ev.done (by rw [if_pos h])) (fun h => Ev.ite (fun h' => Ev.done ?_) (fun h' => Ev.done ?_)))
 ·rw [if_neg h,if_pos h']
 ·rw [if_neg h,if_neg h']
theorem impl_reader_num_ev (s : ByteArray) (a : Int) (bad : Bool) (hs : s.size ≤ 1152921504606846976) : Ev (fun k => impl_reader_num.f k s a bad) (curNum s a bad) := by
 unfold impl_reader_num.f curNum
 refine Ev.bind (impl_ReadVar_ev s a hs) (Ev.ite (fun h => Ev.done (by rw [if_pos h])) (fun h => Ev.ite (fun h' => Ev.done ?_) (fun h' => Ev.done ?_)))
 ·rw [if_neg h,if_pos h']
 ·rw [if_neg h,if_neg h']
theorem spec_l05Take_eq (s : ByteArray) (a n : Int) (bad : Bool) (hs : s.size ≤ 1152921504606846976) (h0 : 0 ≤ a) (h1 : a ≤ s.size) (hn : 0 ≤ n) (hn' : n ≤ 1152921504606846976) : spec_l05Take.f s a bad n = some (curTake s a bad n) := by
 unfold spec_l05Take.f curTake
 by_cases h : bad = true
 ·rw [if_pos h,if_pos h]
 ·rw [if_neg h,if_neg h,wrap64_id (n:=(s.size : Int) - a) (by omega) (by omega),wrap64_id (n:=a + n) (by omega) (by omega),show a + n - n = a by omega,wrap64_id (n:=a) (by omega) (by omega)]
  by_cases hc : n > (s.size : Int) - a
  ·rw [if_pos hc,if_pos hc]
  ·rw [if_neg hc,if_neg hc,if_pos (by omega),if_pos (by omega),if_pos (by omega)]
theorem impl_reader_byte_eq (s : ByteArray) (a : Int) (bad : Bool) (hs : s.size ≤ 1152921504606846976) (h0 : 0 ≤ a) (h1 : a ≤ s.size) : impl_reader_byte.f s a bad = some (curByte s a bad) := by
 unfold impl_reader_byte.f curByte
 by_cases h : bad = true
 ·rw [if_pos h,if_pos h]
 ·rw [if_neg h,if_neg h,wrap64_id (n:=a + 1) (by omega) (by omega),show a + 1 - 1 = a by omega,wrap64_id (n:=a) (by omega) (by omega)]
  by_cases hc : a ≥ (s.size : Int)
  ·rw [if_pos hc,if_pos hc]
  ·have:=bt_range s a;rw [if_neg hc,if_neg hc,if_pos (by omega),if_pos (by omega),wrap64_id (n:=bt s a) (by omega) (by omega)]
theorem spec_ReadEntry_ev (s : ByteArray) (hs : s.size ≤ 1048576) : Ev (fun k => spec_ReadEntry.f k s) (readEntry s) := by
 unfold spec_ReadEntry.f readEntry
 refine Ev.call (spec_l05Take_eq s 0 1 false (by omega) (by omega) (by omega) (by omega) (by omega)) ?_
 by_cases hz : s.size = 0
 ·rw [if_pos hz]
  have e : curTake s 0 false 1 = (⟨#[]⟩,s,0,true):=by
   unfold curTake;rw [if_neg (by simp),if_pos (by omega)]
  simp only [e];refine Ev.bind (spec_l05Var_ev s 0 true (by omega)) (Ev.bind (spec_l05Var_ev s 0 true (by omega)) ?_);simp only [curNum_isbad];exact Ev.call (spec_l05Take_eq s 0 1 true (by omega) (by omega) (by omega) (by omega) (by omega)) (Ev.pos rfl (Ev.now _))
 rw [if_neg hz]
 have e : curTake s 0 false 1 = (s.extract 0 1,s,1,false):=by
  unfold curTake;rw [if_neg (by simp),if_neg (by omega)];rfl
 simp only [e];refine Ev.bind (spec_l05Var_ev s 1 false (by omega)) ?_;have hp1:=curNum_place (s:=s) (a:=1) (bad:=false) (by omega) (by omega);simp only [curNum_text];refine Ev.bind (spec_l05Var_ev s _ _ (by omega)) ?_;have hp2:=curNum_place (s:=s) (a:=(curNum s 1 false).2.2.1) (bad:=(curNum s 1 false).2.2.2) hp1.1 hp1.2;simp only [curNum_text];refine Ev.call (spec_l05Take_eq s _ 1 _ (by omega) hp2.1 hp2.2 (by omega) (by omega)) ?_
 cases hb : (curNum s (curNum s 1 false).2.2.1 (curNum s 1 false).2.2.2).2.2.2
 case true =>
  rw [if_pos rfl];exact Ev.pos rfl (Ev.now _)
 rw [if_neg (by simp)]
 by_cases hc : (curNum s (curNum s 1 false).2.2.1 (curNum s 1 false).2.2.2).2.2.1 ≥ (s.size : Int)
 ·rw [if_pos hc]
  have e : ∀ a,a ≥ (s.size : Int) → curTake s a false 1 = (⟨#[]⟩,s,a,true):=by
   intro a ha
   unfold curTake;rw [if_neg (by simp),if_pos (by omega)]
  rw [e _ hc];exact Ev.pos rfl (Ev.now _)
 rw [if_neg hc];obtain ⟨hb1,hr2⟩:=curNum_good hb;obtain ⟨-,hr1⟩:=curNum_good hb1;generalize (curNum s (curNum s 1 false).2.2.1 (curNum s 1 false).2.2.2).1 = t at *;generalize (curNum s (curNum s 1 false).2.2.1 (curNum s 1 false).2.2.2).2.2.1 = b at *;generalize (curNum s 1 false).2.2.1 = a at *;generalize (curNum s 1 false).1 = i at *;have hby:=entry_bytes hr1 hr2 (by omega)
 have e : curTake s b false 1 = (s.extract b.toNat (b + 1).toNat,s,b + 1,false):=by
  unfold curTake;rw [if_neg (by simp),if_neg (by omega)]
 rw [e];have hk:=bt_range s b
 have hone : bytesOf (s.extract b.toNat (b + 1).toNat) = [bt s b]:=by
  have e3:=drop_bt (s:=s) (n:=b.toNat) (by omega);rw [Int.toNat_of_nonneg (by omega)] at e3;rw [bytesOf_extract,List.drop_take,e3,show (b + 1).toNat - b.toNat = 1 by omega];rfl
 have hone2 : (s.extract b.toNat (b + 1).toNat).size = 1:=by rw [← bytesOf_length,hone];rfl
 have hone3 : bt (s.extract b.toNat (b + 1).toNat) 0 = bt s b:=by rw [← rd_bytesOf,hone];rfl
 simp only [hone2,hone3];refine Ev.neg (by simp) (Ev.pos (by omega) (Ev.pos (by omega) (Ev.pos (by omega) ?_)));rw [wrap64_id (n:=bt s b) (by omega) (by omega)]
 have hds : (s.extract (b + 1).toNat s.size).size ≤ 1048576:=by rw [← bytesOf_length,bytesOf_dropTo,List.length_drop,bytesOf_length];omega
 refine Ev.bind (spec_EntryText_ev i t (bt s b) _ hds) ?_
 unfold entryText
 cases hok : (entryOk t (bt s b) (s.extract (b + 1).toNat s.size) && inR i 1 100000)
 ·rw [if_neg (show ¬ (false = true) by simp)];refine Ev.neg (by simp) (Ev.done ?_);rw [if_neg (fun h => Bool.false_ne_true h.2)];rfl
 ·rw [if_pos (show true = true from rfl)];refine Ev.pos rfl ?_
  have hiff : ((⟨#[69]⟩ : ByteArray) ++ varText i.toNat ++ varText t.toNat ++ strOfNums [bt s b % 256] ++ s.extract (b + 1).toNat s.size).toList = s.toList ↔ bt s 0 = 69:=by
   rw [toList_iff,entryText_bytes hk,hby]
   constructor
   ·intro h;exact (List.cons.inj h).1.symm
   ·intro h;rw [h]
  refine Ev.ite (fun hc => Ev.done ?_) (fun hc => Ev.done ?_)
  ·rw [if_pos ⟨hiff.1 hc,rfl⟩]
  ·rw [if_neg (fun h => hc (hiff.2 h.1))];rfl
theorem impl_ReadEntry_ev (s : ByteArray) (hs : s.size ≤ 1048576) : Ev (fun k => impl_ReadEntry.f k s) (readEntry s) := by
 have bad : ∀ x7 x1 x2 x3 x4 x5 x6 r,r = noEntry → Ev (fun k => impl_ReadEntry.j0 k s x7 true x1 x2 x3 x4 x5 x6) r:=by
  rintro x7 x1 x2 x3 x4 x5 x6 r rfl;refine Ev.step (fun _ => rfl) ?_;simp only [impl_ReadEntry.j0];exact Ev.pos trivial (Ev.now _)
 unfold impl_ReadEntry.f readEntry
 refine Ev.call (impl_reader_byte_eq s 0 false (by omega) (by omega) (by omega)) ?_
 by_cases hz : s.size = 0
 ·rw [if_pos hz]
  have e : curByte s 0 false = (0,s,0,true):=by
   unfold curByte;rw [if_neg (by simp),if_pos (by omega)]
  simp only [e];refine Ev.bind (impl_reader_num_ev s 0 true (by omega)) (Ev.bind (impl_reader_num_ev s 0 true (by omega)) ?_);simp only [curNum_isbad];exact Ev.call (impl_reader_byte_eq s 0 true (by omega) (by omega) (by omega)) (Ev.pos rfl (bad _ _ _ _ _ _ _ _ rfl))
 rw [if_neg hz]
 have e : curByte s 0 false = (bt s 0,s,1,false):=by
  unfold curByte;rw [if_neg (by simp),if_neg (by omega)];rfl
 simp only [e];refine Ev.bind (impl_reader_num_ev s 1 false (by omega)) ?_;have hp1:=curNum_place (s:=s) (a:=1) (bad:=false) (by omega) (by omega);simp only [curNum_text];refine Ev.bind (impl_reader_num_ev s _ _ (by omega)) ?_;have hp2:=curNum_place (s:=s) (a:=(curNum s 1 false).2.2.1) (bad:=(curNum s 1 false).2.2.2) hp1.1 hp1.2;simp only [curNum_text];refine Ev.call (impl_reader_byte_eq s _ _ (by omega) hp2.1 hp2.2) ?_
 cases hb : (curNum s (curNum s 1 false).2.2.1 (curNum s 1 false).2.2.2).2.2.2
 case true =>
  rw [if_pos rfl];exact Ev.pos rfl (bad _ _ _ _ _ _ _ _ rfl)
 rw [if_neg (by simp)]
 by_cases hc : (curNum s (curNum s 1 false).2.2.1 (curNum s 1 false).2.2.2).2.2.1 ≥ (s.size : Int)
 ·rw [if_pos hc]
  have e : ∀ a,a ≥ (s.size : Int) → curByte s a false = (0,s,a,true):=by
   intro a ha
   unfold curByte;rw [if_neg (by simp),if_pos (by omega)]
  rw [e _ hc];exact Ev.pos rfl (bad _ _ _ _ _ _ _ _ rfl)
 rw [if_neg hc];generalize (curNum s (curNum s 1 false).2.2.1 (curNum s 1 false).2.2.2).1 = t at *;generalize (curNum s (curNum s 1 false).2.2.1 (curNum s 1 false).2.2.2).2.2.1 = b at *;generalize (curNum s 1 false).2.2.1 = a at *;generalize (curNum s 1 false).1 = i at *
 have e : curByte s b false = (bt s b,s,b + 1,false):=by
  unfold curByte;rw [if_neg (by simp),if_neg (by omega)]
 rw [e]
 have hds : (s.extract (b + 1).toNat s.size).size ≤ 1048576:=by rw [← bytesOf_length,bytesOf_dropTo,List.length_drop,bytesOf_length];omega
 refine Ev.neg (by simp) ?_
 by_cases hl : bt s 0 = 69
 ·rw [show (bt s 0 != 69) = false by simp [hl]];refine Ev.step (fun _ => rfl) ?_;simp only [impl_ReadEntry.j0];refine Ev.neg (by simp) (Ev.pos (by omega) (Ev.pos (by omega) (Ev.bind (impl_EntryOk_ev t (bt s b) _ hds) ?_)))
  cases h1 : entryOk t (bt s b) (s.extract (b + 1).toNat s.size)
  ·exact Ev.neg (by simp) (Ev.done (by simp [noEntry]))
  ·refine Ev.pos rfl (Ev.call (impl_within_eq _ _ _) ?_)
   cases h2 : inR i 1 100000
   ·exact Ev.neg (by simp) (Ev.done (by simp [noEntry]))
   ·exact Ev.pos rfl (Ev.done (by simp [hl]))
 ·rw [show (bt s 0 != 69) = true by simp [hl],if_neg (fun h => hl h.1)];exact bad _ _ _ _ _ _ _ _ rfl
theorem impl_reader_done_eq (s : ByteArray) (a : Int) (bad : Bool) : impl_reader_done.f s a bad = some (!bad && (a == (s.size : Int)), s, a, bad) := by
 unfold impl_reader_done.f
 cases bad <;> simp
def logHead (s t : Int) : ByteArray := (frame ((⟨#[83]⟩ : ByteArray) ++ varText s.toNat ++ varText t.toNat)).1
theorem spec_l12Head_ev (s t : Int) (l : List S69) (hs : 0 ≤ s ∧ s ≤ 100000) (ht : 0 ≤ t ∧ t ≤ 100000) : Ev (fun k => spec_l12Head.f k s t l) (logHead s t) := by
 unfold spec_l12Head.f
 have s1:=varText_size (show s.toNat ≤ 34359738367 by omega);have s2:=varText_size (show t.toNat ≤ 34359738367 by omega);have s3 : (⟨#[83]⟩ : ByteArray).size = 1:=rfl;exact Ev.bind (spec_l01Var_ev s (by omega) (by omega)) (Ev.pos (by omega) (Ev.bind (spec_l01Var_ev t (by omega) (by omega)) (Ev.pos (by rw [size_append];omega) (Ev.bind (spec_Frame_ev _ (by simp only [size_append];omega)) (Ev.now _)))))
theorem frame_le (s : ByteArray) : (frame s).1.size ≤ 9009 := by
 unfold frame
 split
 ·rename_i h
  have:=inR_true.1 h;have hv:=varText_size (show s.size ≤ 34359738367 by omega);have h4:=four_size (sumOf s);simp only [size_append];omega
 ·exact Nat.zero_le _
def logFrames : List Int → Int → List S69 → List Int
 | acc,_,[] => acc
 | acc,i,x :: t => logFrames (acc ++ bytesOf (frame (entryText i x.f0 x.f1 x.f2).1).1) (i + 1) t
theorem logFrames_length : ∀ (l : List S69) (acc : List Int) (i : Int), (logFrames acc i l).length ≤ acc.length + 9009 * l.length
 | [],acc,i => by simp [logFrames]
 | x :: t,acc,i => by
  rw [logFrames];have h:=logFrames_length t (acc ++ bytesOf (frame (entryText i x.f0 x.f1 x.f2).1).1) (i + 1);have h2:=frame_le (entryText i x.f0 x.f1 x.f2).1;rw [List.length_append,bytesOf_length] at h;rw [List.length_cons]
  omega
theorem spec_l12Frames_loop (s t : Int) (hs : 0 ≤ s ∧ s ≤ 100000) (l : List S69) (hl : l.length ≤ 1048576) (hd : ∀ x ∈ l, x.f2.size ≤ 1048576) : ∀ (rest : List S69) (n : Nat) (acc : List Int), l.drop n = rest → acc.length + 9009 * rest.length ≤ 100000000000 →
  Ev (fun k => spec_l12Frames.l0 k acc (n : Int) s t l) (strOfNums (logFrames acc (s + 1 + (n : Int)) rest)):=by
 intro rest
 induction rest with
 | nil =>
  intro n acc h ha;have:=drop_nil h;refine Ev.step (fun _ => rfl) ?_;simp only [spec_l12Frames.l0];exact Ev.neg (by omega) (Ev.done (by rw [logFrames]))
 | cons x r ih =>
  intro n acc h ha;obtain ⟨h1,-,h3⟩:=drop_cons h;have hm : x ∈ l:=List.mem_of_mem_drop (h ▸ List.mem_cons_self);rw [List.length_cons] at ha;have hf:=frame_le (entryText (s + 1 + (n : Int)) x.f0 x.f1 x.f2).1;have he:=entryText_size (s + 1 + (n : Int)) x.f0 x.f1 x.f2;have hx:=hd x hm;have w1 : wrap64 (s + 1) = s + 1:=wrap64_id (by omega) (by omega);have w2 : wrap64 (s + 1 + (n : Int)) = s + 1 + (n : Int):=wrap64_id (by omega) (by omega);have ih:=ih (n + 1) (acc ++ bytesOf (frame (entryText (s + 1 + (n : Int)) x.f0 x.f1 x.f2).1).1) h3 (by rw [List.length_append,bytesOf_length];omega);refine Ev.step (fun _ => rfl) ?_;simp only [spec_l12Frames.l0,rdT69_drop h,wrap64_succ (show n ≤ 9223372036854775806 by omega),w1,w2];refine Ev.pos (by omega) (Ev.pos (by omega) (Ev.bind (spec_EntryText_ev _ _ _ _ hx) (Ev.bind (spec_Frame_ev _ (by omega)) (Ev.pos (by omega) (Ev.eq ih ?_)))));rw [logFrames,show s + 1 + ((n + 1 : Nat) : Int) = s + 1 + (n : Int) + 1 by omega]
def logFile (s t : Int) (l : List S69) : ByteArray × Bool := if logOk s t l = true then (if (logHead s t ++ strOfNums (logFrames [] (s + 1) l)).size > 20000 then (⟨#[]⟩, false) else (logHead s t ++ strOfNums (logFrames [] (s + 1) l), true)) else (⟨#[]⟩, false)
theorem spec_LogFile_ev (s t : Int) (l : List S69) (hl : l.length ≤ 1048576) (hd : ∀ x ∈ l, x.f2.size ≤ 1048576) : Ev (fun k => spec_LogFile.f k s t l) (logFile s t l) := by
 unfold spec_LogFile.f logFile
 refine Ev.bind (spec_LogOk_ev s t l hl hd) ?_
 cases hk : logOk s t l
 ·exact Ev.neg (by simp) (Ev.done (by simp))
 obtain ⟨b1,b2,b3,b4⟩:=logOk_bounds hk;have z1 : (logHead s t).size ≤ 9009:=frame_le _;have z2:=logFrames_length l [] (s + 1);have z3 : (strOfNums (logFrames [] (s + 1) l)).size = (logFrames [] (s + 1) l).length:=strOfNums_size _;have e:=spec_l12Frames_loop s t b1 l hl hd l 0 [] rfl (by simp;omega);rw [show s + 1 + ((0 : Nat) : Int) = s + 1 by omega] at e;rw [List.length_nil] at z2;refine Ev.pos rfl (Ev.bind (spec_l12Head_ev s t l b1 b2) (Ev.bind e (Ev.pos (by omega) ?_)));refine Ev.ite (fun hc => Ev.done ?_) (fun hc => Ev.done ?_)
 ·rw [if_pos rfl,if_pos (show _ > 20000 by omega)]
 ·rw [if_pos rfl,if_neg (show ¬ _ > 20000 by omega)]
theorem impl_framed_ev (s : ByteArray) (hs : s.size ≤ 1152921504606846976) : Ev (fun k => impl_framed.f k s) (frame s).1 := Ev.bind (impl_Frame_ev s hs) (Ev.now _)
theorem impl_entryFrames_loop (s t : Int) (hs : 0 ≤ s ∧ s ≤ 100000) (l : List S69) (hl : l.length ≤ 1048576) (hd : ∀ x ∈ l, x.f2.size ≤ 1048576) : ∀ (rest : List S69) (n : Nat) (acc : List Int), l.drop n = rest → acc.length + 9009 * rest.length ≤ 100000000000 →
  Ev (fun k => impl_entryFrames.l0 k acc (n : Int) s t l) (strOfNums (logFrames acc (s + 1 + (n : Int)) rest)):=by
 intro rest
 induction rest with
 | nil =>
  intro n acc h ha;have:=drop_nil h;refine Ev.step (fun _ => rfl) ?_;simp only [impl_entryFrames.l0];exact Ev.neg (by omega) (Ev.done (by rw [logFrames]))
 | cons x r ih =>
  intro n acc h ha;obtain ⟨h1,-,h3⟩:=drop_cons h;have hm : x ∈ l:=List.mem_of_mem_drop (h ▸ List.mem_cons_self);rw [List.length_cons] at ha;have hf:=frame_le (entryText (s + 1 + (n : Int)) x.f0 x.f1 x.f2).1;have he:=entryText_size (s + 1 + (n : Int)) x.f0 x.f1 x.f2;have hx:=hd x hm;have w1 : wrap64 (s + 1) = s + 1:=wrap64_id (by omega) (by omega);have w2 : wrap64 (s + 1 + (n : Int)) = s + 1 + (n : Int):=wrap64_id (by omega) (by omega);have ih:=ih (n + 1) (acc ++ bytesOf (frame (entryText (s + 1 + (n : Int)) x.f0 x.f1 x.f2).1).1) h3 (by rw [List.length_append,bytesOf_length];omega);refine Ev.step (fun _ => rfl) ?_;simp only [impl_entryFrames.l0,rdT69_drop h,wrap64_succ (show n ≤ 9223372036854775806 by omega),w1,w2];refine Ev.pos (by omega) (Ev.pos (by omega) (Ev.bind (impl_EntryText_ev _ _ _ _ hx) (Ev.bind (impl_framed_ev _ (by omega)) (Ev.pos (by omega) (Ev.eq ih ?_)))));rw [logFrames,show s + 1 + ((n + 1 : Nat) : Int) = s + 1 + (n : Int) + 1 by omega]
theorem impl_LogFile_ev (s t : Int) (l : List S69) (hl : l.length ≤ 1048576) (hd : ∀ x ∈ l, x.f2.size ≤ 1048576) : Ev (fun k => impl_LogFile.f k s t l) (logFile s t l) := by
 unfold impl_LogFile.f logFile
 refine Ev.bind (impl_LogOk_ev s t l hl hd) ?_
 cases hk : logOk s t l
 ·exact Ev.neg (by simp) (Ev.done (by simp))
 obtain ⟨b1,b2,b3,b4⟩:=logOk_bounds hk;have z1 : (logHead s t).size ≤ 9009:=frame_le _;have z2:=logFrames_length l [] (s + 1);have z3 : (strOfNums (logFrames [] (s + 1) l)).size = (logFrames [] (s + 1) l).length:=strOfNums_size _;have s1:=varText_size (show s.toNat ≤ 34359738367 by omega);have s2:=varText_size (show t.toNat ≤ 34359738367 by omega);have s3 : (⟨#[83]⟩ : ByteArray).size = 1:=rfl;have e:=impl_entryFrames_loop s t b1 l hl hd l 0 [] rfl (by simp;omega);rw [show s + 1 + ((0 : Nat) : Int) = s + 1 by omega] at e;rw [List.length_nil] at z2;have ev : varsOf [s,t] = (varText s.toNat ++ varText t.toNat,true):=varsOf_two (inR_true.2 (by omega)) (inR_true.2 (by omega))
 have eh : (frame ((⟨#[83]⟩ : ByteArray) ++ (varText s.toNat ++ varText t.toNat))).1 = logHead s t:=by rw [logHead,ByteArray.append_assoc]
 refine Ev.pos rfl (Ev.bind (Ev.eq (impl_vars_ev [s,t] (by simp)) ev) (Ev.pos (by simp only [size_append];omega) (Ev.bind (Ev.eq (impl_framed_ev _ (by simp only [size_append];omega)) eh) (Ev.bind e (Ev.pos (by omega) ?_)))));refine Ev.ite (fun hc => Ev.done ?_) (fun hc => Ev.done ?_)
 ·rw [if_pos rfl,if_pos (show _ > 20000 by omega)]
 ·rw [if_pos rfl,if_neg (show ¬ _ > 20000 by omega)]
theorem laws_markLog_ev (s t : Int) (l : List S69) (hl : l.length ≤ 1048576) : Ev (fun k => laws_markLog.f k s t l 1) (1 + 3 * (l.length : Int), markedEntry l 1) :=
 Ev.bind (laws_markEntryS_ev l 1 (by omega) (by omega) (by omega)) (Ev.now _)
def unfStep (s : ByteArray) (a : Int) : Option (ByteArray × Int) :=
 if (readVar s a).2.2 = false then none else
 if (readVar s a).1 > (s.size : Int) - (readVar s a).2.1 - 4 then none else
 if (frame (s.extract ((readVar s a).2.1 + 4).toNat ((readVar s a).2.1 + 4 + (readVar s a).1).toNat)).2 = true ∧ (frame (s.extract ((readVar s a).2.1 + 4).toNat ((readVar s a).2.1 + 4 + (readVar s a).1).toNat)).1 = s.extract a.toNat ((readVar s a).2.1 + 4 + (readVar s a).1).toNat
 then some (s.extract ((readVar s a).2.1 + 4).toNat ((readVar s a).2.1 + 4 + (readVar s a).1).toNat,(readVar s a).2.1 + 4 + (readVar s a).1) else none
def unfr (s : ByteArray) : Nat → List ByteArray → Int → List ByteArray × Int
 | 0,acc,a => (acc,a)
 | m + 1,acc,a => match unfStep s a with
  | none => (acc,a)
  | some (c,b) => unfr s m (acc ++ [c]) b
def unframe (s : ByteArray) : List ByteArray × Int := if s.size > 20000 then ([], 0) else unfr s (s.size + 1) [] 0
theorem unfStep_some {s : ByteArray} {a b : Int} {c : ByteArray} (h : unfStep s a = some (c, b)) : 0 ≤ a ∧ a < b ∧ b ≤ s.size ∧ c.size ≤ 9000 := by
 unfold unfStep at h
 split at h
 ·cases h
 split at h
 ·cases h
 split at h
 ·rename_i h1 h2 h3
  simp only [Option.some.injEq,Prod.mk.injEq] at h;obtain ⟨rfl,rfl⟩:=h
  have hr : readVar s a = ((readVar s a).1,(readVar s a).2.1,true):=by
   have : (readVar s a).2.2 = true:=by cases hb : (readVar s a).2.2 <;> simp_all
   rw [← this]
  obtain ⟨p1,p2,p3,p4,p5,p6,-,-⟩:=readVar_true hr;refine ⟨p1,by omega,by omega,?_⟩;have h4:=h3.1
  unfold frame at h4
  split at h4
  ·rename_i h5
   have:=inR_true.1 h5
   omega
  ·simp at h4
 ·cases h
theorem unfr_bounds (s : ByteArray) : ∀ (m : Nat) (acc : List ByteArray) (a : Int), 0 ≤ a → a ≤ s.size → (acc.length : Int) ≤ a → (∀ c ∈ acc, c.size ≤ 9000) →
  (0 ≤ (unfr s m acc a).2 ∧ (unfr s m acc a).2 ≤ s.size) ∧ ((unfr s m acc a).1.length : Int) ≤ (unfr s m acc a).2 ∧ ∀ c ∈ (unfr s m acc a).1,c.size ≤ 9000
 | 0,acc,a,h0,h1,h2,h3 => ⟨⟨h0,h1⟩,h2,h3⟩
 | m + 1,acc,a,h0,h1,h2,h3 => by
  rw [unfr]
  cases hs : unfStep s a with
  | none => exact ⟨⟨h0,h1⟩,h2,h3⟩
  | some x =>
   obtain ⟨c,b⟩:=x;obtain ⟨p1,p2,p3,p4⟩:=unfStep_some hs;refine unfr_bounds s m (acc ++ [c]) b (by omega) p3 (by simp only [List.length_append,List.length_singleton];omega) ?_;intro d hd
   rcases List.mem_append.1 hd with hd|hd
   ·exact h3 d hd
   ·rw [List.mem_singleton] at hd;rw [hd];exact p4
theorem unframe_bounds (s : ByteArray) : (unframe s).1.length ≤ 20000 ∧ ∀ c ∈ (unframe s).1, c.size ≤ 9000 := by
 unfold unframe
 split
 ·exact ⟨by simp,fun c hc => by cases hc⟩
 ·obtain ⟨h1,h2,h3⟩:=unfr_bounds s (s.size + 1) [] 0 (by omega) (by omega) (by simp) (fun c hc => by cases hc);exact ⟨by omega,h3⟩
theorem readVar_res {s : ByteArray} {a : Int} (h : (readVar s a).2.2 = true) : readVar s a = ((readVar s a).1, (readVar s a).2.1, true) := by
 rw [← h]
theorem spec_Unframe_loop (s : ByteArray) (hs : s.size ≤ 20000) : ∀ (m : Nat) (acc : List ByteArray) (a : Int), 0 ≤ a → a ≤ s.size → (acc.length : Int) ≤ a → (s.size : Int) - a < m → Ev (fun k => spec_Unframe.l0 k s acc a) (unfr s m acc a) := by
 intro m
 induction m with
 | zero => intro acc a h0 h1 h2 h3;omega
 | succ m ih =>
  intro acc a h0 h1 h2 h3;refine Ev.step (fun _ => rfl) ?_;simp only [spec_Unframe.l0];rw [unfr];refine Ev.ite (fun hc => Ev.bind (spec_ReadVar_ev s a (by omega)) ?_) (fun hc => Ev.done ?_)
  ·cases hb : (readVar s a).2.2
   ·have e : unfStep s a = none:=by rw [unfStep,if_pos hb]
    refine Ev.neg (by simp) (Ev.step (fun _ => rfl) ?_);simp only [spec_Unframe.j1,e];exact Ev.pos trivial (Ev.now _)
   ·obtain ⟨p1,p2,p3,p4,p5,p6,-,-⟩:=readVar_true (readVar_res hb)
    have es : wrap64 (wrap64 ((s.size : Int) - (readVar s a).2.1) - 4) = s.size - (readVar s a).2.1 - 4:=by
     rw [wrap64_id (n:=(s.size : Int) - (readVar s a).2.1) (by omega) (by omega),wrap64_id (by omega) (by omega)]
    have e4 : wrap64 ((readVar s a).2.1 + 4) = (readVar s a).2.1 + 4:=wrap64_id (by omega) (by omega);have eb : wrap64 ((readVar s a).2.1 + 4 + (readVar s a).1) = (readVar s a).2.1 + 4 + (readVar s a).1:=wrap64_id (by omega) (by omega);refine Ev.pos rfl (Ev.step (fun _ => rfl) ?_);simp only [spec_Unframe.j1,es,e4,eb]
    by_cases h4 : (readVar s a).1 > (s.size : Int) - (readVar s a).2.1 - 4
    ·have e : unfStep s a = none:=by rw [unfStep,if_neg (by simp [hb]),if_pos h4]
     rw [e];exact Ev.pos (decide_eq_true h4) (Ev.now _)
    ·refine Ev.neg (by simp;omega) (Ev.pos (by omega) (Ev.pos (by omega) (Ev.pos (by omega) (Ev.bind (spec_Frame_ev _ (by rw [ByteArray.size_extract];omega)) (Ev.ite (fun h5 => Ev.pos (by omega) (Ev.pos (by omega) (Ev.ite (fun h6 => Ev.pos (by omega) ?_) (fun h6 => ?_)))) (fun h5 => ?_))))))
     ·have e : unfStep s a = some (s.extract ((readVar s a).2.1 + 4).toNat ((readVar s a).2.1 + 4 + (readVar s a).1).toNat,(readVar s a).2.1 + 4 + (readVar s a).1):=by
       rw [unfStep,if_neg (by simp [hb]),if_neg h4,if_pos ⟨h5,toList_inj.1 h6⟩]
      rw [e];exact ih _ _ (by omega) (by omega) (by simp only [List.length_append,List.length_singleton];omega) (by omega)
     ·have e : unfStep s a = none:=by rw [unfStep,if_neg (by simp [hb]),if_neg h4,if_neg (fun e => h6 (toList_inj.2 e.2))]
      rw [e];exact Ev.now _
     ·have e : unfStep s a = none:=by rw [unfStep,if_neg (by simp [hb]),if_neg h4,if_neg (fun e => h5 e.1)]
      rw [e];exact Ev.now _
  ·have e : unfStep s a = none:=by
    have hf : (readVar s a).2.2 = false:=by
     cases hb : (readVar s a).2.2
     ·rfl
     ·have:=readVar_true (readVar_res hb);omega
    rw [unfStep,if_pos hf]
   rw [e]
theorem spec_Unframe_ev (s : ByteArray) : Ev (fun k => spec_Unframe.f k s) (unframe s) := by
 unfold spec_Unframe.f unframe
 refine Ev.call rfl (Ev.ite (fun hc => Ev.done ?_) (fun hc => ?_))
 ·rw [if_pos (show s.size > 20000 by omega)]
 ·rw [if_neg (show ¬ s.size > 20000 by omega)];exact spec_Unframe_loop s (by omega) _ [] 0 (by omega) (by omega) (by simp) (by omega)
def startOf (s : ByteArray) : Option (Int × Int) :=
 if s.size ≠ 0 ∧ bt s 0 = 83 ∧ (curNum s (curNum s 1 false).2.2.1 (curNum s 1 false).2.2.2).2.2.2 = false ∧ (curNum s (curNum s 1 false).2.2.1 (curNum s 1 false).2.2.2).2.2.1 = s.size
 then some ((curNum s 1 false).1,(curNum s (curNum s 1 false).2.2.1 (curNum s 1 false).2.2.2).1) else none
def StartIs (s : ByteArray) (r : Int × Int × List S69 × Bool) : Prop := (∃ a b, startOf s = some (a, b) ∧ r = (a, b, [], true)) ∨ (startOf s = none ∧ r.2.2.2 = false)
theorem startOf_bounds {s : ByteArray} {a b : Int} (h : startOf s = some (a, b)) : (0 ≤ a ∧ a ≤ 1000000000) ∧ (0 ≤ b ∧ b ≤ 1000000000) := by
 unfold startOf at h
 split at h
 ·simp only [Option.some.injEq,Prod.mk.injEq] at h;obtain ⟨rfl,rfl⟩:=h;exact ⟨curNum_nonneg _ _ _,curNum_nonneg _ _ _⟩
 ·cases h
theorem at_first {s : ByteArray} (h : s.size ≠ 0) : At s 0 [bt s 0] 1 := by
 have e:=drop_bt (s:=s) (n:=0) (by omega);exact At.mk' (Int.le_refl _) (by omega) e
theorem spec_l12Start_ev (s : ByteArray) (hs : s.size ≤ 1048576) : ∃ r, Ev (fun k => spec_l12Start.f k s) r ∧ StartIs s r := by
 by_cases h0 : s.size = 0
 ·refine ⟨(0,0,[],false),?_,Or.inr ⟨by rw [startOf,if_neg (fun e => e.1 h0)],rfl⟩⟩
  unfold spec_l12Start.f
  have hb : (curTake s 0 false 1).2.2.2 = true:=by
   cases hb : (curTake s 0 false 1).2.2.2
   ·have:=curTake_good' (s:=s) (a:=0) (n:=1) (bad:=false) (by omega) (by omega) hb;have h2:=this.2.1.le;have h3:=this.2.1.2.1;rw [bytesOf_length] at h3
    omega
   ·rfl
  have q0:=curTake_place (s:=s) (a:=0) (n:=1) (bad:=false) (by omega) (by omega) (by omega);refine Ev.call (spec_l05Take_eq s 0 1 false (by omega) (by omega) (by omega) (by omega) (by omega)) ?_;simp only [curTake_text,hb];refine Ev.bind (spec_l05Var_ev s _ true (by omega)) ?_;simp only [curNum_isbad];refine Ev.bind (spec_l05Var_ev s _ true (by omega)) ?_;simp only [curNum_isbad];exact Ev.pos trivial (Ev.now _)
 have p0:=at_first h0;have hr:=bt_range s 0;have hx : bytesOf (strOfNums [bt s 0]) = [bt s 0]:=bytesOf_strOfNums _ (by simp;omega);have e0:=curTake_fwd (s:=s) (a:=0) (b:=1) (r:=strOfNums [bt s 0]) (by rw [hx];exact p0);rw [show ((strOfNums [bt s 0]).size : Int) = 1 from rfl] at e0;have n1:=curNum_nonneg s 1 false;have pl1:=curNum_place (s:=s) (a:=1) (bad:=false) (by omega) (by omega);have n2:=curNum_nonneg s (curNum s 1 false).2.2.1 (curNum s 1 false).2.2.2;have ev : ∀ r,(∀ (_ : (curNum s (curNum s 1 false).2.2.1 (curNum s 1 false).2.2.2).2.2.2 = true),r = (0,0,[],false)) →
   (∀ (_ : (curNum s (curNum s 1 false).2.2.1 (curNum s 1 false).2.2.2).2.2.2 = false),r = if (⟨#[83]⟩ : ByteArray) ++ varText (curNum s 1 false).1.toNat ++ varText (curNum s (curNum s 1 false).2.2.1 (curNum s 1 false).2.2.2).1.toNat = s then ((curNum s 1 false).1,(curNum s (curNum s 1 false).2.2.1 (curNum s 1 false).2.2.2).1,[],true) else (0,0,[],false)) →
   Ev (fun k => spec_l12Start.f k s) r:=by
  intro r hbad hgood
  unfold spec_l12Start.f
  have s1:=varText_size (show (curNum s 1 false).1.toNat ≤ 34359738367 by omega);have s2:=varText_size (show (curNum s (curNum s 1 false).2.2.1 (curNum s 1 false).2.2.2).1.toNat ≤ 34359738367 by omega);have s3 : (⟨#[83]⟩ : ByteArray).size = 1:=rfl;refine Ev.call (by rw [spec_l05Take_eq s 0 1 false (by omega) (by omega) (by omega) (by omega) (by omega),e0]) (Ev.bind (spec_l05Var_ev s 1 false (by omega)) ?_);simp only [curNum_text];refine Ev.bind (spec_l05Var_ev s _ _ (by omega)) (Ev.ite (fun hb => Ev.done (hbad hb).symm) (fun hb => ?_));refine Ev.bind (spec_l01Var_ev _ n1.1 (by omega)) (Ev.pos (by omega) (Ev.bind (spec_l01Var_ev _ n2.1 (by omega)) (Ev.pos (by rw [size_append];omega) (Ev.ite (fun hc => Ev.done ?_) (fun hc => Ev.done ?_)))))
  ·rw [hgood (Bool.eq_false_iff.2 hb),if_pos (toList_inj.1 hc)]
  ·rw [hgood (Bool.eq_false_iff.2 hb),if_neg (fun e => hc (toList_inj.2 e))]
 cases hb : (curNum s (curNum s 1 false).2.2.1 (curNum s 1 false).2.2.2).2.2.2
 case true =>
  exact ⟨_,ev (0,0,[],false) (fun _ => rfl) (fun h => by rw [hb] at h;cases h),Or.inr ⟨by rw [startOf,if_neg (fun e => by rw [hb] at e;cases e.2.2.1)],rfl⟩⟩
 obtain ⟨g1,g2,-,-⟩:=curNum_good' hb;obtain ⟨-,g3,-,-⟩:=curNum_good' g1;have hw:=p0.trans (g3.trans g2)
 have hT : bytesOf ((⟨#[83]⟩ : ByteArray) ++ varText (curNum s 1 false).1.toNat ++ varText (curNum s (curNum s 1 false).2.2.1 (curNum s 1 false).2.2.2).1.toNat) = [83] ++ (varL (curNum s 1 false).1.toNat ++ varL (curNum s (curNum s 1 false).2.2.1 (curNum s 1 false).2.2.2).1.toNat):=by
  simp only [bytesOf_append,bytesOf_varText,List.append_assoc];rfl
 have iff_ : (⟨#[83]⟩ : ByteArray) ++ varText (curNum s 1 false).1.toNat ++ varText (curNum s (curNum s 1 false).2.2.1 (curNum s 1 false).2.2.2).1.toNat = s ↔ bt s 0 = 83 ∧ (curNum s (curNum s 1 false).2.2.1 (curNum s 1 false).2.2.2).2.2.1 = s.size:=by
  constructor
  ·intro h
   have hbs : bytesOf s = [83] ++ (varL (curNum s 1 false).1.toNat ++ varL (curNum s (curNum s 1 false).2.2.1 (curNum s 1 false).2.2.2).1.toNat):=by
    have:=hT;rw [h] at this;exact this
   have e:=drop_bt (s:=s) (n:=0) (by omega);rw [List.drop_zero] at e
   have h83 : bt s ((0 : Nat) : Int) = 83:=by
    rw [hbs] at e;simp only [List.singleton_append,List.cons.injEq] at e;exact e.1.symm
   refine ⟨h83,?_⟩;have h1:=hw.2.1;have h2 : (bytesOf s).length = s.size:=bytesOf_length s;rw [hbs] at h2;simp only [List.length_append,List.length_singleton] at h1 h2
   omega
  ·rintro ⟨h1,h2⟩;rw [h2] at hw;have:=hw.all;exact bytesOf_inj (by rw [hT,this,h1])
 by_cases hi : bt s 0 = 83 ∧ (curNum s (curNum s 1 false).2.2.1 (curNum s 1 false).2.2.2).2.2.1 = s.size
 ·exact ⟨_,ev _ (fun h => by rw [hb] at h;cases h) (fun _ => rfl),Or.inl ⟨_,_,by rw [startOf,if_pos ⟨h0,hi.1,hb,hi.2⟩],by rw [if_pos (iff_.2 hi)]⟩⟩
 ·exact ⟨_,ev _ (fun h => by rw [hb] at h;cases h) (fun _ => rfl),Or.inr ⟨by rw [startOf,if_neg (fun e => hi ⟨e.2.1,e.2.2.2⟩)],by rw [if_neg (fun e => hi (iff_.1 e))]⟩⟩
theorem impl_readStart_ev (s : ByteArray) (hs : s.size ≤ 1048576) : ∃ r, Ev (fun k => impl_readStart.f k s) r ∧ StartIs s r := by
 by_cases h0 : s.size = 0
 ·have eb : curByte s 0 false = (0,s,0,true):=by
   unfold curByte
   first
   | rw [if_neg (by simp),if_pos (show (0 : Int) ≥ s.size by omega)]
   | (simp [h0];done)
  refine ⟨(0,0,[],false),?_,Or.inr ⟨by rw [startOf,if_neg (fun e => e.1 h0)],rfl⟩⟩
  unfold impl_readStart.f
  refine Ev.call (by rw [impl_reader_byte_eq s 0 false (by omega) (by omega) (by omega),eb]) (Ev.bind (impl_reader_num_ev s 0 true (by omega)) ?_);simp only [curNum_isbad];refine Ev.bind (impl_reader_num_ev s 0 true (by omega)) ?_;simp only [curNum_isbad];exact Ev.neg (by omega) (Ev.now _)
 have p0:=at_first h0;have e0:=curByte_fwd p0
 have e : ∀ r,r = (if bt s 0 = 83 then ((curNum s 1 false).1,(curNum s (curNum s 1 false).2.2.1 (curNum s 1 false).2.2.2).1,([] : List S69),(!(curNum s (curNum s 1 false).2.2.1 (curNum s 1 false).2.2.2).2.2.2 && ((curNum s (curNum s 1 false).2.2.1 (curNum s 1 false).2.2.2).2.2.1 == (s.size : Int)))) else ((curNum s 1 false).1,(curNum s (curNum s 1 false).2.2.1 (curNum s 1 false).2.2.2).1,[],false)) → Ev (fun k => impl_readStart.f k s) r:=by
  rintro r rfl
  unfold impl_readStart.f
  refine Ev.call (by rw [impl_reader_byte_eq s 0 false (by omega) (by omega) (by omega),e0]) (Ev.bind (impl_reader_num_ev s 1 false (by omega)) ?_);simp only [curNum_text];refine Ev.bind (impl_reader_num_ev s _ _ (by omega)) ?_;simp only [curNum_text];refine Ev.ite (fun hc => Ev.call (impl_reader_done_eq _ _ _) (Ev.done ?_)) (fun hc => Ev.done ?_)
  ·rw [if_pos hc]
  ·rw [if_neg hc]
 refine ⟨_,e _ rfl,?_⟩
 by_cases hi : bt s 0 = 83 ∧ (curNum s (curNum s 1 false).2.2.1 (curNum s 1 false).2.2.2).2.2.2 = false ∧ (curNum s (curNum s 1 false).2.2.1 (curNum s 1 false).2.2.2).2.2.1 = s.size
 ·exact Or.inl ⟨_,_,by rw [startOf,if_pos ⟨h0,hi⟩],by rw [if_pos hi.1,hi.2.1,hi.2.2];simp⟩
 ·refine Or.inr ⟨by rw [startOf,if_neg (fun e => hi e.2)],?_⟩
  by_cases h83 : bt s 0 = 83
  ·rw [if_pos h83]
   cases hb : (curNum s (curNum s 1 false).2.2.1 (curNum s 1 false).2.2.2).2.2.2
   ·simp only [Bool.not_false,Bool.true_and,beq_eq_false_iff_ne]
    exact fun e => hi ⟨h83,hb,e⟩
   ·rfl
  ·rw [if_neg h83]
theorem readEntry_good {s : ByteArray} (h : (readEntry s).2.2.2.2 = true) : 1 ≤ (readEntry s).1 ∧ (readEntry s).1 ≤ 100000 := by
 unfold readEntry at h ⊢
 split
 ·rename_i h1;rw [if_pos h1] at h;cases h
 rename_i h1;rw [if_neg h1] at h
 split
 ·rename_i h2;rw [if_pos h2] at h;cases h
 rename_i h2;rw [if_neg h2] at h
 split
 ·rename_i h3;rw [if_pos h3] at h;cases h
 rename_i h3;rw [if_neg h3] at h
 split
 ·rename_i h4
  have h5:=h4.2;rw [Bool.and_eq_true] at h5;exact inR_true.1 h5.2
 ·rename_i h4;rw [if_neg h4] at h;cases h
theorem readEntry_size (s : ByteArray) : (readEntry s).2.2.2.1.size ≤ s.size := by
 have hz : (noEntry).2.2.2.1.size ≤ s.size:=Nat.zero_le _
 unfold readEntry
 split
 ·exact hz
 split
 ·exact hz
 split
 ·exact hz
 split
 ·simp only [ByteArray.size_extract];omega
 ·exact hz
def logStep (n : Nat) (st te : Int) (es : List S69) (c : ByteArray) : Option (Int × Int × List S69) :=
 match startOf c with
 | some (a,b) => some (a,b,[])
 | none => if (readEntry c).2.2.2.2 = true ∧ n ≠ 0 ∧ inR ((readEntry c).1 - st) 1 ((es.length : Int) + 1) = true then some (st,te,es.take ((readEntry c).1 - st - 1).toNat ++ [⟨(readEntry c).2.1,(readEntry c).2.2.1,(readEntry c).2.2.2.1⟩]) else none
def logSteps : Nat → Int → Int → List S69 → List ByteArray → Option (Int × Int × List S69)
 | _,st,te,es,[] => some (st,te,es)
 | n,st,te,es,c :: t => match logStep n st te es c with
  | none => none
  | some (a,b,es') => logSteps (n + 1) a b es' t
def noLog : Int × Int × List S69 × Int × Bool := (0, 0, [], 0, false)
def logEnd (m : Nat) (place : Int) : Option (Int × Int × List S69) → Int × Int × List S69 × Int × Bool
 | none => noLog
 | some (st,te,es) => if m = 0 then noLog else if logOk st te es = true then (st,te,es,place,true) else noLog
def readLog (s : ByteArray) : Int × Int × List S69 × Int × Bool := logEnd (unframe s).1.length (unframe s).2 (logSteps 0 0 0 [] (unframe s).1)
theorem rdOf_drop {xs : List ByteArray} {n : Nat} {x : ByteArray} {t : List ByteArray} (h : xs.drop n = x :: t) : rdOf ByteArray.empty xs (n : Int) = x := by
 rw [rdOf,Int.toNat_natCast];exact (drop_cons h).2.1 _
theorem spec_ReadLog_loop (X : List ByteArray) (hX : X.length ≤ 20000) (hc : ∀ c ∈ X, c.size ≤ 9000) (p : Int) : ∀ (rest : List ByteArray) (n : Nat) (st te : Int) (es : List S69), X.drop n = rest → n ≤ X.length → es.length ≤ n → (∀ x ∈ es, x.f2.size ≤ 9000) → 0 ≤ st → st ≤ 1000000000 →
  Ev (fun k => spec_ReadLog.l0 k X p (n : Int) st te es) (logEnd X.length p (logSteps n st te es rest)):=by
 intro rest
 induction rest with
 | nil =>
  intro n st te es h hnX hl hd h0 h1;have:=drop_nil h;refine Ev.step (fun _ => rfl) ?_;simp only [spec_ReadLog.l0];rw [logSteps,logEnd];refine Ev.neg (by omega) (Ev.ite (fun hz => Ev.done ?_) (fun hz => Ev.bind (spec_LogOk_ev st te es (by omega) (fun x hx => by have:=hd x hx;omega)) ?_))
  ·rw [if_pos (show X.length = 0 by omega)];rfl
  ·rw [if_neg (show ¬ X.length = 0 by omega)]
   cases logOk st te es
   ·exact Ev.neg (by simp) (Ev.done (by simp [noLog]))
   ·exact Ev.pos rfl (Ev.done (by simp))
 | cons c t ih =>
  intro n st te es h hnX hl hd h0 h1;obtain ⟨hn,-,h3⟩:=drop_cons h;have hm : c ∈ X:=List.mem_of_mem_drop (h ▸ List.mem_cons_self);have hcs:=hc c hm;refine Ev.step (fun _ => rfl) ?_;simp only [spec_ReadLog.l0,rdOf_drop h,wrap64_succ (show n ≤ 9223372036854775806 by omega)];obtain ⟨r,er,hr⟩:=spec_l12Start_ev c (by omega);refine Ev.pos (by omega) (Ev.pos (by omega) (Ev.bind er ?_));rw [logSteps,logStep]
  rcases hr with ⟨a,b,hs,rfl⟩|⟨hs,hf⟩
  ·have hb:=startOf_bounds hs;rw [hs];exact Ev.pos rfl (ih (n + 1) a b [] h3 (by omega) (by simp) (fun x hx => by cases hx) hb.1.1 hb.1.2)
  ·rw [hs];refine Ev.neg (by simp [hf]) (Ev.bind (spec_ReadEntry_ev c (by omega)) ?_)
   simp only
   by_cases hn0 : n = 0
   ·rw [if_neg (fun e => e.2.1 hn0)];exact Ev.pos (by omega) (Ev.done rfl)
   refine Ev.neg (by omega) ?_
   cases hk : (readEntry c).2.2.2.2
   ·rw [if_neg (fun e => by simp at e)];exact Ev.neg (by simp) (Ev.done rfl)
   have hg:=readEntry_good hk;have hz:=readEntry_size c;have w1 : wrap64 (st + (es.length : Int)) = st + (es.length : Int):=wrap64_id (by omega) (by omega);have w2 : wrap64 (st + (es.length : Int) + 1) = st + (es.length : Int) + 1:=wrap64_id (by omega) (by omega);refine Ev.pos rfl (Ev.ite (fun h4 => ?_) (fun h4 => Ev.call (a:=st + (es.length : Int)) (by rw [spec_l12Last.f,w1]) ?_))
   ·rw [if_neg (fun e => by have:=inR_true.1 e.2.2;omega)];exact Ev.done rfl
   rw [w2];refine Ev.ite (fun h5 => ?_) (fun h5 => ?_)
   ·rw [if_neg (fun e => by have:=inR_true.1 e.2.2;omega)];exact Ev.done rfl
   rw [if_pos ⟨rfl,hn0,inR_true.2 (by omega)⟩];have w3 : wrap64 ((readEntry c).1 - st) = (readEntry c).1 - st:=wrap64_id (by omega) (by omega);have w4 : wrap64 ((readEntry c).1 - st - 1) = (readEntry c).1 - st - 1:=wrap64_id (by omega) (by omega);rw [w3,w4];refine Ev.call rfl (Ev.pos (by omega) (Ev.pos (by omega) (Ev.call rfl (Ev.pos (by simp;omega) (Ev.call rfl (Ev.call rfl (Ev.pos (by simp;omega) ?_)))))));simp only [List.nil_append];refine ih (n + 1) st te _ h3 (by omega) (by simp;omega) ?_ h0 h1;intro x hx
   rcases List.mem_append.1 hx with hx|hx
   ·exact hd x (List.mem_of_mem_take hx)
   ·rw [List.mem_singleton] at hx;rw [hx];show (readEntry c).2.2.2.1.size ≤ 9000;omega
theorem spec_ReadLog_ev (s : ByteArray) : Ev (fun k => spec_ReadLog.f k s) (readLog s) := by
 unfold spec_ReadLog.f readLog
 obtain ⟨b1,b2⟩:=unframe_bounds s;exact Ev.bind (spec_Unframe_ev s) (spec_ReadLog_loop _ b1 b2 _ _ 0 0 0 [] rfl (by omega) (by simp) (fun x hx => by cases hx) (by omega) (by omega))
theorem logSteps_len : ∀ (rest : List ByteArray) (n : Nat) (st te : Int) (es : List S69), es.length ≤ n → ∀ a b es', logSteps n st te es rest = some (a, b, es') → es'.length ≤ n + rest.length
 | [],n,st,te,es,hl,a,b,es',h => by
  rw [logSteps] at h;simp only [Option.some.injEq,Prod.mk.injEq] at h;obtain ⟨-,-,rfl⟩:=h
  simpa using hl
 | c :: t,n,st,te,es,hl,a,b,es',h => by
  rw [logSteps] at h
  cases hs : logStep n st te es c with
  | none => rw [hs] at h;cases h
  | some x =>
   obtain ⟨a1,b1,e1⟩:=x;rw [hs] at h
   have h1 : e1.length ≤ n + 1:=by
    unfold logStep at hs
    split at hs
    ·simp only [Option.some.injEq,Prod.mk.injEq] at hs;obtain ⟨-,-,rfl⟩:=hs
     simp
    ·split at hs
     ·simp only [Option.some.injEq,Prod.mk.injEq] at hs;obtain ⟨-,-,rfl⟩:=hs
      simp;omega
     ·cases hs
   have:=logSteps_len t (n + 1) a1 b1 e1 h1 a b es' h;rw [List.length_cons];omega
theorem readLog_len (s : ByteArray) : (readLog s).2.2.1.length ≤ 20000 := by
 unfold readLog
 obtain ⟨b1,b2⟩:=unframe_bounds s
 cases hs : logSteps 0 0 0 [] (unframe s).1 with
 | none => simp [logEnd,noLog]
 | some x =>
  obtain ⟨a,b,es⟩:=x;have:=logSteps_len _ 0 0 0 [] (by simp) a b es hs
  unfold logEnd
  split
  ·simp [noLog]
  ·rename_i h
   simp only [Option.some.injEq,Prod.mk.injEq] at h;obtain ⟨rfl,rfl,rfl⟩:=h
   split
   ·simp [noLog]
   split
   ·show es.length ≤ 20000;omega
   ·simp [noLog]
theorem impl_ReadLog_loop (X : List ByteArray) (hX : X.length ≤ 20000) (hc : ∀ c ∈ X, c.size ≤ 9000) (p : Int) : ∀ (rest : List ByteArray) (n : Nat) (st te : Int) (es : List S69), X.drop n = rest → n ≤ X.length → es.length ≤ n → (∀ x ∈ es, x.f2.size ≤ 9000) → 0 ≤ st → st ≤ 1000000000 →
  Ev (fun k => impl_ReadLog.l0 k X p X (X.length : Int) (n : Int) st te es) (logEnd X.length p (logSteps n st te es rest)):=by
 intro rest
 induction rest with
 | nil =>
  intro n st te es h hnX hl hd h0 h1;have:=drop_nil h;refine Ev.step (fun _ => rfl) ?_;simp only [impl_ReadLog.l0];rw [logSteps,logEnd];refine Ev.neg (by omega) (Ev.ite (fun hz => Ev.done ?_) (fun hz => Ev.bind (impl_LogOk_ev st te es (by omega) (fun x hx => by have:=hd x hx;omega)) ?_))
  ·rw [if_pos (show X.length = 0 by omega)];rfl
  ·rw [if_neg (show ¬ X.length = 0 by omega)]
   cases logOk st te es
   ·exact Ev.neg (by simp) (Ev.done (by simp [noLog]))
   ·exact Ev.pos rfl (Ev.done (by simp))
 | cons c t ih =>
  intro n st te es h hnX hl hd h0 h1;obtain ⟨hn,-,h3⟩:=drop_cons h;have hm : c ∈ X:=List.mem_of_mem_drop (h ▸ List.mem_cons_self);have hcs:=hc c hm;refine Ev.step (fun _ => rfl) ?_;simp only [impl_ReadLog.l0,rdOf_drop h,wrap64_succ (show n ≤ 9223372036854775806 by omega)];obtain ⟨r,er,hr⟩:=impl_readStart_ev c (by omega);refine Ev.pos (by omega) (Ev.pos (by omega) (Ev.pos (by omega) (Ev.bind er ?_)));rw [logSteps,logStep]
  rcases hr with ⟨a,b,hs,rfl⟩|⟨hs,hf⟩
  ·have hb:=startOf_bounds hs;rw [hs];exact Ev.pos rfl (ih (n + 1) a b [] h3 (by omega) (by simp) (fun x hx => by cases hx) hb.1.1 hb.1.2)
  ·rw [hs];refine Ev.neg (by simp [hf]) (Ev.bind (impl_ReadEntry_ev c (by omega)) ?_)
   simp only
   cases hk : (readEntry c).2.2.2.2
   ·rw [if_neg (fun e => by simp at e)];exact Ev.neg (by simp) (Ev.done rfl)
   have hg:=readEntry_good hk;have hz:=readEntry_size c;refine Ev.pos rfl ?_
   by_cases hn0 : n = 0
   ·rw [if_neg (fun e => e.2.1 hn0)];exact Ev.pos (by omega) (Ev.done rfl)
   have w3 : wrap64 ((readEntry c).1 - st) = (readEntry c).1 - st:=wrap64_id (by omega) (by omega);have w4 : wrap64 ((readEntry c).1 - st - 1) = (readEntry c).1 - st - 1:=wrap64_id (by omega) (by omega);have w5 : wrap64 ((es.length : Int) + 1) = (es.length : Int) + 1:=wrap64_id (by omega) (by omega);rw [w3,w4,w5];refine Ev.neg (by omega) (Ev.call (impl_within_eq _ _ _) ?_)
   cases hi : inR ((readEntry c).1 - st) 1 ((es.length : Int) + 1)
   ·rw [if_neg (fun e => by simp at e)];exact Ev.neg (by simp) (Ev.done rfl)
   have hi':=inR_true.1 hi;rw [if_pos ⟨rfl,hn0,rfl⟩];refine Ev.pos rfl (Ev.pos (by omega) (Ev.pos (by omega) (Ev.call rfl (Ev.pos (by simp;omega) ?_))));refine ih (n + 1) st te _ h3 (by omega) (by simp;omega) ?_ h0 h1;intro x hx
   rcases List.mem_append.1 hx with hx|hx
   ·exact hd x (List.mem_of_mem_take hx)
   ·rw [List.mem_singleton] at hx;rw [hx];show (readEntry c).2.2.2.1.size ≤ 9000;omega
theorem impl_Unframe_loop' (s : ByteArray) (hs : s.size ≤ 20000) : ∀ (m : Nat) (acc : List ByteArray) (a : Int), 0 ≤ a → a ≤ s.size → (acc.length : Int) ≤ a → (s.size : Int) - a < m → Ev (fun k => impl_Unframe.l0 k s acc a) (unfr s m acc a) := by
 intro m
 induction m with
 | zero => intro acc a h0 h1 h2 h3;omega
 | succ m ih =>
  intro acc a h0 h1 h2 h3;refine Ev.step (fun _ => rfl) ?_;simp only [impl_Unframe.l0];rw [unfr];refine Ev.bind (impl_ReadVar_ev s a (by omega)) ?_
  cases hb : (readVar s a).2.2
  ·have e : unfStep s a = none:=by rw [unfStep,if_pos hb]
   refine Ev.neg (by simp) (Ev.step (fun _ => rfl) ?_);simp only [impl_Unframe.j1,e];exact Ev.pos trivial (Ev.now _)
  ·obtain ⟨p1,p2,p3,p4,p5,p6,-,-⟩:=readVar_true (readVar_res hb)
   have es : wrap64 (wrap64 ((s.size : Int) - (readVar s a).2.1) - 4) = s.size - (readVar s a).2.1 - 4:=by
    rw [wrap64_id (n:=(s.size : Int) - (readVar s a).2.1) (by omega) (by omega),wrap64_id (by omega) (by omega)]
   have e4 : wrap64 ((readVar s a).2.1 + 4) = (readVar s a).2.1 + 4:=wrap64_id (by omega) (by omega);have eb : wrap64 ((readVar s a).2.1 + 4 + (readVar s a).1) = (readVar s a).2.1 + 4 + (readVar s a).1:=wrap64_id (by omega) (by omega);refine Ev.pos rfl (Ev.step (fun _ => rfl) ?_);simp only [impl_Unframe.j1,es,e4,eb]
   by_cases h4 : (readVar s a).1 > (s.size : Int) - (readVar s a).2.1 - 4
   ·have e : unfStep s a = none:=by rw [unfStep,if_neg (by simp [hb]),if_pos h4]
    rw [e];exact Ev.pos (decide_eq_true h4) (Ev.now _)
   ·refine Ev.neg (by simp;omega) (Ev.pos (by omega) (Ev.pos (by omega) (Ev.pos (by omega) (Ev.bind (impl_Frame_ev _ (by rw [ByteArray.size_extract];omega)) (Ev.ite (fun h5 => Ev.pos (by omega) (Ev.pos (by omega) (Ev.ite (fun h6 => Ev.pos (by omega) ?_) (fun h6 => ?_)))) (fun h5 => ?_))))))
    ·have e : unfStep s a = some (s.extract ((readVar s a).2.1 + 4).toNat ((readVar s a).2.1 + 4 + (readVar s a).1).toNat,(readVar s a).2.1 + 4 + (readVar s a).1):=by
      rw [unfStep,if_neg (by simp [hb]),if_neg h4,if_pos ⟨h5,toList_inj.1 h6⟩]
     rw [e];exact ih _ _ (by omega) (by omega) (by simp only [List.length_append,List.length_singleton];omega) (by omega)
    ·have e : unfStep s a = none:=by rw [unfStep,if_neg (by simp [hb]),if_neg h4,if_neg (fun e => h6 (toList_inj.2 e.2))]
     rw [e];exact Ev.now _
    ·have e : unfStep s a = none:=by rw [unfStep,if_neg (by simp [hb]),if_neg h4,if_neg (fun e => h5 e.1)]
     rw [e];exact Ev.now _
theorem impl_Unframe_ev' (s : ByteArray) : Ev (fun k => impl_Unframe.f k s) (unframe s) := by
 unfold impl_Unframe.f unframe
 refine Ev.ite (fun hc => Ev.done ?_) (fun hc => ?_)
 ·rw [if_pos (show s.size > 20000 by omega)]
 ·rw [if_neg (show ¬ s.size > 20000 by omega)];exact impl_Unframe_loop' s (by omega) _ [] 0 (by omega) (by omega) (by simp) (by omega)
theorem impl_ReadLog_ev (s : ByteArray) : Ev (fun k => impl_ReadLog.f k s) (readLog s) := by
 unfold impl_ReadLog.f readLog
 obtain ⟨b1,b2⟩:=unframe_bounds s;exact Ev.bind (impl_Unframe_ev' s) (impl_ReadLog_loop _ b1 b2 _ _ 0 0 0 [] rfl (by omega) (by simp) (fun x hx => by cases hx) (by omega) (by omega))
def entEq (x y : S69) : Bool := x.f0 == y.f0 && (x.f1 == y.f1 && x.f2.toList == y.f2.toList)
def entsEq : List S69 → List S69 → Bool
 | [],[] => true
 | x :: a,y :: b => entEq x y && entsEq a b
 | _,_ => false
def logSame (a0 a1 : Int) (a : List S69) (b0 b1 : Int) (b : List S69) : Bool := decide (a0 = b0) && (decide (a1 = b1) && entsEq a b)
theorem entEq_not (x y : S69) : (!(x.f0 == y.f0) || (!(x.f1 == y.f1) || !(x.f2.toList == y.f2.toList))) = !entEq x y := by
 unfold entEq;cases x.f0 == y.f0 <;> cases x.f1 == y.f1 <;> cases x.f2.toList == y.f2.toList <;> rfl
theorem entsEq_len : ∀ {a b : List S69}, a.length ≠ b.length → entsEq a b = false
 | [],[],h => absurd rfl h
 | [],_ :: _,_ => rfl
 | _ :: _,[],_ => rfl
 | x :: a,y :: b,h => by rw [entsEq,entsEq_len (a:=a) (b:=b) (by simpa using h),Bool.and_false]
theorem spec_l12Same_loop (a0 a1 : Int) (a : List S69) (b0 b1 : Int) (b : List S69) (hl : a.length ≤ 1048576) (he : a.length = b.length) : ∀ (r q : List S69) (n : Nat), a.drop n = r → b.drop n = q → Ev (fun k => spec_l12Same.l0 k (n : Int) a0 a1 a b0 b1 b) (entsEq r q) := by
 intro r
 induction r with
 | nil =>
  intro q n h1 h2;have:=drop_nil h1
  obtain rfl : q = []:=by rw [← h2];exact List.drop_of_length_le (by omega)
  refine Ev.step (fun _ => rfl) ?_;simp only [spec_l12Same.l0];exact Ev.neg (by omega) (Ev.done rfl)
 | cons x r ih =>
  intro q n h1 h2;obtain ⟨g1,-,g3⟩:=drop_cons h1
  cases q with
  | nil => have:=drop_nil h2;omega
  | cons y q =>
   obtain ⟨g4,-,g6⟩:=drop_cons h2;refine Ev.step (fun _ => rfl) ?_;simp only [spec_l12Same.l0,rdT69_drop h1,rdT69_drop h2,wrap64_succ (show n ≤ 9223372036854775806 by omega),entEq_not];refine Ev.pos (by omega) (Ev.pos (by omega) (Ev.pos (by omega) (Ev.ite (fun h => Ev.done ?_) (fun h => Ev.eq (ih q (n + 1) g3 g6) ?_))))
   ·rw [entsEq];simp at h;simp [h]
   ·rw [entsEq];simp at h;simp [h]
theorem spec_l12Same_ev (a0 a1 : Int) (a : List S69) (b0 b1 : Int) (b : List S69) (hl : a.length ≤ 1048576) : Ev (fun k => spec_l12Same.f k a0 a1 a b0 b1 b) (logSame a0 a1 a b0 b1 b) := by
 have bad : ∀ r,r = false → Ev (fun k => spec_l12Same.j0 k true a0 a1 a b0 b1 b) r:=by
  rintro r rfl;refine Ev.step (fun _ => rfl) ?_;simp only [spec_l12Same.j0];exact Ev.pos trivial (Ev.now _)
 unfold spec_l12Same.f logSame
 refine Ev.ite (fun h0 => Ev.ite (fun h1 => ?_) (fun h1 => bad _ (by simp [h1]))) (fun h0 => bad _ (by simp [h0]));rw [decide_eq_true h0,decide_eq_true h1,Bool.true_and,Bool.true_and]
 by_cases he : a.length = b.length
 ·rw [show (((a.length : Int)) != (b.length : Int)) = false by simp [he]];refine Ev.step (fun _ => rfl) ?_;simp only [spec_l12Same.j0];exact Ev.neg (by simp) (spec_l12Same_loop a0 a1 a b0 b1 b hl he a b 0 rfl rfl)
 ·rw [show (((a.length : Int)) != (b.length : Int)) = true by simp;omega];exact bad _ (entsEq_len he)
def samePre : List S69 → List S69 → Nat
 | x :: a,y :: b => if entEq x y = true then samePre a b + 1 else 0
 | _,_ => 0
def stepAdd (more : ByteArray) : List S126 := [⟨2, ⟨#[108, 111, 103]⟩, ⟨#[]⟩, more⟩]
def stepTwo (whole : ByteArray) : List S126 := [⟨1, ⟨#[108, 111, 103, 43]⟩, ⟨#[]⟩, whole⟩, ⟨3, ⟨#[108, 111, 103, 43]⟩, ⟨#[108, 111, 103]⟩, ⟨#[]⟩⟩]
def moreOf (s : Int) (b : List S69) (n : Nat) : ByteArray := strOfNums (logFrames [] (s + 1 + (n : Int)) (b.drop n))
def stepsAt (file whole : ByteArray) (a0 a1 b0 b1 : Int) (b : List S69) (n : Nat) : List S126 × Bool :=
 if a0 = b0 ∧ a1 = b1 ∧ n < b.length ∧ file.size + (moreOf b0 b n).size ≤ 20000 then (stepAdd (moreOf b0 b n),true) else (stepTwo whole,true)
def logStepsOf (file : ByteArray) (a0 a1 : Int) (a : List S69) (b0 b1 : Int) (b : List S69) : List S126 × Bool :=
 if (logOk a0 a1 a && ((logFile b0 b1 b).2 && ((readLog file).2.2.2.2 && (decide ((readLog file).2.2.2.1 = (file.size : Int)) && logSame (readLog file).1 (readLog file).2.1 (readLog file).2.2.1 a0 a1 a)))) = true then
  (if logSame a0 a1 a b0 b1 b = true then ([],true) else stepsAt file (logFile b0 b1 b).1 a0 a1 b0 b1 b (samePre a b))
 else ([],false)
theorem logFile_ok {s t : Int} {l : List S69} (h : (logFile s t l).2 = true) : logOk s t l = true := by
 unfold logFile at h
 by_cases hk : logOk s t l = true
 ·exact hk
 ·rw [if_neg hk] at h;cases h
theorem entEq_and (x y : S69) : (x.f0 == y.f0 && (x.f1 == y.f1 && x.f2.toList == y.f2.toList)) = entEq x y := rfl
theorem moreOf_size (s : Int) (b : List S69) (n : Nat) : (moreOf s b n).size ≤ 9009 * (b.length - n) := by
 have:=logFrames_length (b.drop n) [] (s + 1 + (n : Int));rw [List.length_drop,List.length_nil] at this
 unfold moreOf
 rw [strOfNums_size]
 omega
theorem spec_LogSteps_loop (file whole : ByteArray) (hf : file.size ≤ 1048576) (a0 a1 : Int) (a : List S69) (ha : a.length ≤ 120) (b0 b1 : Int) (b : List S69) (hb0 : 0 ≤ b0 ∧ b0 ≤ 100000) (hb : b.length ≤ 120) (hd : ∀ x ∈ b, x.f2.size ≤ 1048576) :
  ∀ (r q : List S69) (n : Nat),a.drop n = r → b.drop n = q → n ≤ a.length → n ≤ b.length → Ev (fun k => spec_LogSteps.l0 k file whole (n : Int) a0 a1 a b0 b1 b) (stepsAt file whole a0 a1 b0 b1 b (n + samePre r q)):=by
 have fr : ∀ n : Nat,Ev (fun k => spec_l12Frames.f k b0 b1 b (n : Int)) (moreOf b0 b n):=fun n =>
  spec_l12Frames_loop b0 b1 hb0 b (by omega) hd (b.drop n) n [] rfl (by rw [List.length_drop];simp;omega)
 have w : ∀ n : Nat,wrap64 ((file.size : Int) + ((moreOf b0 b n).size : Int)) = (file.size : Int) + ((moreOf b0 b n).size : Int):=fun n => by
  have:=moreOf_size b0 b n;exact wrap64_id (by omega) (by omega)
 intro r
 induction r with
 | nil =>
  intro q n h1 h2 h3 h4;have:=drop_nil h1;refine Ev.step (fun _ => rfl) ?_;simp only [spec_LogSteps.l0];rw [show samePre [] q = 0 by cases q <;> rfl,Nat.add_zero];refine Ev.neg (by omega) (Ev.bind (fr n) ?_);rw [w]
  unfold stepsAt
  refine Ev.ite (fun c0 => Ev.ite (fun c1 => Ev.ite (fun c2 => Ev.ite (fun c3 => Ev.done ?_) (fun c3 => Ev.done ?_)) (fun c2 => Ev.done ?_)) (fun c1 => Ev.done ?_)) (fun c0 => Ev.done ?_)
  ·rw [if_pos ⟨c0,c1,by omega,by omega⟩];rfl
  ·rw [if_neg (by omega)];rfl
  ·rw [if_neg (by omega)];rfl
  ·rw [if_neg (by omega)];rfl
  ·rw [if_neg (by omega)];rfl
 | cons x r ih =>
  intro q n h1 h2 h3 h4;obtain ⟨g1,-,g3⟩:=drop_cons h1;refine Ev.step (fun _ => rfl) ?_
  cases q with
  | nil =>
   have:=drop_nil h2;simp only [spec_LogSteps.l0];rw [show samePre (x :: r) [] = 0 from rfl,Nat.add_zero];refine Ev.pos (by omega) (Ev.neg (by omega) (Ev.bind (fr n) ?_))
   unfold stepsAt
   refine Ev.ite (fun c0 => Ev.ite (fun c1 => Ev.done ?_) (fun c1 => Ev.done ?_)) (fun c0 => Ev.done ?_)
   ·rw [if_neg (by omega)];rfl
   ·rw [if_neg (by omega)];rfl
   ·rw [if_neg (by omega)];rfl
  | cons y q =>
   obtain ⟨g4,-,g6⟩:=drop_cons h2;simp only [spec_LogSteps.l0,rdT69_drop h1,rdT69_drop h2,wrap64_succ (show n ≤ 9223372036854775806 by omega),entEq_and];refine Ev.pos (by omega) (Ev.pos (by omega) (Ev.pos (by omega) (Ev.ite (fun h => Ev.eq (ih q (n + 1) g3 g6 (by omega) (by omega)) ?_) (fun h => Ev.bind (fr n) ?_))))
   ·rw [samePre,if_pos h];congr 1;omega
   ·rw [samePre,if_neg h,Nat.add_zero,w]
    unfold stepsAt
    refine Ev.ite (fun c0 => Ev.ite (fun c1 => Ev.ite (fun c3 => Ev.done ?_) (fun c3 => Ev.done ?_)) (fun c1 => Ev.done ?_)) (fun c0 => Ev.done ?_)
    ·rw [if_pos ⟨c0,c1,by omega,by omega⟩];rfl
    ·rw [if_neg (by omega)];rfl
    ·rw [if_neg (by omega)];rfl
    ·rw [if_neg (by omega)];rfl
theorem spec_LogSteps_ev (file : ByteArray) (hf : file.size ≤ 1048576) (a0 a1 : Int) (a : List S69) (ha : a.length ≤ 1048576) (hda : ∀ x ∈ a, x.f2.size ≤ 1048576) (b0 b1 : Int) (b : List S69) (hb : b.length ≤ 1048576) (hd : ∀ x ∈ b, x.f2.size ≤ 1048576) :
  Ev (fun k => spec_LogSteps.f k file a0 a1 a b0 b1 b) (logStepsOf file a0 a1 a b0 b1 b):=by
 have bad : ∀ r,r = ([],false) → Ev (fun k => spec_LogSteps.j0 k file [] (logFile b0 b1 b).1 true a0 a1 a b0 b1 b) r:=by
  rintro r rfl;refine Ev.step (fun _ => rfl) ?_;simp only [spec_LogSteps.j0];exact Ev.pos trivial (Ev.now _)
 have hr:=readLog_len file
 unfold spec_LogSteps.f logStepsOf
 refine Ev.call rfl (Ev.bind (spec_ReadLog_ev file) (Ev.bind (spec_LogFile_ev b0 b1 b hb hd) (Ev.bind (spec_LogOk_ev a0 a1 a ha hda) ?_)));refine Ev.ite (fun c1 => Ev.ite (fun c2 => Ev.ite (fun c3 => Ev.ite (fun c4 => Ev.bind (spec_l12Same_ev _ _ _ _ _ _ (by omega)) ?_) (fun c4 => bad _ ?_)) (fun c3 => bad _ ?_)) (fun c2 => bad _ ?_)) (fun c1 => bad _ ?_)
 ·rw [c1,c2,c3,decide_eq_true c4]
  cases c5 : logSame (readLog file).1 (readLog file).2.1 (readLog file).2.2.1 a0 a1 a
  ·exact bad _ (by simp)
  obtain ⟨e1,e2,e3,e4⟩:=logOk_bounds c1;obtain ⟨f1,f2,f3,f4⟩:=logOk_bounds (logFile_ok c2);refine Ev.step (fun _ => rfl) ?_;simp only [spec_LogSteps.j0,Bool.not_true,Bool.and_true,if_true];refine Ev.neg (by simp) (Ev.bind (spec_l12Same_ev a0 a1 a b0 b1 b ha) (Ev.ite (fun c6 => Ev.done (by rw [if_pos c6])) (fun c6 => ?_)));rw [if_neg c6];have:=spec_LogSteps_loop file (logFile b0 b1 b).1 hf a0 a1 a e3 b0 b1 b f1 f3 hd a b 0 rfl rfl (Nat.zero_le _) (Nat.zero_le _);rw [Nat.zero_add] at this;exact this
 ·rw [decide_eq_false c4,if_neg (by simp)]
 ·rw [Bool.eq_false_iff.2 c3,if_neg (by simp)]
 ·rw [Bool.eq_false_iff.2 c2,if_neg (by simp)]
 ·rw [Bool.eq_false_iff.2 c1,if_neg (by simp)]
theorem impl_Entry_loop (a b : List S69) (hl : a.length ≤ 1048576) (he : a.length = b.length) : ∀ (r q : List S69) (n : Nat), a.drop n = r → b.drop n = q → Ev (fun k => impl_Entry.l0 k a b (a.length : Int) (n : Int)) (entsEq r q) := by
 intro r
 induction r with
 | nil =>
  intro q n h1 h2;have:=drop_nil h1
  obtain rfl : q = []:=by rw [← h2];exact List.drop_of_length_le (by omega)
  refine Ev.step (fun _ => rfl) ?_;simp only [impl_Entry.l0];exact Ev.neg (by omega) (Ev.done rfl)
 | cons x r ih =>
  intro q n h1 h2;obtain ⟨g1,-,g3⟩:=drop_cons h1
  cases q with
  | nil => have:=drop_nil h2;omega
  | cons y q =>
   obtain ⟨g4,-,g6⟩:=drop_cons h2;refine Ev.step (fun _ => rfl) ?_;simp only [impl_Entry.l0,rdT69_drop h1,rdT69_drop h2,wrap64_succ (show n ≤ 9223372036854775806 by omega),entEq_not];refine Ev.pos (by omega) (Ev.pos (by omega) (Ev.pos (by omega) (Ev.pos (by omega) (Ev.ite (fun h => Ev.done ?_) (fun h => Ev.eq (ih q (n + 1) g3 g6) ?_)))))
   ·rw [entsEq];simp at h;simp [h]
   ·rw [entsEq];simp at h;simp [h]
theorem impl_Entry_ev (a b : List S69) (hl : a.length ≤ 1048576) : Ev (fun k => impl_Entry.f k a b) (entsEq a b) := by
 unfold impl_Entry.f
 by_cases he : a.length = b.length
 ·exact Ev.pos (by omega) (impl_Entry_loop a b hl he a b 0 rfl rfl)
 ·exact Ev.neg (by omega) (Ev.done (entsEq_len he).symm)
theorem impl_sameLog_ev (a0 a1 : Int) (a : List S69) (b0 b1 : Int) (b : List S69) (hl : a.length ≤ 1048576) : Ev (fun k => impl_sameLog.f k a0 a1 a b0 b1 b) (logSame a0 a1 a b0 b1 b) := by
 unfold impl_sameLog.f logSame
 refine Ev.ite (fun h0 => Ev.ite (fun h1 => Ev.bind (impl_Entry_ev a b hl) (Ev.done (by simp [h0,h1]))) (fun h1 => Ev.done (by simp [h1]))) (fun h0 => Ev.done (by simp [h0]))
theorem logFrames_acc : ∀ (l : List S69) (acc : List Int) (i : Int), acc.length ≤ (logFrames acc i l).length
 | [],acc,i => by simp [logFrames]
 | x :: t,acc,i => by
  have:=logFrames_acc t (acc ++ bytesOf (frame (entryText i x.f0 x.f1 x.f2).1).1) (i + 1);rw [logFrames];rw [List.length_append] at this
  omega
theorem moreOf_some {s t : Int} {b : List S69} {n : Nat} (hk : logOk s t b = true) (hn : n < b.length) : (moreOf s b n).size ≠ 0 := by
 obtain ⟨f1,f2,f3,f4⟩:=logOk_bounds hk
 have hes : entriesOk t b = true:=by unfold logOk at hk;simp only [Bool.and_eq_true] at hk;exact hk.2.2.2.2
 obtain ⟨x,r,hx⟩ : ∃ x r,b.drop n = x :: r:=by
  cases h : b.drop n with
  | nil => have:=drop_nil h;omega
  | cons x r => exact ⟨x,r,rfl⟩
 have hm : x ∈ b:=List.mem_of_mem_drop (hx ▸ List.mem_cons_self);have hxe : entryOk x.f0 x.f1 x.f2 = true:=(entriesOk_mem hes x hm).1
 unfold moreOf
 rw [hx,logFrames,strOfNums_size];have h1:=logFrames_acc r ([] ++ bytesOf (frame (entryText (s + 1 + (n : Int)) x.f0 x.f1 x.f2).1).1) (s + 1 + (n : Int) + 1);rw [List.nil_append,bytesOf_length] at h1
 have h2 : 1 ≤ (frame (entryText (s + 1 + (n : Int)) x.f0 x.f1 x.f2).1).1.size:=by
  have z:=entryText_size (s + 1 + (n : Int)) x.f0 x.f1 x.f2;have z2:=entryOk_size hxe
  have z3 : 1 ≤ (entryText (s + 1 + (n : Int)) x.f0 x.f1 x.f2).1.size:=by
   unfold entryText
   rw [if_pos (by rw [hxe,inR_true.2 ⟨by omega,by omega⟩];rfl)];simp only [size_append];have : (⟨#[69]⟩ : ByteArray).size = 1:=rfl
   omega
  unfold frame
  rw [if_pos (inR_true.2 ⟨by omega,by omega⟩)];simp only [size_append]
  omega
 simp only [List.nil_append]
 omega
theorem impl_LogSteps_loop (file whole : ByteArray) (hf : file.size ≤ 1048576) (a0 a1 : Int) (a : List S69) (ha : a.length ≤ 120) (b : List S69) (hk : logOk a0 a1 b = true) (hd : ∀ x ∈ b, x.f2.size ≤ 1048576) :
  ∀ (r q : List S69) (n : Nat),a.drop n = r → b.drop n = q → n ≤ a.length → n ≤ b.length → Ev (fun k => impl_LogSteps.l0 k file whole (n : Int) a0 a1 a a0 a1 b) (stepsAt file whole a0 a1 a0 a1 b (n + samePre r q)):=by
 obtain ⟨hb0,-,hb,-⟩:=logOk_bounds hk
 have fr : ∀ n : Nat,Ev (fun k => impl_entryFrames.f k a0 a1 b (n : Int)) (moreOf a0 b n):=fun n =>
  impl_entryFrames_loop a0 a1 hb0 b (by omega) hd (b.drop n) n [] rfl (by rw [List.length_drop];simp;omega)
 have w : ∀ n : Nat,wrap64 ((file.size : Int) + ((moreOf a0 b n).size : Int)) = (file.size : Int) + ((moreOf a0 b n).size : Int):=fun n => by
  have:=moreOf_size a0 b n;exact wrap64_id (by omega) (by omega)
 have fin : ∀ n : Nat,n ≤ b.length → Ev (fun k => (impl_entryFrames.f k a0 a1 b (n : Int)).bind fun t => if t.toList = ([] : List UInt8) then some (stepTwo whole,true) else if (wrap64 ((file.size : Int) + (t.size : Int))) ≤ 20000 then some (stepAdd t,true) else some (stepTwo whole,true)) (stepsAt file whole a0 a1 a0 a1 b n):=by
  intro n hn;refine Ev.bind (fr n) ?_;rw [w]
  unfold stepsAt
  refine Ev.ite (fun c => Ev.done ?_) (fun c => Ev.ite (fun c3 => Ev.done ?_) (fun c3 => Ev.done ?_))
  ·have : (moreOf a0 b n).size = 0:=toList_nil.1 c;rw [if_neg];rintro ⟨-,-,h,-⟩;exact moreOf_some hk h this
  ·have hlt : n < b.length:=by
    rcases Nat.lt_or_ge n b.length with h|h
    ·exact h
    ·exfalso
     have:=moreOf_size a0 b n;exact c (toList_nil.2 (by omega))
   rw [if_pos ⟨rfl,rfl,hlt,by omega⟩]
  ·rw [if_neg (by omega)]
 intro r
 induction r with
 | nil =>
  intro q n h1 h2 h3 h4;have:=drop_nil h1;refine Ev.step (fun _ => rfl) ?_;simp only [impl_LogSteps.l0];rw [show samePre [] q = 0 by cases q <;> rfl,Nat.add_zero];exact Ev.neg (by unfold mn;omega) (fin n h4)
 | cons x r ih =>
  intro q n h1 h2 h3 h4;obtain ⟨g1,-,g3⟩:=drop_cons h1;refine Ev.step (fun _ => rfl) ?_
  cases q with
  | nil =>
   have:=drop_nil h2;simp only [impl_LogSteps.l0];rw [show samePre (x :: r) [] = 0 from rfl,Nat.add_zero];exact Ev.neg (by unfold mn;omega) (fin n h4)
  | cons y q =>
   obtain ⟨g4,-,g6⟩:=drop_cons h2;simp only [impl_LogSteps.l0,rdT69_drop h1,rdT69_drop h2,wrap64_succ (show n ≤ 9223372036854775806 by omega),entEq_and];refine Ev.pos (by unfold mn;omega) (Ev.pos (by omega) (Ev.pos (by omega) (Ev.pos (by omega) (Ev.ite (fun h => Ev.eq (ih q (n + 1) g3 g6 (by omega) (by omega)) ?_) (fun h => Ev.eq (fin n h4) ?_)))))
   ·rw [samePre,if_pos h];congr 1;omega
   ·rw [samePre,if_neg h,Nat.add_zero]
theorem impl_LogSteps_ev (file : ByteArray) (hf : file.size ≤ 1048576) (a0 a1 : Int) (a : List S69) (ha : a.length ≤ 1048576) (hda : ∀ x ∈ a, x.f2.size ≤ 1048576) (b0 b1 : Int) (b : List S69) (hb : b.length ≤ 1048576) (hd : ∀ x ∈ b, x.f2.size ≤ 1048576) :
  Ev (fun k => impl_LogSteps.f k file a0 a1 a b0 b1 b) (logStepsOf file a0 a1 a b0 b1 b):=by
 have bad : ∀ r,r = ([],false) → Ev (fun k => impl_LogSteps.j0 k file (logFile b0 b1 b).1 true a0 a1 a b0 b1 b) r:=by
  rintro r rfl;refine Ev.step (fun _ => rfl) ?_;simp only [impl_LogSteps.j0];exact Ev.pos trivial (Ev.now _)
 have hr:=readLog_len file
 unfold impl_LogSteps.f logStepsOf
 refine Ev.bind (impl_ReadLog_ev file) (Ev.bind (impl_LogFile_ev b0 b1 b hb hd) (Ev.bind (impl_LogOk_ev a0 a1 a ha hda) ?_));refine Ev.ite (fun c1 => Ev.ite (fun c3 => Ev.ite (fun c4 => Ev.bind (impl_sameLog_ev _ _ _ _ _ _ (by omega)) (Ev.ite (fun c5 => ?_) (fun c5 => bad _ ?_))) (fun c4 => bad _ ?_)) (fun c3 => bad _ ?_)) (fun c1 => bad _ ?_)
 ·cases c2 : (logFile b0 b1 b).2
  ·exact bad _ (by simp)
  rw [c1,c3,decide_eq_true c4,c5];obtain ⟨e1,e2,e3,e4⟩:=logOk_bounds c1;have hk:=logFile_ok c2;refine Ev.step (fun _ => rfl) ?_;simp only [impl_LogSteps.j0,Bool.not_true,Bool.and_true,if_true];refine Ev.neg (by simp) (Ev.bind (impl_sameLog_ev a0 a1 a b0 b1 b ha) (Ev.ite (fun c6 => Ev.done (by rw [if_pos c6])) (fun c6 => ?_)));rw [if_neg c6]
  have two : ∀ n,¬ (a0 = b0 ∧ a1 = b1) → Ev (fun k => impl_LogSteps.j1 k file (logFile b0 b1 b).1 false a0 a1 a b0 b1 b) (stepsAt file (logFile b0 b1 b).1 a0 a1 b0 b1 b n):=by
   intro n h;refine Ev.step (fun _ => rfl) ?_;simp only [impl_LogSteps.j1];refine Ev.neg (by simp) (Ev.done ?_)
   unfold stepsAt
   rw [if_neg (fun h' => h ⟨h'.1,h'.2.1⟩)];rfl
  refine Ev.ite (fun c7 => ?_) (fun c7 => two _ (fun h => c7 h.1))
  by_cases c8 : a1 = b1
  ·subst c7 c8;rw [beq_self_eq_true];refine Ev.step (fun _ => rfl) ?_;simp only [impl_LogSteps.j1];have:=impl_LogSteps_loop file (logFile a0 a1 b).1 hf a0 a1 a e3 b hk hd a b 0 rfl rfl (Nat.zero_le _) (Nat.zero_le _);rw [Nat.zero_add] at this;exact Ev.pos trivial this
  ·rw [beq_eq_false_iff_ne.2 c8];exact two _ (fun h => c8 h.2)
 ·rw [Bool.eq_false_iff.2 c5,if_neg (by simp)]
 ·rw [decide_eq_false c4,if_neg (by simp)]
 ·rw [Bool.eq_false_iff.2 c3,if_neg (by simp)]
 ·rw [Bool.eq_false_iff.2 c1,if_neg (by simp)]
theorem logStepsOf_raws (file : ByteArray) (a0 a1 : Int) (a : List S69) (b0 b1 : Int) (b : List S69) : (logStepsOf file a0 a1 a b0 b1 b).1.length ≤ 2 := by
 unfold logStepsOf stepsAt
 split
 ·split
  ·simp
  ·split <;> simp [stepAdd,stepTwo]
 ·simp
theorem laws_szLog_from (a0 a1 : Int) (l : List S150) (hx : l.length ≤ 17592186044416) (hq : ∀ x ∈ l, x.f2.size ≤ 140737488351232) (c : Int) (h0 : 0 ≤ c) (h1 : c ≤ 1048576) :
  ∃ r,Ev (fun k => laws_szLog.f k a0 a1 l c) r ∧ (¬ r < 0 → r ≤ c ∧ l.length ≤ 1048576 ∧ ∀ x ∈ l,x.f2.size ≤ 1048576):=by
 unfold laws_szLog.f
 obtain ⟨r,hr,hb⟩:=laws_szEntryS_ev l hx hq c h0 h1
 by_cases hc : r < 0
 ·exact ⟨-1,Ev.bind hr (Ev.pos hc (Ev.now _)),by omega⟩
 ·refine ⟨r,Ev.bind hr (Ev.neg hc (Ev.now _)),fun _ => ?_⟩;have:=hb hc;refine ⟨by omega,by omega,fun x hx => ?_⟩;have h1:=sum_wtEntry hx;have h2 : wtEntry x = x.f2.size:=rfl
  omega
theorem laws_markLog_from (s t : Int) (l : List S69) (hl : l.length ≤ 1048576) (m : Int) (h0 : 0 ≤ m) (h1 : m ≤ 4294967296) : Ev (fun k => laws_markLog.f k s t l m) (m + 3 * (l.length : Int), markedEntry l m) :=
 Ev.bind (laws_markEntryS_ev l m h0 (by omega) (by omega)) (Ev.now _)
theorem FnExactLogSteps_q (file : ByteArray) (a0 a1 : Int) (l : List S150) (b0 b1 : Int) (m : List S150) (_ : file.size ≤ 140737488351232)
  (q : (Lit.int .i64 a0).wf = true ∧ (Lit.int .i64 a1).wf = true ∧ l.length * 32 ≤ 140737488351232 ∧ ∀ x ∈ l,(Lit.int .i64 x.f0).wf = true ∧ (Lit.int .i64 x.f1).wf = true ∧ x.f2.size ≤ 140737488351232)
  (q' : (Lit.int .i64 b0).wf = true ∧ (Lit.int .i64 b1).wf = true ∧ m.length * 32 ≤ 140737488351232 ∧ ∀ x ∈ m,(Lit.int .i64 x.f0).wf = true ∧ (Lit.int .i64 x.f1).wf = true ∧ x.f2.size ≤ 140737488351232) :
  ∃ k,laws_FnExactLogSteps.f k file a0 a1 l b0 b1 m = some true:=by
 apply Ev.rounds
 unfold laws_FnExactLogSteps.f
 refine Ev.ite (fun _ => Ev.now _) (fun hf => ?_);obtain ⟨r,hr,hb⟩:=laws_szLog_from a0 a1 l (by omega) (fun x hx => (q.2.2.2 x hx).2.2) 1048576 (by omega) (by omega);refine Ev.bind hr (Ev.ite (fun _ => Ev.now _) (fun hn => ?_));obtain ⟨hr1,hl,hd⟩:=hb hn;obtain ⟨r2,hr2,hb2⟩:=laws_szLog_from b0 b1 m (by omega) (fun x hx => (q'.2.2.2 x hx).2.2) r (by omega) hr1;refine Ev.bind hr2 (Ev.ite (fun _ => Ev.now _) (fun hn2 => ?_));obtain ⟨-,hl2,hd2⟩:=hb2 hn2
 have hm : (l.map toEntry).length ≤ 1048576:=by simpa using hl
 have hm2 : (m.map toEntry).length ≤ 1048576:=by simpa using hl2
 have hd' : ∀ x ∈ l.map toEntry,x.f2.size ≤ 1048576:=by
  intro x hx;obtain ⟨y,hy,rfl⟩:=List.mem_map.1 hx;exact hd y hy
 have hd2' : ∀ x ∈ m.map toEntry,x.f2.size ≤ 1048576:=by
  intro x hx;obtain ⟨y,hy,rfl⟩:=List.mem_map.1 hx;exact hd2 y hy
 have ht1:=laws_toLog_ev a0 a1 l hl;have ht2:=laws_toLog_ev b0 b1 m hl2;have eq1:=laws_eqLog_refl a0 a1 (l.map toEntry) (by omega);have eq2:=laws_eqLog_refl b0 b1 (m.map toEntry) (by omega);have hs:=spec_LogSteps_ev file (by omega) a0 a1 _ hm hd' b0 b1 _ hm2 hd2';have hi:=impl_LogSteps_ev file (by omega) a0 a1 _ hm hd' b0 b1 _ hm2 hd2';have n2:=logStepsOf_raws file a0 a1 (l.map toEntry) b0 b1 (m.map toEntry);obtain ⟨v,hv⟩ : ∃ v,logStepsOf file a0 a1 (l.map toEntry) b0 b1 (m.map toEntry) = v:=⟨_,rfl⟩;rw [hv] at hs hi n2;have eqv:=laws_eqRawS_refl v.1 (by omega);have hh:=laws_heldRawS_ev v.1 1 (by omega) (by omega) (by omega);refine Ev.bind ht1 (Ev.bind ht2 (Ev.bind hs (Ev.bind ht1 (Ev.bind ht2 (Ev.bind hi (Ev.bind eqv (Ev.pos rfl ?_)))))));refine Ev.step (fun _ => rfl) ?_;simp only [laws_FnExactLogSteps.j0];refine Ev.neg (by simp) (Ev.bind ht1 (Ev.bind eq1 (Ev.pos rfl (Ev.bind ht2 (Ev.bind eq2 (Ev.pos rfl (Ev.bind (laws_markLog_ev _ _ _ hm) (Ev.bind (laws_markLog_from _ _ _ hm2 _ (by dsimp only;omega) (by dsimp only;omega)) (Ev.neg (by dsimp only;omega) (Ev.bind eqv (Ev.pos rfl ?_)))))))))));refine Ev.step (fun _ => rfl) ?_;simp only [laws_FnExactLogSteps.j1];refine Ev.neg (by simp) (Ev.bind (laws_markRawS_ev v.1 1 (by omega) (by omega) (by omega)) (Ev.bind hh (Ev.neg (by omega) (Ev.pos rfl (Ev.bind ht1 (Ev.bind ht2 (Ev.bind hi (Ev.bind eqv (Ev.pos rfl ?_)))))))));refine Ev.step (fun _ => rfl) ?_;simp only [laws_FnExactLogSteps.j2];exact Ev.neg (by simp) (Ev.bind hh (Ev.neg (by omega) (Ev.pos rfl (Ev.now _))))
end Go.Proofs.Ytbcgnncbiblibaa.Pure
