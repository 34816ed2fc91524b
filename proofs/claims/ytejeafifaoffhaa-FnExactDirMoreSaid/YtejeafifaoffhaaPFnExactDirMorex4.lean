/- The contracts of the Go functions that this law reaches: what each call returns, by a plain Lean function of its arguments. No conditions but those each contract names. By the kit's print.py, run by this session's wip/gen/pp.py with facts and hand proofs beside it: not to the letter what print.sh prints. -/
import Derived.Test.YtejeafifaoffhaaPFnExactDirMorex0
import Derived.Test.YtejeafifaoffhaaPFnExactDirMorex1
import Derived.Test.YtejeafifaoffhaaPFnExactDirMorex3
namespace Go.Proofs.Ytejeafifaoffhaa.PFnExactDirMore
open Go.RowKit Go.Proofs.YtejeafifaoffhaaW.PrintWords Go.Proofs.YtejeafifaoffhaaW.PrintLast Go.Proofs.YtejeafifaoffhaaW.PrintMore
attribute [local go_sem] max2_int min2_int max_two min_two max_three min_three max_four min_four   -- for this text's walks alone
set_option linter.unusedVariables false
set_option linter.unusedSimpArgs false

section flat
variable {α : Type} {enc : α → List Value} {sz : Nat}
def flat (enc : α → List Value) : List α → List Value
  | [] => []
  | x :: r => enc x ++ flat enc r
theorem flat_len (h : ∀ x, (enc x).length = sz) (xs : List α) : (flat enc xs).length = xs.length * sz := by
  induction xs with
  | nil => simp [flat]
  | cons x r ih => simp [flat, ih, h, Nat.add_mul, Nat.add_comm]
theorem flat_app (a b : List α) : flat enc (a ++ b) = flat enc a ++ flat enc b := by
  induction a with
  | nil => simp [flat]
  | cons x r ih => simp [flat, ih]
theorem flat_take (h : ∀ x, (enc x).length = sz) (xs : List α) (i : Nat) (hi : i ≤ xs.length) : (flat enc xs).take (i * sz) = flat enc (xs.take i) := by
  have e : flat enc xs = flat enc (xs.take i) ++ flat enc (xs.drop i) := by rw [← flat_app, List.take_append_drop]
  have l : (flat enc (xs.take i)).length = i * sz := by rw [flat_len h, List.length_take, Nat.min_eq_left hi]
  rw [e, ← l, List.take_left]
theorem flat_drop (h : ∀ x, (enc x).length = sz) (xs : List α) (i : Nat) (hi : i ≤ xs.length) : (flat enc xs).drop (i * sz) = flat enc (xs.drop i) := by
  have e : flat enc xs = flat enc (xs.take i) ++ flat enc (xs.drop i) := by rw [← flat_app, List.take_append_drop]
  have l : (flat enc (xs.take i)).length = i * sz := by rw [flat_len h, List.length_take, Nat.min_eq_left hi]
  rw [e, ← l, List.drop_left]
theorem flat_one (h1 : ∀ x, ∀ u ∈ enc x, u.oneCell' = true) (xs : List α) : ∀ u ∈ flat enc xs, u.oneCell' = true := by
  induction xs with
  | nil => simp [flat]
  | cons x r ih =>
    intro u hu
    rcases List.mem_append.1 hu with hu | hu
    · exact h1 x u hu
    · exact ih u hu
theorem reps_flat {R : α → List Value → Prop} (h : ∀ x, (enc x).length = sz) (ho : ∀ x cs, R x cs → cs = enc x) : ∀ (xs : List α) (cs : List Value), Reps R sz xs cs → cs = flat enc xs
  | [], cs, hr => List.eq_nil_of_length_eq_zero (by simpa using hr.1)
  | x :: r, cs, hr => by
    have h0 := ho _ _ (hr.2 0 x rfl)
    simp only [Nat.zero_mul, List.drop_zero] at h0
    have hl := hr.1
    have ht : Reps R sz r (cs.drop sz) := by
      refine ⟨by rw [List.length_drop, hl, List.length_cons, Nat.add_mul, Nat.one_mul, Nat.add_sub_cancel], fun j p hj => ?_⟩
      have := hr.2 (j + 1) p (by simpa using hj)
      rw [List.drop_drop, show sz + j * sz = (j + 1) * sz by rw [Nat.add_mul, Nat.one_mul, Nat.add_comm]]
      exact this
    rw [flat, ← reps_flat h ho r _ ht, ← h0, List.take_append_drop]
theorem flat_reps {R : α → List Value → Prop} (h : ∀ x, (enc x).length = sz) (hm : ∀ x, R x (enc x)) (xs : List α) : Reps R sz xs (flat enc xs) := by
  refine ⟨flat_len h xs, fun j p hj => ?_⟩
  obtain ⟨hj1, hj2⟩ := List.getElem?_eq_some_iff.1 hj
  rw [flat_drop h xs j (by omega), List.drop_eq_getElem_cons hj1, hj2, flat, ← h p, List.take_left]
  exact hm p
end flat
/-- A kind whose elements lie in memory as cells alone, nothing behind them. -/
structure Flat {α : Type} (d : Kd α) (enc : α → List Value) : Prop where
  len : ∀ x, (enc x).length = d.sz
  pos : 0 < d.sz
  one : ∀ x, ∀ u ∈ enc x, u.oneCell' = true
  op : ∀ w base ok x cs, d.M w base ok x cs → cs = enc x
  mkk : ∀ w base ok x, d.M w base ok x (enc x)
/-- A row of the call's own, its cells in one list. -/
theorem R_open {α : Type} {d : Kd α} {enc : α → List Value} {e base : Nat} {W : World} {ok : Nat → Prop} {v : Value} {xs : List α} (F : Flat d enc) (h : d.R e W base ok v xs) :
    (∀ k, v.ownBlock = some k → ok k) ∧ W.ownsRow base e d.sz v xs.length (flat enc xs) := by
  obtain ⟨h0, inner, h1, h2⟩ := h
  exact ⟨h0, by rw [← reps_flat F.len (F.op _ _ _) xs inner h2]; exact h1⟩
theorem R_close {α : Type} {d : Kd α} {enc : α → List Value} {e base : Nat} {W : World} {ok : Nat → Prop} {v : Value} {xs : List α} (F : Flat d enc) (h0 : ∀ k, v.ownBlock = some k → ok k) (h1 : W.ownsRow base e d.sz v xs.length (flat enc xs)) : d.R e W base ok v xs :=
  ⟨h0, _, h1, flat_reps F.len (F.mkk _ _ _) xs⟩
/-- A row that is not empty: its block, known whole. -/
theorem own_blk {w : World} {base : Nat} {e : TypeId} {size n : Nat} {v : Value} {xs : List Value} (h : w.ownsRow base e size v n xs) (hn : 0 < n) :
    ∃ g cap cur, v = .slice (some ⟨g, 0, none⟩) n cap ∧ base ≤ g ∧ w.heap[g]? = some (.cells cur e (0, 0)) ∧ n ≤ cap ∧ cap ≤ maxLen ∧ cur.size = cap * size ∧ cur.toList.take (n * size) = xs := by
  rcases h.2 with ⟨_, h0⟩ | ⟨g, cap, cur, a, b, c, d, e', f, g'⟩
  · omega
  · exact ⟨g, cap, cur, a, b, c, d, e', f, g'⟩
/-- Cells of a block known whole, told apart. -/
theorem blk_src {w : World} {g : Nat} {t : TypeId} {cur : Array Value} (h : w.heap[g]? = some (.cells cur t (0, 0))) (o n : Nat) (ho : o + n ≤ cur.size) :
    ∀ j u, ((cur.toList.drop o).take n)[j]? = some u → w.cell? ⟨g, o + j, none⟩ = some u := by
  intro j u hu
  rw [blk_cell h]
  rw [List.getElem?_take] at hu
  split at hu
  · rw [List.getElem?_drop, Array.getElem?_toList] at hu; exact hu
  · cases hu
theorem blk_some {w : World} {g : Nat} {t : TypeId} {cur : Array Value} (h : w.heap[g]? = some (.cells cur t (0, 0))) {o n : Nat} (ho : o + n ≤ cur.size) : ∀ j, j < n → (w.cell? ⟨g, o + j, none⟩).isSome = true := by
  intro j hj
  rw [blk_cell h]
  simp only [Array.getElem?_eq_getElem (show o + j < cur.size by omega), Option.isSome_some]
/-- copy, elements of any size, into a block known whole. -/
theorem run_copy_wide {P : Program} (w : World) (dT sT ty elem : TypeId) (size : Nat) (g o dLen dCap : Nat) (a : Addr) (sLen sCap : Nat) (cur : Array Value) (t : TypeId) (cs : List Value)
    (hu : P.underlying dT = some (.slice elem)) (hs : (P.info? elem).map (·.size) = some size)
    (hg : w.heap[g]? = some (.cells cur t (0, 0))) (m : Nat) (hm : Nat.min sLen dLen = m) (hn : cs.length = m * size)
    (hsrc : ∀ j v, cs[j]? = some v → w.cell? (a.add j) = some v) (hfit : o + cs.length ≤ cur.size) (h1 : ∀ v ∈ cs, v.oneCell' = true) :
    (Builtin.copy_ #[dT, sT] ty #[.slice (some ⟨g, o, none⟩) dLen dCap, .slice (some a) sLen sCap]).run P w = .ok (goInt m) (w.setCells g o cs) := by
  subst hm
  have hl := run_firstCells_some (P := P) w size (Nat.min sLen dLen) a sLen sCap cs hn hsrc
  have hst := run_storeCells_cells (P := P) g o cs 0 w (by simpa using blk_some hg hfit) (fun _ _ => blk_frozen hg _) h1
  cases hq : P.info? elem with
  | none => simp [hq] at hs
  | some i =>
    have hi : i.size = size := by simpa [hq] using hs
    simp only [Nat.add_zero] at hst
    simp [Builtin.copy_, run_underlying hu, Builtin.lenOf, sizeOf, typeInfo, hq, hi, hl, hst]
theorem run_clear_wide {P : Program} (w : World) (dT ty elem : TypeId) (z : Value) (i : TypeInfo) (g o n c : Nat) (cur : Array Value) (t : TypeId) (cs : List Value)
    (hu : P.underlying dT = some (.slice elem)) (hi : P.info? elem = some i) (hz : i.zero = some z) (hn : 0 < n) (hcs : cs = (Builtin.zeroCells z.cells n).toList)
    (hg : w.heap[g]? = some (.cells cur t (0, 0))) (hfit : o + n * z.cells.size ≤ cur.size) (h1 : ∀ v ∈ z.cells.toList, v.oneCell' = true) :
    (Builtin.clear_ #[dT] ty #[.slice (some ⟨g, o, none⟩) n c]).run P w = .ok (.tuple #[]) (w.setCells g o cs) := by
  have hlen : cs.length = n * z.cells.size := by rw [hcs, Array.length_toList, size_zeroCells]
  have h1' : ∀ v ∈ cs, v.oneCell' = true := by
    rw [hcs]
    intro v hv
    rw [Array.mem_toList_iff] at hv
    unfold Builtin.zeroCells at hv
    simp only [Array.mem_map, Array.mem_range] at hv
    obtain ⟨q, hq, rfl⟩ := hv
    have hp : 0 < z.cells.size := Nat.pos_of_ne_zero (fun h0 => by rw [h0] at hq; simp at hq)
    have hlt := Nat.mod_lt q hp
    rw [getElem!_pos z.cells _ hlt]
    exact h1 _ (by rw [Array.mem_toList_iff]; exact Array.getElem_mem hlt)
  have hst := run_storeCells_cells (P := P) g o cs 0 w (by simpa using blk_some hg (by omega)) (fun _ _ => blk_frozen hg _) h1'
  obtain ⟨m, rfl⟩ : ∃ m, n = m + 1 := ⟨n - 1, by omega⟩
  simp only [Nat.add_zero] at hst
  rw [hcs] at hst ⊢
  simp [Builtin.clear_, run_underlying hu, zeroValue, typeInfo, hi, hz, hst]
/-- An element of a row of the call's own, laid anew. -/
theorem R_put_wide {α : Type} {d : Kd α} {enc : α → List Value} (F : Flat d enc) {e base : Nat} {W : World} {ok : Nat → Prop} {g c : Nat} {xs : List α} (h : d.R e W base ok (.slice (some ⟨g, 0, none⟩) xs.length c) xs) {i : Nat} (hi : i < xs.length) (x : α) :
    d.R e (W.setCells g (i * d.sz) (enc x)) base ok (.slice (some ⟨g, 0, none⟩) xs.length c) (xs.set i x) ∧ W.grownBy (W.setCells g (i * d.sz) (enc x)) (some g) ∧ base ≤ g ∧ (∀ j, W.frozen? ⟨g, j, none⟩ = false) ∧ ∀ j, j < d.sz → ∃ u, W.cell? ⟨g, i * d.sz + j, none⟩ = some u := by
  obtain ⟨h0, ho⟩ := R_open F h
  obtain ⟨g', cap, cur, hvg, hbg, hg, hnc, hcm, hcs, htk⟩ := own_blk ho (by omega)
  injection hvg with hA _ hc
  injection hA with hA
  injection hA with hA
  subst hA; subst hc
  have e1 : i * d.sz + d.sz = (i + 1) * d.sz := by rw [Nat.add_mul, Nat.one_mul]
  have e2 : (i + 1) * d.sz ≤ xs.length * d.sz := Nat.mul_le_mul_right _ hi
  have e3 : xs.length * d.sz ≤ c * d.sz := Nat.mul_le_mul_right _ hnc
  have hl : (enc x).length = d.sz := F.len x
  obtain ⟨cur1, hg1, hc1, ht1⟩ := setCells_row (enc x) (i * d.sz) W cur hg (by omega)
  obtain ⟨a1, a2, a3, a4⟩ := setCells_same g (enc x) (i * d.sz) W
  refine ⟨R_close F h0 ?_, ⟨a1, a2, a3, by rw [a4]; exact Nat.le_refl _, fun k _ hk => setCells_far _ _ k (fun e => hk (by rw [e]))⟩, hbg, fun j => blk_frozen hg j, fun j hj => ?_⟩
  · rw [List.length_set]
    refine ⟨by rw [flat_len F.len, List.length_set], .inr ⟨g, c, cur1, rfl, hbg, hg1, hnc, hcm, by rw [hc1, hcs], ?_⟩⟩
    have l1 : (cur.toList.take (i * d.sz)).length = i * d.sz := by rw [List.length_take, Array.length_toList (xs := cur)]; omega
    have s1 : xs.set i x = xs.take i ++ x :: xs.drop (i + 1) := by rw [List.set_eq_take_append_cons_drop, if_pos hi]
    have e4 : (xs.length - (i + 1)) * d.sz + (i + 1) * d.sz = xs.length * d.sz := by rw [← Nat.add_mul]; congr 1; omega
    rw [s1, flat_app, flat, ← flat_take F.len xs i (by omega), ← flat_drop F.len xs (i + 1) (by omega), ← htk, List.take_take, Nat.min_eq_left (by omega), ht1, hl, e1, List.drop_take, ← List.append_assoc,
      List.take_append, List.take_of_length_le (by rw [List.length_append, l1, hl]; omega), List.length_append, l1, hl, e1]
  · have := blk_some hg (o := i * d.sz) (n := d.sz) (by omega) j hj
    exact Option.isSome_iff_exists.mp this
/-- How many stand aheadN. -/
def aheadN {α : Type} (cf : α → Int) (xs : List α) : Nat := xs.countP (fun x => decide (cf x < 0))
theorem aheadN_le {α : Type} (cf : α → Int) (xs : List α) : aheadN cf xs ≤ xs.length := List.countP_le_length
theorem aheadN_eq {α : Type} (cf : α → Int) : ∀ (l : List α) (i : Nat), i ≤ l.length → (∀ t x, t < i → l[t]? = some x → cf x < 0) → (∀ t x, i ≤ t → l[t]? = some x → 0 ≤ cf x) → aheadN cf l = i
  | [], i, hi, _, _ => by simp at hi; simp [hi, aheadN]
  | a :: r, 0, _, _, h2 => by
    unfold aheadN
    rw [List.countP_eq_zero]
    intro x hx
    obtain ⟨t, ht, rfl⟩ := List.getElem_of_mem hx
    have := h2 t _ (Nat.zero_le _) (List.getElem?_eq_getElem ht)
    simp; omega
  | a :: r, i + 1, hi, h1, h2 => by
    have ha := h1 0 a (Nat.succ_pos _) rfl
    have ih := aheadN_eq cf r i (by simpa using hi) (fun t x ht hx => h1 (t + 1) x (by omega) (by simpa using hx)) (fun t x h3 hx => h2 (t + 1) x (by omega) (by simpa using hx))
    unfold aheadN at ih ⊢
    rw [List.countP_cons_of_pos (by simpa using ha), ih]
/-- Found where it would stand. -/
def stands {α : Type} (cf : α → Int) (xs : List α) : Bool := match xs[aheadN cf xs]? with | some x => decide (cf x = 0) | none => false
section
variable {P : Program} {ops : Array Oper} {rest : List Oper} {o : Oper} {a : Act} {Q : Exit → Act → World → Prop} {W : World}
theorem app_event (hgd : o.guard = none) (s x : Operand) (t1 t2 : TypeId) (ho : o.op = .call { callee := .builtin .append, args := #[s, x], argTypes := #[t1, t2] }) {v u v1 : Value} {w1 : World} (hs : a.eval s = v) (hx : a.eval x = u)
    (hr : (Builtin.append_ #[t1, t2] o.type #[v, u]).run P W = .ok v1 w1) (h : wpList P ops Q rest (a.put o.dst v1) w1) : wpList P ops Q (o :: rest) a W :=
  wpList_plain hgd fun K hK => by
    unfold Oper.wp execOp
    simp only [ho, resolve, invoke, builtin, Sem.run_bind, Sem.run_pure, Result.andThen_ok, List.map_toArray, List.map_cons, List.map_nil, hs, hx, hr]
    exact hK _ _ h
theorem copy_event (hgd : o.guard = none) (s x : Operand) (t1 t2 : TypeId) (ho : o.op = .call { callee := .builtin .copy, args := #[s, x], argTypes := #[t1, t2] }) {v u v1 : Value} {w1 : World} (hs : a.eval s = v) (hx : a.eval x = u)
    (hr : (Builtin.copy_ #[t1, t2] o.type #[v, u]).run P W = .ok v1 w1) (h : wpList P ops Q rest (a.put o.dst v1) w1) : wpList P ops Q (o :: rest) a W :=
  wpList_plain hgd fun K hK => by
    unfold Oper.wp execOp
    simp only [ho, resolve, invoke, builtin, Sem.run_bind, Sem.run_pure, Result.andThen_ok, List.map_toArray, List.map_cons, List.map_nil, hs, hx, hr]
    exact hK _ _ h
theorem copy_step {K : Act → World → Prop} {E : Prop} (hg : o.guard = none) (s x : Operand) (t1 t2 : TypeId) (hop : o.op = .call { callee := .builtin .copy, args := #[s, x], argTypes := #[t1, t2] }) {v u v1 : Value} {w1 : World} (hs : a.eval s = v) (hx : a.eval x = u)
    (hr : (Builtin.copy_ #[t1, t2] o.type #[v, u]).run P W = .ok v1 w1) (hK : K (a.put o.dst v1) w1) : if Region.wanted o (yielded ops a.tmps) = true then Oper.wp P o a W K Q else E := by
  have hw : Region.wanted o (yielded ops a.tmps) = true := by simp [Region.wanted, hg]
  rw [if_pos hw]
  unfold Oper.wp
  simp [execOp, hop, resolve, invoke, builtin, hs, hx, hr, Result.andThen]
  exact hK
end
/-- What an insertion leaves in the block: told of the cells alone. -/
theorem mid_cells {α : Type} {enc : α → List Value} {k n i : Nat} {xs : List α} {x : α} {cur cur1 cur2 : List Value} (HL : ∀ x, (enc x).length = k) (hn : xs.length = n) (hi : i < n) (htk : cur.take (n * k) = flat enc xs) (hfit : (n + 1) * k ≤ cur.length)
    (h1 : cur1 = cur.take ((i + 1) * k) ++ flat enc (xs.drop i) ++ cur.drop ((i + 1) * k + (flat enc (xs.drop i)).length)) (h2 : cur2 = cur1.take (i * k) ++ enc x ++ cur1.drop (i * k + (enc x).length)) :
    cur2.take ((n + 1) * k) = flat enc (xs.take i ++ x :: xs.drop i) := by
  have l1 : (flat enc (xs.drop i)).length = (n - i) * k := by rw [flat_len HL, List.length_drop, hn]
  have e1 : (i + 1) * k + (n - i) * k = (n + 1) * k := by rw [← Nat.add_mul]; congr 1; omega
  have e2 : (i + 1) * k = i * k + k := by rw [Nat.add_mul, Nat.one_mul]
  have e3 : i * k + (n - i) * k = n * k := by rw [← Nat.add_mul]; congr 1; omega
  have l2 : (cur.take ((i + 1) * k)).length = (i + 1) * k := by rw [List.length_take]; omega
  have t1 : cur1.take (i * k) = flat enc (xs.take i) := by
    rw [h1, List.append_assoc, List.take_append_of_le_length (by omega), List.take_take, Nat.min_eq_left (by omega), ← flat_take HL xs i (by omega), ← htk, List.take_take, Nat.min_eq_left (by omega)]
  have t2 : cur1.drop (i * k + (enc x).length) = flat enc (xs.drop i) ++ cur.drop ((i + 1) * k + (flat enc (xs.drop i)).length) := by
    rw [HL, ← e2, h1, List.append_assoc, List.drop_append_of_le_length (by omega), List.drop_eq_nil_of_le (by omega), List.nil_append]
  have l3 : (flat enc (xs.take i)).length = i * k := by rw [flat_len HL, List.length_take, Nat.min_eq_left (by omega)]
  rw [h2, t1, t2, flat_app, flat, ← List.append_assoc, ← List.append_assoc]
  rw [List.take_append_of_le_length (by simp only [List.length_append, l3, l1, HL]; omega), List.take_of_length_le (by simp only [List.length_append, l3, l1, HL]; omega), List.append_assoc]
theorem mid_cells2 {α : Type} {enc : α → List Value} {k n i : Nat} {xs : List α} {x : α} {cur cur1 cur2 : List Value} (HL : ∀ x, (enc x).length = k) (hn : xs.length = n) (hi : i < n) (htk : cur.take (i * k) = flat enc (xs.take i)) (hfit : (n + 1) * k ≤ cur.length)
    (h1 : cur1 = cur.take (i * k) ++ enc x ++ cur.drop (i * k + (enc x).length)) (h2 : cur2 = cur1.take ((i + 1) * k) ++ flat enc (xs.drop i) ++ cur1.drop ((i + 1) * k + (flat enc (xs.drop i)).length)) :
    cur2.take ((n + 1) * k) = flat enc (xs.take i ++ x :: xs.drop i) := by
  have l1 : (flat enc (xs.drop i)).length = (n - i) * k := by rw [flat_len HL, List.length_drop, hn]
  have e1 : (i + 1) * k + (n - i) * k = (n + 1) * k := by rw [← Nat.add_mul]; congr 1; omega
  have e2 : (i + 1) * k = i * k + k := by rw [Nat.add_mul, Nat.one_mul]
  have l3 : (flat enc (xs.take i)).length = i * k := by rw [flat_len HL, List.length_take, Nat.min_eq_left (by omega)]
  have t1 : cur1.take ((i + 1) * k) = flat enc (xs.take i) ++ enc x := by
    rw [h1, htk, List.take_append_of_le_length (by rw [List.length_append, l3, HL]; omega), List.take_of_length_le (by rw [List.length_append, l3, HL]; omega)]
  rw [h2, t1, flat_app, flat, List.take_append_of_le_length (by simp only [List.length_append, l3, l1, HL]; omega), List.take_of_length_le (by simp only [List.length_append, l3, l1, HL]; omega), List.append_assoc]
set_option maxHeartbeats 4000000 in
set_option maxRecDepth 1000000 in
theorem del_calls36 {α : Type} {d : Kd α} {enc : α → List Value} (F : Flat d enc) (hk : d.sz = 4) (i0 : TypeInfo) (z : Value) (hi0 : Try.prog.info? 36 = some i0) (hz0 : i0.zero = some z) (hz1 : i0.size = 4) (hz2 : z.cells.size = 4) (hzo : ∀ u ∈ z.cells.toList, u.oneCell' = true)
    (W : World) (base : Nat) (ok : Nat → Prop) (v : Value) (A : Option Addr) (c : Nat) (xs : List α) (i : Nat) (hv : v = .slice A xs.length c) (h : d.R 36 W base ok v xs) (hi : i < xs.length) :
    Calls Try.prog 19 #[v, .int .i64 i, .int .i64 ((i : Int) + 1)] W fun e w' => ∃ v', e = .returned v' ∧ d.R 36 w' base ok v' (xs.take i ++ xs.drop (i + 1)) ∧ W.grownBy w' v.ownBlock ∧ v'.ownBlock = v.ownBlock := by
  obtain ⟨h0, ho⟩ := R_open F h
  rw [hk] at ho
  have HL : ∀ x, (enc x).length = 4 := fun x => (F.len x).trans hk
  obtain ⟨g, cap, cur, hvg, hbg, hg, hnc, hcm, hcs, htk⟩ := own_blk ho (by omega)
  subst hvg
  unfold maxLen at hcm
  have hu := Try.underlying24
  -- the cells that are moved to the left
  obtain ⟨news, hnews⟩ : ∃ news, news = flat enc (xs.drop (i + 1)) := ⟨_, rfl⟩
  have hlen : news.length = (xs.length - (i + 1)) * 4 := by rw [hnews, flat_len HL, List.length_drop]
  have hfull : (xs.length - (i + 1)) * 4 + (i + 1) * 4 = xs.length * 4 := by rw [← Nat.add_mul]; congr 1; omega
  have hle : xs.length * 4 ≤ cur.size := by rw [hcs]; exact Nat.mul_le_mul_right _ hnc
  have hmid : news = (cur.toList.drop ((i + 1) * 4)).take ((xs.length - (i + 1)) * 4) := by
    rw [hnews, ← flat_drop HL xs (i + 1) (by omega), ← htk, List.drop_take, show xs.length * 4 - (i + 1) * 4 = (xs.length - (i + 1)) * 4 by omega]
  obtain ⟨A, hA, hsrc⟩ : ∃ A : Addr, (if cap = i + 1 then some (⟨g, 0, none⟩ : Addr) else some ⟨g, (i + 1) * 4, none⟩) = some A ∧ Hid (∀ t u, news[t]? = some u → W.drew.cell? (A.add t) = some u) := by
    by_cases hc : cap = i + 1
    · refine ⟨⟨g, 0, none⟩, by simp [hc], fun t u hu => ?_⟩
      have h0 : news.length = 0 := by rw [hlen, show xs.length - (i + 1) = 0 by omega, Nat.zero_mul]
      rw [List.length_eq_zero_iff.1 h0] at hu
      simp at hu
    · refine ⟨⟨g, (i + 1) * 4, none⟩, by simp [hc], fun t u hu => ?_⟩
      rw [add_at]
      rw [hmid] at hu
      have := blk_src hg ((i + 1) * 4) ((xs.length - (i + 1)) * 4) (by omega) t u hu
      exact this
  have s1 : Hid (news.length = (xs.length - (i + 1)) * 4) := hlen
  have s2 : Hid (∀ u ∈ news, u.oneCell' = true) := by rw [hnews]; exact flat_one F.one _
  have hfit : i * 4 + news.length + 4 ≤ cur.size := by
    rw [hlen]
    have : (i + 1) * 4 = i * 4 + 4 := by rw [Nat.add_mul, Nat.one_mul]
    omega
  have s3 : Hid (∀ t, t < news.length → (W.drew.cell? ⟨g, 0 + i * 4 + t, none⟩).isSome = true ∧ W.drew.frozen? ⟨g, 0 + i * 4 + t, none⟩ = false) := by
    intro t ht
    refine ⟨?_, blk_frozen hg _⟩
    show (W.cell? _).isSome = true
    rw [blk_cell hg, Nat.zero_add]
    simp only [Array.getElem?_eq_getElem (show i * 4 + t < cur.size by omega), Option.isSome_some]
  -- the world behind the append, behind a name
  obtain ⟨W1, hW1⟩ : ∃ W1, W1 = W.drew.setCells g (0 + i * 4) news := ⟨_, rfl⟩
  obtain ⟨cur1, hg1, hc1, ht1⟩ := setCells_row news (0 + i * 4) W.drew cur hg (by omega)
  rw [← hW1] at hg1
  obtain ⟨zs, hzs⟩ : ∃ zs, zs = (Builtin.zeroCells z.cells 1).toList := ⟨_, rfl⟩
  have hzl : zs.length = 4 := by rw [hzs, Array.length_toList, size_zeroCells, Nat.one_mul, hz2]
  have hbk : i + (xs.length - (i + 1)) = xs.length - 1 := by omega
  have hfit2 : (xs.length - 1) * 4 + 1 * z.cells.size ≤ cur1.size := by
    rw [hc1, hz2, Nat.one_mul]
    have : (xs.length - 1) * 4 + 4 = xs.length * 4 := by rw [← Nat.succ_mul]; congr 1; omega
    omega
  have hcl : ∀ ty, (Builtin.clear_ #[24] ty #[.slice (some ⟨g, (xs.length - 1) * 4, none⟩) (xs.length - (xs.length - 1)) (cap - (xs.length - 1))]).run Try.prog W1 = .ok (.tuple #[]) (W1.setCells g ((xs.length - 1) * 4) zs) := fun ty => by
    rw [show xs.length - (xs.length - 1) = 1 by omega]
    exact run_clear_wide W1 24 ty 36 z i0 g _ 1 _ cur1 36 zs hu hi0 hz0 (by omega) hzs hg1 hfit2 hzo
  obtain ⟨cur2, hg2, hc2, ht2⟩ := setCells_row zs ((xs.length - 1) * 4) W1 cur1 hg1 (by rw [hz2] at hfit2; omega)
  have K : Aside0 (W1 = W.drew.setCells g (0 + i * 4) news) := ⟨hW1⟩
  have X : Aside0 ((W1.setCells g ((xs.length - 1) * 4) zs).heap[g]? = some (.cells cur2 36 (0, 0)) ∧ cur2.size = cap * 4 ∧ cur2.toList.take ((xs.length - 1) * 4) = flat enc (xs.take i ++ xs.drop (i + 1))) := by
    refine ⟨hg2, by rw [hc2, hc1, hcs], ?_⟩
    have hp : i * 4 + news.length = (xs.length - 1) * 4 := by omega
    have hq : (cur.toList.take (i * 4)).length = i * 4 := by rw [List.length_take, Array.length_toList (xs := cur)]; omega
    rw [ht2, List.append_assoc, List.take_append_of_le_length (by rw [List.length_take, Array.length_toList (xs := cur1)]; omega), List.take_take, Nat.min_self, ht1, Nat.zero_add,
      List.take_append_of_le_length (by rw [List.length_append, hq]; omega), List.take_of_length_le (by rw [List.length_append, hq]; omega), flat_app, ← hnews, ← flat_take HL xs i (by omega), ← htk, List.take_take]
    congr 2
    omega
  have HF : Aside0 (Flat d enc) := ⟨F⟩
  have hic : i ≤ cap := by omega
  have hjc : i + 1 ≤ cap := by omega
  have hip : (0 : Int) ≤ (i : Int) + 1 := by omega
  have Z : Aside0 (zs.length = 4) := ⟨hzl⟩
  clear hzs hzo hz0 hz2 hzl hfit2
  have hin : (i : Int) + 1 ≤ (xs.length : Int) := by omega
  clear ht1 hg1 hW1 hmid hnews ht2 hg2 htk F h ho hlen hg
  go_enter Try.func19, Try.ntmps19
  go_wp2_with fail
  go_region_law (refine step_append_room rfl (.tmp 22) (.tmp 25) 24 rfl 36 i0 4 hu hi0 hz1 g 0 i c (by simp [Act.eval, Act.put]) A (xs.length - (i + 1)) (c - (i + 1)) news (by simp [Act.eval, Act.put]) s1.out hsrc.out s2.out (by omega) s3.out ?_; rw [← K.out])
  go_wp2
  go_ret
  refine ⟨_, rfl, R_close HF.out h0 ?_, ?_, rfl⟩
  · rw [hk]
    have hl : (xs.take i ++ xs.drop (i + 1)).length = xs.length - 1 := by rw [List.length_append, List.length_take, List.length_drop]; omega
    rw [hl]
    exact ⟨by rw [flat_len HL, hl], .inr ⟨g, c, cur2, rfl, hbg, X.out.1, by omega, by unfold maxLen; omega, X.out.2.1, X.out.2.2⟩⟩
  · rw [K.out]
    obtain ⟨a1, a2, a3, a4⟩ := setCells_same g news (0 + i * 4) W.drew
    obtain ⟨b1, b2, b3, b4⟩ := setCells_same g zs ((xs.length - 1) * 4) (W.drew.setCells g (0 + i * 4) news)
    refine ⟨b1.trans a1, b2.trans a2, b3.trans a3, ?_, fun k _ hne => ?_⟩
    · rw [b4, a4]; exact Nat.le_refl _
    · have hkg : k ≠ g := fun he => hne (by rw [he]; rfl)
      rw [setCells_far _ _ _ hkg, setCells_far _ _ _ hkg]
      rfl
set_option maxHeartbeats 4000000 in
set_option maxRecDepth 1000000 in
theorem ins_end36 {α : Type} {d : Kd α} {enc : α → List Value} (F : Flat d enc) (hk : d.sz = 4) (i0 : TypeInfo) (z : Value) (hi0 : Try.prog.info? 36 = some i0) (hz0 : i0.zero = some z) (hz1 : i0.size = 4) (hz2 : z.cells.size = 4) (hby : i0.bytes = 40)
    (W : World) (base : Nat) (ok : Nat → Prop) (A : Option Addr) (c : Nat) (xs : List α) (x : α) (vb : Nat) (h : d.R 36 W base ok (.slice A xs.length c) xs) (hvb : W.heap[vb]? = some (.cells (enc x).toArray 36 (0, 0))) (hbase : base ≤ W.heap.size) (hok : ∀ k, W.heap.size ≤ k → ok k) (hbig : (xs.length + 1) * 40 ≤ 140737488355328) :
    Calls Try.prog 20 #[.slice A xs.length c, .int .i64 xs.length, .slice (some ⟨vb, 0, none⟩) 1 1] W fun e w' => ∃ v', e = .returned v' ∧ d.R 36 w' base ok v' (xs ++ [x]) ∧ W.grownBy w' (Value.slice A xs.length c).ownBlock ∧ (v'.ownBlock = (Value.slice A xs.length c).ownBlock ∨ ∃ b, v'.ownBlock = some b ∧ W.heap.size ≤ b) := by
  obtain ⟨h0, ho⟩ := R_open F h
  rw [hk] at ho
  have HL : ∀ x, (enc x).length = 4 := fun x => (F.len x).trans hk
  have hu := Try.underlying24
  have hlen : xs.length + 1 ≤ 140737488355328 := by omega
  have hrd : ∀ j u, (enc x)[j]? = some u → W.cell? ((⟨vb, 0, none⟩ : Addr).add j) = some u := fun j u hu => by
    rw [add_at, Nat.zero_add, blk_cell hvb]
    simpa using hu
  obtain ⟨v1, w1, hrun, hown1, hg1, -, hat1⟩ := run_append_own_at (P := Try.prog) W base 24 24 36 i0 z 4 40 hu hi0 hz0 hz1 hby hz2 (by omega) (.slice A xs.length c) xs.length (flat enc xs) ho ⟨vb, 0, none⟩ 1 1 (enc x) (by rw [HL]) hrd (F.one x) (by simp only [maxLen]; omega) hbig hbase
  have HR : Aside0 ((Builtin.append_ #[24, 24] 24 #[.slice A xs.length c, .slice (some ⟨vb, 0, none⟩) 1 1]).run Try.prog W = .ok v1 w1) := ⟨hrun⟩
  have R1 : Aside0 (d.R 36 w1 base ok v1 (xs ++ [x])) := ⟨R_close F (fun k e => by
      rcases hat1 with hat | hat
      · exact h0 k (hat ▸ e)
      · rw [hat] at e; injection e with e; exact hok k (by omega)) (by rw [hk, flat_app, List.length_append]; simpa [flat] using hown1)⟩
  have G1 : Aside0 (W.grownBy w1 (Value.slice A xs.length c).ownBlock) := ⟨hg1⟩
  have A1 : Aside0 (v1.ownBlock = (Value.slice A xs.length c).ownBlock ∨ ∃ b, v1.ownBlock = some b ∧ W.heap.size ≤ b) := ⟨hat1.imp_right fun e => ⟨_, e, Nat.le_refl _⟩⟩
  have hnc : xs.length ≤ c := (Kd.R_reads' h).2.1
  clear hrun hown1 hg1 hat1 hrd h0 ho h hok F hvb
  have hz3 : ¬ ((1 : Int) = 0) := by omega
  have hcx : c = xs.length ∨ ¬ c = xs.length := Classical.em _
  rcases hcx with rfl | hcx
  all_goals
    go_enter Try.func20, Try.ntmps20
    go_wp2_with (at_builtin; refine app_event rfl _ _ 24 24 rfl rfl rfl HR.out ?_)
    go_ret
    exact ⟨_, rfl, R1.out, G1.out, A1.out⟩
set_option maxHeartbeats 4000000 in
set_option maxRecDepth 1000000 in
theorem ins_room36 {α : Type} {d : Kd α} {enc : α → List Value} (F : Flat d enc) (hk : d.sz = 4) (i0 : TypeInfo) (hi0 : Try.prog.info? 36 = some i0) (hz1 : i0.size = 4)
    (W : World) (base : Nat) (ok : Nat → Prop) (A : Option Addr) (c : Nat) (xs : List α) (i : Nat) (x : α) (vb : Nat) (h : d.R 36 W base ok (.slice A xs.length c) xs) (hi : i < xs.length) (hvb : W.heap[vb]? = some (.cells (enc x).toArray 36 (0, 0))) (hne : some vb ≠ (Value.slice A xs.length c).ownBlock) (hroom : xs.length < c) :
    Calls Try.prog 20 #[.slice A xs.length c, .int .i64 i, .slice (some ⟨vb, 0, none⟩) 1 1] W fun e w' => ∃ v', e = .returned v' ∧ d.R 36 w' base ok v' (xs.take i ++ x :: xs.drop i) ∧ W.grownBy w' (Value.slice A xs.length c).ownBlock ∧ (v'.ownBlock = (Value.slice A xs.length c).ownBlock ∨ ∃ b, v'.ownBlock = some b ∧ W.heap.size ≤ b) := by
  obtain ⟨h0, ho⟩ := R_open F h
  rw [hk] at ho
  have HL : ∀ x, (enc x).length = 4 := fun x => (F.len x).trans hk
  obtain ⟨g, cap, cur, hvg, hbg, hg, hnc, hcm, hcs, htk⟩ := own_blk ho (by omega)
  injection hvg with hA _ hc
  subst hA; subst hc
  unfold maxLen at hcm
  have hu := Try.underlying24
  have hsz : (Try.prog.info? 36).map (·.size) = some 4 := by rw [hi0]; simp [hz1]
  have hgv : vb ≠ g := fun e => hne (by rw [e]; rfl)
  obtain ⟨tl, htl⟩ : ∃ tl, tl = flat enc (xs.drop i) := ⟨_, rfl⟩
  have hll : tl.length = (xs.length - i) * 4 := by rw [htl, flat_len HL, List.length_drop]
  have hmid : tl = (cur.toList.drop (i * 4)).take ((xs.length - i) * 4) := by
    rw [htl, ← flat_drop HL xs i (by omega), ← htk, List.drop_take, show xs.length * 4 - i * 4 = (xs.length - i) * 4 by omega]
  have hcp1 : ∀ ty dc sc, (Builtin.copy_ #[24, 24] ty #[.slice (some ⟨g, (i + 1) * 4, none⟩) (xs.length - i) dc, .slice (some ⟨g, i * 4, none⟩) (xs.length + 1 - i) sc]).run Try.prog W.drew = .ok (goInt ((xs.length - i : Nat) : Int)) (W.drew.setCells g ((i + 1) * 4) tl) := fun ty dc sc =>
    run_copy_wide W.drew _ _ ty 36 4 g ((i + 1) * 4) _ dc ⟨g, i * 4, none⟩ _ sc cur 36 tl hu hsz hg (xs.length - i) (by simp only [Nat.min_def]; split <;> omega) hll (fun j u hj => by
      rw [add_at]
      rw [hmid] at hj
      exact blk_src hg (i * 4) ((xs.length - i) * 4) (by omega) j u hj) (by omega) (by rw [htl]; exact flat_one F.one _)
  obtain ⟨W1, hW1⟩ : ∃ W1, W1 = W.drew.setCells g ((i + 1) * 4) tl := ⟨_, rfl⟩
  obtain ⟨cur1, hg1, hc1, ht1⟩ := setCells_row tl ((i + 1) * 4) W.drew cur hg (by omega)
  have hv1 : W1.heap[vb]? = some (.cells (enc x).toArray 36 (0, 0)) := by rw [hW1, setCells_far _ _ _ hgv]; exact hvb
  rw [← hW1] at hg1 hcp1
  have hcp2 : ∀ ty dc, (Builtin.copy_ #[24, 24] ty #[.slice (some ⟨g, i * 4, none⟩) (xs.length + 1 - i) dc, .slice (some ⟨vb, 0, none⟩) 1 1]).run Try.prog W1 = .ok (goInt ((1 : Nat) : Int)) (W1.setCells g (i * 4) (enc x)) := fun ty dc =>
    run_copy_wide W1 _ _ ty 36 4 g (i * 4) _ dc ⟨vb, 0, none⟩ _ 1 cur1 36 (enc x) hu hsz hg1 1 (by simp only [Nat.min_def]; split <;> omega) (by rw [HL]) (fun j u hj => by
      rw [add_at, Nat.zero_add, blk_cell hv1]; simpa using hj) (by rw [HL]; omega) (F.one x)
  obtain ⟨cur2, hg2, hc2, ht2⟩ := setCells_row (enc x) (i * 4) W1 cur1 hg1 (by rw [HL]; omega)
  have hov : ∀ lb cb, (callFunc 28 #[.slice (some ⟨vb, 0, none⟩) 1 1, .slice (some ⟨g, (i + 1) * 4, none⟩) lb cb]).run Try.prog W = .ok (.value (.bool false)) W := fun lb cb => by
    rw [run_callFunc_extern Try.func28 (by kernel_rfl) (by kernel_rfl) (by kernel_rfl) (e := Extern.SlicesOverlaps.overlaps #[24, 24] #[4]) (by kernel_rfl),
      Lib.run_overlaps_apart W 24 4 36 hu 4 Try.sizeOf36 ⟨vb, 0, none⟩ ⟨g, (i + 1) * 4, none⟩ 1 1 lb cb hgv 36 36 (enc x).toArray.size cur.size (by simp [World.shape?, hvb]) (by simp [World.shape?, hg]) (by omega) (blk_frozen hvb _) (blk_frozen hvb _)]
    rfl
  have X : Aside0 ((W1.setCells g (i * 4) (enc x)).heap[g]? = some (.cells cur2 36 (0, 0)) ∧ cur2.size = c * 4 ∧ cur2.toList.take ((xs.length + 1) * 4) = flat enc (xs.take i ++ x :: xs.drop i)) :=
    ⟨hg2, by rw [hc2, hc1, hcs], mid_cells HL rfl hi htk (by rw [Array.length_toList (xs := cur)]; omega) (by rw [ht1, ← htl]) ht2⟩
  have K : Aside0 (W1 = W.drew.setCells g ((i + 1) * 4) tl) := ⟨hW1⟩
  have HF : Aside0 (Flat d enc) := ⟨F⟩
  have HH : Aside0 (∀ x, (enc x).length = 4) := ⟨HL⟩
  have hw1 : IntKind.i64.wrap ((i : Int) + 1) = (i : Int) + 1 := by rw [IntKind.wrap_i64]; omega
  have hb1 : (0 : Int) ≤ (i : Int) + 1 := by omega
  have hz2 : ¬ ((i : Int) = (xs.length : Int)) := by omega
  have hb2 : ¬ (c = i + 1) := by omega
  have hb3 : (i : Int) ≤ (xs.length : Int) + 1 := by omega
  have hb4 : ¬ (c = i) := by omega
  have hin : i ≤ xs.length := by omega
  have htn : ((i : Int) + 1).toNat = i + 1 := by omega
  have htn2 : ((xs.length : Int) + 1).toNat = xs.length + 1 := by omega
  clear ht1 hg1 hW1 hmid htl ht2 hg2 htk F h ho hll hg hvb hv1 HL hsz
  go_enter Try.func20, Try.ntmps20
  go_wp2_with (simp only [hov])
  go_region_law (refine copy_step rfl _ _ 24 24 rfl (by simp [Act.eval, Act.put]) (by simp [Act.eval, Act.put]) (hcp1 _ _ _) ?_)
  go_wp2_with (at_builtin; refine copy_event rfl _ _ 24 24 rfl rfl rfl (hcp2 _ _) ?_)
  go_ret
  refine ⟨_, rfl, R_close HF.out h0 ?_, ?_, .inl rfl⟩
  · rw [hk]
    have hl : (xs.take i ++ x :: xs.drop i).length = xs.length + 1 := by rw [List.length_append, List.length_cons, List.length_take, List.length_drop]; omega
    rw [hl]
    exact ⟨by rw [flat_len HH.out, hl], .inr ⟨g, c, cur2, rfl, hbg, X.out.1, by omega, by unfold maxLen; omega, X.out.2.1, X.out.2.2⟩⟩
  · rw [K.out]
    obtain ⟨a1, a2, a3, a4⟩ := setCells_same g tl ((i + 1) * 4) W.drew
    obtain ⟨b1, b2, b3, b4⟩ := setCells_same g (enc x) (i * 4) (W.drew.setCells g ((i + 1) * 4) tl)
    refine ⟨b1.trans a1, b2.trans a2, b3.trans a3, ?_, fun k _ hne => ?_⟩
    · rw [b4, a4]; exact Nat.le_refl _
    · have hkg : k ≠ g := fun he => hne (by rw [he]; rfl)
      rw [setCells_far _ _ _ hkg, setCells_far _ _ _ hkg]
      rfl
set_option maxHeartbeats 4000000 in
set_option maxRecDepth 1000000 in
theorem ins_grow36 {α : Type} {d : Kd α} {enc : α → List Value} (F : Flat d enc) (hk : d.sz = 4) (i0 : TypeInfo) (z : Value) (hi0 : Try.prog.info? 36 = some i0) (hz0 : i0.zero = some z) (hz1 : i0.size = 4) (hz2 : z.cells.size = 4) (hby : i0.bytes = 40)
    (W : World) (base : Nat) (ok : Nat → Prop) (A : Option Addr) (xs : List α) (i : Nat) (x : α) (vb : Nat) (h : d.R 36 W base ok (.slice A xs.length xs.length) xs) (hi : i < xs.length) (hvb : W.heap[vb]? = some (.cells (enc x).toArray 36 (0, 0))) (hbase : base ≤ W.heap.size) (hok : ∀ k, W.heap.size ≤ k → ok k) (hbig : (xs.length + 1) * 40 ≤ 140737488355328) :
    Calls Try.prog 20 #[.slice A xs.length xs.length, .int .i64 i, .slice (some ⟨vb, 0, none⟩) 1 1] W fun e w' => ∃ v', e = .returned v' ∧ d.R 36 w' base ok v' (xs.take i ++ x :: xs.drop i) ∧ W.grownBy w' (Value.slice A xs.length xs.length).ownBlock ∧ (v'.ownBlock = (Value.slice A xs.length xs.length).ownBlock ∨ ∃ b, v'.ownBlock = some b ∧ W.heap.size ≤ b) := by
  obtain ⟨h0, ho⟩ := R_open F h
  rw [hk] at ho
  have HL : ∀ x, (enc x).length = 4 := fun x => (F.len x).trans hk
  obtain ⟨g, cap, cur, hvg, hbg, hg, hnc, hcm, hcs, htk⟩ := own_blk ho (by omega)
  injection hvg with hA _ hc
  subst hA
  subst hc
  unfold maxLen at hcm
  have hu := Try.underlying24
  have hu3 := Try.underlying3
  have hsz : (Try.prog.info? 36).map (·.size) = some 4 := by rw [hi0]; simp [hz1]
  have hgl : g < W.heap.size := blk_lt hg
  have hvl : vb < W.heap.size := blk_lt hvb
  obtain ⟨G, hG⟩ : ∃ G, G = W.heap.size := ⟨_, rfl⟩
  obtain ⟨tl, htl⟩ : ∃ tl, tl = flat enc (xs.drop i) := ⟨_, rfl⟩
  have hll : tl.length = (xs.length - i) * 4 := by rw [htl, flat_len HL, List.length_drop]
  have hmid : tl = (cur.toList.drop (i * 4)).take ((xs.length - i) * 4) := by
    rw [htl, ← flat_drop HL xs i (by omega), ← htk, List.drop_take, show xs.length * 4 - i * 4 = (xs.length - i) * 4 by omega]
  obtain ⟨hd, hhd⟩ : ∃ hd, hd = flat enc (xs.take i) := ⟨_, rfl⟩
  have hhl : hd.length = i * 4 := by rw [hhd, flat_len HL, List.length_take, Nat.min_eq_left (by omega)]
  have hold : (Builtin.firstCells i0.size i (.slice (some ⟨g, 0, none⟩) i xs.length)).run Try.prog W.drew = .ok hd.toArray W.drew :=
    run_firstCells_some (P := Try.prog) W.drew i0.size i ⟨g, 0, none⟩ i xs.length hd (by rw [hz1]; exact hhl) (fun j u hj => by
      rw [add_at, Nat.zero_add]
      have := blk_src hg 0 (i * 4) (by omega) j u (by rw [List.drop_zero, ← show (flat enc (xs.take i)) = cur.toList.take (i * 4) by rw [← flat_take HL xs i (by omega), ← htk, List.take_take, Nat.min_eq_left (by omega)], ← hhd]; exact hj)
      rw [Nat.zero_add] at this
      exact this)
  obtain ⟨c1, hc1⟩ : ∃ c1, c1 = grownCap W (i + (xs.length + 1 - i)) xs.length 36 := ⟨_, rfl⟩
  have hge : xs.length + 1 ≤ c1 := by have := grownCap_ge W (i + (xs.length + 1 - i)) xs.length 36; omega
  have hcm1 : c1 ≤ maxLen := by rw [hc1]; exact grownCap_le_maxLen _ _ _ _ (by simp only [maxLen]; omega)
  unfold maxLen at hcm1
  obtain ⟨W1, hW1⟩ : ∃ W1, W1 = W.drew.alloc (.cells (hd.toArray ++ Builtin.zeroCells z.cells (xs.length + 1 - i) ++ Builtin.zeroCells z.cells (c1 - (i + (xs.length + 1 - i)))) 36) := ⟨_, rfl⟩
  have hap := Lib.run_append_grow_zeros (P := Try.prog) W 24 3 24 36 i0 z .i64 .i64 hu hu3 hi0 hz0 (some ⟨g, 0, none⟩) i xs.length hd hold (xs.length + 1 - i) (by omega) (by omega) (by omega) (by omega) (by rw [hby]; omega) (growslice_fits (by omega) (by rw [hby]; omega))
  rw [← hc1, ← hW1, ← hG, show i + (xs.length + 1 - i) = xs.length + 1 by omega] at hap
  obtain ⟨curA, hcA⟩ : ∃ curA, curA = hd.toArray ++ Builtin.zeroCells z.cells (xs.length + 1 - i) ++ Builtin.zeroCells z.cells (c1 - (i + (xs.length + 1 - i))) := ⟨_, rfl⟩
  have hgA : W1.heap[G]? = some (.cells curA 36 (0, 0)) := by rw [hW1, hG, hcA]; exact heap_alloc_new W.drew _
  have hsA : curA.size = c1 * 4 := by
    rw [hcA]; simp only [Array.size_append, List.size_toArray, size_zeroCells, hz2, hhl]; omega
  have htA : curA.toList.take (i * 4) = flat enc (xs.take i) := by
    rw [hcA]; simp only [Array.toList_append, List.append_assoc]
    rw [List.take_append_of_le_length (by omega), List.take_of_length_le (by omega), hhd]
  have hold1 : ∀ b, b < W.heap.size → W1.heap[b]? = W.heap[b]? := fun b hb => by rw [hW1]; exact heap_alloc_old W.drew _ hb
  have hv1 : W1.heap[vb]? = some (.cells (enc x).toArray 36 (0, 0)) := (hold1 vb hvl).trans hvb
  have hcp1 : ∀ ty dc, (Builtin.copy_ #[24, 24] ty #[.slice (some ⟨G, i * 4, none⟩) (xs.length + 1 - i) dc, .slice (some ⟨vb, 0, none⟩) 1 1]).run Try.prog W1 = .ok (goInt ((1 : Nat) : Int)) (W1.setCells G (i * 4) (enc x)) := fun ty dc =>
    run_copy_wide W1 _ _ ty 36 4 G (i * 4) _ dc ⟨vb, 0, none⟩ _ 1 curA 36 (enc x) hu hsz hgA 1 (by simp only [Nat.min_def]; split <;> omega) (by rw [HL]) (fun j u hj => by
      rw [add_at, Nat.zero_add, blk_cell hv1]; simpa using hj) (by rw [HL]; omega) (F.one x)
  obtain ⟨W2, hW2⟩ : ∃ W2, W2 = W1.setCells G (i * 4) (enc x) := ⟨_, rfl⟩
  obtain ⟨cur1, hg1, hs1, ht1⟩ := setCells_row (enc x) (i * 4) W1 curA hgA (by rw [HL]; omega)
  rw [← hW2] at hg1 hcp1
  have hg2 : W2.heap[g]? = some (.cells cur 36 (0, 0)) := by rw [hW2, setCells_far _ _ _ (by omega)]; exact (hold1 g hgl).trans hg
  have hcp2 : ∀ ty dc sc, (Builtin.copy_ #[24, 24] ty #[.slice (some ⟨G, (i + 1) * 4, none⟩) (xs.length - i) dc, .slice (some ⟨g, i * 4, none⟩) (xs.length - i) sc]).run Try.prog W2.drew = .ok (goInt ((xs.length - i : Nat) : Int)) (W2.drew.setCells G ((i + 1) * 4) tl) := fun ty dc sc =>
    run_copy_wide W2.drew _ _ ty 36 4 G ((i + 1) * 4) _ dc ⟨g, i * 4, none⟩ _ sc cur1 36 tl hu hsz hg1 (xs.length - i) (by simp only [Nat.min_def]; split <;> omega) hll (fun j u hj => by
      rw [add_at]
      rw [hmid] at hj
      exact blk_src hg2 (i * 4) ((xs.length - i) * 4) (by omega) j u hj) (by omega) (by rw [htl]; exact flat_one F.one _)
  obtain ⟨cur2, hg3, hs2, ht2⟩ := setCells_row tl ((i + 1) * 4) W2.drew cur1 hg1 (by omega)
  have X : Aside0 ((W2.drew.setCells G ((i + 1) * 4) tl).heap[G]? = some (.cells cur2 36 (0, 0)) ∧ cur2.size = c1 * 4 ∧ cur2.toList.take ((xs.length + 1) * 4) = flat enc (xs.take i ++ x :: xs.drop i)) :=
    ⟨hg3, by rw [hs2, hs1, hsA], mid_cells2 HL rfl hi htA (by rw [Array.length_toList (xs := curA)]; omega) ht1 (by rw [ht2, ← htl])⟩
  have GR : Aside0 (W.grownBy (W2.drew.setCells G ((i + 1) * 4) tl) (Value.slice (some ⟨g, 0, none⟩) xs.length xs.length).ownBlock) := by
    obtain ⟨a1, a2, a3, a4⟩ := setCells_same G (enc x) (i * 4) W1
    obtain ⟨b1, b2, b3, b4⟩ := setCells_same G tl ((i + 1) * 4) W2.drew
    rw [← hW2] at a1 a2 a3 a4
    refine ⟨b1.trans (a1.trans (by rw [hW1]; rfl)), b2.trans (a2.trans (by rw [hW1]; rfl)), b3.trans (a3.trans (by rw [hW1]; rfl)), ?_, fun k hk _ => ?_⟩
    · rw [b4]; show _ ≤ W2.heap.size; rw [a4, hW1]; simp
    · rw [setCells_far _ _ _ (by omega)]
      show W2.heap[k]? = _
      rw [hW2, setCells_far _ _ _ (by omega)]
      exact hold1 k hk
  have HAP : Aside0 ((Builtin.append_ #[24, 3] 24 #[.slice (some ⟨g, 0, none⟩) i xs.length, .int .i64 ((xs.length : Int) + 1 - (i : Int))]).run Try.prog W = .ok (.slice (some ⟨G, 0, none⟩) (xs.length + 1) c1) W1) := ⟨by rw [show (xs.length : Int) + 1 - (i : Int) = ((xs.length + 1 - i : Nat) : Int) by omega]; exact hap⟩
  have HF : Aside0 (Flat d enc) := ⟨F⟩
  have HH : Aside0 (∀ x, (enc x).length = 4) := ⟨HL⟩
  have HG : Aside0 (G = W.heap.size) := ⟨hG⟩
  have hbG : base ≤ G := by omega
  have hokG : ok G := hok G (by omega)
  have hw1 : IntKind.i64.wrap ((i : Int) + 1) = (i : Int) + 1 := by rw [IntKind.wrap_i64]; omega
  have hw2 : IntKind.i64.wrap ((xs.length : Int) + 1) = (xs.length : Int) + 1 := by rw [IntKind.wrap_i64]; omega
  have hb1 : (0 : Int) ≤ (i : Int) + 1 := by omega
  have hz2 : ¬ ((i : Int) = (xs.length : Int)) := by omega
  have hb2 : ¬ (c1 = i + 1) := by omega
  have hb3 : (i : Int) ≤ (xs.length : Int) + 1 := by omega
  have hb4 : ¬ (c1 = i) := by omega
  have hb5 : ¬ (xs.length = i) := by omega
  have hin : i ≤ xs.length := by omega
  have htn : ((i : Int) + 1).toNat = i + 1 := by omega
  clear ht1 hg1 hW1 hmid htl ht2 hg2 htk F h ho hll hg hvb hv1 HL hsz hap hold hhd hhl hcA hgA hsA htA hold1 hW2 hg3 hs2 hs1 hG hc1 hok
  go_enter Try.func20, Try.ntmps20
  go_wp2_with (at_builtin; refine app_event rfl _ _ 24 3 rfl rfl rfl HAP.out ?_)
  go_region_law (refine copy_step rfl _ _ 24 24 rfl (by simp [Act.eval, Act.put]) (by simp [Act.eval, Act.put]) (hcp2 _ _ _) ?_)
  go_wp2
  go_ret
  refine ⟨_, rfl, R_close HF.out (fun k e => by injection e with e; exact e ▸ hokG) ?_, GR.out, .inr ⟨G, rfl, Nat.le_of_eq HG.out.symm⟩⟩
  rw [hk]
  have hl : (xs.take i ++ x :: xs.drop i).length = xs.length + 1 := by rw [List.length_append, List.length_cons, List.length_take, List.length_drop]; omega
  rw [hl]
  exact ⟨by rw [flat_len HH.out, hl], .inr ⟨G, c1, cur2, rfl, hbG, X.out.1, hge, by unfold maxLen; omega, X.out.2.1, X.out.2.2⟩⟩
/-- slices.Insert of one element into a row of the call's own. -/
theorem ins_calls36 {α : Type} {d : Kd α} {enc : α → List Value} (F : Flat d enc) (hk : d.sz = 4) (i0 : TypeInfo) (z : Value) (hi0 : Try.prog.info? 36 = some i0) (hz0 : i0.zero = some z) (hz1 : i0.size = 4) (hz2 : z.cells.size = 4) (hby : i0.bytes = 40)
    (W : World) (base : Nat) (ok : Nat → Prop) (v : Value) (xs : List α) (i : Nat) (x : α) (vb : Nat) (h : d.R 36 W base ok v xs) (hi : i ≤ xs.length) (hvb : W.heap[vb]? = some (.cells (enc x).toArray 36 (0, 0))) (hne : some vb ≠ v.ownBlock) (hbase : base ≤ W.heap.size) (hok : ∀ k, W.heap.size ≤ k → ok k) (hbig : (xs.length + 1) * 40 ≤ 140737488355328) :
    Calls Try.prog 20 #[v, .int .i64 i, .slice (some ⟨vb, 0, none⟩) 1 1] W fun e w' => ∃ v', e = .returned v' ∧ d.R 36 w' base ok v' (xs.take i ++ x :: xs.drop i) ∧ W.grownBy w' v.ownBlock ∧ (v'.ownBlock = v.ownBlock ∨ ∃ b, v'.ownBlock = some b ∧ W.heap.size ≤ b) := by
  obtain ⟨A, c, rfl⟩ := Kd.R_slice h
  have hnc := (Kd.R_reads' h).2.1
  rcases Nat.lt_or_eq_of_le hi with hi | rfl
  · rcases Nat.lt_or_eq_of_le hnc with hc | hc
    · exact ins_room36 F hk i0 hi0 hz1 W base ok A c xs i x vb h hi hvb hne hc
    · subst hc
      exact ins_grow36 F hk i0 z hi0 hz0 hz1 hz2 hby W base ok A xs i x vb h hi hvb hbase hok hbig
  · rw [show xs.take xs.length ++ x :: xs.drop xs.length = xs ++ [x] by simp]
    exact ins_end36 F hk i0 z hi0 hz0 hz1 hz2 hby W base ok A c xs x vb h hvb hbase hok hbig
set_option maxHeartbeats 4000000 in
set_option maxRecDepth 1000000 in
theorem bsf_calls36 (cf : S36 → Int) (g : Nat) (key : ByteArray) (cb : Array Value) (hcmp : ∀ (W : World) (x : S36), Calls Try.prog g (#[.agg #[.string x.f0, .int .i64 x.f1, .int .i64 x.f2, .int .i64 x.f3], .string key] ++ cb) W fun e w' => e = .returned (.int .i64 (cf x)) ∧ Below W.heap.size W w') (hcf : ∀ x, -1 ≤ cf x ∧ cf x ≤ 1)
    (eg : ∀ args w, (callFunc g args).run Try.prog w = .ok (.enter g args) w)
    (W : World) (A : Option Addr) (c : Nat) (xs : List S36) (h : Kd.C k36 W A xs.length xs) (hsz : xs.length < 4611686018427387904) (hmono : ∀ (a b : Nat) x y, a ≤ b → xs[a]? = some x → xs[b]? = some y → cf y < 0 → cf x < 0) :
    Calls Try.prog 16 #[.slice A xs.length c, .string key, .func (.func g) #[] cb] W fun e w' => e = .returned (.tuple #[.int .i64 (aheadN cf xs : Nat), .bool (stands cf xs)]) ∧ Below W.heap.size W w' := by
  have M := Aside0.mk hmono
  have HC := Aside0.mk hcmp
  have HF := Aside0.mk hcf
  have HR := Aside0.mk h
  have HB := Aside0.mk (Below.refl W.heap.size W)
  clear hmono hcmp h hcf
  have hu := Try.underlying24
  have huE := Try.underlying36
  go_enter Try.func16, Try.ntmps16
  go_wp2
  go_loopg [9, 10] xs.length (fun kx s9 s10 wr => ∃ lo hi : Nat, s9 = .int .i64 lo ∧ s10 = .int .i64 hi ∧ lo ≤ hi ∧ hi ≤ xs.length ∧ hi - lo ≤ kx ∧ Aside0 (Below W.heap.size W wr) ∧
    Aside0 ((∀ (t : Nat) x, t < lo → xs[t]? = some x → cf x < 0) ∧ (∀ (t : Nat) x, hi ≤ t → xs[t]? = some x → 0 ≤ cf x)))
  case atStart => exact ⟨0, xs.length, rfl, rfl, Nat.zero_le _, Nat.le_refl _, by omega, HB, ⟨fun t x ht => absurd ht (Nat.not_lt_zero _), fun t x h1 h2 => by rw [List.getElem?_eq_none (by omega)] at h2; cases h2⟩⟩
  case round =>
    clear HB
    obtain ⟨lo, hi, rfl, rfl, hlh, hin, hg, HB, I⟩ := hrel
    by_cases hlt : lo < hi
    · have hR := Kd.C_below HR.out HB.out
      obtain ⟨m, hm⟩ : ∃ m : Nat, m = (lo + hi) / 2 := ⟨_, rfl⟩
      obtain ⟨ad, e, hx_0, hx_1, hx_2, hx_3⟩ := at_T36 hR (m : Int) (by omega) (by omega)
      cases e
      obtain ⟨y, hy⟩ : ∃ y, xs[m]? = some y := ⟨_, List.getElem?_eq_getElem (by omega)⟩
      have hyr : rd_T36 xs (m : Int) = y := by unfold rd_T36; rw [List.getD_eq_getElem?_getD, Int.toNat_natCast, hy]; rfl
      rw [hyr] at hx_0 hx_1 hx_2 hx_3
      rw [Int.toNat_natCast] at hx_0 hx_1 hx_2 hx_3
      have Y : Aside0 (xs[m]? = some y) := ⟨hy⟩
      have HM : Aside0 (m = (lo + hi) / 2) := ⟨hm⟩
      have hml : m < xs.length := by omega
      rw [hm] at hx_0 hx_1 hx_2 hx_3
      have hcy := HF.out y
      clear hy hyr hR hm
      by_cases hyx : cf y < 0
      · go_wp2_with (go_at_fn g; refine (HC.out _ y).mono ?_; rintro e w' ⟨rfl, hb⟩)
        go_roundg (hi - (m + 1))
        case measure => have := HM.out; omega
        case rel =>
          have hm := HM.out
          refine ⟨m + 1, hi, by rw [show ((lo : Int) + (hi : Int)) / 2 + 1 = ((m + 1 : Nat) : Int) by omega], rfl, by omega, hin, Nat.le_refl _, ⟨below_step HB.out hb⟩, ⟨fun t x ht hx => ?_, I.out.2⟩⟩
          exact M.out t m x y (by omega) hx Y.out hyx
      · go_wp2_with (go_at_fn g; refine (HC.out _ y).mono ?_; rintro e w' ⟨rfl, hb⟩)
        go_roundg (m - lo)
        case measure => have := HM.out; omega
        case rel =>
          have hm := HM.out
          refine ⟨lo, m, rfl, by rw [show ((lo : Int) + (hi : Int)) / 2 = (m : Int) by omega], by omega, by omega, Nat.le_refl _, ⟨below_step HB.out hb⟩, ⟨I.out.1, fun t x ht hx => ?_⟩⟩
          exact Int.not_lt.1 fun h => by have := M.out m t y x ht Y.out hx h; omega
    · obtain rfl : hi = lo := by omega
      have ecnt : aheadN cf xs = hi := aheadN_eq cf xs hi hin I.out.1 I.out.2
      by_cases hn : hi < xs.length
      · have hR := Kd.C_below HR.out HB.out
        obtain ⟨ad, e, hx_0, hx_1, hx_2, hx_3⟩ := at_T36 hR (hi : Int) (by omega) (by omega)
        cases e
        obtain ⟨y, hy⟩ : ∃ y, xs[hi]? = some y := ⟨_, List.getElem?_eq_getElem hn⟩
        have hyr : rd_T36 xs (hi : Int) = y := by unfold rd_T36; rw [List.getD_eq_getElem?_getD, Int.toNat_natCast, hy]; rfl
        rw [hyr] at hx_0 hx_1 hx_2 hx_3
        rw [Int.toNat_natCast] at hx_0 hx_1 hx_2 hx_3
        have S : Aside0 (stands cf xs = decide (cf y = 0)) := ⟨by unfold stands; rw [ecnt, hy]⟩
        have EC := Aside0.mk ecnt
        have hcy := HF.out y
        clear hy hyr hR ecnt
        by_cases hyx : cf y = 0
        all_goals
          go_wp2_with (go_at_fn g; refine (HC.out _ y).mono ?_; rintro e w' ⟨rfl, hb⟩)
          go_ret2
          exact ⟨by rw [EC.out, S.out]; simp [hyx], below_step HB.out hb⟩
      · have S : Aside0 (stands cf xs = false) := ⟨by unfold stands; rw [ecnt, List.getElem?_eq_none (by omega)]⟩
        have EC := Aside0.mk ecnt
        clear ecnt
        go_wp2
        go_ret2
        exact ⟨by rw [EC.out, S.out]; rfl, HB.out⟩
set_option maxRecDepth 100000 in
theorem strcmp0_calls (a b : ByteArray) (w : World) : Calls Try.prog 27 #[.string a, .string b] w fun e w' => e = .returned (.int .i64 (Lib.compareBytes a.data.toList b.data.toList)) ∧ w = w' := by
  go_enter Try.func27, Try.ntmps27
  go_wp2
  rw [run_callFunc_extern Try.func30 (by kernel_rfl) (by kernel_rfl) (by kernel_rfl) (e := Extern.BytealgCompare.compare) (by kernel_rfl), Lib.run_compareString]
  simp only [Result.andThen]
  rw [Oper.upon_value]
  go_wp2
  go_ret
  exact ⟨rfl, rfl⟩
theorem strcmp_calls (a b : ByteArray) (w : World) : Calls Try.prog 18 #[.string a, .string b] w fun e w' => e = .returned (.int .i64 (Lib.compareBytes a.data.toList b.data.toList)) ∧ w = w' := by
  go_enter Try.func18, Try.ntmps18
  go_wp2_with (go_at_call 27; refine (strcmp0_calls _ _ _).mono ?_; rintro e w' ⟨rfl, rfl⟩)
  go_ret
  exact ⟨rfl, rfl⟩
theorem strcmp_range : ∀ (a b : List UInt8), -1 ≤ Lib.compareBytes a b ∧ Lib.compareBytes a b ≤ 1
  | [], [] => by simp [Lib.compareBytes]
  | [], _ :: _ => by simp [Lib.compareBytes]
  | _ :: _, [] => by simp [Lib.compareBytes]
  | a :: r, b :: s => by
    unfold Lib.compareBytes
    have := strcmp_range r s
    split
    · omega
    · split <;> omega
/-- A spot's key against a text. -/
def keyCmp (key : ByteArray) (x : S36) : Int := Lib.compareBytes x.f0.data.toList key.data.toList
theorem keyCmp_calls (key : ByteArray) (w : World) (x : S36) : Calls Try.prog 17 #[.agg #[.string x.f0, .int .i64 x.f1, .int .i64 x.f2, .int .i64 x.f3], .string key] w fun e w' => e = .returned (.int .i64 (keyCmp key x)) ∧ Below w.heap.size w w' := by
  have hu36 := Try.underlying36
  obtain ⟨r, hr⟩ : ∃ r, r = keyCmp key x := ⟨_, rfl⟩
  have HR := Aside0.mk hr
  rw [← hr]
  clear hr
  go_enter Try.func17, Try.ntmps17
  go_wp2_with (go_at_call 18; refine (strcmp_calls _ _ _).mono ?_; rintro e w' ⟨rfl, rfl⟩)
  go_ret
  exact ⟨by rw [HR.out]; rfl, below_alloc (Below.refl _ _) _⟩
/-- May a spot be looked for in these, and one be laid to them? -/
def impl_DirMore.okB (s : S36) (out : List S36) : Bool := decide (out.Pairwise fun x y => keyCmp s.f0 y < 0 → keyCmp s.f0 x < 0) && decide ((out.length + 1) * 40 ≤ 140737488355328)
def impl_DirMore.step (s : S36) (out : List S36) : List S36 :=
  if s.f3 = -1 then (if stands (keyCmp s.f0) out = true then out.take (aheadN (keyCmp s.f0) out) ++ out.drop (aheadN (keyCmp s.f0) out + 1) else out)
  else if stands (keyCmp s.f0) out = true then out.set (aheadN (keyCmp s.f0) out) s else out.take (aheadN (keyCmp s.f0) out) ++ s :: out.drop (aheadN (keyCmp s.f0) out)
def impl_DirMore.more : List S36 → List S36 → Option (List S36)
  | [], out => some out
  | s :: r, out => if impl_DirMore.okB s out = true then impl_DirMore.more r (impl_DirMore.step s out) else none
def impl_DirMore.f (k : Nat) (l0 l1 : List S36) : Option (List S36 × Bool) :=
  (impl_DirOk.f k l0).bind fun t => if t = true then (if l0.length * 40 ≤ 140737488355328 then (impl_DirMore.more l1 l0).bind fun out => (impl_DirOk.f k out).bind fun u => if u = true then some (out, true) else some ([], false) else none) else some ([], false)
theorem impl_DirMore.mono : ∀ a0 a1 k, LeO (impl_DirMore.f k a0 a1) (impl_DirMore.f (k + 1) a0 a1) := by
  intro a0 a1 k
  unfold impl_DirMore.f
  exact LeO.bind (impl_DirOk.mono _ _) fun _ => LeO.ite (LeO.ite (LeO.bind (LeO.refl _) fun _ => LeO.bind (impl_DirOk.mono _ _) fun _ => LeO.refl _) (LeO.refl _)) (LeO.refl _)
def enc36 (x : S36) : List Value := [.string x.f0, .int .i64 x.f1, .int .i64 x.f2, .int .i64 x.f3]
theorem flat36 : Flat k36 enc36 where
  len := fun _ => rfl
  pos := by decide
  one := fun x u hu => by simp [enc36] at hu; rcases hu with rfl | rfl | rfl | rfl <;> rfl
  op := fun _ _ _ _ _ h => k36_openM h
  mkk := fun w base ok x => k36_mkM w base ok x
theorem q0_ {w : World} {g n : Nat} {u : Value} (h : w.cell? ⟨g, n + 0, none⟩ = some u) : w.cell? ⟨g, n, none⟩ = some u := h
theorem mono_of {α : Type} {p : α → Prop} {xs : List α} (h : xs.Pairwise fun x y => p y → p x) {a b : Nat} {x y : α} (hab : a ≤ b) (hx : xs[a]? = some x) (hy : xs[b]? = some y) : p y → p x := by
  rcases Nat.lt_or_eq_of_le hab with hlt | rfl
  · obtain ⟨h1, rfl⟩ := List.getElem?_eq_some_iff.mp hx
    obtain ⟨h2, rfl⟩ := List.getElem?_eq_some_iff.mp hy
    exact List.pairwise_iff_getElem.mp h a b h1 h2 hlt
  · rw [hx] at hy; injection hy with e; rw [e]; exact id
theorem stands_lt {α : Type} {cf : α → Int} {xs : List α} (h : stands cf xs = true) : aheadN cf xs < xs.length := by
  unfold stands at h
  rcases Nat.lt_or_ge (aheadN cf xs) xs.length with hl | hl
  · exact hl
  · rw [List.getElem?_eq_none hl] at h; cases h
set_option maxHeartbeats 8000000 in
set_option maxRecDepth 100000 in
theorem impl_DirMore.calls (k : Nat) (A0 : Option Addr) (c0 : Nat) (l0 : List (S36)) (A1 : Option Addr) (c1 : Nat) (l1 : List (S36)) (r1 : List (S36)) (r2 : Bool) (w : World) (hr0 : Kd.C k36 w A0 l0.length l0) (hc0 : l0.length ≤ c0) (hr1 : Kd.C k36 w A1 l1.length l1) (hc1 : l1.length ≤ c1) (h : impl_DirMore.f k l0 l1 = some (r1, r2)) :
    Calls Try.prog 7 #[.slice A0 l0.length c0, .slice A1 l1.length c1] w fun e w' => ∃ v0_, e = .returned (.tuple #[v0_, .bool r2]) ∧ Kd.R k36 36 w' w.heap.size (fun _ => True) v0_ r1 ∧ Below w.heap.size w w' := by
  have hu36 := Try.underlying36
  have HR0 := Aside0.mk hr0
  have HC0 := Aside0.mk hc0
  have HR1 := Aside0.mk hr1
  have HM1 := Aside0.mk (Kd.C_max hr1)
  have HB := Aside0.mk (Below.refl w.heap.size w)
  unfold impl_DirMore.f at h
  obtain ⟨t, hA, h⟩ := Option.bind_eq_some_iff.mp h
  have HA := Aside0.mk hA
  clear hr0 hc0 hr1 hc1 hA
  cases t with
  | false =>
    have H := Aside0.mk h
    clear h
    go_enter Try.func7, Try.ntmps7
    go_wp2_with (go_at_call 15; refine (impl_DirOk.calls k A0 c0 l0 false _ HR0.out HC0.out HA.out).mono ?_; rintro e w1 ⟨rfl, hb⟩)
    go_ret2
    have h := H.out
    simp only [Bool.false_eq_true, if_false, Option.some.injEq, Prod.mk.injEq] at h
    obtain ⟨rfl, rfl⟩ := h
    exact ⟨_, rfl, Kd.R_nil _ _ _ _ _, hb⟩
  | true =>
    rw [if_pos rfl] at h
    by_cases hz : l0.length * 40 ≤ 140737488355328
    · rw [if_pos hz] at h
      obtain ⟨fin, hmo, h⟩ := Option.bind_eq_some_iff.mp h
      obtain ⟨u, hU, h⟩ := Option.bind_eq_some_iff.mp h
      have HMO := Aside0.mk hmo
      have HU := Aside0.mk hU
      have H := Aside0.mk h
      clear hmo hU h
      go_enter Try.func7, Try.ntmps7
      go_wp2_with (first
        | (go_at_call 15; refine (impl_DirOk.calls k A0 c0 l0 true _ HR0.out HC0.out HA.out).mono ?_; rintro e w1 ⟨rfl, hb⟩; replace HB := Aside0.mk (below_step HB.out hb); clear hb)
        | (at_builtin; refine Kd.R_append_rows k36 (w0 := w) w.heap.size rfl _ _ 24 36 _ 40 rfl Try.underlying24 info36 rfl (by decide) (by omega) (.slice none 0 0) [] l0 _ _ _ (fun _ => True) (fun _ => False) rfl rfl (Kd.R_nil _ _ _ _ _) (Kd.C_below HR0.out HB.out) (fun _ _ h => h) (fun _ h => h.elim) (fun _ _ => trivial) HB.out (below_size HB.out) (by simp only [List.length_nil, Nat.zero_add]; exact hz) ?_; intro v1 w2 ho hb hg hat; have HO := Aside0.mk ho; replace HB := Aside0.mk hb; clear ho hb hg hat))
      have hfin : impl_DirMore.more (l1.drop 0) l0 = some fin := HMO.out
      go_loopg [6, 18] l1.length (fun kx v6 v18 wr => ∃ (j : Nat) (out : List S36), v18 = .int .i64 j ∧ j ≤ l1.length ∧ l1.length - j ≤ kx ∧ Aside0 (impl_DirMore.more (l1.drop j) out = some fin) ∧ Aside0 (Kd.R k36 36 wr w.heap.size (fun _ => True) v6 out) ∧ Aside0 (Below w.heap.size w wr))
      case atStart => exact ⟨0, l0, rfl, Nat.zero_le _, by omega, ⟨hfin⟩, HO, HB⟩
      case round =>
        clear HB HO hfin HMO
        obtain ⟨j, out, rfl, hj, hjk, HMO, HO, HB⟩ := hrel
        by_cases hlt : j < l1.length
        · obtain ⟨ad, e, hx_0, hx_1, hx_2, hx_3⟩ := at_T36 (Kd.C_below HR1.out HB.out) (j : Int) (by omega) (by omega)
          cases e
          obtain ⟨y, hy⟩ : ∃ y, l1[j]? = some y := ⟨_, List.getElem?_eq_getElem hlt⟩
          have hyr : rd_T36 l1 (j : Int) = y := by unfold rd_T36; rw [List.getD_eq_getElem?_getD, Int.toNat_natCast, hy]; rfl
          rw [hyr] at hx_0 hx_1 hx_2 hx_3
          rw [Int.toNat_natCast] at hx_0 hx_1 hx_2 hx_3
          have hmo := HMO.out
          rw [List.drop_eq_getElem_cons hlt, show l1[j] = y from Option.some.inj ((List.getElem?_eq_getElem hlt).symm.trans hy), impl_DirMore.more] at hmo
          by_cases hok : impl_DirMore.okB y out = true
          · rw [if_pos hok] at hmo
            unfold impl_DirMore.okB at hok
            rw [Bool.and_eq_true, decide_eq_true_iff, decide_eq_true_iff] at hok
            have HPW := Aside0.mk hok.1
            have hsz := hok.2
            replace HMO := Aside0.mk hmo
            clear hmo hok hy hyr
            obtain ⟨A6, c6, rfl⟩ := Kd.R_slice HO.out
            have hal := aheadN_le (keyCmp y.f0) out
            by_cases hd : y.f3 = -1
            · have hd1 : (y.f3 == -1) = true := by rw [hd]; rfl
              have HD := Aside0.mk hd
              clear hd
              rcases bt_ (stands (keyCmp y.f0) out) with hs | hs
              · have hlt2 := stands_lt hs
                have HS1 := Aside0.mk hs
                go_wp2_with (first
                  | (go_at_call 16; refine (bsf_calls36 (keyCmp y.f0) 17 y.f0 #[] (fun W x => keyCmp_calls y.f0 W x) (fun x => strcmp_range _ _) (enters_of Try.func17 (by kernel_rfl) rfl) _ _ _ out (Kd.R_reads' (Kd.R_alloc HO.out _)).2.2 (by omega) (fun a b x z hab hx hz => mono_of HPW.out hab hx hz)).mono ?_; rintro e w3 ⟨rfl, hb⟩; have hbk := (hb.block wr.heap.size (by simp)).trans (heap_alloc_new wr _); replace HO := Aside0.mk (Kd.R_below (Kd.R_alloc HO.out _) hb); replace HB := Aside0.mk (below_step (below_alloc HB.out _) hb); have HS := Aside0.mk (show wr.heap.size < w3.heap.size by have := hb.size; simp at this; omega); have hc_0 := (blk_cell hbk 0).trans rfl; have hc_1 := (blk_cell hbk 1).trans rfl; have hc_2 := (blk_cell hbk 2).trans rfl; have hc_3 := (blk_cell hbk 3).trans rfl; have HBK := Aside0.mk hbk; clear hb hbk)
                  | (go_at_call 19; refine (del_calls36 flat36 rfl _ _ rfl rfl rfl rfl (by decide) w3 w.heap.size (fun _ => True) _ A6 c6 out (aheadN (keyCmp y.f0) out) rfl HO.out hlt2).mono ?_; rintro e w4 ⟨v6, rfl, hO, hg, -⟩; replace HB := Aside0.mk (HB.out.grown hg (below_size HB.out) (Kd.R_base HO.out)); replace HO := Aside0.mk hO; clear hO hg))
                go_roundg (l1.length - (j + 1))
                case measure => omega
                case rel => exact ⟨j + 1, _, by rw [w64_ (by have := HM1.out; omega) (by omega)]; rfl, by omega, Nat.le_refl _, ⟨by have h_ := HMO.out; unfold impl_DirMore.step at h_; rw [if_pos HD.out, if_pos HS1.out] at h_; exact h_⟩, HO, HB⟩
              · have hlt2 := hs
                have HS1 := Aside0.mk hs
                go_wp2_with (first
                  | (go_at_call 16; refine (bsf_calls36 (keyCmp y.f0) 17 y.f0 #[] (fun W x => keyCmp_calls y.f0 W x) (fun x => strcmp_range _ _) (enters_of Try.func17 (by kernel_rfl) rfl) _ _ _ out (Kd.R_reads' (Kd.R_alloc HO.out _)).2.2 (by omega) (fun a b x z hab hx hz => mono_of HPW.out hab hx hz)).mono ?_; rintro e w3 ⟨rfl, hb⟩; have hbk := (hb.block wr.heap.size (by simp)).trans (heap_alloc_new wr _); replace HO := Aside0.mk (Kd.R_below (Kd.R_alloc HO.out _) hb); replace HB := Aside0.mk (below_step (below_alloc HB.out _) hb); have HS := Aside0.mk (show wr.heap.size < w3.heap.size by have := hb.size; simp at this; omega); have hc_0 := (blk_cell hbk 0).trans rfl; have hc_1 := (blk_cell hbk 1).trans rfl; have hc_2 := (blk_cell hbk 2).trans rfl; have hc_3 := (blk_cell hbk 3).trans rfl; have HBK := Aside0.mk hbk; clear hb hbk))
                go_roundg (l1.length - (j + 1))
                case measure => omega
                case rel => exact ⟨j + 1, _, by rw [w64_ (by have := HM1.out; omega) (by omega)]; rfl, by omega, Nat.le_refl _, ⟨by have h_ := HMO.out; unfold impl_DirMore.step at h_; rw [if_pos HD.out, if_neg (by rw [HS1.out]; decide)] at h_; exact h_⟩, HO, HB⟩
            · have hd1 : (y.f3 == -1) = false := by simpa using hd
              have HD := Aside0.mk hd
              clear hd
              rcases bt_ (stands (keyCmp y.f0) out) with hs | hs
              · have hlt2 := stands_lt hs
                have HS1 := Aside0.mk hs
                obtain ⟨g, cap, hv, -⟩ := Kd.R_form HO.out (by omega)
                injection hv with hA _ hc
                subst hA; subst hc
                go_wp2_with (first
                  | (go_at_call 16; refine (bsf_calls36 (keyCmp y.f0) 17 y.f0 #[] (fun W x => keyCmp_calls y.f0 W x) (fun x => strcmp_range _ _) (enters_of Try.func17 (by kernel_rfl) rfl) _ _ _ out (Kd.R_reads' (Kd.R_alloc HO.out _)).2.2 (by omega) (fun a b x z hab hx hz => mono_of HPW.out hab hx hz)).mono ?_; rintro e w3 ⟨rfl, hb⟩; have hbk := (hb.block wr.heap.size (by simp)).trans (heap_alloc_new wr _); replace HO := Aside0.mk (Kd.R_below (Kd.R_alloc HO.out _) hb); replace HB := Aside0.mk (below_step (below_alloc HB.out _) hb); have HS := Aside0.mk (show wr.heap.size < w3.heap.size by have := hb.size; simp at this; omega); have hc_0 := (blk_cell hbk 0).trans rfl; have hc_1 := (blk_cell hbk 1).trans rfl; have hc_2 := (blk_cell hbk 2).trans rfl; have hc_3 := (blk_cell hbk 3).trans rfl; have HBK := Aside0.mk hbk; clear hb hbk; obtain ⟨hp, hpg, hpb, hpf, hpc⟩ := R_put_wide flat36 HO.out hlt2 y; have HP := Aside0.mk hp; have HG := Aside0.mk hpg; have HPB := Aside0.mk hpb; obtain ⟨u_0, q_0⟩ := hpc 0 (by decide); obtain ⟨u_1, q_1⟩ := hpc 1 (by decide); obtain ⟨u_2, q_2⟩ := hpc 2 (by decide); obtain ⟨u_3, q_3⟩ := hpc 3 (by decide); clear hp hpg hpb hpc; replace q_0 : w3.cell? ⟨g, aheadN (keyCmp y.f0) out * 4, none⟩ = some u_0 := q_0; replace q_1 : w3.cell? ⟨g, aheadN (keyCmp y.f0) out * 4 + 1, none⟩ = some u_1 := q_1; replace q_2 : w3.cell? ⟨g, aheadN (keyCmp y.f0) out * 4 + 2, none⟩ = some u_2 := q_2; replace q_3 : w3.cell? ⟨g, aheadN (keyCmp y.f0) out * 4 + 3, none⟩ = some u_3 := q_3))
                replace HB := Aside0.mk (HB.out.grown HG.out (below_size HB.out) (fun k hk => by injection hk with hk; rw [← hk]; exact HPB.out))
                replace HO := HP
                go_roundg (l1.length - (j + 1))
                case measure => omega
                case rel => exact ⟨j + 1, _, by rw [w64_ (by have := HM1.out; omega) (by omega)]; rfl, by omega, Nat.le_refl _, ⟨by have h_ := HMO.out; unfold impl_DirMore.step at h_; rw [if_neg HD.out, if_pos HS1.out] at h_; exact h_⟩, HO, HB⟩
              · have HS1 := Aside0.mk hs
                go_wp2_with (first
                  | (go_at_call 16; refine (bsf_calls36 (keyCmp y.f0) 17 y.f0 #[] (fun W x => keyCmp_calls y.f0 W x) (fun x => strcmp_range _ _) (enters_of Try.func17 (by kernel_rfl) rfl) _ _ _ out (Kd.R_reads' (Kd.R_alloc HO.out _)).2.2 (by omega) (fun a b x z hab hx hz => mono_of HPW.out hab hx hz)).mono ?_; rintro e w3 ⟨rfl, hb⟩; have hbk := (hb.block wr.heap.size (by simp)).trans (heap_alloc_new wr _); replace HO := Aside0.mk (Kd.R_below (Kd.R_alloc HO.out _) hb); replace HB := Aside0.mk (below_step (below_alloc HB.out _) hb); have HS := Aside0.mk (show wr.heap.size < w3.heap.size by have := hb.size; simp at this; omega); have hc_0 := (blk_cell hbk 0).trans rfl; have hc_1 := (blk_cell hbk 1).trans rfl; have hc_2 := (blk_cell hbk 2).trans rfl; have hc_3 := (blk_cell hbk 3).trans rfl; have HBK := Aside0.mk hbk; clear hb hbk)
                  | (go_at_call 20; refine (ins_calls36 flat36 rfl _ _ rfl rfl rfl rfl rfl _ w.heap.size (fun _ => True) _ out (aheadN (keyCmp y.f0) out) y w3.heap.size (Kd.R_alloc HO.out _) hal (heap_alloc_new w3 _) (fun e => Nat.lt_irrefl _ (Kd.R_lt HO.out _ e.symm)) (below_size (below_alloc HB.out _)) (fun _ _ => trivial) hsz).mono ?_; rintro e w4 ⟨v6, rfl, hO, hg, -⟩; replace HB := Aside0.mk ((below_alloc HB.out _).grown hg (below_size (below_alloc HB.out _)) (Kd.R_base HO.out)); replace HO := Aside0.mk hO; clear hO hg))
                go_roundg (l1.length - (j + 1))
                case measure => omega
                case rel => exact ⟨j + 1, _, by rw [w64_ (by have := HM1.out; omega) (by omega)]; rfl, by omega, Nat.le_refl _, ⟨by have h_ := HMO.out; unfold impl_DirMore.step at h_; rw [if_neg HD.out, if_neg (by rw [HS1.out]; decide)] at h_; exact h_⟩, HO, HB⟩
          · rw [if_neg hok] at hmo; cases hmo
        · obtain rfl : j = l1.length := by omega
          have hmo := HMO.out
          rw [List.drop_length, impl_DirMore.more] at hmo
          injection hmo with hmo
          subst hmo
          clear HMO
          obtain ⟨A6, c6, rfl⟩ := Kd.R_slice HO.out
          cases u
          all_goals
            go_wp2_with (go_at_call 15; refine (impl_DirOk.calls k A6 c6 out _ _ (Kd.R_reads' HO.out).2.2 (Kd.R_reads' HO.out).2.1 HU.out).mono ?_; rintro e w3 ⟨rfl, hb⟩; replace HO := Aside0.mk (Kd.R_below HO.out hb); replace HB := Aside0.mk (below_step HB.out hb); clear hb)
            go_ret2
            have h := H.out
            simp only [Bool.false_eq_true, if_false, if_true, Option.some.injEq, Prod.mk.injEq] at h
            obtain ⟨rfl, rfl⟩ := h
            first | exact ⟨_, rfl, HO.out, HB.out⟩ | exact ⟨_, rfl, Kd.R_nil _ _ _ _ _, HB.out⟩
    · rw [if_neg hz] at h; cases h

end Go.Proofs.Ytejeafifaoffhaa.PFnExactDirMore
