/- The contracts of the Go functions that this law reaches: what each call returns, by a plain Lean function of its arguments. No conditions but those each contract names. By the kit's print.py, run by this session's wip/gen/pp.py with facts and hand proofs beside it: not to the letter what print.sh prints. -/
import Derived.Test.YtbcgnncbiblibaaProg
import Derived.Below
import Derived.Deep.Draws
import Derived.Deep.AppendLies
import Derived.Maps.AppendAt
import Derived.OwnWalk
import Derived.Laws.BytesArg
import Derived.Laws.MakeOwn
import Derived.Laws.OwnMore
import Derived.Deep.OwnRows
import Derived.Tactics
import Derived.Lib.ConvBytes
import Derived.Laws.Slices
import Derived.WalkKit
import Derived.KernelRfl
import Derived.RowKit3
import Derived.Deep.LoopGhost
import Derived.Deep.QuietTactic
import Derived.BigQuiet
import Derived.WideLaws
import Derived.Deep.DeepCutAuto
import Derived.Deep.CutBlock
import Derived.Deep.RegionHeld3
import Derived.Laws.Rows
import Derived.Lib.AppendStr
import Derived.ArgAppend
import Derived.Laws.IdiomCopy
import Derived.OrdersHeld
import Derived.Laws.BitsLemmas
import Derived.RowKit
import Derived.Laws.Cover1
import Derived.Test.YtbcgnncbiblibaaVFnMessagesWWords
import Derived.Test.YtbcgnncbiblibaaVFnMessagesWLast
import Derived.Test.YtbcgnncbiblibaaVFnMessagesWTab
import Derived.Test.YtbcgnncbiblibaaVFnMessagesWFour
import Derived.Test.YtbcgnncbiblibaaVFnMessagesWQPut
import Derived.Test.YtbcgnncbiblibaaVFnMessagesWApart
import Derived.Test.YtbcgnncbiblibaaVFnMessagesWArr
import Derived.Test.YtbcgnncbiblibaaVFnMessagesWZeros
import Derived.Test.YtbcgnncbiblibaaVFnMessagesWFoot
import Derived.Test.YtbcgnncbiblibaaVFnMessagesWKept
import Derived.Test.YtbcgnncbiblibaaVFnMessagesWShare
import Derived.Test.YtbcgnncbiblibaaVFnMessagesWN
import Derived.Test.YtbcgnncbiblibaaVFnMessagesWFootNe
import Derived.Test.YtbcgnncbiblibaaVFnMessagesWAt
import Derived.Test.YtbcgnncbiblibaaVFnMessagesWEqStruct
import Derived.Test.YtbcgnncbiblibaaVFnMessagesWRepsOne
import Derived.Test.YtbcgnncbiblibaaVFnMessagesWInv
import Derived.Test.YtbcgnncbiblibaaVFnMessagesWInvWords
import Derived.Test.YtbcgnncbiblibaaVFnMessagesWGuard
import Derived.Test.YtbcgnncbiblibaaVFnMessagesWNEv
import Derived.Test.YtbcgnncbiblibaaVFnMessagesWMore
namespace Go.Proofs.Ytbcgnncbiblibaa.PFnMessages
open Go.RowKit Go.Proofs.YtbcgnncbiblibaaW.PrintWords Go.Proofs.YtbcgnncbiblibaaW.PrintLast Go.Proofs.YtbcgnncbiblibaaW.PrintMore
attribute [local go_sem] max2_int min2_int max_two min_two max_three min_three max_four min_four
set_option linter.unusedVariables false
set_option linter.unusedSimpArgs false
def errW : Option Int → Value
 | none => .nilIface
 | some c => .iface 0 (.int .i64 c)
theorem errW_none : errW none = .nilIface := rfl
theorem errW_some (c : Int) : errW (some c) = .iface 0 (.int .i64 c) := rfl
theorem info3 : (Try.prog.info? 3).map (fun i => (i.zero, i.size, i.bytes)) = some (some (.int .i64 0), 1, 8) := by kernel_rfl
theorem info5 : (Try.prog.info? 5).map (fun i => (i.zero, i.size, i.bytes)) = some (some (.int .u8 0), 1, 1) := by kernel_rfl
theorem info69 : (Try.prog.info? 69).map (fun i => (i.zero, i.size, i.bytes)) = some (some (.agg #[(.int .i64 0), (.int .i64 0), (.string ⟨#[]⟩)]), 3, 32) := by kernel_rfl
structure S69 where
 f0 : Int
 f1 : Int
 f2 : ByteArray
def z69 : S69 := ⟨(0 : Int), (0 : Int), (⟨#[]⟩ : ByteArray)⟩
def k69 : Kd S69 := Kd.iso (Kd.pair (Kd.int .i64) (Kd.pair (Kd.int .i64) Kd.string)) (fun x : S69 => (x.f0, x.f1, x.f2))
theorem k69_open {w : World} {x : S69} {cs : List Value} (h : k69.K w x cs) : cs = [.int .i64 x.f0, .int .i64 x.f1, .string x.f2] := by
 obtain ⟨_,_,rfl,rfl,⟨_,_,rfl,rfl,rfl⟩⟩:=h;exact rfl
theorem k69_openM {w : World} {base : Nat} {ok : Nat → Prop} {x : S69} {cs : List Value} (h : k69.M w base ok x cs) : cs = [.int .i64 x.f0, .int .i64 x.f1, .string x.f2] := by
 obtain ⟨_,_,rfl,rfl,⟨_,_,rfl,rfl,rfl⟩⟩:=h;exact rfl
theorem k69_mk (w : World) (x : S69)  : k69.K w x [.int .i64 x.f0, .int .i64 x.f1, .string x.f2] := ⟨[.int .i64 x.f0], [.int .i64 x.f1, .string x.f2], rfl, rfl, ⟨[.int .i64 x.f1], [.string x.f2], rfl, rfl, rfl⟩⟩
theorem k69_mkM (w : World) (base : Nat) (ok : Nat → Prop) (x : S69)  : k69.M w base ok x [.int .i64 x.f0, .int .i64 x.f1, .string x.f2] := ⟨[.int .i64 x.f0], [.int .i64 x.f1, .string x.f2], rfl, rfl, ⟨[.int .i64 x.f1], [.string x.f2], rfl, rfl, rfl⟩⟩
def rd_T69 (xs : List S69) (i : Int) : S69 := xs.getD i.toNat z69
theorem at_T69 {w : World} {A : Option Addr} {n : Nat} {xs : List S69} (h : Kd.C k69 w A n xs) (i : Int) (h0 : 0 ≤ i) (h1 : i < n) : ∃ ad , A = some ad ∧ w.cell? (ad.add (i.toNat * 3)) = some (.int .i64 (rd_T69 xs i).f0) ∧ w.cell? ⟨(ad.add (i.toNat * 3)).block, (ad.add (i.toNat * 3)).off + 1, none⟩ = some (.int .i64 (rd_T69 xs i).f1) ∧ w.cell? ⟨(ad.add (i.toNat * 3)).block, (ad.add (i.toNat * 3)).off + 2, none⟩ = some (.string (rd_T69 xs i).f2) := by
 obtain ⟨ad,c,e,_,hK,hc0⟩:=Kd.C_get h z69 i h0 h1;have hc : ∀ j u,c[j]? = some u → w.cell? (ad.add (i.toNat * 3 + j)) = some u:=hc0;obtain rfl:=k69_open hK;exact ⟨ad,e,hc 0 _ rfl,by rw [← add_field _ _ 1 (by omega)];exact hc 1 _ rfl,by rw [← add_field _ _ 2 (by omega)];exact hc 2 _ rfl⟩
abbrev A_ := @Aside0.mk
abbrev pn_ := @pw_below_drewN
abbrev pd_ := @below_drew1
abbrev pa_ := @below_alloc
abbrev ps_ := @below_set
abbrev ka_ := @blk_alloc
abbrev kn_ := @blk_drewN
abbrev kd_ := @blk_drew
abbrev kc_ := @blk_cell
abbrev kf_ := @blk_frozen
abbrev rn_ := @Kd.R_drewN
abbrev ra_ := @Kd.R_alloc
abbrev Rd_ := @Kd.R_drew
abbrev od_ := @of_decide_eq_true
abbrev bz_ := @below_size
abbrev kb_ := @blk_below
abbrev bs_ := @below_step
abbrev rb_ := @Kd.R_below
abbrev rf_ := @Kd.R_far
abbrev de_ := @decide_eq_true
abbrev wb_ := @World.block_lt_of_cell?
abbrev ob_ := @Option.bind_eq_some_iff
abbrev kg_ := @blk_grown
abbrev rm_ := @Kd.R_mono
abbrev re_ := @Kd.R_ne
abbrev kr_ := @blk_far
abbrev nl_ := @Nat.ne_of_lt
abbrev ng_ := @Nat.ne_of_gt
abbrev rw_ := @Kd.R_lower
abbrev ku_ := @blk_put
abbrev kl_ := @blk_lt
theorem s1_ {α : Type} (l : List α) (i : Nat) (a : α) : l.toArray.setIfInBounds i a = (l.set i a).toArray := List.setIfInBounds_toArray l i a
theorem s2_ {α : Type} {x : α} {xs : List α} {a : α} : (x :: xs).set 0 a = a :: xs := List.set_cons_zero
theorem s4_ {α β : Type} {f : α → β} {l : List α} : l.toArray.map f = (l.map f).toArray := List.map_toArray
theorem s5_ {α β : Type} {f : α → β} {a : α} {l : List α} : (a :: l).map f = f a :: l.map f := List.map_cons
theorem s6_ {α β : Type} {f : α → β} : ([] : List α).map f = [] := List.map_nil
theorem s3_ {α : Type} {x : α} {xs : List α} {i : Nat} {a : α} : (x :: xs).set (i + 1) a = x :: xs.set i a := List.set_cons_succ
theorem oda_ {p : Prop} [Decidable p] (h : decide p = true := by first | (with_reducible assumption) | assumption) : p := of_decide_eq_true h
theorem kq_ {p q : Prop} (B : Aside0 q) (h : q → p := by intro h_;(with_reducible repeat (first|refine kn_ ?_ _|refine kd_ ?_|refine ka_ ?_ _));exact h_) : p := h B.out
theorem rq_ {p q : Prop} (B : Aside0 q) (h : q → p := by intro h_;(with_reducible repeat (first|apply ra_|apply rn_|apply Rd_));exact h_) : p := h B.out
theorem bq_ {p q : Prop} (B : Aside0 q) (h : q → p := by intro h_;repeat (first|(with_reducible first|exact h_|apply pa_|apply pn_|apply pd_|refine ps_ ?_ (Aside0.out (by assumption)))|exact h_)) : p := h B.out
theorem bi_ {p q r : Prop} (B : Aside0 q) (I : r) (h : r → q → p := by intro i_ h_;repeat (first|(with_reducible first|exact h_|apply pa_|apply pn_|apply pd_|refine ps_ ?_ i_|refine ps_ ?_ (Aside0.out (by assumption)))|exact h_)) : p := h I B.out
theorem hq_ {w W0 W : World} {g : Nat} {r : Option Nat} (B : Aside0 (KeepBut w W0 g r)) (h : KeepBut w W0 g r → KeepBut w W g r := by intro h_;repeat (first|(with_reducible first|exact h_|apply KeepBut.set_|apply keep_drewN|apply keep_drew|apply keep_alloc|refine keep_far ?_ (Aside0.out (by assumption)) _)|exact h_)) : KeepBut w W g r := h B.out
theorem aq_ {p : Prop} (h : p := by (try simp only [s4_,s5_,s6_]);first|done|rfl|(simp only [List.length_drop,List.length_take];rfl)) : p := h
theorem gx_ {p : Prop} (h : p := by first|(go_simp;done)|(go_simp;rfl)) : p := h
theorem ux_ {p : Prop} (h : p := by simp only [Act.put,s1_,s2_,s3_,i64_w,i32_w];rfl) : p := h
theorem ex_ {p : Prop} (h : p := by first|rfl|(simp [*,errW_none,errW_some] <;> rfl)) : p := h
theorem kC_ {W : World} {g : Nat} {cs : Array Value} {t : TypeId} {v : Value} (B : Aside0 (W.heap[g]? = some (.cells cs t (0,0)))) (j : Nat) (h : cs[j]? = some v := by first|exact rfl|(with_unfolding_all exact rfl)) : W.cell? ⟨g,j,none⟩ = some v := (kc_ B.out j).trans h
theorem pU_ {P : Program} {ops : Array Oper} {Q : Exit → Act → World → Prop} {md : Region.Mode} {S : World → Prop} {ds : List Nat} {fuel : Nat} {l : Array Bool} {a a' : Act} {w : World} {v : Value} {oi : Oper} (i : Nat) (N : Option Tmp) (h : wpAnyLast P md ops Q S ds fuel (l.setIfInBounds i true) a' w) (zhi : ops[i]? = some oi := by exact rfl) (zhN : oi.dst = N := by exact rfl) (zhc : anyB md ops l (l.setIfInBounds i true) i = true := by exact any_of HT_.out (by kernel_rfl)) (zhQ : ∀ c a₁ w₁, Q (.panic c) (a₁.put oi.dst v) w₁ → Q (.panic c) a₁ w₁ := by exact fun _ _ _ h => h) (zhy : Yields P ops oi v a := by exact Or.inl ⟨by rfl,by intro w';go_simp;with_reducible rfl⟩) (zha : a.put N v = a' := by exact ux_) : wpAnyLast P md ops Q S ds (fuel+1) l a w := pure_ _ zhi zhN zhc zhQ zhy zha h
theorem tK_ {P : Program} {ops : Array Oper} {Q : Exit → Act → World → Prop} {md : Region.Mode} {S : World → Prop} {ds : List Nat} {fuel : Nat} {l : Array Bool} {a a' : Act} {w : World} {v : Value} {oi : Oper} (i : Nat) (N : Option Tmp) (zhS : S w) (h : wpAnyLast P md ops Q S ds fuel (l.setIfInBounds i true) a' w) (zhi : ops[i]? = some oi := by exact rfl) (zhN : oi.dst = N := by exact rfl) (zhc : takeB md ops ds l (l.setIfInBounds i true) i = true := by exact take_ofW HT_.out HW_.out (by kernel_rfl)) (zhQ : ∀ c a₁ w₁, Q (.panic c) (a₁.put oi.dst v) w₁ → Q (.panic c) a₁ w₁ := by exact fun _ _ _ h => h) (zhy : YieldsIf P ops S oi v a := by exact Or.inl ⟨by rfl,by (intro w' s_;repeat (obtain ⟨_,s_⟩ := s_));go_simp;with_reducible rfl⟩) (zha : a.put N v = a' := by exact ux_) : wpAnyLast P md ops Q S ds (fuel+1) l a w := take_ _ zhi zhN zhc zhQ zhy zhS zha h
theorem oN_ {P : Program} {ops : Array Oper} {Q : Exit → Act → World → Prop} {md : Region.Mode} {S : World → Prop} {ds : List Nat} {fuel : Nat} {l : Array Bool} {a : Act} {w : World} {oi : Oper} (i : Nat) (N : Option Tmp) (h : ∀ K : Act → World → Prop, Shut (∀ a' w', S w' → (S w' → wpAnyLast P md ops Q S ds fuel (l.setIfInBounds i true) a' w') → K a' w') → if Region.wanted oi (yielded ops a.tmps) = true then Oper.wp P oi a w K Q else K (a.put N undef) w) (zhi : ops[i]? = some oi := by exact rfl) (zhN : oi.dst = N := by exact rfl) (zhc : readyB md ops l (l.setIfInBounds i true) i = true := by exact one_of HT_.out (by kernel_rfl)) (zhd : i ∉ ds := by decide) : wpAnyLast P md ops Q S ds (fuel+1) l a w := one_ _ zhi zhN zhc zhd h
theorem nX_ {P : Program} {ops : Array Oper} {Q : Exit → Act → World → Prop} {md : Region.Mode} {S : World → Prop} {ds : List Nat} {fuel : Nat} {l : Array Bool} {a0 a' : Act} {w : World} {v : Value} {N0 : Option Tmp} (N : Option Tmp) (h : wpAnyLast P md ops Q S ds fuel l a' w) (zhN : N0 = N := by exact rfl) (zha : a0.put N v = a' := by exact ux_) : wpAnyLast P md ops Q S ds fuel l (a0.put N0 v) w := by subst zhN;subst zha;exact h
theorem gs_ {P : Program} {ops : Array Oper} {Q : Exit → Act → World → Prop} {oi : Oper} {N : Option Tmp} {a : Act} {w : World} {K : Act → World → Prop} {f : FuncId} {fn : Func} {ax : Array Operand} {ts : Array TypeId} (zhf : P.funcs[f]? = some fn) (args : Array Value) (h : Calls P f args w fun e w' => ∃ v, e = .returned v ∧ K (a.put N v) w') (zhname : (fn.name == "runtime.NumGoroutine") = false := by kernel_rfl) (zhb : fn.body.isSome = true := by exact rfl) (zhw : Region.wanted oi (yielded ops a.tmps) = true := by rfl) (zhN : oi.dst = N := by exact rfl) (zhop : oi.op = .call { callee := .value (.func f), args := ax, argTypes := ts } := by exact rfl) (zhargs : ax.map a.eval = args := by exact aq_) : if Region.wanted oi (yielded ops a.tmps) = true then Oper.wp P oi a w K Q else K (a.put N undef) w := goes_ zhf zhname zhb args zhw zhN zhop zhargs h
theorem gL_ {P : Program} {ops : Array Oper} {Q : Exit → Act → World → Prop} {rest : List Oper} {oi : Oper} {a : Act} {w : World} {f : FuncId} {fn : Func} {ax : Array Operand} {ts : Array TypeId} (N : Option Tmp) (zhf : P.funcs[f]? = some fn) (args : Array Value) (h : Calls P f args w fun e w' => ∃ v, e = .returned v ∧ wpList P ops Q rest (a.put N v) w') (zhd : oi.dst = N := by exact rfl) (zhg : oi.guard = none := by exact rfl) (zhname : (fn.name == "runtime.NumGoroutine") = false := by kernel_rfl) (zhb : fn.body.isSome = true := by exact rfl) (zhop : oi.op = .call { callee := .value (.func f), args := ax, argTypes := ts } := by exact rfl) (zhargs : ax.map a.eval = args := by exact aq_) : wpList P ops Q (oi :: rest) a w := goesL_ N zhd zhg zhf zhname zhb args zhop zhargs h
theorem gE_ {gb : Nat} {w W0 W : World} (zhg : gb = W.heap.size) (B : Aside0 (Below w.heap.size w W0)) (h : Below w.heap.size w W0 → Below w.heap.size w W := by intro h_;repeat (first|(with_reducible first|exact h_|apply pa_|apply pn_|apply pd_|refine ps_ ?_ (Aside0.out (by assumption)))|exact h_)) : Aside0 (w.heap.size ≤ gb) := ⟨by rw [zhg];exact below_size (h B.out)⟩
theorem kE_ {gb : Nat} {w W0 W : World} {g : Nat} {r : Option Nat} (zhg : gb = W.heap.size) (B : Aside0 (KeepBut w W0 g r)) (h : KeepBut w W0 g r → KeepBut w W g r := by intro h_;repeat (first|(with_reducible first|exact h_|apply KeepBut.set_|apply keep_drewN|apply keep_drew|apply keep_alloc|refine keep_far ?_ (Aside0.out (by assumption)) _)|exact h_)) : Aside0 (w.heap.size ≤ gb) := ⟨by rw [zhg];exact keep_size (h B.out)⟩
theorem nB_ {g gb : Nat} {W W0 : World} {o : Obj} (zhg : gb = W.heap.size) (B : Aside0 (W0.heap[g]? = some o)) (h : W0.heap[g]? = some o → W.heap[g]? = some o := by intro h_;(with_reducible repeat (first|refine kn_ ?_ _|refine kd_ ?_|refine ka_ ?_ _));exact h_) : Aside0 (g ≠ gb) := ⟨by rw [zhg];exact nl_ (kl_ (h B.out))⟩
theorem nC_ {g gb : Nat} {W W0 : World} {o : Obj} (zhg : gb = W.heap.size) (B : Aside0 (W0.heap[g]? = some o)) (h : W0.heap[g]? = some o → W.heap[g]? = some o := by intro h_;(with_reducible repeat (first|refine kn_ ?_ _|refine kd_ ?_|refine ka_ ?_ _));exact h_) : Aside0 (gb ≠ g) := ⟨by rw [zhg];exact ng_ (kl_ (h B.out))⟩
theorem kB_ {g : Nat} {W W0 w1 : World} {o : Obj} (B : Aside0 (W0.heap[g]? = some o)) (zhb : Below W.heap.size W w1) (h : W0.heap[g]? = some o → W.heap[g]? = some o := by intro h_;(with_reducible repeat (first|refine kn_ ?_ _|refine kd_ ?_|refine ka_ ?_ _));exact h_) : Aside0 (w1.heap[g]? = some o) := ⟨kb_ (h B.out) zhb⟩
theorem bS_ {w W0 W w1 : World} (B : Aside0 (Below w.heap.size w W0)) (zhb : Below W.heap.size W w1) (h : Below w.heap.size w W0 → Below w.heap.size w W := by intro h_;repeat (first|(with_reducible first|exact h_|apply pa_|apply pn_|apply pd_|refine ps_ ?_ (Aside0.out (by assumption)))|exact h_)) : Aside0 (Below w.heap.size w w1) := ⟨bs_ (h B.out) zhb⟩
theorem rB_ {α : Type} {d : Kd α} {e base : Nat} {W0 W w1 : World} {ok : Nat → Prop} {v : Value} {xs : List α} (B : Aside0 (Kd.R d e W0 base ok v xs)) (zhb : Below W.heap.size W w1) (h : Kd.R d e W0 base ok v xs → Kd.R d e W base ok v xs := by intro h_;(with_reducible repeat (first|apply ra_|apply rn_|apply Rd_));exact h_) : Aside0 (Kd.R d e w1 base ok v xs) := ⟨rb_ (h B.out) zhb⟩
theorem kG_ {α : Type} {d : Kd α} {e base : Nat} {ok : Nat → Prop} {v : Value} {xs : List α} {g : Nat} {W W0 W2 W3 w1 : World} {cs : Array Value} {t : Nat} (B : Aside0 (W0.heap[g]? = some (.cells cs t (0,0)))) (zhg : W.grownBy w1 v.ownBlock) (R : Aside0 (Kd.R d e W2 base ok v xs)) (zhr : Kd.R d e W2 base ok v xs → Kd.R d e W3 base ok v xs := by exact fun h_ => h_) (zhb : W0.heap[g]? = some (.cells cs t (0,0)) → W3.heap[g]? = some (.cells cs t (0,0)) := by exact fun h_ => h_) (ne : e ≠ t := by decide) (h : W0.heap[g]? = some (.cells cs t (0,0)) → W.heap[g]? = some (.cells cs t (0,0)) := by intro h_;(with_reducible repeat (first|refine kn_ ?_ _|refine kd_ ?_|refine ka_ ?_ _));exact h_) : Aside0 (w1.heap[g]? = some (.cells cs t (0,0))) := ⟨kg_ (h B.out) zhg (re_ (zhr R.out) (zhb B.out) ne)⟩
theorem kU_ {w : World} {g : Nat} {t : TypeId} {cs : Array Value} {i : Nat} {u : Value} (h : w.heap[g]? = some (.cells cs t (0,0))) : (w.setCell ⟨g,i,none⟩ u).heap[g]? = some (.cells (cs.setIfInBounds i u) t (0,0)) := blk_put h i u rfl
theorem kR_ {w : World} {g : Nat} {t : TypeId} {cs : Array Value} {p : Addr} {u : Value} (zhp : g ≠ p.block) (h : w.heap[g]? = some (.cells cs t (0,0))) : (w.setCell p u).heap[g]? = some (.cells cs t (0,0)) := blk_far h zhp u
theorem kz_ {g : Nat} {W W0 : World} {o o2 o' : Obj} (B : Aside0 (W0.heap[g]? = some o)) (h : W0.heap[g]? = some o → W.heap[g]? = some o2 := by intro h_;repeat (first|(with_reducible exact h_)|(with_reducible apply kn_)|(with_reducible apply kd_)|(with_reducible apply ka_)|(with_reducible apply kU_)|(with_reducible apply kR_;exact (Aside0.out (by assumption)))|exact h_)) (e : o2 = o' := by first|(simp only [List.setIfInBounds_toArray, List.set_cons_zero, List.set_cons_succ];done)|exact rfl|(with_unfolding_all exact rfl)) : W.heap[g]? = some o' := e ▸ h B.out
theorem rX_ {α : Type} {d : Kd α} {P : Program} {ops : Array Oper} {rest : List Oper} {o : Oper} {a : Act} {Q : Exit → Act → World → Prop} {W : World} {e : Nat} {xs : List α} {inner : List Value} {ok okp : Nat → Prop} (N : Tmp) (zhp : Reps (d.M W W.heap.size okp) d.sz xs inner) (h : ∀ v1 w1, d.R e w1 W.heap.size ok v1 xs → Below W.heap.size W w1 → W.grownBy w1 none → (∃ b, v1.ownBlock = some b ∧ W.heap.size ≤ b) → wpList P ops Q rest (a.put o.dst v1) w1) (zhgd : o.guard = none := by rfl) (zhd : o.dst = some N := by rfl) (zhr : (execOp a.eval o).run P W = .ok (.value (.slice (some ⟨W.heap.size, 0, none⟩) xs.length xs.length)) (W.alloc (.cells inner.toArray e)) := by exact gx_) (zhok : ∀ k, okp k → ok k := by exact fun _ h => h) (zhf : ok W.heap.size := by exact trivial) (zhm : xs.length ≤ 9223372036854775807 := by simp) : wpList P ops Q (o :: rest) a W := Kd.R_lit d W.heap.size e zhgd zhd zhr zhp zhok zhf (Below.refl _ _) (Nat.le_refl _) zhm h
theorem bE_ {P : Program} {ops : Array Oper} {Q : Exit → Act → World → Prop} {rest : List Oper} {o : Oper} {a : Act} {W : World} (N : Tmp) (cs : Array Value) (t : TypeId) (h : ∀ g, g = W.heap.size → ∀ w1, w1.heap[g]? = some (.cells cs t (0, 0)) → Below W.heap.size W w1 → wpList P ops Q rest (a.put o.dst (.pointer (some ⟨g, 0, none⟩))) w1) (zhd : o.dst = some N := by rfl) (zhg : o.guard = none := by rfl) (zhr : (execOp a.eval o).run P W = .ok (.value (.pointer (some ⟨W.heap.size, 0, none⟩))) (W.alloc (.cells cs t (0, 0))) := by exact gx_) : wpList P ops Q (o :: rest) a W := box_event zhg (N := N) zhd (cs := cs) (t := t) zhr h
theorem k3f_ {W : World} {g : Nat} {t : TypeId} {v0 v1 v2 : Value} (B : Aside0 (W.heap[g]? = some (.cells #[v0,v1,v2] t (0,0)))) : W.cell? ⟨g,0,none⟩ = some v0 ∧ W.cell? ⟨g,1,none⟩ = some v1 ∧ W.cell? ⟨g,2,none⟩ = some v2 ∧ W.frozen? ⟨g,0,none⟩ = false ∧ W.frozen? ⟨g,1,none⟩ = false ∧ W.frozen? ⟨g,2,none⟩ = false := ⟨(kc_ B.out 0).trans rfl,(kc_ B.out 1).trans rfl,(kc_ B.out 2).trans rfl,kf_ B.out 0,kf_ B.out 1,kf_ B.out 2⟩
theorem k6f_ {W : World} {g : Nat} {t : TypeId} {v0 v1 v2 v3 v4 v5 : Value} (B : Aside0 (W.heap[g]? = some (.cells #[v0,v1,v2,v3,v4,v5] t (0,0)))) : W.cell? ⟨g,0,none⟩ = some v0 ∧ W.cell? ⟨g,1,none⟩ = some v1 ∧ W.cell? ⟨g,2,none⟩ = some v2 ∧ W.cell? ⟨g,3,none⟩ = some v3 ∧ W.cell? ⟨g,4,none⟩ = some v4 ∧ W.cell? ⟨g,5,none⟩ = some v5 ∧ W.frozen? ⟨g,0,none⟩ = false ∧ W.frozen? ⟨g,1,none⟩ = false ∧ W.frozen? ⟨g,2,none⟩ = false ∧ W.frozen? ⟨g,3,none⟩ = false ∧ W.frozen? ⟨g,4,none⟩ = false ∧ W.frozen? ⟨g,5,none⟩ = false := ⟨(kc_ B.out 0).trans rfl,(kc_ B.out 1).trans rfl,(kc_ B.out 2).trans rfl,(kc_ B.out 3).trans rfl,(kc_ B.out 4).trans rfl,(kc_ B.out 5).trans rfl,kf_ B.out 0,kf_ B.out 1,kf_ B.out 2,kf_ B.out 3,kf_ B.out 4,kf_ B.out 5⟩
theorem k12f_ {W : World} {g : Nat} {t : TypeId} {v0 v1 v2 v3 v4 v5 v6 v7 v8 v9 v10 v11 : Value} (B : Aside0 (W.heap[g]? = some (.cells #[v0,v1,v2,v3,v4,v5,v6,v7,v8,v9,v10,v11] t (0,0)))) : W.cell? ⟨g,0,none⟩ = some v0 ∧ W.cell? ⟨g,1,none⟩ = some v1 ∧ W.cell? ⟨g,2,none⟩ = some v2 ∧ W.cell? ⟨g,3,none⟩ = some v3 ∧ W.cell? ⟨g,4,none⟩ = some v4 ∧ W.cell? ⟨g,5,none⟩ = some v5 ∧ W.cell? ⟨g,6,none⟩ = some v6 ∧ W.cell? ⟨g,7,none⟩ = some v7 ∧ W.cell? ⟨g,8,none⟩ = some v8 ∧ W.cell? ⟨g,9,none⟩ = some v9 ∧ W.cell? ⟨g,10,none⟩ = some v10 ∧ W.cell? ⟨g,11,none⟩ = some v11 ∧ W.frozen? ⟨g,0,none⟩ = false ∧ W.frozen? ⟨g,1,none⟩ = false ∧ W.frozen? ⟨g,2,none⟩ = false ∧ W.frozen? ⟨g,3,none⟩ = false ∧ W.frozen? ⟨g,4,none⟩ = false ∧ W.frozen? ⟨g,5,none⟩ = false ∧ W.frozen? ⟨g,6,none⟩ = false ∧ W.frozen? ⟨g,7,none⟩ = false ∧ W.frozen? ⟨g,8,none⟩ = false ∧ W.frozen? ⟨g,9,none⟩ = false ∧ W.frozen? ⟨g,10,none⟩ = false ∧ W.frozen? ⟨g,11,none⟩ = false := ⟨(kc_ B.out 0).trans rfl,(kc_ B.out 1).trans rfl,(kc_ B.out 2).trans rfl,(kc_ B.out 3).trans rfl,(kc_ B.out 4).trans rfl,(kc_ B.out 5).trans rfl,(kc_ B.out 6).trans rfl,(kc_ B.out 7).trans rfl,(kc_ B.out 8).trans rfl,(kc_ B.out 9).trans rfl,(kc_ B.out 10).trans rfl,(kc_ B.out 11).trans rfl,kf_ B.out 0,kf_ B.out 1,kf_ B.out 2,kf_ B.out 3,kf_ B.out 4,kf_ B.out 5,kf_ B.out 6,kf_ B.out 7,kf_ B.out 8,kf_ B.out 9,kf_ B.out 10,kf_ B.out 11⟩
theorem gF_ {w w0 W W0 : World} {g b : Nat} (A : Aside0 (w0.heap.size ≤ w.heap.size)) (hg : b = W.heap.size) (B : Aside0 (KeepBut w W0 g none)) (h : KeepBut w W0 g none → KeepBut w W g none := by intro h_;repeat (first|(with_reducible first|exact h_|apply KeepBut.set_|apply keep_drewN|apply keep_drew|apply keep_alloc|refine keep_far ?_ (Aside0.out (by assumption)) _)|exact h_)) : Aside0 (w0.heap.size ≤ b) := ⟨Nat.le_trans A.out (by rw [hg];exact keep_size (h B.out))⟩
theorem hT_ {w W W0 w1 : World} {g : Nat} (B : Aside0 (KeepBut w W0 g none)) (hk : KeepBut W w1 g none) (h : KeepBut w W0 g none → KeepBut w W g none := by intro h_;repeat (first|(with_reducible first|exact h_|apply KeepBut.set_|apply keep_drewN|apply keep_drew|apply keep_alloc|refine keep_far ?_ (Aside0.out (by assumption)) _)|exact h_)) : Aside0 (KeepBut w w1 g none) := ⟨KeepBut.trans (h B.out) hk (.inl rfl)⟩
theorem hU_ {w W W0 w1 : World} {g : Nat} (B : Aside0 (KeepBut w W0 g none)) (hb : Below W.heap.size W w1) (h : KeepBut w W0 g none → KeepBut w W g none := by intro h_;repeat (first|(with_reducible first|exact h_|apply KeepBut.set_|apply keep_drewN|apply keep_drew|apply keep_alloc|refine keep_far ?_ (Aside0.out (by assumption)) _)|exact h_)) : Aside0 (KeepBut w w1 g none) := ⟨KeepBut.trans (h B.out) (KeepBut.of_below hb g none) (.inl rfl)⟩
theorem kJ3_ {W : World} {g : Nat} {t : TypeId} {v0 v1 v2 : Value} (B : Aside0 (W.heap[g]? = some (.cells #[v0,v1,v2] t (0,0)))) : W.cell? ⟨g,0,none⟩ = some v0 ∧ W.cell? ⟨g,1,none⟩ = some v1 ∧ W.cell? ⟨g,2,none⟩ = some v2 := ⟨(kc_ B.out 0).trans rfl,(kc_ B.out 1).trans rfl,(kc_ B.out 2).trans rfl⟩
theorem kJ6_ {W : World} {g : Nat} {t : TypeId} {v0 v1 v2 v3 v4 v5 : Value} (B : Aside0 (W.heap[g]? = some (.cells #[v0,v1,v2,v3,v4,v5] t (0,0)))) : W.cell? ⟨g,0,none⟩ = some v0 ∧ W.cell? ⟨g,1,none⟩ = some v1 ∧ W.cell? ⟨g,2,none⟩ = some v2 ∧ W.cell? ⟨g,3,none⟩ = some v3 ∧ W.cell? ⟨g,4,none⟩ = some v4 ∧ W.cell? ⟨g,5,none⟩ = some v5 := ⟨(kc_ B.out 0).trans rfl,(kc_ B.out 1).trans rfl,(kc_ B.out 2).trans rfl,(kc_ B.out 3).trans rfl,(kc_ B.out 4).trans rfl,(kc_ B.out 5).trans rfl⟩
theorem kJ12_ {W : World} {g : Nat} {t : TypeId} {v0 v1 v2 v3 v4 v5 v6 v7 v8 v9 v10 v11 : Value} (B : Aside0 (W.heap[g]? = some (.cells #[v0,v1,v2,v3,v4,v5,v6,v7,v8,v9,v10,v11] t (0,0)))) : W.cell? ⟨g,0,none⟩ = some v0 ∧ W.cell? ⟨g,1,none⟩ = some v1 ∧ W.cell? ⟨g,2,none⟩ = some v2 ∧ W.cell? ⟨g,3,none⟩ = some v3 ∧ W.cell? ⟨g,4,none⟩ = some v4 ∧ W.cell? ⟨g,5,none⟩ = some v5 ∧ W.cell? ⟨g,6,none⟩ = some v6 ∧ W.cell? ⟨g,7,none⟩ = some v7 ∧ W.cell? ⟨g,8,none⟩ = some v8 ∧ W.cell? ⟨g,9,none⟩ = some v9 ∧ W.cell? ⟨g,10,none⟩ = some v10 ∧ W.cell? ⟨g,11,none⟩ = some v11 := ⟨(kc_ B.out 0).trans rfl,(kc_ B.out 1).trans rfl,(kc_ B.out 2).trans rfl,(kc_ B.out 3).trans rfl,(kc_ B.out 4).trans rfl,(kc_ B.out 5).trans rfl,(kc_ B.out 6).trans rfl,(kc_ B.out 7).trans rfl,(kc_ B.out 8).trans rfl,(kc_ B.out 9).trans rfl,(kc_ B.out 10).trans rfl,(kc_ B.out 11).trans rfl⟩
theorem kK_ {W0 W w1 : World} {g g' : Nat} {o : Obj} (B : Aside0 (W0.heap[g']? = some o)) (hk : KeepBut W w1 g none) (N : Aside0 (g' ≠ g)) (h : W0.heap[g']? = some o → W.heap[g']? = some o := by intro h_;(with_reducible repeat (first|refine kn_ ?_ _|refine kd_ ?_|refine ka_ ?_ _));exact h_) : Aside0 (w1.heap[g']? = some o) := ⟨KeepBut.blk hk (h B.out) N.out (by simp)⟩
theorem kL_ {W w1 : World} {g g' : Nat} (hk : KeepBut W w1 g none) (o : Obj) (N : Aside0 (g' ≠ g)) (h : W.heap[g']? = some o) : Aside0 (w1.heap[g']? = some o) := ⟨KeepBut.blk hk h N.out (by simp)⟩
theorem oB_ {α β : Type} {x : Option α} {f : α → Option β} {b : β} (h : x.bind f = some b) : ∃ a, Aside0 (x = some a) ∧ f a = some b := by obtain ⟨a,h1,h2⟩:=ob_.mp h;exact ⟨a,⟨h1⟩,h2⟩
theorem r3_ {α : Type} {d : Kd α} {e base : Nat} {ok : Nat → Prop} {v : Value} {xs : List α} {W : World} {b : Nat} (h : Kd.R d e W base (fun k => ok k ∧ k ≠ b) v xs) {i0 i1 i2 : Nat} {v0 v1 v2 : Value} : Kd.R d e (((W.setCell ⟨b,i0,none⟩ v0).setCell ⟨b,i1,none⟩ v1).setCell ⟨b,i2,none⟩ v2) base (fun k => ok k ∧ k ≠ b) v xs := (Kd.R_far (p:=⟨b,i2,none⟩) (Kd.R_far (p:=⟨b,i1,none⟩) (Kd.R_far (p:=⟨b,i0,none⟩) h (fun _ hk => hk.2) v0) (fun _ hk => hk.2) v1) (fun _ hk => hk.2) v2)
theorem r12_ {α : Type} {d : Kd α} {e base : Nat} {ok : Nat → Prop} {v : Value} {xs : List α} {W : World} {b : Nat} (h : Kd.R d e W base (fun k => ok k ∧ k ≠ b) v xs) {i0 i1 i2 i3 i4 i5 i6 i7 i8 i9 i10 i11 : Nat} {v0 v1 v2 v3 v4 v5 v6 v7 v8 v9 v10 v11 : Value} : Kd.R d e ((((((((((((W.setCell ⟨b,i0,none⟩ v0).setCell ⟨b,i1,none⟩ v1).setCell ⟨b,i2,none⟩ v2).setCell ⟨b,i3,none⟩ v3).setCell ⟨b,i4,none⟩ v4).setCell ⟨b,i5,none⟩ v5).setCell ⟨b,i6,none⟩ v6).setCell ⟨b,i7,none⟩ v7).setCell ⟨b,i8,none⟩ v8).setCell ⟨b,i9,none⟩ v9).setCell ⟨b,i10,none⟩ v10).setCell ⟨b,i11,none⟩ v11) base (fun k => ok k ∧ k ≠ b) v xs := (Kd.R_far (p:=⟨b,i11,none⟩) (Kd.R_far (p:=⟨b,i10,none⟩) (Kd.R_far (p:=⟨b,i9,none⟩) (Kd.R_far (p:=⟨b,i8,none⟩) (Kd.R_far (p:=⟨b,i7,none⟩) (Kd.R_far (p:=⟨b,i6,none⟩) (Kd.R_far (p:=⟨b,i5,none⟩) (Kd.R_far (p:=⟨b,i4,none⟩) (Kd.R_far (p:=⟨b,i3,none⟩) (Kd.R_far (p:=⟨b,i2,none⟩) (Kd.R_far (p:=⟨b,i1,none⟩) (Kd.R_far (p:=⟨b,i0,none⟩) h (fun _ hk => hk.2) v0) (fun _ hk => hk.2) v1) (fun _ hk => hk.2) v2) (fun _ hk => hk.2) v3) (fun _ hk => hk.2) v4) (fun _ hk => hk.2) v5) (fun _ hk => hk.2) v6) (fun _ hk => hk.2) v7) (fun _ hk => hk.2) v8) (fun _ hk => hk.2) v9) (fun _ hk => hk.2) v10) (fun _ hk => hk.2) v11)
end Go.Proofs.Ytbcgnncbiblibaa.PFnMessages
