/- The contracts of the Go functions that this law reaches: what each call returns, by a plain Lean function of its arguments. No conditions but those each contract names. By the kit's print.py, run by this session's wip/gen/pp.py with facts and hand proofs beside it: not to the letter what print.sh prints. -/
import Derived.Test.YtgpafelepkhdoaaProg
import Derived.Below
import Derived.Deep.Draws
import Derived.Deep.AppendLies
import Derived.Maps.AppendAt
import Derived.OwnWalk
import Derived.Laws.BytesArg
import Derived.Laws.MakeOwn
import Derived.Laws.OwnMore
import Derived.Deep.OwnRows
import Derived.Tactics
import Derived.Lib.ConvBytes
import Derived.Laws.Slices
import Derived.WalkKit
import Derived.KernelRfl
import Derived.RowKit3
import Derived.Deep.LoopGhost
import Derived.Deep.QuietTactic
import Derived.BigQuiet
import Derived.WideLaws
import Derived.Deep.DeepCutAuto
import Derived.Deep.CutBlock
import Derived.Deep.RegionHeld3
import Derived.Laws.Rows
import Derived.Lib.AppendStr
import Derived.ArgAppend
import Derived.Laws.IdiomCopy
import Derived.OrdersHeld
import Derived.Laws.BitsLemmas
import Derived.RowKit
import Derived.Laws.Cover1
import Derived.Test.YtgpafelepkhdoaaVFnBehindWWords
import Derived.Test.YtgpafelepkhdoaaVFnBehindWLast
import Derived.Test.YtgpafelepkhdoaaVFnBehindWTab
import Derived.Test.YtgpafelepkhdoaaVFnBehindWFour
import Derived.Test.YtgpafelepkhdoaaVFnBehindWQPut
import Derived.Test.YtgpafelepkhdoaaVFnBehindWApart
import Derived.Test.YtgpafelepkhdoaaVFnBehindWArr
import Derived.Test.YtgpafelepkhdoaaVFnBehindWZeros
import Derived.Test.YtgpafelepkhdoaaVFnBehindWFoot
import Derived.Test.YtgpafelepkhdoaaVFnBehindWKept
import Derived.Test.YtgpafelepkhdoaaVFnBehindWShare
import Derived.Test.YtgpafelepkhdoaaVFnBehindWN
import Derived.Test.YtgpafelepkhdoaaVFnBehindWFootNe
import Derived.Test.YtgpafelepkhdoaaVFnBehindWAt
import Derived.Test.YtgpafelepkhdoaaVFnBehindWEqStruct
import Derived.Test.YtgpafelepkhdoaaVFnBehindWRepsOne
import Derived.Test.YtgpafelepkhdoaaVFnBehindWInv
import Derived.Test.YtgpafelepkhdoaaVFnBehindWInvWords
import Derived.Test.YtgpafelepkhdoaaVFnBehindWGuard
import Derived.Test.YtgpafelepkhdoaaVFnBehindWNEv
import Derived.Test.YtgpafelepkhdoaaVFnBehindWMore
namespace Go.Proofs.Ytgpafelepkhdoaa.PFnBehind
open Go.RowKit Go.Proofs.YtgpafelepkhdoaaW.PrintWords Go.Proofs.YtgpafelepkhdoaaW.PrintLast Go.Proofs.YtgpafelepkhdoaaW.PrintMore
attribute [local go_sem] max2_int min2_int max_two min_two max_three min_three max_four min_four
set_option linter.unusedVariables false
set_option linter.unusedSimpArgs false
def errW : Option Int → Value
 | none => .nilIface
 | some c => .iface 0 (.int .i64 c)
theorem errW_none : errW none = .nilIface := rfl
theorem errW_some (c : Int) : errW (some c) = .iface 0 (.int .i64 c) := rfl
theorem info3 : (Try.prog.info? 3).map (fun i => (i.zero, i.size, i.bytes)) = some (some (.int .i64 0), 1, 8) := by kernel_rfl
theorem info5 : (Try.prog.info? 5).map (fun i => (i.zero, i.size, i.bytes)) = some (some (.int .u8 0), 1, 1) := by kernel_rfl
theorem info9 : (Try.prog.info? 9).map (fun i => (i.zero, i.size, i.bytes)) = some (some (.string ⟨#[]⟩), 1, 16) := by kernel_rfl
theorem info37 : (Try.prog.info? 37).map (fun i => (i.zero, i.size, i.bytes)) = some (some (.agg #[(.int .i64 0), (.int .i64 0), (.string ⟨#[]⟩)]), 3, 32) := by kernel_rfl
structure S37 where
 f0 : Int
 f1 : Int
 f2 : ByteArray
def z37 : S37 := ⟨(0 : Int), (0 : Int), (⟨#[]⟩ : ByteArray)⟩
def k37 : Kd S37 := Kd.iso (Kd.pair (Kd.int .i64) (Kd.pair (Kd.int .i64) Kd.string)) (fun x : S37 => (x.f0, x.f1, x.f2))
theorem k37_open {w : World} {x : S37} {cs : List Value} (h : k37.K w x cs) : cs = [.int .i64 x.f0, .int .i64 x.f1, .string x.f2] := by
 obtain ⟨_,_,rfl,rfl,⟨_,_,rfl,rfl,rfl⟩⟩:=h;exact rfl
theorem k37_openM {w : World} {base : Nat} {ok : Nat → Prop} {x : S37} {cs : List Value} (h : k37.M w base ok x cs) : cs = [.int .i64 x.f0, .int .i64 x.f1, .string x.f2] := by
 obtain ⟨_,_,rfl,rfl,⟨_,_,rfl,rfl,rfl⟩⟩:=h;exact rfl
theorem k37_mk (w : World) (x : S37)  : k37.K w x [.int .i64 x.f0, .int .i64 x.f1, .string x.f2] := ⟨[.int .i64 x.f0], [.int .i64 x.f1, .string x.f2], rfl, rfl, ⟨[.int .i64 x.f1], [.string x.f2], rfl, rfl, rfl⟩⟩
theorem k37_mkM (w : World) (base : Nat) (ok : Nat → Prop) (x : S37)  : k37.M w base ok x [.int .i64 x.f0, .int .i64 x.f1, .string x.f2] := ⟨[.int .i64 x.f0], [.int .i64 x.f1, .string x.f2], rfl, rfl, ⟨[.int .i64 x.f1], [.string x.f2], rfl, rfl, rfl⟩⟩
def rd_T37 (xs : List S37) (i : Int) : S37 := xs.getD i.toNat z37
theorem at_T37 {w : World} {A : Option Addr} {n : Nat} {xs : List S37} (h : Kd.C k37 w A n xs) (i : Int) (h0 : 0 ≤ i) (h1 : i < n) : ∃ ad , A = some ad ∧ w.cell? (ad.add (i.toNat * 3)) = some (.int .i64 (rd_T37 xs i).f0) ∧ w.cell? ⟨(ad.add (i.toNat * 3)).block, (ad.add (i.toNat * 3)).off + 1, none⟩ = some (.int .i64 (rd_T37 xs i).f1) ∧ w.cell? ⟨(ad.add (i.toNat * 3)).block, (ad.add (i.toNat * 3)).off + 2, none⟩ = some (.string (rd_T37 xs i).f2) := by
 obtain ⟨ad,c,e,_,hK,hc0⟩:=Kd.C_get h z37 i h0 h1;have hc : ∀ j u,c[j]? = some u → w.cell? (ad.add (i.toNat * 3 + j)) = some u:=hc0;obtain rfl:=k37_open hK;exact ⟨ad,e,hc 0 _ rfl,by rw [← add_field _ _ 1 (by omega)];exact hc 1 _ rfl,by rw [← add_field _ _ 2 (by omega)];exact hc 2 _ rfl⟩
abbrev A_ := @Aside0.mk
abbrev pn_ := @pw_below_drewN
abbrev pd_ := @below_drew1
abbrev pa_ := @below_alloc
abbrev ps_ := @below_set
abbrev ka_ := @blk_alloc
abbrev kn_ := @blk_drewN
abbrev kd_ := @blk_drew
abbrev kc_ := @blk_cell
abbrev kf_ := @blk_frozen
abbrev rn_ := @Kd.R_drewN
abbrev ra_ := @Kd.R_alloc
abbrev Rd_ := @Kd.R_drew
abbrev od_ := @of_decide_eq_true
abbrev bz_ := @below_size
abbrev kb_ := @blk_below
abbrev bs_ := @below_step
abbrev rb_ := @Kd.R_below
abbrev rf_ := @Kd.R_far
abbrev de_ := @decide_eq_true
abbrev wb_ := @World.block_lt_of_cell?
abbrev ob_ := @Option.bind_eq_some_iff
abbrev kg_ := @blk_grown
abbrev rm_ := @Kd.R_mono
abbrev re_ := @Kd.R_ne
abbrev kr_ := @blk_far
abbrev nl_ := @Nat.ne_of_lt
abbrev ng_ := @Nat.ne_of_gt
abbrev rw_ := @Kd.R_lower
abbrev ku_ := @blk_put
abbrev kl_ := @blk_lt
theorem s1_ {α : Type} (l : List α) (i : Nat) (a : α) : l.toArray.setIfInBounds i a = (l.set i a).toArray := List.setIfInBounds_toArray l i a
theorem s2_ {α : Type} {x : α} {xs : List α} {a : α} : (x :: xs).set 0 a = a :: xs := List.set_cons_zero
theorem s4_ {α β : Type} {f : α → β} {l : List α} : l.toArray.map f = (l.map f).toArray := List.map_toArray
theorem s5_ {α β : Type} {f : α → β} {a : α} {l : List α} : (a :: l).map f = f a :: l.map f := List.map_cons
theorem s6_ {α β : Type} {f : α → β} : ([] : List α).map f = [] := List.map_nil
theorem s3_ {α : Type} {x : α} {xs : List α} {i : Nat} {a : α} : (x :: xs).set (i + 1) a = x :: xs.set i a := List.set_cons_succ
theorem oda_ {p : Prop} [Decidable p] (h : decide p = true := by first | (with_reducible assumption) | assumption) : p := of_decide_eq_true h
theorem kq_ {p q : Prop} (B : Aside0 q) (h : q → p := by intro h_;(with_reducible repeat (first|refine kn_ ?_ _|refine kd_ ?_|refine ka_ ?_ _));exact h_) : p := h B.out
theorem rq_ {p q : Prop} (B : Aside0 q) (h : q → p := by intro h_;(with_reducible repeat (first|apply ra_|apply rn_|apply Rd_));exact h_) : p := h B.out
theorem bq_ {p q : Prop} (B : Aside0 q) (h : q → p := by intro h_;repeat (first|(with_reducible first|exact h_|apply pa_|apply pn_|apply pd_|refine ps_ ?_ (Aside0.out (by assumption)))|exact h_)) : p := h B.out
theorem bi_ {p q r : Prop} (B : Aside0 q) (I : r) (h : r → q → p := by intro i_ h_;repeat (first|(with_reducible first|exact h_|apply pa_|apply pn_|apply pd_|refine ps_ ?_ i_|refine ps_ ?_ (Aside0.out (by assumption)))|exact h_)) : p := h I B.out
theorem hq_ {w W0 W : World} {g : Nat} {r : Option Nat} (B : Aside0 (KeepBut w W0 g r)) (h : KeepBut w W0 g r → KeepBut w W g r := by intro h_;repeat (first|(with_reducible first|exact h_|apply KeepBut.set_|apply keep_drewN|apply keep_drew|apply keep_alloc|refine keep_far ?_ (Aside0.out (by assumption)) _)|exact h_)) : KeepBut w W g r := h B.out
theorem aq_ {p : Prop} (h : p := by (try simp only [s4_,s5_,s6_]);first|done|rfl|(simp only [List.length_drop,List.length_take];rfl)) : p := h
theorem gx_ {p : Prop} (h : p := by first|(go_simp;done)|(go_simp;rfl)) : p := h
theorem ux_ {p : Prop} (h : p := by simp only [Act.put,s1_,s2_,s3_,i64_w,i32_w];rfl) : p := h
theorem ex_ {p : Prop} (h : p := by first|rfl|(simp [*,errW_none,errW_some] <;> rfl)) : p := h
theorem kC_ {W : World} {g : Nat} {cs : Array Value} {t : TypeId} {v : Value} (B : Aside0 (W.heap[g]? = some (.cells cs t (0,0)))) (j : Nat) (h : cs[j]? = some v := by first|exact rfl|(with_unfolding_all exact rfl)) : W.cell? ⟨g,j,none⟩ = some v := (kc_ B.out j).trans h
end Go.Proofs.Ytgpafelepkhdoaa.PFnBehind
