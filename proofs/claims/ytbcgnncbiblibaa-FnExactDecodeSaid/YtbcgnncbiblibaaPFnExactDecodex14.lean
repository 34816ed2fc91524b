/- The contracts of the Go functions that this law reaches: what each call returns, by a plain Lean function of its arguments. No conditions but those each contract names. By the kit's print.py, run by this session's wip/gen/pp.py with facts and hand proofs beside it: not to the letter what print.sh prints. -/
import Derived.Test.YtbcgnncbiblibaaPFnExactDecodex0
import Derived.Test.YtbcgnncbiblibaaPFnExactDecodex10
import Derived.Test.YtbcgnncbiblibaaPFnExactDecodex12
namespace Go.Proofs.Ytbcgnncbiblibaa.PFnExactDecode
open Go.RowKit Go.Proofs.YtbcgnncbiblibaaW.PrintWords Go.Proofs.YtbcgnncbiblibaaW.PrintLast Go.Proofs.YtbcgnncbiblibaaW.PrintMore
attribute [local go_sem] max2_int min2_int max_two min_two max_three min_three max_four min_four
set_option linter.unusedVariables false
set_option linter.unusedSimpArgs false
def IsS106 (w0 W : World) (g : Nat) (f0 : ByteArray) (f1 : Int) (f2 : Bool) : Prop := W.heap[g]? = some (.cells #[.string f0, .int .i64 f1, .bool f2] 106 (0, 0)) ∧ w0.heap.size ≤ g
theorem IsS106.grown {w0 W : World} {g : Nat} {f0 : ByteArray} {f1 : Int} {f2 : Bool} {W1 : World} {row : Option Nat} (h : IsS106 w0 W g f0 f1 f2) (hw : W.grownBy W1 row) (hne : some g ≠ row) : IsS106 w0 W1 g f0 f1 f2 := by
 obtain ⟨hb,hg⟩:=h;exact ⟨kg_ hb hw hne,hg⟩
theorem IsS106.own_neN {w0 W : World} {g : Nat} {f0 : ByteArray} {f1 : Int} {f2 : Bool} {α : Type} {d : Kd α} {e : Nat} {base : Nat} {ok : Nat → Prop} {v : Value} {xs : List α} (h : IsS106 w0 W g f0 f1 f2) (ho : Kd.N d e W base ok v xs) (ht : e ≠ 106) : some g ≠ v.ownBlock := by
 obtain ⟨hb,hg⟩:=h;exact Kd.N_ne ho hb ht
theorem IsS106.fresh {w0 W : World} {g : Nat} {f0 : ByteArray} {f1 : Int} {f2 : Bool} (h : IsS106 w0 W g f0 f1 f2) : ∀ k, W.heap.size ≤ k → k ≠ g := by
 obtain ⟨hb,hg⟩:=h;exact Kd.freshB hb
theorem IsS106.kept {w0 W : World} {g : Nat} {f0 : ByteArray} {f1 : Int} {f2 : Bool} {W1 : World} {S : Nat → Prop} (h : IsS106 w0 W g f0 f1 f2) (hk : Kept W W1 S) (hne : ¬ S g) : IsS106 w0 W1 g f0 f1 f2 := by
 obtain ⟨hb,hg⟩:=h;exact ⟨blk_kept hb hk hne,hg⟩
theorem IsS106.below {w0 W : World} {g : Nat} {f0 : ByteArray} {f1 : Int} {f2 : Bool} {W1 : World} (h : IsS106 w0 W g f0 f1 f2) (hw : Below W.heap.size W W1) : IsS106 w0 W1 g f0 f1 f2 := h.grown (grown_of_below hw none) (by simp)
theorem IsS106.alloc {w0 W : World} {g : Nat} {f0 : ByteArray} {f1 : Int} {f2 : Bool} (h : IsS106 w0 W g f0 f1 f2) (o : Obj) : IsS106 w0 (W.alloc o) g f0 f1 f2 := h.below (below_alloc (Below.refl _ _) o)
theorem IsS106.drewN {w0 W : World} {g : Nat} {f0 : ByteArray} {f1 : Int} {f2 : Bool} (h : IsS106 w0 W g f0 f1 f2) (m : Nat) : IsS106 w0 (W.drewN m) g f0 f1 f2 := h
theorem IsS106.drew {w0 W : World} {g : Nat} {f0 : ByteArray} {f1 : Int} {f2 : Bool} (h : IsS106 w0 W g f0 f1 f2) : IsS106 w0 W.drew g f0 f1 f2 := h
theorem IsS106.at_ {w0 W : World} {g : Nat} {f0 : ByteArray} {f1 : Int} {f2 : Bool} {w' : World} {m : Nat} (hq : W.drewN m = w') (h : IsS106 w0 W g f0 f1 f2) : IsS106 w0 w' g f0 f1 f2 := by subst hq; exact IsS106.drewN h m
theorem IsS106.apart {w0 W : World} {g : Nat} {f0 : ByteArray} {f1 : Int} {f2 : Bool} {α : Type} {d : Kd α} {e : Nat} {base : Nat} {ok : Nat → Prop} {v : Value} {xs : List α} (h : IsS106 w0 W g f0 f1 f2) (ho : d.R e W base ok v xs) (ht : ∀ q, q ∈ e :: d.E → q ≠ 106) : d.R e W base (fun k => ok k ∧ k ≠ g) v xs := by
 obtain ⟨hb,hg⟩:=h;exact Kd.R_types ho hb ht
theorem IsS106.own_ne {w0 W : World} {g : Nat} {f0 : ByteArray} {f1 : Int} {f2 : Bool} {α : Type} {d : Kd α} {e : Nat} {base : Nat} {ok : Nat → Prop} {v : Value} {xs : List α} (h : IsS106 w0 W g f0 f1 f2) (ho : d.R e W base ok v xs) (ht : e ≠ 106) : some g ≠ v.ownBlock := by
 obtain ⟨hb,hg⟩:=h;exact re_ ho hb ht
theorem IsS106.apartQ {w0 W : World} {g : Nat} {f0 : ByteArray} {f1 : Int} {f2 : Bool} {α : Type} {d : Kd α} {e : Nat} {base : Nat} {ok : Nat → Prop} {v : Value} {xs : List α} (h : IsS106 w0 W g f0 f1 f2) (ho : d.Q e W base ok v xs) (ht : ∀ q, q ∈ e :: d.E → q ≠ 106) : d.Q e W base (fun k => ok k ∧ k ≠ g) v xs := by
 obtain ⟨hb,hg⟩:=h;exact Kd.Q_types ho hb ht
theorem IsS106.own_neQ {w0 W : World} {g : Nat} {f0 : ByteArray} {f1 : Int} {f2 : Bool} {α : Type} {d : Kd α} {e : Nat} {base : Nat} {ok : Nat → Prop} {v : Value} {xs : List α} (h : IsS106 w0 W g f0 f1 f2) (ho : d.Q e W base ok v xs) (ht : e ≠ 106) : some g ≠ v.ownBlock := by
 obtain ⟨hb,hg⟩:=h;exact Kd.Q_ne ho hb ht
theorem IsS106.apartS {w0 W : World} {g : Nat} {f0 : ByteArray} {f1 : Int} {f2 : Bool} {α : Type} {d : Kd α} {e : Nat} {base : Nat} {ok : Nat → Prop} {v : Value} {xs : List α} (h : IsS106 w0 W g f0 f1 f2) (ho : d.S e W base ok v xs) (ht : ∀ q, q ∈ e :: d.E → q ≠ 106) : d.S e W base (fun k => ok k ∧ k ≠ g) v xs := by
 obtain ⟨hb,hg⟩:=h;exact Kd.S_types ho hb ht
theorem IsS106.own_neS {w0 W : World} {g : Nat} {f0 : ByteArray} {f1 : Int} {f2 : Bool} {α : Type} {d : Kd α} {e : Nat} {base : Nat} {ok : Nat → Prop} {v : Value} {xs : List α} (h : IsS106 w0 W g f0 f1 f2) (ho : d.S e W base ok v xs) (ht : e ≠ 106) : some g ≠ v.ownBlock := by
 obtain ⟨hb,hg⟩:=h;exact Kd.S_ne ho hb ht
theorem IsS106.lt {w0 W : World} {g : Nat} {f0 : ByteArray} {f1 : Int} {f2 : Bool} (h : IsS106 w0 W g f0 f1 f2) : g < W.heap.size := by
 obtain ⟨hb,hg⟩:=h;exact kl_ hb
theorem IsS106.ge {w0 W : World} {g : Nat} {f0 : ByteArray} {f1 : Int} {f2 : Bool} (h : IsS106 w0 W g f0 f1 f2) : w0.heap.size ≤ g := by
 obtain ⟨hb,hg⟩:=h;exact hg
theorem IsS106.ne_blk {w0 W : World} {g : Nat} {f0 : ByteArray} {f1 : Int} {f2 : Bool} {a : Nat} {cs : Array Value} {t : TypeId} {fr : Nat × Nat} (h : IsS106 w0 W g f0 f1 f2) (hb2 : W.heap[a]? = some (.cells cs t fr)) (ht : t ≠ 106) : g ≠ a := by
 obtain ⟨hb,hg⟩:=h;rintro rfl;rw [hb] at hb2
 injection hb2 with hb2
 injection hb2 with _ ht2
 exact ht ht2.symm
theorem IsS106.far {w0 W : World} {g : Nat} {f0 : ByteArray} {f1 : Int} {f2 : Bool} {p : Addr} (h : IsS106 w0 W g f0 f1 f2) (hne : g ≠ p.block) (u : Value) : IsS106 w0 (W.setCell p u) g f0 f1 f2 := by
 obtain ⟨hb,hg⟩:=h;exact ⟨kr_ hb hne u,hg⟩
theorem cellS106_0 {W : World} {g : Nat} {f0 : ByteArray} {f1 : Int} {f2 : Bool} (h : W.heap[g]? = some (.cells #[.string f0, .int .i64 f1, .bool f2] 106 (0, 0))) : W.cell? ⟨g, 0, none⟩ = some (.string f0) := (blk_cell h 0).trans rfl
theorem IsS106.set_0 {w0 W : World} {g : Nat} {f0 : ByteArray} {f1 : Int} {f2 : Bool} (h : IsS106 w0 W g f0 f1 f2) (x : ByteArray) : IsS106 w0 (W.setCell ⟨g, 0, none⟩ (.string x)) g x f1 f2 := by
 obtain ⟨hb,hg⟩:=h;exact ⟨by simpa using blk_set hb 0 (.string x),hg⟩
theorem cellS106_1 {W : World} {g : Nat} {f0 : ByteArray} {f1 : Int} {f2 : Bool} (h : W.heap[g]? = some (.cells #[.string f0, .int .i64 f1, .bool f2] 106 (0, 0))) : W.cell? ⟨g, 1, none⟩ = some (.int .i64 f1) := (blk_cell h 1).trans rfl
theorem IsS106.set_1 {w0 W : World} {g : Nat} {f0 : ByteArray} {f1 : Int} {f2 : Bool} (h : IsS106 w0 W g f0 f1 f2) (x : Int) : IsS106 w0 (W.setCell ⟨g, 1, none⟩ (.int .i64 x)) g f0 x f2 := by
 obtain ⟨hb,hg⟩:=h;exact ⟨by simpa using blk_set hb 1 (.int .i64 x),hg⟩
theorem cellS106_2 {W : World} {g : Nat} {f0 : ByteArray} {f1 : Int} {f2 : Bool} (h : W.heap[g]? = some (.cells #[.string f0, .int .i64 f1, .bool f2] 106 (0, 0))) : W.cell? ⟨g, 2, none⟩ = some (.bool f2) := (blk_cell h 2).trans rfl
theorem IsS106.set_2 {w0 W : World} {g : Nat} {f0 : ByteArray} {f1 : Int} {f2 : Bool} (h : IsS106 w0 W g f0 f1 f2) (x : Bool) : IsS106 w0 (W.setCell ⟨g, 2, none⟩ (.bool x)) g f0 f1 x := by
 obtain ⟨hb,hg⟩:=h;exact ⟨by simpa using blk_set hb 2 (.bool x),hg⟩
theorem IsS106.new (w0 W : World) (f0 : ByteArray) (f1 : Int) (f2 : Bool) (hB : Below w0.heap.size w0 W) : IsS106 w0 (W.alloc (.cells #[.string f0, .int .i64 f1, .bool f2] 106)) W.heap.size f0 f1 f2 := ⟨by simpa using heap_alloc_new W _, hB.size⟩
theorem iq106_ {p q : Prop} (B : Aside0 q) (h : q → p := by intro h_;repeat (first|(with_reducible first|exact h_|apply IsS106.alloc|apply IsS106.drewN|apply IsS106.drew|apply IsS106.set_0|apply IsS106.set_1|apply IsS106.set_2|refine IsS106.far ?_ (Aside0.out (by assumption)) _)|exact h_)) : p := h B.out
def impl_reader_byte.f (s0_0 : ByteArray) (s0_1 : Int) (s0_2 : Bool) : Option (Int × ByteArray × Int × Bool) := if s0_2 = true then (some (0, s0_0, s0_1, true)) else (if s0_1 ≥ (s0_0.size : Int) then (some (0, s0_0, s0_1, true)) else (if 0 ≤ (wrap64 ((wrap64 (s0_1 + 1)) - 1)) then (if (wrap64 ((wrap64 (s0_1 + 1)) - 1)) < (s0_0.size : Int) then (some (wrap64 (bt s0_0 (wrap64 ((wrap64 (s0_1 + 1)) - 1))), s0_0, wrap64 (s0_1 + 1), s0_2)) else (none)) else (none)))
set_option maxHeartbeats 8000000 in
set_option maxRecDepth 100000 in
theorem impl_reader_byte.calls (g : Nat) (s0_0 : ByteArray) (s0_1 : Int) (s0_2 : Bool) (r1 : Int) (r2 : ByteArray) (r3 : Int) (r4 : Bool) (w0 w : World) (hI : IsS106 w0 w g s0_0 s0_1 s0_2) (hB : Below w0.heap.size w0 w) (h : impl_reader_byte.f s0_0 s0_1 s0_2 = some (r1, r2, r3, r4)) :
  Calls Try.prog 65 #[.pointer (some ⟨g,0,none⟩)] w fun e w' => e = .returned (.int .i64 r1) ∧ IsS106 w0 w' g r2 r3 r4 ∧ Below w0.heap.size w0 w' ∧ KeepBut w w' g none:=by
 have HI0:=A_ hI;have HK:=A_ (KeepBut.refl w g none);have HL:=A_ hB.size;clear hI;have HW0:=A_ hB.size;have HB:=A_ hB;clear hB;unfold impl_reader_byte.f at h;have H:=h;clear h
 by_cases c2 : s0_2 = true
 ·subst c2
  rw [if_pos rfl] at H;simp only [Option.some.injEq,Prod.mk.injEq] at H;obtain ⟨rfl,rfl,rfl,rfl⟩:=H;obtain ⟨HGz3,hgz3⟩:=HI0.out;have hcz3_0:=cellS106_0 HGz3;have hcz3_1:=cellS106_1 HGz3;have hcz3_2:=cellS106_2 HGz3;have hfz3_0:=kf_ HGz3 0;have hfz3_1:=kf_ HGz3 1;have hfz3_2:=kf_ HGz3 2;clear HGz3 hgz3;go_enter Try.func65,Try.ntmps65;go_wp2
  repeat (go_quiet (fail);try go_wp2)
  go_ret;exact ⟨ex_,iq106_ HI0,bi_ HB (IsS106.ge HI0.out),hq_ HK⟩
 ·replace c2:=Bool.eq_false_iff.mpr c2;subst c2
  have H1 : (if s0_1 ≥ (s0_0.size : Int) then (some (0,s0_0,s0_1,true)) else (if 0 ≤ (wrap64 ((wrap64 (s0_1 + 1)) - 1)) then (if (wrap64 ((wrap64 (s0_1 + 1)) - 1)) < (s0_0.size : Int) then (some (wrap64 (bt s0_0 (wrap64 ((wrap64 (s0_1 + 1)) - 1))),s0_0,wrap64 (s0_1 + 1),false)) else (none)) else (none))) = some (r1,r2,r3,r4):=by rw [if_neg (show ¬ (false = true) by decide)] at H;exact H
  clear H;have H:=H1;clear H1
  by_cases c4 : s0_1 ≥ (s0_0.size : Int)
  ·rw [if_pos c4] at H;have c4b0 : decide ((s0_0.size : Int) ≤ s0_1) = true:=de_ c4;clear c4;simp only [Option.some.injEq,Prod.mk.injEq] at H;obtain ⟨rfl,rfl,rfl,rfl⟩:=H;obtain ⟨HGz5,hgz5⟩:=HI0.out;have hcz5_0:=cellS106_0 HGz5;have hcz5_1:=cellS106_1 HGz5;have hcz5_2:=cellS106_2 HGz5;have hfz5_0:=kf_ HGz5 0;have hfz5_1:=kf_ HGz5 1;have hfz5_2:=kf_ HGz5 2;clear HGz5 hgz5;go_enter Try.func65,Try.ntmps65;go_wp2
   repeat (go_quiet (fail);try go_wp2)
   go_ret;exact ⟨ex_,iq106_ HI0,bi_ HB (IsS106.ge HI0.out),hq_ HK⟩
  ·rw [if_neg c4] at H;have c4b0 : decide ((s0_0.size : Int) ≤ s0_1) = false:=decide_eq_false c4;clear c4;obtain ⟨ji6,hji6⟩ : ∃ j_ : Int,(wrap64 ((wrap64 (s0_1 + 1)) - 1)) = j_:=⟨_,rfl⟩
   replace H : (if 0 ≤ (ji6) then (if (ji6) < (s0_0.size : Int) then (some (wrap64 (bt s0_0 (ji6)),s0_0,wrap64 (s0_1 + 1),false)) else (none)) else (none)) = some (r1,r2,r3,r4):=by first|(rw [hji6] at H;exact H)|(simp only [hji6] at H ⊢;exact H)
   have hji6w : (IntKind.i64.wrap ((wrap64 (s0_1 + 1)) - 1)) = ji6:=(i64_w _).trans hji6
   by_cases c7 : 0 ≤ (ji6)
   ·rw [if_pos c7] at H;have c7b0 : decide (0 ≤ (ji6)) = true:=de_ c7;clear c7
    by_cases c8 : (ji6) < (s0_0.size : Int)
    ·rw [if_pos c8] at H;have c8b0 : decide ((ji6) < (s0_0.size : Int)) = true:=de_ c8;clear c8;simp only [Option.some.injEq,Prod.mk.injEq] at H;obtain ⟨rfl,rfl,rfl,rfl⟩:=H;obtain ⟨HGz10,hgz10⟩:=HI0.out;have hcz10_0:=cellS106_0 HGz10;have hcz10_1:=cellS106_1 HGz10;have hcz10_2:=cellS106_2 HGz10;have hfz10_0:=kf_ HGz10 0;have hfz10_1:=kf_ HGz10 1;have hfz10_2:=kf_ HGz10 2;clear HGz10 hgz10;have p9 : 0 ≤ ((ji6) : Int):=oda_;have q9 : (ji6) < (s0_0.size : Int):=oda_;have hx9:=bt_at s0_0 (ji6);replace p9:=eq_true p9;replace q9:=eq_true q9;go_enter Try.func65,Try.ntmps65;go_wp2
     repeat (go_quiet (fail);try go_wp2)
     go_ret;exact ⟨by first|rfl|(simp [errW_none,errW_some] <;> rfl)|(simp only [← hji6];first|rfl|(simp [errW_none,errW_some] <;> rfl))|(simp [*,errW_none,errW_some] <;> rfl),iq106_ HI0,bi_ HB (IsS106.ge HI0.out),hq_ HK⟩
    ·rw [if_neg c8] at H;exact absurd H (by simp)
   ·rw [if_neg c7] at H;exact absurd H (by simp)
mutual
def impl_ReadVar.l0 : Nat → ByteArray → Int → Int → Int → Option (Int × Int × Bool)
 | 0,_,_,_,_ => none
 | k + 1,x0,x1,x7,x8 => if x8 < 5 then (impl_ReadVar.j1 k x0 x1 x7 x8 (decide ((wrap64 (x1 + x8)) < (x0.size : Int)))) else (impl_ReadVar.j1 k x0 x1 x7 x8 false)
def impl_ReadVar.j1 : Nat → ByteArray → Int → Int → Int → Bool → Option (Int × Int × Bool)
 | 0,_,_,_,_,_ => none
 | k + 1,x0,x1,x7,x8,x26 => if x26 = true then (if 0 ≤ (wrap64 (x1 + x8)) then (if (wrap64 (x1 + x8)) < (x0.size : Int) then (if 0 ≤ (wrap64 (7 * x8)) then (if (wrap64 (bt x0 (wrap64 (x1 + x8)))) < 128 then ((impl_VarText.f k (wrap64 (x7 + (shl .i64 (Int.tmod (wrap64 (bt x0 (wrap64 (x1 + x8)))) 128) (wrap64 (7 * x8)))))).bind fun bt371 => (if bt371.2 = true then (if (bt371.1.size : Int) = (wrap64 (x8 + 1)) then (some (wrap64 (x7 + (shl .i64 (Int.tmod (wrap64 (bt x0 (wrap64 (x1 + x8)))) 128) (wrap64 (7 * x8)))),wrap64 ((wrap64 (x1 + x8)) + 1),true)) else (some (0,0,false))) else (some (0,0,false)))) else (impl_ReadVar.l0 k x0 x1 (wrap64 (x7 + (shl .i64 (Int.tmod (wrap64 (bt x0 (wrap64 (x1 + x8)))) 128) (wrap64 (7 * x8))))) (wrap64 (x8 + 1)))) else (none)) else (none)) else (none)) else (some (0,0,false))
end
def impl_ReadVar.f (k : Nat) (a0 : ByteArray) (a1 : Int) : Option (Int × Int × Bool) := (impl_within.f a1 0 (a0.size : Int)).bind fun t370 => (if t370 = true then (impl_ReadVar.l0 k a0 a1 0 0) else (some (0, 0, false)))
theorem impl_ReadVar.mono_l : ∀ k, (∀ y0 y1 y2 y3, LeO (impl_ReadVar.l0 k y0 y1 y2 y3) (impl_ReadVar.l0 (k + 1) y0 y1 y2 y3)) ∧ (∀ y0 y1 y2 y3 y4, LeO (impl_ReadVar.j1 k y0 y1 y2 y3 y4) (impl_ReadVar.j1 (k + 1) y0 y1 y2 y3 y4))
 | 0 => ⟨fun _ _ _ _ r h => by simp [impl_ReadVar.l0] at h,fun _ _ _ _ _ r h => by simp [impl_ReadVar.j1] at h⟩
 | k + 1 => by
  obtain ⟨ih0,ih1⟩:=impl_ReadVar.mono_l k;refine ⟨?_,?_⟩
  ·intro y0 y1 y2 y3
   unfold impl_ReadVar.l0
   repeat' first
   | (with_reducible exact ih0 _ _ _ _)
   | (with_reducible exact ih1 _ _ _ _ _)
   | (with_reducible exact impl_VarText.mono _ _)
   | (with_reducible exact LeO.refl _)
   | (with_reducible exact LeO.none _)
   | (with_reducible refine LeO.ite ?_ ?_)
   | (with_reducible refine LeO.bind ?_ (fun _ => ?_))
  ·intro y0 y1 y2 y3 y4
   unfold impl_ReadVar.j1
   repeat' first
   | (with_reducible exact ih0 _ _ _ _)
   | (with_reducible exact ih1 _ _ _ _ _)
   | (with_reducible exact impl_VarText.mono _ _)
   | (with_reducible exact LeO.refl _)
   | (with_reducible exact LeO.none _)
   | (with_reducible refine LeO.ite ?_ ?_)
   | (with_reducible refine LeO.bind ?_ (fun _ => ?_))
theorem impl_ReadVar.mono : ∀ a0 a1 k, LeO (impl_ReadVar.f k a0 a1) (impl_ReadVar.f (k + 1) a0 a1) := by
 intro a0 a1 k;obtain ⟨ih0,ih1⟩:=impl_ReadVar.mono_l k
 unfold impl_ReadVar.f
 repeat' first
   | (with_reducible exact ih0 _ _ _ _)
   | (with_reducible exact ih1 _ _ _ _ _)
   | (with_reducible exact impl_VarText.mono _ _)
   | (with_reducible exact LeO.refl _)
   | (with_reducible exact LeO.none _)
   | (with_reducible refine LeO.ite ?_ ?_)
   | (with_reducible refine LeO.bind ?_ (fun _ => ?_))
set_option maxHeartbeats 8000000 in
set_option maxRecDepth 100000 in
theorem impl_ReadVar.calls (k : Nat) (a0 : ByteArray) (a1 : Int) (r1 : Int) (r2 : Int) (r3 : Bool) (w : World) (h : impl_ReadVar.f k a0 a1 = some (r1, r2, r3)) :
  Calls Try.prog 97 #[.string a0,.int .i64 a1] w fun e w' => e = .returned (.tuple #[.int .i64 r1,.int .i64 r2,.bool r3]) ∧ Below w.heap.size w w':=by
 have HB:=A_ (Below.refl w.heap.size w);unfold impl_ReadVar.f at h;have H:=h;clear h;replace H:=ob_.mp H;obtain ⟨t370,A30,H⟩:=H;(try dsimp only at H);have A3:=A_ A30;clear A30
 by_cases c4 : t370 = true
 ·subst c4
  rw [if_pos rfl] at H;have H':=A_ H;clear H;go_enter Try.func97,Try.ntmps97
  go_wp2_with (first|((with_reducible refine gate_callee (f:=47) rfl ?_);refine gL_ (some 15) Try.func47 #[.int .i64 a1,.int .i64 0,.int .i64 (a0.size : Int)] ?_;(with_reducible refine (impl_within.calls a1 0 (a0.size : Int) true _ A3.out).mono ?_);rintro e w' ⟨rfl,⟨nd,rfl⟩⟩;refine ⟨_,rfl,?_⟩))
  go_loopg [7,8] k (fun kq v7 v8 w' => ∃ (x7_1 : Int) (x8_1 : Int),v7 = .int .i64 x7_1 ∧ v8 = .int .i64 x8_1 ∧ Aside0 (impl_ReadVar.l0 kq a0 a1 x7_1 x8_1 = some (r1,r2,r3)) ∧ Aside0 (kq ≤ k) ∧ Aside0 (Below w.heap.size w w'))
  case atStart => exact ⟨(0),(0),(by first|rfl|(simp;done)|(simp [*];done)),(by first|rfl|(simp;done)|(simp [*];done)),H',⟨Nat.le_refl _⟩,⟨bq_ HB⟩⟩
  case round =>
   clear H'
   try clear p2
   try clear c4
   obtain ⟨x7_1,x8_1,rfl,rfl,HA,HK1,HB⟩:=hrel
   cases gk with
   | zero => exact absurd HA.out (by simp [impl_ReadVar.l0])
   | succ k1 =>
    have H:=HA.out;clear HA;simp only [impl_ReadVar.l0] at H;have HC5:=A_ H;clear H
    go_upto_region 5 with (fail)
    go_cut [26] (fun v26 wc => ∃ (kq : Nat) (x26_4 : Bool),v26 = .bool x26_4 ∧ Aside0 (impl_ReadVar.j1 kq a0 a1 x7_1 x8_1 x26_4 = some (r1,r2,r3)) ∧ Aside0 (kq ≤ k1) ∧ Aside0 (Below w.heap.size w wc))
    case first =>
     have H:=HC5.out;clear HC5
     by_cases c6 : x8_1 < 5
     ·rw [if_pos c6] at H;have c6b0 : decide (x8_1 < 5) = true:=de_ c6;clear c6
      (first|rw [c6b0]|(simp only [i64_w,i32_w];rw [c6b0])|skip)
      have H':=A_ H;clear H;go_wp2
      go_meet
      case rel => exact ⟨_,(decide ((wrap64 (a1 + x8_1)) < (a0.size : Int))),(by first|rfl|(simp;done)|(simp [*];done)),H',⟨by have:=HK1.out;first|omega|exact Nat.le_refl _⟩,⟨bq_ HB⟩⟩
     ·rw [if_neg c6] at H;have c6b0 : decide (x8_1 < 5) = false:=decide_eq_false c6;clear c6
      (first|rw [c6b0]|(simp only [i64_w,i32_w];rw [c6b0])|skip)
      have H':=A_ H;clear H;go_wp2
      go_meet
      case rel => exact ⟨_,(false),(by first|rfl|(simp;done)|(simp [*];done)),H',⟨by have:=HK1.out;first|omega|exact Nat.le_refl _⟩,⟨bq_ HB⟩⟩
    case rest =>
     clear HC5
     try clear p2
     try clear c4
     try clear c6
     try clear c6b0
     try clear p6
     try clear p2
     obtain ⟨kq,x26_4,rfl,HA,HJ4,HB⟩:=hcut
     cases kq with
     | zero => exact absurd HA.out (by simp [impl_ReadVar.j1])
     | succ kj4 =>
      have H:=HA.out;clear HA;simp only [impl_ReadVar.j1] at H
      by_cases c7 : x26_4 = true
      ·subst c7
       rw [if_pos rfl] at H;obtain ⟨ji8,hji8⟩ : ∃ j_ : Int,(wrap64 (a1 + x8_1)) = j_:=⟨_,rfl⟩
       replace H : (if 0 ≤ (ji8) then (if (ji8) < (a0.size : Int) then (if 0 ≤ (wrap64 (7 * x8_1)) then (if (wrap64 (bt a0 (ji8))) < 128 then ((impl_VarText.f kj4 (wrap64 (x7_1 + (shl .i64 (Int.tmod (wrap64 (bt a0 (ji8))) 128) (wrap64 (7 * x8_1)))))).bind fun bt371 => (if bt371.2 = true then (if (bt371.1.size : Int) = (wrap64 (x8_1 + 1)) then (some (wrap64 (x7_1 + (shl .i64 (Int.tmod (wrap64 (bt a0 (ji8))) 128) (wrap64 (7 * x8_1)))),wrap64 ((ji8) + 1),true)) else (some (0,0,false))) else (some (0,0,false)))) else (impl_ReadVar.l0 kj4 a0 a1 (wrap64 (x7_1 + (shl .i64 (Int.tmod (wrap64 (bt a0 (ji8))) 128) (wrap64 (7 * x8_1))))) (wrap64 (x8_1 + 1)))) else (none)) else (none)) else (none)) = some (r1,r2,r3):=by first|(rw [hji8] at H;exact H)|(simp only [hji8] at H ⊢;exact H)
       have hji8w : (IntKind.i64.wrap (a1 + x8_1)) = ji8:=(i64_w _).trans hji8
       by_cases c9 : 0 ≤ (ji8)
       ·rw [if_pos c9] at H;have c9b0 : decide (0 ≤ (ji8)) = true:=de_ c9;clear c9
        by_cases c10 : (ji8) < (a0.size : Int)
        ·rw [if_pos c10] at H;have c10b0 : decide ((ji8) < (a0.size : Int)) = true:=de_ c10;clear c10;obtain ⟨ji12,hji12⟩ : ∃ j_ : Int,(wrap64 (7 * x8_1)) = j_:=⟨_,rfl⟩
         replace H : (if 0 ≤ (ji12) then (if (wrap64 (bt a0 (ji8))) < 128 then ((impl_VarText.f kj4 (wrap64 (x7_1 + (shl .i64 (Int.tmod (wrap64 (bt a0 (ji8))) 128) (ji12))))).bind fun bt371 => (if bt371.2 = true then (if (bt371.1.size : Int) = (wrap64 (x8_1 + 1)) then (some (wrap64 (x7_1 + (shl .i64 (Int.tmod (wrap64 (bt a0 (ji8))) 128) (ji12))),wrap64 ((ji8) + 1),true)) else (some (0,0,false))) else (some (0,0,false)))) else (impl_ReadVar.l0 kj4 a0 a1 (wrap64 (x7_1 + (shl .i64 (Int.tmod (wrap64 (bt a0 (ji8))) 128) (ji12)))) (wrap64 (x8_1 + 1)))) else (none)) = some (r1,r2,r3):=by first|(rw [hji12] at H;exact H)|(simp only [hji12] at H ⊢;exact H)
         have hji12w : (IntKind.i64.wrap (7 * x8_1)) = ji12:=(i64_w _).trans hji12
         by_cases c13 : 0 ≤ (ji12)
         ·rw [if_pos c13] at H;have c13b0:=eq_true c13;have c13b1 : decide (0 ≤ (ji12)) = true:=de_ c13;clear c13;obtain ⟨ji14,hji14⟩ : ∃ j_ : Int,(shl .i64 (Int.tmod (wrap64 (bt a0 (ji8))) 128) (ji12)) = j_:=⟨_,rfl⟩
          replace H : (if (wrap64 (bt a0 (ji8))) < 128 then ((impl_VarText.f kj4 (wrap64 (x7_1 + (ji14)))).bind fun bt371 => (if bt371.2 = true then (if (bt371.1.size : Int) = (wrap64 (x8_1 + 1)) then (some (wrap64 (x7_1 + (ji14)),wrap64 ((ji8) + 1),true)) else (some (0,0,false))) else (some (0,0,false)))) else (impl_ReadVar.l0 kj4 a0 a1 (wrap64 (x7_1 + (ji14))) (wrap64 (x8_1 + 1)))) = some (r1,r2,r3):=by first|(rw [hji14] at H;exact H)|(simp only [hji14] at H ⊢;exact H)
          have hji14_ : (IntKind.i64.wrap ((Int.tmod (wrap64 (bt a0 (ji8))) 128) * 2 ^ min (ji12).toNat 64)) = ji14:=hji14;have hji14z : (ji12) ≤ 64 → (IntKind.i64.wrap ((Int.tmod (wrap64 (bt a0 (ji8))) 128) * 2 ^ (ji12).toNat)) = ji14:=shl_small hji14;have hji14y : (wrap64 ((Int.tmod (wrap64 (bt a0 (ji8))) 128) * 2 ^ min (ji12).toNat 64)) = ji14:=(i64_w _).symm.trans hji14_
          have hji14x : (ji12) ≤ 64 → (wrap64 ((Int.tmod (wrap64 (bt a0 (ji8))) 128) * 2 ^ (ji12).toNat)) = ji14:=fun h_ => (i64_w _).symm.trans (hji14z h_)
          by_cases c15 : (wrap64 (bt a0 (ji8))) < 128
          ·rw [if_pos c15] at H;have c15b0 : decide ((wrap64 (bt a0 (ji8))) < 128) = true:=de_ c15;clear c15;replace H:=ob_.mp H;obtain ⟨⟨t371,t372⟩,A160,H⟩:=H;(try dsimp only at H);have A16:=A_ A160;clear A160
           by_cases c17 : t372 = true
           ·subst c17
            rw [if_pos rfl] at H
            by_cases c18 : (t371.size : Int) = (wrap64 (x8_1 + 1))
            ·rw [if_pos c18] at H;have c18b0 : ((t371.size : Int) == (wrap64 (x8_1 + 1))) = true:=beq_iff_eq.mpr c18;have c18b1 : ((t371.size : Int) != (wrap64 (x8_1 + 1))) = false:=bne_eq_false_iff_eq.mpr c18;clear c18;simp only [Option.some.injEq,Prod.mk.injEq] at H;obtain ⟨rfl,rfl,rfl⟩:=H;have p11 : 0 ≤ ((ji8) : Int):=oda_;have q11 : (ji8) < (a0.size : Int):=oda_;have hx11:=bt_at a0 (ji8);replace p11:=eq_true p11;replace q11:=eq_true q11
             go_wp2_with (first|((with_reducible refine gate_callee (f:=77) rfl ?_);refine goesL_ (some 46) rfl rfl Try.func77 (by kernel_rfl) rfl #[.int .i64 (wrap64 (x7_1 + (ji14)))] rfl (by (try simp only [s4_,s5_,s6_]);first|done|(simp only [hji14];rfl)|rfl|(simp only [List.length_drop,List.length_take];rfl)) ?_;(with_reducible refine (impl_VarText.calls kj4 (wrap64 (x7_1 + (ji14))) t371 true _ A16.out).mono ?_);rintro e w19 ⟨rfl,hb⟩;refine ⟨_,rfl,?_⟩;replace HB:=bS_ HB hb;(try clear hb)))
             go_ret3;exact ⟨by first|rfl|(simp [errW_none,errW_some] <;> rfl)|(simp only [← hji8,← hji12,← hji14];first|rfl|(simp [errW_none,errW_some] <;> rfl))|(simp [*,errW_none,errW_some] <;> rfl),bq_ HB⟩
            ·rw [if_neg c18] at H;have c18b0 : ((t371.size : Int) == (wrap64 (x8_1 + 1))) = false:=beq_eq_false_iff_ne.mpr c18;have c18b1 : ((t371.size : Int) != (wrap64 (x8_1 + 1))) = true:=bne_iff_ne.mpr c18;simp only [Option.some.injEq,Prod.mk.injEq] at H;obtain ⟨rfl,rfl,rfl⟩:=H;have p11 : 0 ≤ ((ji8) : Int):=oda_;have q11 : (ji8) < (a0.size : Int):=oda_;have hx11:=bt_at a0 (ji8);replace p11:=eq_true p11;replace q11:=eq_true q11
             go_wp2_with (first|((with_reducible refine gate_callee (f:=77) rfl ?_);refine goesL_ (some 46) rfl rfl Try.func77 (by kernel_rfl) rfl #[.int .i64 (wrap64 (x7_1 + (ji14)))] rfl (by (try simp only [s4_,s5_,s6_]);first|done|(simp only [hji14];rfl)|rfl|(simp only [List.length_drop,List.length_take];rfl)) ?_;(with_reducible refine (impl_VarText.calls kj4 (wrap64 (x7_1 + (ji14))) t371 true _ A16.out).mono ?_);rintro e w20 ⟨rfl,hb⟩;refine ⟨_,rfl,?_⟩;replace HB:=bS_ HB hb;(try clear hb)))
             go_ret3;exact ⟨by first|rfl|(simp [errW_none,errW_some] <;> rfl)|(simp only [← hji8,← hji12,← hji14];first|rfl|(simp [errW_none,errW_some] <;> rfl))|(simp [*,errW_none,errW_some] <;> rfl),bq_ HB⟩
           ·replace c17:=Bool.eq_false_iff.mpr c17;subst c17
            have H1 : (some (0,0,false)) = some (r1,r2,r3):=by rw [if_neg (show ¬ (false = true) by decide)] at H;exact H
            clear H;have H:=H1;clear H1;simp only [Option.some.injEq,Prod.mk.injEq] at H;obtain ⟨rfl,rfl,rfl⟩:=H;have p11 : 0 ≤ ((ji8) : Int):=oda_;have q11 : (ji8) < (a0.size : Int):=oda_;have hx11:=bt_at a0 (ji8);replace p11:=eq_true p11;replace q11:=eq_true q11
            go_wp2_with (first|((with_reducible refine gate_callee (f:=77) rfl ?_);refine goesL_ (some 46) rfl rfl Try.func77 (by kernel_rfl) rfl #[.int .i64 (wrap64 (x7_1 + (ji14)))] rfl (by (try simp only [s4_,s5_,s6_]);first|done|(simp only [hji14];rfl)|rfl|(simp only [List.length_drop,List.length_take];rfl)) ?_;(with_reducible refine (impl_VarText.calls kj4 (wrap64 (x7_1 + (ji14))) t371 false _ A16.out).mono ?_);rintro e w21 ⟨rfl,hb⟩;refine ⟨_,rfl,?_⟩;replace HB:=bS_ HB hb;(try clear hb)))
            go_ret3;exact ⟨by first|rfl|(simp [errW_none,errW_some] <;> rfl)|(simp only [← hji8,← hji12,← hji14];first|rfl|(simp [errW_none,errW_some] <;> rfl))|(simp [*,errW_none,errW_some] <;> rfl),bq_ HB⟩
          ·rw [if_neg c15] at H;have c15b0 : decide ((wrap64 (bt a0 (ji8))) < 128) = false:=decide_eq_false c15;clear c15;have H':=A_ H;clear H;have p11 : 0 ≤ ((ji8) : Int):=oda_;have q11 : (ji8) < (a0.size : Int):=oda_;have hx11:=bt_at a0 (ji8);replace p11:=eq_true p11;replace q11:=eq_true q11;go_wp2
           go_roundg kj4
           case measure => have:=HK1.out;have:=HJ4.out;omega
           case rel => exact ⟨(wrap64 (x7_1 + (ji14))),(wrap64 (x8_1 + 1)),(by first|rfl|(simp;done)|(simp only [← hji14] <;> (first|rfl|simp))|(simp [*];done)),(by first|rfl|(simp;done)|(simp [*];done)),H',⟨by have:=HK1.out;have:=HJ4.out;omega⟩,⟨bq_ HB⟩⟩
         ·rw [if_neg c13] at H;exact absurd H (by simp)
        ·rw [if_neg c10] at H;exact absurd H (by simp)
       ·rw [if_neg c9] at H;exact absurd H (by simp)
      ·replace c7:=Bool.eq_false_iff.mpr c7;subst c7
       have H1 : (some (0,0,false)) = some (r1,r2,r3):=by rw [if_neg (show ¬ (false = true) by decide)] at H;exact H
       clear H;have H:=H1;clear H1;simp only [Option.some.injEq,Prod.mk.injEq] at H;obtain ⟨rfl,rfl,rfl⟩:=H;go_wp2;go_ret3;exact ⟨ex_,bq_ HB⟩
 ·replace c4:=Bool.eq_false_iff.mpr c4;subst c4
  have H1 : (some (0,0,false)) = some (r1,r2,r3):=by rw [if_neg (show ¬ (false = true) by decide)] at H;exact H
  clear H;have H:=H1;clear H1;simp only [Option.some.injEq,Prod.mk.injEq] at H;obtain ⟨rfl,rfl,rfl⟩:=H;go_enter Try.func97,Try.ntmps97
  go_wp2_with (first|((with_reducible refine gate_callee (f:=47) rfl ?_);refine gL_ (some 15) Try.func47 #[.int .i64 a1,.int .i64 0,.int .i64 (a0.size : Int)] ?_;(with_reducible refine (impl_within.calls a1 0 (a0.size : Int) false _ A3.out).mono ?_);rintro e w' ⟨rfl,⟨nd,rfl⟩⟩;refine ⟨_,rfl,?_⟩))
  go_ret3;exact ⟨ex_,bq_ HB⟩
end Go.Proofs.Ytbcgnncbiblibaa.PFnExactDecode
