/- The contracts of the Go functions that this law reaches: what each call returns, by a plain Lean function of its arguments. No conditions but those each contract names. By the kit's print.py, run by this session's wip/gen/pp.py with facts and hand proofs beside it: not to the letter what print.sh prints. -/
import Derived.Test.YtbcgnncbiblibaaPFnExactScanSegx0
import Derived.Test.YtbcgnncbiblibaaPFnExactScanSegx1
import Derived.Test.YtbcgnncbiblibaaPFnExactScanSegx2
namespace Go.Proofs.Ytbcgnncbiblibaa.PFnExactScanSeg
open Go.RowKit Go.Proofs.YtbcgnncbiblibaaW.PrintWords Go.Proofs.YtbcgnncbiblibaaW.PrintLast Go.Proofs.YtbcgnncbiblibaaW.PrintMore
attribute [local go_sem] max2_int min2_int max_two min_two max_three min_three max_four min_four
set_option linter.unusedVariables false
set_option linter.unusedSimpArgs false
def IsS98 (w0 W : World) (g : Nat) (f0 : ByteArray) (f1 : Int) (f2 : Bool) : Prop := W.heap[g]? = some (.cells #[.string f0, .int .i64 f1, .bool f2] 98 (0, 0)) ∧ w0.heap.size ≤ g
theorem IsS98.grown {w0 W : World} {g : Nat} {f0 : ByteArray} {f1 : Int} {f2 : Bool} {W1 : World} {row : Option Nat} (h : IsS98 w0 W g f0 f1 f2) (hw : W.grownBy W1 row) (hne : some g ≠ row) : IsS98 w0 W1 g f0 f1 f2 := by
 obtain ⟨hb,hg⟩:=h;exact ⟨kg_ hb hw hne,hg⟩
theorem IsS98.own_neN {w0 W : World} {g : Nat} {f0 : ByteArray} {f1 : Int} {f2 : Bool} {α : Type} {d : Kd α} {e : Nat} {base : Nat} {ok : Nat → Prop} {v : Value} {xs : List α} (h : IsS98 w0 W g f0 f1 f2) (ho : Kd.N d e W base ok v xs) (ht : e ≠ 98) : some g ≠ v.ownBlock := by
 obtain ⟨hb,hg⟩:=h;exact Kd.N_ne ho hb ht
theorem IsS98.fresh {w0 W : World} {g : Nat} {f0 : ByteArray} {f1 : Int} {f2 : Bool} (h : IsS98 w0 W g f0 f1 f2) : ∀ k, W.heap.size ≤ k → k ≠ g := by
 obtain ⟨hb,hg⟩:=h;exact Kd.freshB hb
theorem IsS98.kept {w0 W : World} {g : Nat} {f0 : ByteArray} {f1 : Int} {f2 : Bool} {W1 : World} {S : Nat → Prop} (h : IsS98 w0 W g f0 f1 f2) (hk : Kept W W1 S) (hne : ¬ S g) : IsS98 w0 W1 g f0 f1 f2 := by
 obtain ⟨hb,hg⟩:=h;exact ⟨blk_kept hb hk hne,hg⟩
theorem IsS98.below {w0 W : World} {g : Nat} {f0 : ByteArray} {f1 : Int} {f2 : Bool} {W1 : World} (h : IsS98 w0 W g f0 f1 f2) (hw : Below W.heap.size W W1) : IsS98 w0 W1 g f0 f1 f2 := h.grown (grown_of_below hw none) (by simp)
theorem IsS98.alloc {w0 W : World} {g : Nat} {f0 : ByteArray} {f1 : Int} {f2 : Bool} (h : IsS98 w0 W g f0 f1 f2) (o : Obj) : IsS98 w0 (W.alloc o) g f0 f1 f2 := h.below (below_alloc (Below.refl _ _) o)
theorem IsS98.drewN {w0 W : World} {g : Nat} {f0 : ByteArray} {f1 : Int} {f2 : Bool} (h : IsS98 w0 W g f0 f1 f2) (m : Nat) : IsS98 w0 (W.drewN m) g f0 f1 f2 := h
theorem IsS98.drew {w0 W : World} {g : Nat} {f0 : ByteArray} {f1 : Int} {f2 : Bool} (h : IsS98 w0 W g f0 f1 f2) : IsS98 w0 W.drew g f0 f1 f2 := h
theorem IsS98.at_ {w0 W : World} {g : Nat} {f0 : ByteArray} {f1 : Int} {f2 : Bool} {w' : World} {m : Nat} (hq : W.drewN m = w') (h : IsS98 w0 W g f0 f1 f2) : IsS98 w0 w' g f0 f1 f2 := by subst hq; exact IsS98.drewN h m
theorem IsS98.apart {w0 W : World} {g : Nat} {f0 : ByteArray} {f1 : Int} {f2 : Bool} {α : Type} {d : Kd α} {e : Nat} {base : Nat} {ok : Nat → Prop} {v : Value} {xs : List α} (h : IsS98 w0 W g f0 f1 f2) (ho : d.R e W base ok v xs) (ht : ∀ q, q ∈ e :: d.E → q ≠ 98) : d.R e W base (fun k => ok k ∧ k ≠ g) v xs := by
 obtain ⟨hb,hg⟩:=h;exact Kd.R_types ho hb ht
theorem IsS98.own_ne {w0 W : World} {g : Nat} {f0 : ByteArray} {f1 : Int} {f2 : Bool} {α : Type} {d : Kd α} {e : Nat} {base : Nat} {ok : Nat → Prop} {v : Value} {xs : List α} (h : IsS98 w0 W g f0 f1 f2) (ho : d.R e W base ok v xs) (ht : e ≠ 98) : some g ≠ v.ownBlock := by
 obtain ⟨hb,hg⟩:=h;exact re_ ho hb ht
theorem IsS98.apartQ {w0 W : World} {g : Nat} {f0 : ByteArray} {f1 : Int} {f2 : Bool} {α : Type} {d : Kd α} {e : Nat} {base : Nat} {ok : Nat → Prop} {v : Value} {xs : List α} (h : IsS98 w0 W g f0 f1 f2) (ho : d.Q e W base ok v xs) (ht : ∀ q, q ∈ e :: d.E → q ≠ 98) : d.Q e W base (fun k => ok k ∧ k ≠ g) v xs := by
 obtain ⟨hb,hg⟩:=h;exact Kd.Q_types ho hb ht
theorem IsS98.own_neQ {w0 W : World} {g : Nat} {f0 : ByteArray} {f1 : Int} {f2 : Bool} {α : Type} {d : Kd α} {e : Nat} {base : Nat} {ok : Nat → Prop} {v : Value} {xs : List α} (h : IsS98 w0 W g f0 f1 f2) (ho : d.Q e W base ok v xs) (ht : e ≠ 98) : some g ≠ v.ownBlock := by
 obtain ⟨hb,hg⟩:=h;exact Kd.Q_ne ho hb ht
theorem IsS98.apartS {w0 W : World} {g : Nat} {f0 : ByteArray} {f1 : Int} {f2 : Bool} {α : Type} {d : Kd α} {e : Nat} {base : Nat} {ok : Nat → Prop} {v : Value} {xs : List α} (h : IsS98 w0 W g f0 f1 f2) (ho : d.S e W base ok v xs) (ht : ∀ q, q ∈ e :: d.E → q ≠ 98) : d.S e W base (fun k => ok k ∧ k ≠ g) v xs := by
 obtain ⟨hb,hg⟩:=h;exact Kd.S_types ho hb ht
theorem IsS98.own_neS {w0 W : World} {g : Nat} {f0 : ByteArray} {f1 : Int} {f2 : Bool} {α : Type} {d : Kd α} {e : Nat} {base : Nat} {ok : Nat → Prop} {v : Value} {xs : List α} (h : IsS98 w0 W g f0 f1 f2) (ho : d.S e W base ok v xs) (ht : e ≠ 98) : some g ≠ v.ownBlock := by
 obtain ⟨hb,hg⟩:=h;exact Kd.S_ne ho hb ht
theorem IsS98.lt {w0 W : World} {g : Nat} {f0 : ByteArray} {f1 : Int} {f2 : Bool} (h : IsS98 w0 W g f0 f1 f2) : g < W.heap.size := by
 obtain ⟨hb,hg⟩:=h;exact kl_ hb
theorem IsS98.ge {w0 W : World} {g : Nat} {f0 : ByteArray} {f1 : Int} {f2 : Bool} (h : IsS98 w0 W g f0 f1 f2) : w0.heap.size ≤ g := by
 obtain ⟨hb,hg⟩:=h;exact hg
theorem IsS98.ne_blk {w0 W : World} {g : Nat} {f0 : ByteArray} {f1 : Int} {f2 : Bool} {a : Nat} {cs : Array Value} {t : TypeId} {fr : Nat × Nat} (h : IsS98 w0 W g f0 f1 f2) (hb2 : W.heap[a]? = some (.cells cs t fr)) (ht : t ≠ 98) : g ≠ a := by
 obtain ⟨hb,hg⟩:=h;rintro rfl;rw [hb] at hb2
 injection hb2 with hb2
 injection hb2 with _ ht2
 exact ht ht2.symm
theorem IsS98.far {w0 W : World} {g : Nat} {f0 : ByteArray} {f1 : Int} {f2 : Bool} {p : Addr} (h : IsS98 w0 W g f0 f1 f2) (hne : g ≠ p.block) (u : Value) : IsS98 w0 (W.setCell p u) g f0 f1 f2 := by
 obtain ⟨hb,hg⟩:=h;exact ⟨kr_ hb hne u,hg⟩
theorem cellS98_0 {W : World} {g : Nat} {f0 : ByteArray} {f1 : Int} {f2 : Bool} (h : W.heap[g]? = some (.cells #[.string f0, .int .i64 f1, .bool f2] 98 (0, 0))) : W.cell? ⟨g, 0, none⟩ = some (.string f0) := (blk_cell h 0).trans rfl
theorem IsS98.set_0 {w0 W : World} {g : Nat} {f0 : ByteArray} {f1 : Int} {f2 : Bool} (h : IsS98 w0 W g f0 f1 f2) (x : ByteArray) : IsS98 w0 (W.setCell ⟨g, 0, none⟩ (.string x)) g x f1 f2 := by
 obtain ⟨hb,hg⟩:=h;exact ⟨by simpa using blk_set hb 0 (.string x),hg⟩
theorem cellS98_1 {W : World} {g : Nat} {f0 : ByteArray} {f1 : Int} {f2 : Bool} (h : W.heap[g]? = some (.cells #[.string f0, .int .i64 f1, .bool f2] 98 (0, 0))) : W.cell? ⟨g, 1, none⟩ = some (.int .i64 f1) := (blk_cell h 1).trans rfl
theorem IsS98.set_1 {w0 W : World} {g : Nat} {f0 : ByteArray} {f1 : Int} {f2 : Bool} (h : IsS98 w0 W g f0 f1 f2) (x : Int) : IsS98 w0 (W.setCell ⟨g, 1, none⟩ (.int .i64 x)) g f0 x f2 := by
 obtain ⟨hb,hg⟩:=h;exact ⟨by simpa using blk_set hb 1 (.int .i64 x),hg⟩
theorem cellS98_2 {W : World} {g : Nat} {f0 : ByteArray} {f1 : Int} {f2 : Bool} (h : W.heap[g]? = some (.cells #[.string f0, .int .i64 f1, .bool f2] 98 (0, 0))) : W.cell? ⟨g, 2, none⟩ = some (.bool f2) := (blk_cell h 2).trans rfl
theorem IsS98.set_2 {w0 W : World} {g : Nat} {f0 : ByteArray} {f1 : Int} {f2 : Bool} (h : IsS98 w0 W g f0 f1 f2) (x : Bool) : IsS98 w0 (W.setCell ⟨g, 2, none⟩ (.bool x)) g f0 f1 x := by
 obtain ⟨hb,hg⟩:=h;exact ⟨by simpa using blk_set hb 2 (.bool x),hg⟩
theorem IsS98.new (w0 W : World) (f0 : ByteArray) (f1 : Int) (f2 : Bool) (hB : Below w0.heap.size w0 W) : IsS98 w0 (W.alloc (.cells #[.string f0, .int .i64 f1, .bool f2] 98)) W.heap.size f0 f1 f2 := ⟨by simpa using heap_alloc_new W _, hB.size⟩
theorem iq98_ {p q : Prop} (B : Aside0 q) (h : q → p := by intro h_;repeat (first|(with_reducible first|exact h_|apply IsS98.alloc|apply IsS98.drewN|apply IsS98.drew|apply IsS98.set_0|apply IsS98.set_1|apply IsS98.set_2|refine IsS98.far ?_ (Aside0.out (by assumption)) _)|exact h_)) : p := h B.out
def spec_l05Take.f (s0_0 : ByteArray) (s0_1 : Int) (s0_2 : Bool) (a1 : Int) : Option (ByteArray × ByteArray × Int × Bool) := if s0_2 = true then (some ((⟨#[]⟩ : ByteArray), s0_0, s0_1, true)) else (if a1 > (wrap64 ((s0_0.size : Int) - s0_1)) then (some ((⟨#[]⟩ : ByteArray), s0_0, s0_1, true)) else (if 0 ≤ (wrap64 ((wrap64 (s0_1 + a1)) - a1)) then (if (wrap64 ((wrap64 (s0_1 + a1)) - a1)) ≤ (wrap64 (s0_1 + a1)) then (if (wrap64 (s0_1 + a1)) ≤ (s0_0.size : Int) then (some (s0_0.extract ((wrap64 ((wrap64 (s0_1 + a1)) - a1)) : Int).toNat ((wrap64 (s0_1 + a1)) : Int).toNat, s0_0, wrap64 (s0_1 + a1), s0_2)) else (none)) else (none)) else (none)))
set_option maxHeartbeats 8000000 in
set_option maxRecDepth 100000 in
theorem spec_l05Take.calls (g : Nat) (s0_0 : ByteArray) (s0_1 : Int) (s0_2 : Bool) (a1 : Int) (r1 : ByteArray) (r2 : ByteArray) (r3 : Int) (r4 : Bool) (w0 w : World) (hI : IsS98 w0 w g s0_0 s0_1 s0_2) (hB : Below w0.heap.size w0 w) (h : spec_l05Take.f s0_0 s0_1 s0_2 a1 = some (r1, r2, r3, r4)) :
  Calls Try.prog 60 #[.pointer (some ⟨g,0,none⟩),.int .i64 a1] w fun e w' => e = .returned (.string r1) ∧ IsS98 w0 w' g r2 r3 r4 ∧ Below w0.heap.size w0 w' ∧ KeepBut w w' g none:=by
 have HI0:=A_ hI;have HK:=A_ (KeepBut.refl w g none);have HL:=A_ hB.size;clear hI;have HW0:=A_ hB.size;have HB:=A_ hB;clear hB;unfold spec_l05Take.f at h;have H:=h;clear h
 by_cases c3 : s0_2 = true
 ·subst c3
  rw [if_pos rfl] at H;simp only [Option.some.injEq,Prod.mk.injEq] at H;obtain ⟨rfl,rfl,rfl,rfl⟩:=H;obtain ⟨HGz4,hgz4⟩:=HI0.out;have hcz4_0:=cellS98_0 HGz4;have hcz4_1:=cellS98_1 HGz4;have hcz4_2:=cellS98_2 HGz4;have hfz4_0:=kf_ HGz4 0;have hfz4_1:=kf_ HGz4 1;have hfz4_2:=kf_ HGz4 2;clear HGz4 hgz4;go_enter Try.func60,Try.ntmps60;go_wp2
  repeat (go_quiet (fail);try go_wp2)
  go_ret;exact ⟨ex_,iq98_ HI0,bi_ HB (IsS98.ge HI0.out),hq_ HK⟩
 ·replace c3:=Bool.eq_false_iff.mpr c3;subst c3
  have H1 : (if a1 > (wrap64 ((s0_0.size : Int) - s0_1)) then (some ((⟨#[]⟩ : ByteArray),s0_0,s0_1,true)) else (if 0 ≤ (wrap64 ((wrap64 (s0_1 + a1)) - a1)) then (if (wrap64 ((wrap64 (s0_1 + a1)) - a1)) ≤ (wrap64 (s0_1 + a1)) then (if (wrap64 (s0_1 + a1)) ≤ (s0_0.size : Int) then (some (s0_0.extract ((wrap64 ((wrap64 (s0_1 + a1)) - a1)) : Int).toNat ((wrap64 (s0_1 + a1)) : Int).toNat,s0_0,wrap64 (s0_1 + a1),false)) else (none)) else (none)) else (none))) = some (r1,r2,r3,r4):=by rw [if_neg (show ¬ (false = true) by decide)] at H;exact H
  clear H;have H:=H1;clear H1
  by_cases c5 : a1 > (wrap64 ((s0_0.size : Int) - s0_1))
  ·rw [if_pos c5] at H;have c5b0 : decide ((wrap64 ((s0_0.size : Int) - s0_1)) < a1) = true:=de_ c5;clear c5;simp only [Option.some.injEq,Prod.mk.injEq] at H;obtain ⟨rfl,rfl,rfl,rfl⟩:=H;obtain ⟨HGz6,hgz6⟩:=HI0.out;have hcz6_0:=cellS98_0 HGz6;have hcz6_1:=cellS98_1 HGz6;have hcz6_2:=cellS98_2 HGz6;have hfz6_0:=kf_ HGz6 0;have hfz6_1:=kf_ HGz6 1;have hfz6_2:=kf_ HGz6 2;clear HGz6 hgz6;go_enter Try.func60,Try.ntmps60;go_wp2
   repeat (go_quiet (fail);try go_wp2)
   go_ret;exact ⟨ex_,iq98_ HI0,bi_ HB (IsS98.ge HI0.out),hq_ HK⟩
  ·rw [if_neg c5] at H;have c5b0 : decide ((wrap64 ((s0_0.size : Int) - s0_1)) < a1) = false:=decide_eq_false c5;clear c5;obtain ⟨ji7,hji7⟩ : ∃ j_ : Int,(wrap64 ((wrap64 (s0_1 + a1)) - a1)) = j_:=⟨_,rfl⟩
   replace H : (if 0 ≤ (ji7) then (if (ji7) ≤ (wrap64 (s0_1 + a1)) then (if (wrap64 (s0_1 + a1)) ≤ (s0_0.size : Int) then (some (s0_0.extract ((ji7) : Int).toNat ((wrap64 (s0_1 + a1)) : Int).toNat,s0_0,wrap64 (s0_1 + a1),false)) else (none)) else (none)) else (none)) = some (r1,r2,r3,r4):=by first|(rw [hji7] at H;exact H)|(simp only [hji7] at H ⊢;exact H)
   have hji7w : (IntKind.i64.wrap ((wrap64 (s0_1 + a1)) - a1)) = ji7:=(i64_w _).trans hji7
   by_cases c8 : 0 ≤ (ji7)
   ·rw [if_pos c8] at H;have c8b0:=eq_true c8;have c8b1 : decide (0 ≤ (ji7)) = true:=de_ c8;clear c8
    by_cases c9 : (ji7) ≤ (wrap64 (s0_1 + a1))
    ·rw [if_pos c9] at H;have c9b0:=eq_true c9;have c9b1 : decide ((ji7) ≤ (wrap64 (s0_1 + a1))) = true:=de_ c9
     by_cases c10 : (wrap64 (s0_1 + a1)) ≤ (s0_0.size : Int)
     ·rw [if_pos c10] at H;have c10b0:=eq_true c10;have c10b1 : decide ((wrap64 (s0_1 + a1)) ≤ (s0_0.size : Int)) = true:=de_ c10;simp only [Option.some.injEq,Prod.mk.injEq] at H;obtain ⟨rfl,rfl,rfl,rfl⟩:=H;obtain ⟨HGz11,hgz11⟩:=HI0.out;have hcz11_0:=cellS98_0 HGz11;have hcz11_1:=cellS98_1 HGz11;have hcz11_2:=cellS98_2 HGz11;have hfz11_0:=kf_ HGz11 0;have hfz11_1:=kf_ HGz11 1;have hfz11_2:=kf_ HGz11 2;clear HGz11 hgz11;go_enter Try.func60,Try.ntmps60;go_wp2
      repeat (go_quiet (fail);try go_wp2)
      go_ret;exact ⟨by first|rfl|(simp [errW_none,errW_some] <;> rfl)|(simp only [← hji7];first|rfl|(simp [errW_none,errW_some] <;> rfl))|(simp [*,errW_none,errW_some] <;> rfl),iq98_ HI0,bi_ HB (IsS98.ge HI0.out),hq_ HK⟩
     ·rw [if_neg c10] at H;exact absurd H (by simp)
    ·rw [if_neg c9] at H;exact absurd H (by simp)
   ·rw [if_neg c8] at H;exact absurd H (by simp)
def spec_l05Var.f (k : Nat) (s0_0 : ByteArray) (s0_1 : Int) (s0_2 : Bool) : Option (Int × ByteArray × Int × Bool) := (spec_ReadVar.f k s0_0 s0_1).bind fun bt131 => (if s0_2 = true then (some (0, s0_0, s0_1, true)) else (if bt131.2.2 = true then (some (bt131.1, s0_0, bt131.2.1, s0_2)) else (some (0, s0_0, s0_1, true))))
theorem spec_l05Var.mono : ∀ a0 a1 a2 k, LeO (spec_l05Var.f k a0 a1 a2) (spec_l05Var.f (k + 1) a0 a1 a2) := by
 intro a0 a1 a2 k
 unfold spec_l05Var.f
 repeat' first
   | (with_reducible exact spec_ReadVar.mono _ _ _)
   | (with_reducible exact LeO.refl _)
   | (with_reducible exact LeO.none _)
   | (with_reducible refine LeO.ite ?_ ?_)
   | (with_reducible refine LeO.bind ?_ (fun _ => ?_))
def spec_l05Var.T1 : Bool × List (List Nat × List Nat) := (true, [([], []), ([0], [0]), ([1], [1]), ([2], [2]), ([], []), ([4], [4]), ([5], [5]), ([6], [6]), ([3, 7], [3, 7]), ([8], [8]), ([9], [9]), ([9], [9]), ([9], [9]), ([10, 8, 0, 1, 2, 3, 4, 5, 6, 7, 8, 9, 10], [10]), ([11, 13, 0, 1, 2, 3, 4, 5, 6, 7, 8, 9, 10, 11, 13], [11]), ([12, 14, 0, 1, 2, 3, 4, 5, 6, 7, 8, 9, 10, 11, 12, 13, 14], [12])])
def spec_l05Var.B1 : List Nat := [0, 1, 3, 7, 0, 16, 48, 112, 255, 511, 1023, 1023, 1023, 2047, 12287, 32767]
theorem spec_l05Var.tab1 : rtab .any (opsOf Try.f61 1) = spec_l05Var.T1 := by kernel_rfl
theorem spec_l05Var.bits1 : waitsOk spec_l05Var.T1.2 spec_l05Var.B1 = true := by kernel_rfl
set_option maxHeartbeats 8000000 in
set_option maxRecDepth 100000 in
theorem spec_l05Var.calls (k : Nat) (g : Nat) (s0_0 : ByteArray) (s0_1 : Int) (s0_2 : Bool) (r1 : Int) (r2 : ByteArray) (r3 : Int) (r4 : Bool) (w0 w : World) (hI : IsS98 w0 w g s0_0 s0_1 s0_2) (hB : Below w0.heap.size w0 w) (h : spec_l05Var.f k s0_0 s0_1 s0_2 = some (r1, r2, r3, r4)) :
  Calls Try.prog 61 #[.pointer (some ⟨g,0,none⟩)] w fun e w' => e = .returned (.int .i64 r1) ∧ IsS98 w0 w' g r2 r3 r4 ∧ Below w0.heap.size w0 w' ∧ KeepBut w w' g none:=by
 have HI0:=A_ hI;have HK:=A_ (KeepBut.refl w g none);have HL:=A_ hB.size;clear hI;have HW0:=A_ hB.size;have HB:=A_ hB;clear hB;unfold spec_l05Var.f at h;have H:=h;clear h;replace H:=ob_.mp H;obtain ⟨⟨t131,t132,t133⟩,A20,H⟩:=H;(try dsimp only at H);have A2:=A_ A20;clear A20
 by_cases c3 : s0_2 = true
 ·subst c3
  rw [if_pos rfl] at H;simp only [Option.some.injEq,Prod.mk.injEq] at H;obtain ⟨rfl,rfl,rfl,rfl⟩:=H;go_enter Try.func61,Try.ntmps61
  try go_wp2
  replace HI0:=A_ (IsS98.drew HI0.out);replace HK:=A_ (keep_drew HK.out);replace HB:=A_ (pd_ HB.out);refine start_ (n:=16) (S:=fun w' => w'.cell? ⟨g,0,none⟩ = some (.string s0_0) ∧ w'.cell? ⟨g,1,none⟩ = some (.int .i64 s0_1) ∧ w'.cell? ⟨g,2,none⟩ = some (.bool true)) (ds:=[]) #[false,false,false,false,false,false,false,false,false,false,false,false,false,false,false,false] (by kernel_rfl) rfl rfl ⟨cellS98_0 HI0.out.1,cellS98_1 HI0.out.1,cellS98_2 HI0.out.1⟩ (fun hHeld => ?_);refine with_tabW spec_l05Var.tab1 spec_l05Var.bits1 (fun HT_ HW_ => ?_);generalize w.drew = w4 at HI0 HK HB hHeld ⊢;refine pU_ 0 (some 7) ?_
  refine pU_ 1 (some 8) ?_
  refine pU_ 2 (some 9) ?_
  refine pU_ 4 (some 11) ?_
  refine pU_ 5 (some 12) ?_
  refine pU_ 6 (some 13) ?_
  refine tK_ 3 (some 10) hHeld ?_
  refine tK_ 7 (some 14) hHeld ?_
  refine oN_ 8 (some 15) (fun K hK => ?_);refine gs_ Try.func95 #[.string s0_0,.int .i64 s0_1] ?_;with_reducible refine (spec_ReadVar.calls k s0_0 s0_1 t131 t132 t133 _ A2.out).mono ?_;rintro e w5 ⟨rfl,hb⟩;refine ⟨_,rfl,?_⟩;replace HK:=A_ (KeepBut.trans (hq_ HK) (KeepBut.of_below hb g none) (.inl rfl));replace HB:=A_ (bs_ (bi_ HB (IsS98.ge HI0.out)) hb);replace HI0:=A_ (IsS98.below (iq98_ HI0) hb)
  (try clear hb)
  refine hK.out _ _ ⟨cellS98_0 HI0.out.1,cellS98_1 HI0.out.1,cellS98_2 HI0.out.1⟩ (fun hHeld => ?_);clear hK K;refine nX_ (some 15) ?_
  refine pU_ 9 (some 6) ?_
  refine pU_ 10 (some 16) ?_
  refine pU_ 11 (some 17) ?_
  refine pU_ 12 (some 18) ?_
  refine pU_ 13 (some 3) ?_
  refine pU_ 14 (some 4) ?_
  refine pU_ 15 (some 5) ?_
  refine done_ (done_of HT_.out (by kernel_rfl)) ?_;obtain ⟨HGz6,hgz6⟩:=HI0.out;have hcz6_0:=cellS98_0 HGz6;have hcz6_1:=cellS98_1 HGz6;have hcz6_2:=cellS98_2 HGz6;have hfz6_0:=kf_ HGz6 0;have hfz6_1:=kf_ HGz6 1;have hfz6_2:=kf_ HGz6 2;clear HGz6 hgz6
  try go_wp2
  go_ret;exact ⟨ex_,iq98_ HI0,bi_ HB (IsS98.ge HI0.out),hq_ HK⟩
 ·replace c3:=Bool.eq_false_iff.mpr c3;subst c3
  have H1 : (if t133 = true then (some (t131,s0_0,t132,false)) else (some (0,s0_0,s0_1,true))) = some (r1,r2,r3,r4):=by rw [if_neg (show ¬ (false = true) by decide)] at H;exact H
  clear H;have H:=H1;clear H1
  by_cases c7 : t133 = true
  ·subst c7
   rw [if_pos rfl] at H;simp only [Option.some.injEq,Prod.mk.injEq] at H;obtain ⟨rfl,rfl,rfl,rfl⟩:=H;go_enter Try.func61,Try.ntmps61
   try go_wp2
   replace HI0:=A_ (IsS98.drew HI0.out);replace HK:=A_ (keep_drew HK.out);replace HB:=A_ (pd_ HB.out);refine start_ (n:=16) (S:=fun w' => w'.cell? ⟨g,0,none⟩ = some (.string s0_0) ∧ w'.cell? ⟨g,1,none⟩ = some (.int .i64 s0_1) ∧ w'.cell? ⟨g,2,none⟩ = some (.bool false)) (ds:=[]) #[false,false,false,false,false,false,false,false,false,false,false,false,false,false,false,false] (by kernel_rfl) rfl rfl ⟨cellS98_0 HI0.out.1,cellS98_1 HI0.out.1,cellS98_2 HI0.out.1⟩ (fun hHeld => ?_);refine with_tabW spec_l05Var.tab1 spec_l05Var.bits1 (fun HT_ HW_ => ?_);generalize w.drew = w8 at HI0 HK HB hHeld ⊢;refine pU_ 0 (some 7) ?_
   refine pU_ 1 (some 8) ?_
   refine pU_ 2 (some 9) ?_
   refine pU_ 4 (some 11) ?_
   refine pU_ 5 (some 12) ?_
   refine pU_ 6 (some 13) ?_
   refine tK_ 3 (some 10) hHeld ?_
   refine tK_ 7 (some 14) hHeld ?_
   refine oN_ 8 (some 15) (fun K hK => ?_);refine gs_ Try.func95 #[.string s0_0,.int .i64 s0_1] ?_;with_reducible refine (spec_ReadVar.calls k s0_0 s0_1 t131 t132 true _ A2.out).mono ?_;rintro e w9 ⟨rfl,hb⟩;refine ⟨_,rfl,?_⟩;replace HK:=A_ (KeepBut.trans (hq_ HK) (KeepBut.of_below hb g none) (.inl rfl));replace HB:=A_ (bs_ (bi_ HB (IsS98.ge HI0.out)) hb);replace HI0:=A_ (IsS98.below (iq98_ HI0) hb)
   (try clear hb)
   refine hK.out _ _ ⟨cellS98_0 HI0.out.1,cellS98_1 HI0.out.1,cellS98_2 HI0.out.1⟩ (fun hHeld => ?_);clear hK K;refine nX_ (some 15) ?_
   refine pU_ 9 (some 6) ?_
   refine pU_ 10 (some 16) ?_
   refine pU_ 11 (some 17) ?_
   refine pU_ 12 (some 18) ?_
   refine pU_ 13 (some 3) ?_
   refine pU_ 14 (some 4) ?_
   refine pU_ 15 (some 5) ?_
   refine done_ (done_of HT_.out (by kernel_rfl)) ?_;obtain ⟨HGz10,hgz10⟩:=HI0.out;have hcz10_0:=cellS98_0 HGz10;have hcz10_1:=cellS98_1 HGz10;have hcz10_2:=cellS98_2 HGz10;have hfz10_0:=kf_ HGz10 0;have hfz10_1:=kf_ HGz10 1;have hfz10_2:=kf_ HGz10 2;clear HGz10 hgz10
   try go_wp2
   go_ret;exact ⟨ex_,iq98_ HI0,bi_ HB (IsS98.ge HI0.out),hq_ HK⟩
  ·replace c7:=Bool.eq_false_iff.mpr c7;subst c7
   have H1 : (some (0,s0_0,s0_1,true)) = some (r1,r2,r3,r4):=by rw [if_neg (show ¬ (false = true) by decide)] at H;exact H
   clear H;have H:=H1;clear H1;simp only [Option.some.injEq,Prod.mk.injEq] at H;obtain ⟨rfl,rfl,rfl,rfl⟩:=H;go_enter Try.func61,Try.ntmps61
   try go_wp2
   replace HI0:=A_ (IsS98.drew HI0.out);replace HK:=A_ (keep_drew HK.out);replace HB:=A_ (pd_ HB.out);refine start_ (n:=16) (S:=fun w' => w'.cell? ⟨g,0,none⟩ = some (.string s0_0) ∧ w'.cell? ⟨g,1,none⟩ = some (.int .i64 s0_1) ∧ w'.cell? ⟨g,2,none⟩ = some (.bool false)) (ds:=[]) #[false,false,false,false,false,false,false,false,false,false,false,false,false,false,false,false] (by kernel_rfl) rfl rfl ⟨cellS98_0 HI0.out.1,cellS98_1 HI0.out.1,cellS98_2 HI0.out.1⟩ (fun hHeld => ?_);refine with_tabW spec_l05Var.tab1 spec_l05Var.bits1 (fun HT_ HW_ => ?_);generalize w.drew = w11 at HI0 HK HB hHeld ⊢;refine pU_ 0 (some 7) ?_
   refine pU_ 1 (some 8) ?_
   refine pU_ 2 (some 9) ?_
   refine pU_ 4 (some 11) ?_
   refine pU_ 5 (some 12) ?_
   refine pU_ 6 (some 13) ?_
   refine tK_ 3 (some 10) hHeld ?_
   refine tK_ 7 (some 14) hHeld ?_
   refine oN_ 8 (some 15) (fun K hK => ?_);refine gs_ Try.func95 #[.string s0_0,.int .i64 s0_1] ?_;with_reducible refine (spec_ReadVar.calls k s0_0 s0_1 t131 t132 false _ A2.out).mono ?_;rintro e w12 ⟨rfl,hb⟩;refine ⟨_,rfl,?_⟩;replace HK:=A_ (KeepBut.trans (hq_ HK) (KeepBut.of_below hb g none) (.inl rfl));replace HB:=A_ (bs_ (bi_ HB (IsS98.ge HI0.out)) hb);replace HI0:=A_ (IsS98.below (iq98_ HI0) hb)
   (try clear hb)
   refine hK.out _ _ ⟨cellS98_0 HI0.out.1,cellS98_1 HI0.out.1,cellS98_2 HI0.out.1⟩ (fun hHeld => ?_);clear hK K;refine nX_ (some 15) ?_
   refine pU_ 9 (some 6) ?_
   refine pU_ 10 (some 16) ?_
   refine pU_ 11 (some 17) ?_
   refine pU_ 12 (some 18) ?_
   refine pU_ 13 (some 3) ?_
   refine pU_ 14 (some 4) ?_
   refine pU_ 15 (some 5) ?_
   refine done_ (done_of HT_.out (by kernel_rfl)) ?_;obtain ⟨HGz13,hgz13⟩:=HI0.out;have hcz13_0:=cellS98_0 HGz13;have hcz13_1:=cellS98_1 HGz13;have hcz13_2:=cellS98_2 HGz13;have hfz13_0:=kf_ HGz13 0;have hfz13_1:=kf_ HGz13 1;have hfz13_2:=kf_ HGz13 2;clear HGz13 hgz13
   try go_wp2
   go_ret;exact ⟨ex_,iq98_ HI0,bi_ HB (IsS98.ge HI0.out),hq_ HK⟩
def spec_l05ReadShort.f (k : Nat) (s0_0 : ByteArray) (s0_1 : Int) (s0_2 : Bool) : Option (ByteArray × ByteArray × Int × Bool) := (spec_l05Var.f k s0_0 s0_1 s0_2).bind fun bt134 => ((spec_l05Take.f bt134.2.1 bt134.2.2.1 bt134.2.2.2 bt134.1).bind fun bt138 => (some (bt138.1, bt138.2.1, bt138.2.2.1, bt138.2.2.2)))
theorem spec_l05ReadShort.mono : ∀ a0 a1 a2 k, LeO (spec_l05ReadShort.f k a0 a1 a2) (spec_l05ReadShort.f (k + 1) a0 a1 a2) := by
 intro a0 a1 a2 k
 unfold spec_l05ReadShort.f
 repeat' first
   | (with_reducible exact spec_l05Var.mono _ _ _ _)
   | (with_reducible exact LeO.refl _)
   | (with_reducible exact LeO.none _)
   | (with_reducible refine LeO.ite ?_ ?_)
   | (with_reducible refine LeO.bind ?_ (fun _ => ?_))
set_option maxHeartbeats 8000000 in
set_option maxRecDepth 100000 in
theorem spec_l05ReadShort.calls (k : Nat) (g : Nat) (s0_0 : ByteArray) (s0_1 : Int) (s0_2 : Bool) (r1 : ByteArray) (r2 : ByteArray) (r3 : Int) (r4 : Bool) (w0 w : World) (hI : IsS98 w0 w g s0_0 s0_1 s0_2) (hB : Below w0.heap.size w0 w) (h : spec_l05ReadShort.f k s0_0 s0_1 s0_2 = some (r1, r2, r3, r4)) :
  Calls Try.prog 62 #[.pointer (some ⟨g,0,none⟩)] w fun e w' => e = .returned (.string r1) ∧ IsS98 w0 w' g r2 r3 r4 ∧ Below w0.heap.size w0 w' ∧ KeepBut w w' g none:=by
 have HI0:=A_ hI;have HK:=A_ (KeepBut.refl w g none);have HL:=A_ hB.size;clear hI;have HW0:=A_ hB.size;have HB:=A_ hB;clear hB;unfold spec_l05ReadShort.f at h;have H:=h;clear h;replace H:=ob_.mp H;obtain ⟨⟨t134,t135,t136,t137⟩,A20,H⟩:=H;(try dsimp only at H);have A2:=A_ A20;clear A20;replace H:=ob_.mp H;obtain ⟨⟨t138,t139,t140,t141⟩,A30,H⟩:=H;(try dsimp only at H);have A3:=A_ A30;clear A30;simp only [Option.some.injEq,Prod.mk.injEq] at H;obtain ⟨rfl,rfl,rfl,rfl⟩:=H;go_enter Try.func62,Try.ntmps62
 go_wp2_with (first|((with_reducible refine gate_callee (f:=61) rfl ?_);refine gL_ (some 5) Try.func61 #[.pointer (some ⟨g,0,none⟩)] ?_;(with_reducible refine (spec_l05Var.calls k g s0_0 s0_1 s0_2 t134 t135 t136 t137 w0 _ ?side1 ?side2 A2.out).mono ?_);(case side1 => exact iq98_ HI0);(case side2 => exact bi_ HB (IsS98.ge HI0.out));rintro e w4 ⟨rfl,hi,hb,hk⟩;refine ⟨_,rfl,?_⟩;replace HK:=A_ (KeepBut.trans (hq_ HK) hk (.inl rfl));replace HB:=A_ (hb);replace HI0:=A_ (hi);(try clear hb);(try clear hk);(try clear hi))|((with_reducible refine gate_callee (f:=60) rfl ?_);refine gL_ (some 8) Try.func60 #[.pointer (some ⟨g,0,none⟩),.int .i64 t134] ?_;(with_reducible refine (spec_l05Take.calls g t135 t136 t137 t134 t138 t139 t140 t141 w0 _ ?side1 ?side2 A3.out).mono ?_);(case side1 => exact iq98_ HI0);(case side2 => exact bi_ HB (IsS98.ge HI0.out));rintro e w5 ⟨rfl,hi,hb,hk⟩;refine ⟨_,rfl,?_⟩;replace HK:=A_ (KeepBut.trans (hq_ HK) hk (.inl rfl));replace HB:=A_ (hb);replace HI0:=A_ (hi);(try clear hb);(try clear hk);(try clear hi)))
 go_ret;exact ⟨ex_,iq98_ HI0,bi_ HB (IsS98.ge HI0.out),hq_ HK⟩
def spec_l05Short.f (k : Nat) (a0 : ByteArray) : Option (ByteArray) := (spec_l01Var.f k (a0.size : Int)).bind fun t142 => (if t142.size + a0.size ≤ 9223372036854775807 then (some (t142 ++ a0)) else (none))
theorem spec_l05Short.mono : ∀ a0 k, LeO (spec_l05Short.f k a0) (spec_l05Short.f (k + 1) a0) := by
 intro a0 k
 unfold spec_l05Short.f
 repeat' first
   | (with_reducible exact spec_l01Var.mono _ _)
   | (with_reducible exact LeO.refl _)
   | (with_reducible exact LeO.none _)
   | (with_reducible refine LeO.ite ?_ ?_)
   | (with_reducible refine LeO.bind ?_ (fun _ => ?_))
set_option maxHeartbeats 8000000 in
set_option maxRecDepth 100000 in
theorem spec_l05Short.calls (k : Nat) (a0 : ByteArray) (r : ByteArray) (w : World) (h : spec_l05Short.f k a0 = some r) :
  Calls Try.prog 55 #[.string a0] w fun e w' => e = .returned (.string r) ∧ Below w.heap.size w w':=by
 have HB:=A_ (Below.refl w.heap.size w);unfold spec_l05Short.f at h;have H:=h;clear h;replace H:=ob_.mp H;obtain ⟨t142,A20,H⟩:=H;(try dsimp only at H);have A2:=A_ A20;clear A20
 by_cases c3 : t142.size + a0.size ≤ 9223372036854775807
 ·rw [if_pos c3] at H;have c3b0:=eq_true c3;have c3b1 : decide (t142.size + a0.size ≤ 9223372036854775807) = true:=de_ c3
  try have c3b2 : (9223372036854775807 < t142.size + a0.size) = False:=eq_false (Nat.not_lt.2 c3)
  obtain rfl:=Option.some.inj H;go_enter Try.func55,Try.ntmps55
  go_wp2_with (first|((with_reducible refine gate_callee (f:=54) rfl ?_);refine gL_ (some 5) Try.func54 #[.int .i64 (a0.size : Int)] ?_;(with_reducible refine (spec_l01Var.calls k (a0.size : Int) t142 _ A2.out).mono ?_);rintro e w4 ⟨rfl,hb⟩;refine ⟨_,rfl,?_⟩;replace HB:=bS_ HB hb;(try clear hb)))
  go_ret;exact ⟨ex_,bq_ HB⟩
 ·rw [if_neg c3] at H;exact absurd H (by simp)
def spec_l05Key.f (a0 : ByteArray) : Option (Bool) := (spec_l01In.f (a0.size : Int) 1 10).bind fun t143 => (some t143)
set_option maxHeartbeats 8000000 in
set_option maxRecDepth 100000 in
theorem spec_l05Key.calls (a0 : ByteArray) (r : Bool) (w : World) (h : spec_l05Key.f a0 = some r) :
  Calls Try.prog 135 #[.string a0] w fun e w' => e = .returned (.bool r) ∧ Drawn0 w w':=by
 unfold spec_l05Key.f at h;have H:=h;clear h;replace H:=ob_.mp H;obtain ⟨t143,A20,H⟩:=H;(try dsimp only at H);have A2:=A_ A20;clear A20;obtain rfl:=Option.some.inj H;go_enter Try.func135,Try.ntmps135
 go_wp2_with (first|((with_reducible refine gate_callee (f:=81) rfl ?_);refine gL_ (some 5) Try.func81 #[.int .i64 (a0.size : Int),.int .i64 1,.int .i64 10] ?_;(with_reducible refine (spec_l01In.calls (a0.size : Int) 1 10 t143 _ A2.out).mono ?_);rintro e w' ⟨rfl,⟨nd,rfl⟩⟩;refine ⟨_,rfl,?_⟩))
 go_ret;exact ⟨by first|rfl|(simp;done)|(simp [*];done),by repeat (first|exact Drawn0.refl _|apply Drawn0.step)⟩
end Go.Proofs.Ytbcgnncbiblibaa.PFnExactScanSeg
