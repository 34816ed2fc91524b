/- The contracts of Go functions that this law reaches: what each call returns, by a plain Lean function of its arguments, under the conditions that each names. By the kit's print.py, run by this repo's wip/gen/pp.py: not to the letter what print.sh prints. -/
import Derived.Test.YtbcgnncbiblibaaPFnMessagesx0
namespace Go.Proofs.Ytbcgnncbiblibaa.PFnMessages
open Go.RowKit Go.Proofs.YtbcgnncbiblibaaW.PrintWords Go.Proofs.YtbcgnncbiblibaaW.PrintLast Go.Proofs.YtbcgnncbiblibaaW.PrintMore
attribute [local go_sem] max2_int min2_int max_two min_two max_three min_three max_four min_four
set_option linter.unusedVariables false
set_option linter.unusedSimpArgs false
def IsS98 (w0 W : World) (g : Nat) (f0 : ByteArray) (f1 : Int) (f2 : Bool) : Prop := W.heap[g]? = some (.cells #[.string f0, .int .i64 f1, .bool f2] 98 (0, 0)) ∧ w0.heap.size ≤ g
theorem IsS98.grown {w0 W : World} {g : Nat} {f0 : ByteArray} {f1 : Int} {f2 : Bool} {W1 : World} {row : Option Nat} (h : IsS98 w0 W g f0 f1 f2) (hw : W.grownBy W1 row) (hne : some g ≠ row) : IsS98 w0 W1 g f0 f1 f2 := by
 obtain ⟨hb,hg⟩:=h;exact ⟨kg_ hb hw hne,hg⟩
theorem IsS98.own_neN {w0 W : World} {g : Nat} {f0 : ByteArray} {f1 : Int} {f2 : Bool} {α : Type} {d : Kd α} {e : Nat} {base : Nat} {ok : Nat → Prop} {v : Value} {xs : List α} (h : IsS98 w0 W g f0 f1 f2) (ho : Kd.N d e W base ok v xs) (ht : e ≠ 98) : some g ≠ v.ownBlock := by
 obtain ⟨hb,hg⟩:=h;exact Kd.N_ne ho hb ht
theorem IsS98.fresh {w0 W : World} {g : Nat} {f0 : ByteArray} {f1 : Int} {f2 : Bool} (h : IsS98 w0 W g f0 f1 f2) : ∀ k, W.heap.size ≤ k → k ≠ g := by
 obtain ⟨hb,hg⟩:=h;exact Kd.freshB hb
theorem IsS98.kept {w0 W : World} {g : Nat} {f0 : ByteArray} {f1 : Int} {f2 : Bool} {W1 : World} {S : Nat → Prop} (h : IsS98 w0 W g f0 f1 f2) (hk : Kept W W1 S) (hne : ¬ S g) : IsS98 w0 W1 g f0 f1 f2 := by
 obtain ⟨hb,hg⟩:=h;exact ⟨blk_kept hb hk hne,hg⟩
theorem IsS98.below {w0 W : World} {g : Nat} {f0 : ByteArray} {f1 : Int} {f2 : Bool} {W1 : World} (h : IsS98 w0 W g f0 f1 f2) (hw : Below W.heap.size W W1) : IsS98 w0 W1 g f0 f1 f2 := h.grown (grown_of_below hw none) (by simp)
theorem IsS98.alloc {w0 W : World} {g : Nat} {f0 : ByteArray} {f1 : Int} {f2 : Bool} (h : IsS98 w0 W g f0 f1 f2) (o : Obj) : IsS98 w0 (W.alloc o) g f0 f1 f2 := h.below (below_alloc (Below.refl _ _) o)
theorem IsS98.drewN {w0 W : World} {g : Nat} {f0 : ByteArray} {f1 : Int} {f2 : Bool} (h : IsS98 w0 W g f0 f1 f2) (m : Nat) : IsS98 w0 (W.drewN m) g f0 f1 f2 := h
theorem IsS98.drew {w0 W : World} {g : Nat} {f0 : ByteArray} {f1 : Int} {f2 : Bool} (h : IsS98 w0 W g f0 f1 f2) : IsS98 w0 W.drew g f0 f1 f2 := h
theorem IsS98.at_ {w0 W : World} {g : Nat} {f0 : ByteArray} {f1 : Int} {f2 : Bool} {w' : World} {m : Nat} (hq : W.drewN m = w') (h : IsS98 w0 W g f0 f1 f2) : IsS98 w0 w' g f0 f1 f2 := by subst hq; exact IsS98.drewN h m
theorem IsS98.apart {w0 W : World} {g : Nat} {f0 : ByteArray} {f1 : Int} {f2 : Bool} {α : Type} {d : Kd α} {e : Nat} {base : Nat} {ok : Nat → Prop} {v : Value} {xs : List α} (h : IsS98 w0 W g f0 f1 f2) (ho : d.R e W base ok v xs) (ht : ∀ q, q ∈ e :: d.E → q ≠ 98) : d.R e W base (fun k => ok k ∧ k ≠ g) v xs := by
 obtain ⟨hb,hg⟩:=h;exact Kd.R_types ho hb ht
theorem IsS98.own_ne {w0 W : World} {g : Nat} {f0 : ByteArray} {f1 : Int} {f2 : Bool} {α : Type} {d : Kd α} {e : Nat} {base : Nat} {ok : Nat → Prop} {v : Value} {xs : List α} (h : IsS98 w0 W g f0 f1 f2) (ho : d.R e W base ok v xs) (ht : e ≠ 98) : some g ≠ v.ownBlock := by
 obtain ⟨hb,hg⟩:=h;exact re_ ho hb ht
theorem IsS98.apartQ {w0 W : World} {g : Nat} {f0 : ByteArray} {f1 : Int} {f2 : Bool} {α : Type} {d : Kd α} {e : Nat} {base : Nat} {ok : Nat → Prop} {v : Value} {xs : List α} (h : IsS98 w0 W g f0 f1 f2) (ho : d.Q e W base ok v xs) (ht : ∀ q, q ∈ e :: d.E → q ≠ 98) : d.Q e W base (fun k => ok k ∧ k ≠ g) v xs := by
 obtain ⟨hb,hg⟩:=h;exact Kd.Q_types ho hb ht
theorem IsS98.own_neQ {w0 W : World} {g : Nat} {f0 : ByteArray} {f1 : Int} {f2 : Bool} {α : Type} {d : Kd α} {e : Nat} {base : Nat} {ok : Nat → Prop} {v : Value} {xs : List α} (h : IsS98 w0 W g f0 f1 f2) (ho : d.Q e W base ok v xs) (ht : e ≠ 98) : some g ≠ v.ownBlock := by
 obtain ⟨hb,hg⟩:=h;exact Kd.Q_ne ho hb ht
theorem IsS98.apartS {w0 W : World} {g : Nat} {f0 : ByteArray} {f1 : Int} {f2 : Bool} {α : Type} {d : Kd α} {e : Nat} {base : Nat} {ok : Nat → Prop} {v : Value} {xs : List α} (h : IsS98 w0 W g f0 f1 f2) (ho : d.S e W base ok v xs) (ht : ∀ q, q ∈ e :: d.E → q ≠ 98) : d.S e W base (fun k => ok k ∧ k ≠ g) v xs := by
 obtain ⟨hb,hg⟩:=h;exact Kd.S_types ho hb ht
theorem IsS98.own_neS {w0 W : World} {g : Nat} {f0 : ByteArray} {f1 : Int} {f2 : Bool} {α : Type} {d : Kd α} {e : Nat} {base : Nat} {ok : Nat → Prop} {v : Value} {xs : List α} (h : IsS98 w0 W g f0 f1 f2) (ho : d.S e W base ok v xs) (ht : e ≠ 98) : some g ≠ v.ownBlock := by
 obtain ⟨hb,hg⟩:=h;exact Kd.S_ne ho hb ht
theorem IsS98.lt {w0 W : World} {g : Nat} {f0 : ByteArray} {f1 : Int} {f2 : Bool} (h : IsS98 w0 W g f0 f1 f2) : g < W.heap.size := by
 obtain ⟨hb,hg⟩:=h;exact kl_ hb
theorem IsS98.ge {w0 W : World} {g : Nat} {f0 : ByteArray} {f1 : Int} {f2 : Bool} (h : IsS98 w0 W g f0 f1 f2) : w0.heap.size ≤ g := by
 obtain ⟨hb,hg⟩:=h;exact hg
theorem IsS98.ne_blk {w0 W : World} {g : Nat} {f0 : ByteArray} {f1 : Int} {f2 : Bool} {a : Nat} {cs : Array Value} {t : TypeId} {fr : Nat × Nat} (h : IsS98 w0 W g f0 f1 f2) (hb2 : W.heap[a]? = some (.cells cs t fr)) (ht : t ≠ 98) : g ≠ a := by
 obtain ⟨hb,hg⟩:=h;rintro rfl;rw [hb] at hb2
 injection hb2 with hb2
 injection hb2 with _ ht2
 exact ht ht2.symm
theorem IsS98.far {w0 W : World} {g : Nat} {f0 : ByteArray} {f1 : Int} {f2 : Bool} {p : Addr} (h : IsS98 w0 W g f0 f1 f2) (hne : g ≠ p.block) (u : Value) : IsS98 w0 (W.setCell p u) g f0 f1 f2 := by
 obtain ⟨hb,hg⟩:=h;exact ⟨kr_ hb hne u,hg⟩
theorem cellS98_0 {W : World} {g : Nat} {f0 : ByteArray} {f1 : Int} {f2 : Bool} (h : W.heap[g]? = some (.cells #[.string f0, .int .i64 f1, .bool f2] 98 (0, 0))) : W.cell? ⟨g, 0, none⟩ = some (.string f0) := (blk_cell h 0).trans rfl
theorem IsS98.set_0 {w0 W : World} {g : Nat} {f0 : ByteArray} {f1 : Int} {f2 : Bool} (h : IsS98 w0 W g f0 f1 f2) (x : ByteArray) : IsS98 w0 (W.setCell ⟨g, 0, none⟩ (.string x)) g x f1 f2 := by
 obtain ⟨hb,hg⟩:=h;exact ⟨by simpa using blk_set hb 0 (.string x),hg⟩
theorem cellS98_1 {W : World} {g : Nat} {f0 : ByteArray} {f1 : Int} {f2 : Bool} (h : W.heap[g]? = some (.cells #[.string f0, .int .i64 f1, .bool f2] 98 (0, 0))) : W.cell? ⟨g, 1, none⟩ = some (.int .i64 f1) := (blk_cell h 1).trans rfl
theorem IsS98.set_1 {w0 W : World} {g : Nat} {f0 : ByteArray} {f1 : Int} {f2 : Bool} (h : IsS98 w0 W g f0 f1 f2) (x : Int) : IsS98 w0 (W.setCell ⟨g, 1, none⟩ (.int .i64 x)) g f0 x f2 := by
 obtain ⟨hb,hg⟩:=h;exact ⟨by simpa using blk_set hb 1 (.int .i64 x),hg⟩
theorem cellS98_2 {W : World} {g : Nat} {f0 : ByteArray} {f1 : Int} {f2 : Bool} (h : W.heap[g]? = some (.cells #[.string f0, .int .i64 f1, .bool f2] 98 (0, 0))) : W.cell? ⟨g, 2, none⟩ = some (.bool f2) := (blk_cell h 2).trans rfl
theorem IsS98.set_2 {w0 W : World} {g : Nat} {f0 : ByteArray} {f1 : Int} {f2 : Bool} (h : IsS98 w0 W g f0 f1 f2) (x : Bool) : IsS98 w0 (W.setCell ⟨g, 2, none⟩ (.bool x)) g f0 f1 x := by
 obtain ⟨hb,hg⟩:=h;exact ⟨by simpa using blk_set hb 2 (.bool x),hg⟩
theorem IsS98.new (w0 W : World) (f0 : ByteArray) (f1 : Int) (f2 : Bool) (hB : Below w0.heap.size w0 W) : IsS98 w0 (W.alloc (.cells #[.string f0, .int .i64 f1, .bool f2] 98)) W.heap.size f0 f1 f2 := ⟨by simpa using heap_alloc_new W _, hB.size⟩
theorem iq98_ {p q : Prop} (B : Aside0 q) (h : q → p := by intro h_;repeat (first|(with_reducible first|exact h_|apply IsS98.alloc|apply IsS98.drewN|apply IsS98.drew|apply IsS98.set_0|apply IsS98.set_1|apply IsS98.set_2|refine IsS98.far ?_ (Aside0.out (by assumption)) _)|exact h_)) : p := h B.out
def spec_l05Take.f (s0_0 : ByteArray) (s0_1 : Int) (s0_2 : Bool) (a1 : Int) : Option (ByteArray × ByteArray × Int × Bool) := if s0_2 = true then (some ((⟨#[]⟩ : ByteArray), s0_0, s0_1, true)) else (if a1 > (wrap64 ((s0_0.size : Int) - s0_1)) then (some ((⟨#[]⟩ : ByteArray), s0_0, s0_1, true)) else (if 0 ≤ (wrap64 ((wrap64 (s0_1 + a1)) - a1)) then (if (wrap64 ((wrap64 (s0_1 + a1)) - a1)) ≤ (wrap64 (s0_1 + a1)) then (if (wrap64 (s0_1 + a1)) ≤ (s0_0.size : Int) then (some (s0_0.extract ((wrap64 ((wrap64 (s0_1 + a1)) - a1)) : Int).toNat ((wrap64 (s0_1 + a1)) : Int).toNat, s0_0, wrap64 (s0_1 + a1), s0_2)) else (none)) else (none)) else (none)))
set_option maxHeartbeats 8000000 in
set_option maxRecDepth 100000 in
theorem spec_l05Take.calls (g : Nat) (s0_0 : ByteArray) (s0_1 : Int) (s0_2 : Bool) (a1 : Int) (r1 r2 : ByteArray) (r3 : Int) (r4 : Bool) (w0 w : World) (hI : IsS98 w0 w g s0_0 s0_1 s0_2) (hB : Below w0.heap.size w0 w) (h : spec_l05Take.f s0_0 s0_1 s0_2 a1 = some (r1, r2, r3, r4)) :
  Calls Try.prog 60 #[.pointer (some ⟨g,0,none⟩),.int .i64 a1] w fun e w' => e = .returned (.string r1) ∧ IsS98 w0 w' g r2 r3 r4 ∧ Below w0.heap.size w0 w' ∧ KeepBut w w' g none:=by
 have HI0:=A_ hI;have HK:=A_ (KeepBut.refl w g none);have HL:=A_ hB.size;clear hI;have HW0:=A_ hB.size;have HB:=A_ hB;clear hB;unfold spec_l05Take.f at h;have H:=h;clear h
 by_cases c3 : s0_2 = true
 ·subst c3
  rw [if_pos rfl] at H;simp only [Option.some.injEq,Prod.mk.injEq] at H;obtain ⟨rfl,rfl,rfl,rfl⟩:=H;obtain ⟨HGz4,hgz4⟩:=HI0.out;have hcz4_0:=cellS98_0 HGz4;have hcz4_1:=cellS98_1 HGz4;have hcz4_2:=cellS98_2 HGz4;have hfz4_0:=kf_ HGz4 0;have hfz4_1:=kf_ HGz4 1;have hfz4_2:=kf_ HGz4 2;clear HGz4 hgz4;go_enter Try.func60,Try.ntmps60;go_wp2
  repeat (go_quiet (fail);try go_wp2)
  go_ret;exact ⟨ex_,iq98_ HI0,bi_ HB (IsS98.ge HI0.out),hq_ HK⟩
 replace c3:=Bool.eq_false_iff.mpr c3;subst c3
 have H1 : (if a1 > (wrap64 ((s0_0.size : Int) - s0_1)) then (some ((⟨#[]⟩ : ByteArray),s0_0,s0_1,true)) else (if 0 ≤ (wrap64 ((wrap64 (s0_1 + a1)) - a1)) then (if (wrap64 ((wrap64 (s0_1 + a1)) - a1)) ≤ (wrap64 (s0_1 + a1)) then (if (wrap64 (s0_1 + a1)) ≤ (s0_0.size : Int) then (some (s0_0.extract ((wrap64 ((wrap64 (s0_1 + a1)) - a1)) : Int).toNat ((wrap64 (s0_1 + a1)) : Int).toNat,s0_0,wrap64 (s0_1 + a1),false)) else (none)) else (none)) else (none))) = some (r1,r2,r3,r4):=by rw [if_neg (show ¬ (false = true) by decide)] at H;exact H
 clear H;have H:=H1;clear H1;have HC5:=A_ H;clear H;obtain ⟨HGz6,hgz6⟩:=HI0.out;have hcz6_0:=cellS98_0 HGz6;have hcz6_1:=cellS98_1 HGz6;have hcz6_2:=cellS98_2 HGz6;have hfz6_0:=kf_ HGz6 0;have hfz6_1:=kf_ HGz6 1;have hfz6_2:=kf_ HGz6 2;clear HGz6 hgz6;go_enter Try.func60,Try.ntmps60
 go_upto_if 22 with (fail)
 repeat (go_quiet (fail);go_upto_if 22 with (fail))
 have H:=HC5.out;clear HC5
 by_cases c7 : a1 > (wrap64 ((s0_0.size : Int) - s0_1))
 ·rw [if_pos c7] at H;have c7b0:=de_ c7;clear c7
  (rw [c7b0])
  simp only [Option.some.injEq,Prod.mk.injEq] at H;obtain ⟨rfl,rfl,rfl,rfl⟩:=H;obtain ⟨HGz8,hgz8⟩:=HI0.out;have hcz8_0:=cellS98_0 HGz8;have hcz8_1:=cellS98_1 HGz8;have hcz8_2:=cellS98_2 HGz8;have hfz8_0:=kf_ HGz8 0;have hfz8_1:=kf_ HGz8 1;have hfz8_2:=kf_ HGz8 2;clear HGz8 hgz8;go_wp2
  go_ret;exact ⟨ex_,iq98_ HI0,bi_ HB (IsS98.ge HI0.out),hq_ HK⟩
 rw [if_neg c7] at H;have c7b0:=decide_eq_false c7;clear c7
 (rw [c7b0])
 obtain ⟨ji9,hji9⟩ : ∃ j_ : Int,(wrap64 ((wrap64 (s0_1 + a1)) - a1)) = j_:=⟨_,rfl⟩
 replace H : (if 0 ≤ (ji9) then (if (ji9) ≤ (wrap64 (s0_1 + a1)) then (if (wrap64 (s0_1 + a1)) ≤ (s0_0.size : Int) then (some (s0_0.extract ((ji9) : Int).toNat ((wrap64 (s0_1 + a1)) : Int).toNat,s0_0,wrap64 (s0_1 + a1),false)) else (none)) else (none)) else (none)) = some (r1,r2,r3,r4):=by (rw [hji9] at H;exact H)
 have hji9w : (IntKind.i64.wrap ((wrap64 (s0_1 + a1)) - a1)) = ji9:=(i64_w _).trans hji9
 by_cases c10 : 0 ≤ (ji9)
 ·rw [if_pos c10] at H;have c10b0:=eq_true c10;have c10b1:=de_ c10;clear c10
  by_cases c11 : (ji9) ≤ (wrap64 (s0_1 + a1))
  ·rw [if_pos c11] at H;have c11b0:=eq_true c11;have c11b1:=de_ c11
   by_cases c12 : (wrap64 (s0_1 + a1)) ≤ (s0_0.size : Int)
   ·rw [if_pos c12] at H;have c12b0:=eq_true c12;have c12b1:=de_ c12;simp only [Option.some.injEq,Prod.mk.injEq] at H;obtain ⟨rfl,rfl,rfl,rfl⟩:=H;obtain ⟨HGz13,hgz13⟩:=HI0.out;have hcz13_0:=cellS98_0 HGz13;have hcz13_1:=cellS98_1 HGz13;have hcz13_2:=cellS98_2 HGz13;have hfz13_0:=kf_ HGz13 0;have hfz13_1:=kf_ HGz13 1;have hfz13_2:=kf_ HGz13 2;clear HGz13 hgz13;go_wp2
    repeat (go_quiet (fail);try go_wp2)
    go_ret;exact ⟨by rfl,iq98_ HI0,bi_ HB (IsS98.ge HI0.out),hq_ HK⟩
   rw [if_neg c12] at H;exact absurd H (by simp)
  rw [if_neg c11] at H;exact absurd H (by simp)
 rw [if_neg c10] at H;exact absurd H (by simp)
def spec_l01Var.l0 : Nat → Int → List Int → Option (ByteArray)
 | 0,_,_ => none
 | k + 1,x0,x3 => if x0 > 127 then (if x3.length < 140737488355328 then (spec_l01Var.l0 k (wrap64 (Int.tdiv x0 128)) (x3 ++ [(wrap64 ((Int.tmod x0 128) + 128)) % 256])) else (none)) else (if x3.length < 140737488355328 then (some (strOfNums (x3 ++ [(x0) % 256]))) else (none))
def spec_l01Var.f (k : Nat) (a0 : Int) : Option (ByteArray) := spec_l01Var.l0 k a0 (([] : List Int))
theorem spec_l01Var.mono_l : ∀ k, (∀ y0 y1, LeO (spec_l01Var.l0 k y0 y1) (spec_l01Var.l0 (k + 1) y0 y1))
 | 0 => fun _ _ r h => by simp [spec_l01Var.l0] at h
 | k + 1 => by
  have ih0:=spec_l01Var.mono_l k
  ·intro y0 y1
   unfold spec_l01Var.l0
   repeat' first
   | (with_reducible exact ih0 _ _)
   | (with_reducible exact LeO.refl _)
   | (with_reducible refine LeO.ite ?_ ?_)
theorem spec_l01Var.mono : ∀ a0 k, LeO (spec_l01Var.f k a0) (spec_l01Var.f (k + 1) a0) := by
 intro a0 k;have ih0:=spec_l01Var.mono_l k
 unfold spec_l01Var.f
 repeat' first
   | (with_reducible exact ih0 _ _)
set_option maxHeartbeats 8000000 in
set_option maxRecDepth 100000 in
theorem spec_l01Var.calls (k : Nat) (a0 : Int) (r : ByteArray) (w : World) (h : spec_l01Var.f k a0 = some r) :
  Calls Try.prog 54 #[.int .i64 a0] w fun e w' => e = .returned (.string r) ∧ Below w.heap.size w w':=by
 have HB:=A_ (Below.refl w.heap.size w);unfold spec_l01Var.f at h;have H:=h;clear h;obtain ⟨y101,hy101⟩ : ∃ y_ : List Int,y_ = (([] : List Int)):=⟨_,rfl⟩
 replace H : (spec_l01Var.l0 k a0 y101) = some r:=by (rw [hy101];with_reducible exact H)
 have Ny101:=A_ hy101;clear hy101;have H':=A_ H;clear H;go_enter Try.func54,Try.ntmps54
 go_wp2_with (((with_reducible refine gate_dst (N:=4) rfl ?_);refine rX_ (d:=(Kd.int .u8)) (e:=5) (xs:=([] : List Int)) (inner:=[]) (ok:=fun _ => True) (okp:=fun _ => True) 4 (Reps.none _ _) ?_;intro v102 w2 ho3 hb hg_ hnew_;clear hg_ hnew_;(rw [← Ny101.out] at ho3);have HO103:=A_ (rw_ ho3 (bz_ (bq_ HB)));replace HB:=bS_ HB hb;clear hb ho3))
 go_loopg [0,3] k (fun kq v0 v3 w' => ∃ (x0_1 : Int) (x3_1 : List Int),v0 = .int .i64 x0_1 ∧ Aside0 (spec_l01Var.l0 kq x0_1 x3_1 = some r) ∧ Aside0 (kq ≤ k) ∧ Aside0 (Kd.R (Kd.int .u8) 5 w' w.heap.size (fun _ => True) v3 x3_1) ∧ Aside0 (Below w.heap.size w w'))
 case atStart => exact ⟨(a0),(y101),(by rfl),H',⟨Nat.le_refl _⟩,⟨HO103.out⟩,⟨bq_ HB⟩⟩
 case round =>
  clear H'
  try clear p2
  obtain ⟨x0_1,x3_1,rfl,HA,HK1,HO_3,HB⟩:=hrel
  cases gk with
  | zero => exact absurd HA.out (by simp [spec_l01Var.l0])
  | succ k1 =>
   have H:=HA.out;clear HA;simp only [spec_l01Var.l0] at H
   by_cases c4 : x0_1 > 127
   ·rw [if_pos c4] at H;have c4b0:=de_ c4;clear c4
    by_cases c5 : x3_1.length < 140737488355328
    ·rw [if_pos c5] at H;have LMc5:=A_ c5;clear c5;obtain ⟨y104,hy104⟩ : ∃ y_ : List Int,y_ = (x3_1 ++ [(wrap64 ((Int.tmod x0_1 128) + 128)) % 256]):=⟨_,rfl⟩
     replace H : (spec_l01Var.l0 k1 (wrap64 (Int.tdiv x0_1 128)) y104) = some r:=by (rw [hy104];with_reducible exact H)
     have Ny104:=A_ hy104;clear hy104;have H':=A_ H;clear H
     go_wp2_with (((with_reducible refine gate_builtin (b:=.append) (xs:=#[.tmp 7,.tmp 12]) rfl ?_);at_builtin;refine Kd.R_append (Kd.int .u8) (w0:=w) w.heap.size rfl (.tmp 7) (.tmp 12) 46 5 (.int .u8 0) 1 rfl Try.underlying46 info5 rfl (by decide) (by omega) u3 x3_1 ((wrap64 ((Int.tmod x0_1 128) + 128)) % 256) [.int .u8 ((wrap64 ((Int.tmod x0_1 128) + 128)) % 256)] (fun _ => True) (fun _ => False) rfl rfl ?aP (fun _ hk => hk.elim) ?aF ?aO ?aB ?aS ?aL ?_;(case aP => exact rfl);(case aB => exact (bq_ HB));(case aF => exact (fun _ _ => trivial));(case aO => exact (rq_ HO_3));(case aS => exact (bz_ (bq_ HB)));(case aL => have:=LMc5.out;omega);intro v105 w6 ho hb hg hat;rw [← Ny104.out] at ho;replace HB:=A_ hb;have HO106:=A_ ho;clear HO_3;clear ho hb hg hat))
     go_roundg k1
     case measure => have:=HK1.out;omega
     case rel => exact ⟨(wrap64 (Int.tdiv x0_1 128)),(y104),(by rfl),H',⟨by have:=HK1.out;omega⟩,⟨HO106.out⟩,⟨bq_ HB⟩⟩
    rw [if_neg c5] at H;exact absurd H (by simp)
   rw [if_neg c4] at H;have c4b0:=decide_eq_false c4;clear c4
   by_cases c7 : x3_1.length < 140737488355328
   ·rw [if_pos c7] at H;have LMc7:=A_ c7;clear c7;obtain ⟨y107,hy107⟩ : ∃ y_ : List Int,y_ = (x3_1 ++ [(x0_1) % 256]):=⟨_,rfl⟩
    replace H : (some (strOfNums y107)) = some r:=by (rw [hy107];with_reducible exact H)
    have Ny107:=A_ hy107;clear hy107;obtain rfl:=Option.some.inj H
    go_wp2_with (((with_reducible refine gate_builtin (b:=.append) (xs:=#[.tmp 16,.tmp 19]) rfl ?_);at_builtin;refine Kd.R_append (Kd.int .u8) (w0:=w) w.heap.size rfl (.tmp 16) (.tmp 19) 46 5 (.int .u8 0) 1 rfl Try.underlying46 info5 rfl (by decide) (by omega) u3 x3_1 ((x0_1) % 256) [.int .u8 ((x0_1) % 256)] (fun _ => True) (fun _ => False) rfl rfl ?aP (fun _ hk => hk.elim) ?aF ?aO ?aB ?aS ?aL ?_;(case aP => exact rfl);(case aB => exact (bq_ HB));(case aF => exact (fun _ _ => trivial));(case aO => exact (rq_ HO_3));(case aS => exact (bz_ (bq_ HB)));(case aL => have:=LMc7.out;omega);intro v108 w8 ho hb hg hat;rw [← Ny107.out] at ho;replace HB:=A_ hb;have HO109:=A_ ho;clear HO_3;clear ho hb hg hat;have hcv9:=own_string (P:=Try.prog) Try.underlying46 Try.underlying5 Try.underlying9 (Kd.own_of_R HO109.out)))
    go_ret;exact ⟨ex_,bq_ HB⟩
   rw [if_neg c7] at H;exact absurd H (by simp)
def spec_l01In.f (a0 a1 a2 : Int) : Option (Bool) := if a0 ≥ a1 then (some (decide (a0 ≤ a2))) else (some false)
set_option maxHeartbeats 8000000 in
set_option maxRecDepth 100000 in
theorem spec_l01In.calls (a0 a1 a2 : Int) (r : Bool) (w : World) (h : spec_l01In.f a0 a1 a2 = some r) :
  Calls Try.prog 81 #[.int .i64 a0,.int .i64 a1,.int .i64 a2] w fun e w' => e = .returned (.bool r) ∧ Drawn0 w w':=by
 unfold spec_l01In.f at h;have H:=h;clear h
 by_cases c4 : a0 ≥ a1
 ·rw [if_pos c4] at H;have c4b0:=de_ c4;clear c4;obtain rfl:=Option.some.inj H;go_enter Try.func81,Try.ntmps81;go_wp2;go_ret;exact ⟨by rfl,by repeat (exact Drawn0.refl _)⟩
 rw [if_neg c4] at H;have c4b0:=decide_eq_false c4;clear c4;obtain rfl:=Option.some.inj H;go_enter Try.func81,Try.ntmps81;go_wp2;go_ret;exact ⟨by rfl,by repeat (exact Drawn0.refl _)⟩
mutual
def spec_ReadVar.l0 : Nat → ByteArray → Int → Int → Int → Int → Option (Int × Int × Bool)
 | 0,_,_,_,_,_ => none
 | k + 1,x0,x1,x7,x8,x9 => if x9 < (x0.size : Int) then (spec_ReadVar.j1 k x0 x1 x7 x8 x9 (decide (x9 < (wrap64 (x1 + 5))))) else (spec_ReadVar.j1 k x0 x1 x7 x8 x9 false)
def spec_ReadVar.j1 : Nat → ByteArray → Int → Int → Int → Int → Bool → Option (Int × Int × Bool)
 | 0,_,_,_,_,_,_ => none
 | k + 1,x0,x1,x7,x8,x9,x25 => if x25 = true then (if 0 ≤ x9 then (if x9 < (x0.size : Int) then (if (bt x0 x9) < 128 then (if (wrap64 (x7 + (wrap64 ((Int.tmod (wrap64 (bt x0 x9)) 128) * x8)))) > 1000000000 then (some (0,0,false)) else ((spec_l01Var.f k (wrap64 (x7 + (wrap64 ((Int.tmod (wrap64 (bt x0 x9)) 128) * x8))))).bind fun t111 => (if 0 ≤ x1 then (if x1 ≤ (wrap64 (x9 + 1)) then (if (wrap64 (x9 + 1)) ≤ (x0.size : Int) then (if t111.toList = (x0.extract (x1 : Int).toNat ((wrap64 (x9 + 1)) : Int).toNat).toList then (some (wrap64 (x7 + (wrap64 ((Int.tmod (wrap64 (bt x0 x9)) 128) * x8))),wrap64 (x9 + 1),true)) else (some (0,0,false))) else (none)) else (none)) else (none)))) else (spec_ReadVar.l0 k x0 x1 (wrap64 (x7 + (wrap64 ((Int.tmod (wrap64 (bt x0 x9)) 128) * x8)))) (wrap64 (x8 * 128)) (wrap64 (x9 + 1)))) else (none)) else (none)) else (some (0,0,false))
end
def spec_ReadVar.f (k : Nat) (a0 : ByteArray) (a1 : Int) : Option (Int × Int × Bool) := (spec_l01In.f a1 0 (a0.size : Int)).bind fun t110 => (if t110 = true then (spec_ReadVar.l0 k a0 a1 0 1 a1) else (some (0, 0, false)))
theorem spec_ReadVar.mono_l : ∀ k, (∀ y0 y1 y2 y3 y4, LeO (spec_ReadVar.l0 k y0 y1 y2 y3 y4) (spec_ReadVar.l0 (k + 1) y0 y1 y2 y3 y4)) ∧ (∀ y0 y1 y2 y3 y4 y5, LeO (spec_ReadVar.j1 k y0 y1 y2 y3 y4 y5) (spec_ReadVar.j1 (k + 1) y0 y1 y2 y3 y4 y5))
 | 0 => ⟨fun _ _ _ _ _ r h => by simp [spec_ReadVar.l0] at h,fun _ _ _ _ _ _ r h => by simp [spec_ReadVar.j1] at h⟩
 | k + 1 => by
  obtain ⟨ih0,ih1⟩:=spec_ReadVar.mono_l k;refine ⟨?_,?_⟩
  ·intro y0 y1 y2 y3 y4
   unfold spec_ReadVar.l0
   repeat' first
   | (with_reducible exact ih1 _ _ _ _ _ _)
   | (with_reducible refine LeO.ite ?_ ?_)
  intro y0 y1 y2 y3 y4 y5
  unfold spec_ReadVar.j1
  repeat' first
  | (with_reducible exact ih0 _ _ _ _ _)
  | (with_reducible exact spec_l01Var.mono _ _)
  | (with_reducible exact LeO.refl _)
  | (with_reducible refine LeO.ite ?_ ?_)
  | (with_reducible refine LeO.bind ?_ (fun _ => ?_))
theorem spec_ReadVar.mono : ∀ a0 a1 k, LeO (spec_ReadVar.f k a0 a1) (spec_ReadVar.f (k + 1) a0 a1) := by
 intro a0 a1 k;obtain ⟨ih0,ih1⟩:=spec_ReadVar.mono_l k
 unfold spec_ReadVar.f
 repeat' first
   | (with_reducible exact ih0 _ _ _ _ _)
   | (with_reducible exact LeO.refl _)
   | (with_reducible refine LeO.ite ?_ ?_)
   | (with_reducible refine LeO.bind ?_ (fun _ => ?_))
def spec_ReadVar.T11 : Bool × List (List Nat × List Nat) := (true, [([], []), ([0], [0]), ([1], [1]), ([2], [2]), ([3, 2, 2], [2, 3]), ([2], [2]), ([2], [2]), ([2], [2]), ([7, 2], [2, 7]), ([5, 6, 8, 2], [2, 5, 6, 8]), ([4, 9, 2], [2, 4, 9]), ([2, 10], [2, 10])])
def spec_ReadVar.B11 : List Nat := [0, 1, 3, 7, 15, 7, 7, 7, 135, 487, 1023, 2047]
theorem spec_ReadVar.tab11 : rtab .any (opsOf Try.f95 11) = spec_ReadVar.T11 := by kernel_rfl
theorem spec_ReadVar.bits11 : waitsOk spec_ReadVar.T11.2 spec_ReadVar.B11 = true := by kernel_rfl
set_option maxHeartbeats 8000000 in
set_option maxRecDepth 100000 in
theorem spec_ReadVar.calls (k : Nat) (a0 : ByteArray) (a1 r1 r2 : Int) (r3 : Bool) (w : World) (h : spec_ReadVar.f k a0 a1 = some (r1, r2, r3)) :
  Calls Try.prog 95 #[.string a0,.int .i64 a1] w fun e w' => e = .returned (.tuple #[.int .i64 r1,.int .i64 r2,.bool r3]) ∧ Below w.heap.size w w':=by
 have HB:=A_ (Below.refl w.heap.size w);unfold spec_ReadVar.f at h;have H:=h;clear h;replace H:=ob_.mp H;obtain ⟨t110,A30,H⟩:=H;have A3:=A_ A30;clear A30;have HC4:=A_ H;clear H;go_enter Try.func95,Try.ntmps95
 go_upto_if 14 with (((with_reducible refine gate_callee (f:=81) rfl ?_);refine gL_ (some 13) Try.func81 #[.int .i64 a1,.int .i64 0,.int .i64 (a0.size : Int)] ?_;(with_reducible refine (spec_l01In.calls a1 0 (a0.size : Int) t110 _ A3.out).mono ?_);rintro e w' ⟨rfl,⟨nd,rfl⟩⟩;refine ⟨_,rfl,?_⟩))
 have H:=HC4.out;clear HC4
 by_cases c5 : t110 = true;rotate_left
 ·replace c5:=Bool.eq_false_iff.mpr c5;subst c5
  have H1 : (some (0,0,false)) = some (r1,r2,r3):=by rw [if_neg (show ¬ (false = true) by decide)] at H;exact H
  clear H;have H:=H1;clear H1;simp only [Option.some.injEq,Prod.mk.injEq] at H;obtain ⟨rfl,rfl,rfl⟩:=H;go_wp2;go_ret3;exact ⟨ex_,bq_ HB⟩
 subst c5
 rw [if_pos rfl] at H;have H':=A_ H;clear H;go_wp2
 go_loopg [7,8,9] k (fun kq v7 v8 v9 w' => ∃ (x7_1 : Int) (x8_1 : Int) (x9_1 : Int),v7 = .int .i64 x7_1 ∧ v8 = .int .i64 x8_1 ∧ v9 = .int .i64 x9_1 ∧ Aside0 (spec_ReadVar.l0 kq a0 a1 x7_1 x8_1 x9_1 = some (r1,r2,r3)) ∧ Aside0 (kq ≤ k) ∧ Aside0 (Below w.heap.size w w'))
 case atStart => exact ⟨(0),(1),(a1),(by rfl),(by rfl),(by rfl),H',⟨Nat.le_refl _⟩,⟨bq_ HB⟩⟩
 case round =>
  clear H'
  (try clear p2);(try clear c5)
  obtain ⟨x7_1,x8_1,x9_1,rfl,rfl,rfl,HA,HK1,HB⟩:=hrel
  cases gk with
  | zero => exact absurd HA.out (by simp [spec_ReadVar.l0])
  | succ k1 =>
   have H:=HA.out;clear HA;simp only [spec_ReadVar.l0] at H;have HC6:=A_ H;clear H
   go_upto_region 6 with (fail)
   go_cut [25] (fun v25 wc => ∃ (kq : Nat) (x25_5 : Bool),v25 = .bool x25_5 ∧ Aside0 (spec_ReadVar.j1 kq a0 a1 x7_1 x8_1 x9_1 x25_5 = some (r1,r2,r3)) ∧ Aside0 (kq ≤ k1) ∧ Aside0 (Below w.heap.size w wc))
   case first =>
    have H:=HC6.out;clear HC6
    by_cases c7 : x9_1 < (a0.size : Int)
    ·rw [if_pos c7] at H;have c7b0:=de_ c7;clear c7
     (skip)
     have H':=A_ H;clear H;go_wp2
     go_meet
     case rel => exact ⟨_,(decide (x9_1 < (wrap64 (a1 + 5)))),(by rfl),H',⟨by have:=HK1.out;omega⟩,⟨bq_ HB⟩⟩
    rw [if_neg c7] at H;have c7b0:=decide_eq_false c7;clear c7
    (skip)
    have H':=A_ H;clear H;go_wp2
    go_meet
    case rel => exact ⟨_,(false),(by rfl),H',⟨by have:=HK1.out;omega⟩,⟨bq_ HB⟩⟩
   case rest =>
    clear HC6
    (try clear p2);(try clear c5);(try clear p6);(try clear c7);(try clear c7b0);(try clear p2)
    obtain ⟨kq,x25_5,rfl,HA,HJ5,HB⟩:=hcut
    cases kq with
    | zero => exact absurd HA.out (by simp [spec_ReadVar.j1])
    | succ kj5 =>
     have H:=HA.out;clear HA;simp only [spec_ReadVar.j1] at H
     by_cases c8 : x25_5 = true;rotate_left
     ·replace c8:=Bool.eq_false_iff.mpr c8;subst c8
      have H1 : (some (0,0,false)) = some (r1,r2,r3):=by rw [if_neg (show ¬ (false = true) by decide)] at H;exact H
      clear H;have H:=H1;clear H1;simp only [Option.some.injEq,Prod.mk.injEq] at H;obtain ⟨rfl,rfl,rfl⟩:=H;go_wp2;go_ret3;exact ⟨ex_,bq_ HB⟩
     subst c8
     rw [if_pos rfl] at H
     by_cases c9 : 0 ≤ x9_1;rotate_left
     ·rw [if_neg c9] at H;exact absurd H (by simp)
     rw [if_pos c9] at H;have c9b0:=de_ c9;clear c9
     by_cases c10 : x9_1 < (a0.size : Int);rotate_left
     ·rw [if_neg c10] at H;exact absurd H (by simp)
     rw [if_pos c10] at H;have c10b0:=de_ c10;clear c10
     by_cases c13 : (bt a0 x9_1) < 128;rotate_left
     ·rw [if_neg c13] at H;have c13b0:=decide_eq_false c13;clear c13;have H':=A_ H;clear H;have p11 : 0 ≤ (x9_1 : Int):=oda_;have q11 : x9_1 < (a0.size : Int):=oda_;have hx11:=bt_at a0 x9_1;replace p11:=eq_true p11;replace q11:=eq_true q11;have p12 : 0 ≤ (x9_1 : Int):=oda_;have q12 : x9_1 < (a0.size : Int):=oda_;have hx12:=bt_at a0 x9_1;replace p12:=eq_true p12;replace q12:=eq_true q12;go_wp2
      go_roundg kj5
      case measure => have:=HK1.out;have:=HJ5.out;omega
      case rel => exact ⟨(wrap64 (x7_1 + (wrap64 ((Int.tmod (wrap64 (bt a0 x9_1)) 128) * x8_1)))),(wrap64 (x8_1 * 128)),(wrap64 (x9_1 + 1)),(by rfl),(by rfl),(by rfl),H',⟨by have:=HK1.out;have:=HJ5.out;omega⟩,⟨bq_ HB⟩⟩
     rw [if_pos c13] at H;have c13b0:=de_ c13;clear c13
     by_cases c14 : (wrap64 (x7_1 + (wrap64 ((Int.tmod (wrap64 (bt a0 x9_1)) 128) * x8_1)))) > 1000000000;rotate_left
     ·rw [if_neg c14] at H;have c14b0:=decide_eq_false c14;clear c14;replace H:=ob_.mp H;obtain ⟨t111,A160,H⟩:=H;have A16:=A_ A160;clear A160
      by_cases c17 : 0 ≤ a1;rotate_left
      ·rw [if_neg c17] at H;exact absurd H (by simp)
      rw [if_pos c17] at H;have c17b0:=eq_true c17;have c17b1:=de_ c17;clear c17
      by_cases c18 : a1 ≤ (wrap64 (x9_1 + 1));rotate_left
      ·rw [if_neg c18] at H;exact absurd H (by simp)
      rw [if_pos c18] at H;have c18b0:=eq_true c18;have c18b1:=de_ c18
      by_cases c19 : (wrap64 (x9_1 + 1)) ≤ (a0.size : Int);rotate_left
      ·rw [if_neg c19] at H;exact absurd H (by simp)
      rw [if_pos c19] at H;have c19b0:=eq_true c19;have c19b1:=de_ c19;have HC20:=A_ H;clear H;have p11 : 0 ≤ (x9_1 : Int):=oda_;have q11 : x9_1 < (a0.size : Int):=oda_;have hx11:=bt_at a0 x9_1;replace p11:=eq_true p11;replace q11:=eq_true q11;have p12 : 0 ≤ (x9_1 : Int):=oda_;have q12 : x9_1 < (a0.size : Int):=oda_;have hx12:=bt_at a0 x9_1;replace p12:=eq_true p12;replace q12:=eq_true q12
      try go_wp2
      replace HB:=A_ (pd_ HB.out);refine start_ (n:=12) (S:=fun w' => True) (ds:=[]) #[false,false,false,false,false,false,false,false,false,false,false,false] (by kernel_rfl) rfl rfl trivial (fun hHeld => ?_);refine with_tabW spec_ReadVar.tab11 spec_ReadVar.bits11 (fun HT_ HW_ => ?_);generalize wc.drew = w21 at HB hHeld ⊢;refine pU_ 0 (some 43) ?_
      refine pU_ 1 (some 44) ?_
      refine pU_ 2 (some 45) ?_
      refine pU_ 3 (some 46) ?_
      refine pU_ 5 (some 48) ?_
      refine pU_ 6 (some 49) ?_
      refine pU_ 7 (some 50) ?_
      refine pU_ 8 (some 51) ?_
      refine pU_ 9 (some 52) ?_
      refine oN_ 4 (some 47) (fun K hK => ?_);refine gs_ Try.func54 #[.int .i64 (wrap64 (x7_1 + (wrap64 ((Int.tmod (wrap64 (bt a0 x9_1)) 128) * x8_1))))] ?_;with_reducible refine (spec_l01Var.calls kj5 (wrap64 (x7_1 + (wrap64 ((Int.tmod (wrap64 (bt a0 x9_1)) 128) * x8_1)))) t111 _ A16.out).mono ?_;rintro e w22 ⟨rfl,hb⟩;refine ⟨_,rfl,?_⟩;replace HB:=bS_ HB hb
      (try clear hb)
      refine hK.out _ _ trivial (fun hHeld => ?_);clear hK K;refine nX_ (some 47) ?_
      refine pU_ 10 (some 53) ?_
      refine pU_ 11 (some 54) ?_
      refine done_ (done_of HT_.out (by kernel_rfl)) ?_
      go_upto_if 54 with (fail)
      have H:=HC20.out;clear HC20
      by_cases c23 : t111.toList = (a0.extract (a1 : Int).toNat ((wrap64 (x9_1 + 1)) : Int).toNat).toList
      ·rw [if_pos c23] at H;have c23b0:=beq_iff_eq.mpr c23;have c23b1:=bne_eq_false_iff_eq.mpr c23;clear c23
       (rw [c23b0])
       simp only [Option.some.injEq,Prod.mk.injEq] at H;obtain ⟨rfl,rfl,rfl⟩:=H;go_wp2;go_ret3;exact ⟨ex_,bq_ HB⟩
      rw [if_neg c23] at H;have c23b0:=beq_eq_false_iff_ne.mpr c23;have c23b1:=bne_iff_ne.mpr c23
      (rw [c23b0])
      simp only [Option.some.injEq,Prod.mk.injEq] at H;obtain ⟨rfl,rfl,rfl⟩:=H;go_wp2;go_ret3;exact ⟨ex_,bq_ HB⟩
     rw [if_pos c14] at H;have c14b0:=de_ c14;clear c14;simp only [Option.some.injEq,Prod.mk.injEq] at H;obtain ⟨rfl,rfl,rfl⟩:=H;have p11 : 0 ≤ (x9_1 : Int):=oda_;have q11 : x9_1 < (a0.size : Int):=oda_;have hx11:=bt_at a0 x9_1;replace p11:=eq_true p11;replace q11:=eq_true q11;have p12 : 0 ≤ (x9_1 : Int):=oda_;have q12 : x9_1 < (a0.size : Int):=oda_;have hx12:=bt_at a0 x9_1;replace p12:=eq_true p12;replace q12:=eq_true q12
     try go_wp2
     replace HB:=A_ (pd_ HB.out);refine start_ (n:=12) (S:=fun w' => True) (ds:=[]) #[false,false,false,false,false,false,false,false,false,false,false,false] (by kernel_rfl) rfl rfl trivial (fun hHeld => ?_);refine with_tabW spec_ReadVar.tab11 spec_ReadVar.bits11 (fun HT_ HW_ => ?_);generalize wc.drew = w15 at HB hHeld ⊢;refine pU_ 0 (some 43) ?_
     refine pU_ 1 (some 44) ?_
     refine pU_ 2 (some 45) ?_
     refine pure_ (i:=3) (N:=some 46) (v:=undef) (a':=?_) #[true,true,true,true,false,false,false,false,false,false,false,false] rfl rfl (any_of HT_.out (by kernel_rfl)) (fun _ _ _ h => h) (Or.inr ⟨by rfl,rfl⟩) ?_ ?_;rotate_left
     ·exact ux_
     refine pure_ (i:=4) (N:=some 47) (v:=undef) (a':=?_) #[true,true,true,true,true,false,false,false,false,false,false,false] rfl rfl (any_of HT_.out (by kernel_rfl)) (fun _ _ _ h => h) (Or.inr ⟨by rfl,rfl⟩) ?_ ?_;rotate_left
     ·exact ux_
     refine pure_ (i:=5) (N:=some 48) (v:=undef) (a':=?_) #[true,true,true,true,true,true,false,false,false,false,false,false] rfl rfl (any_of HT_.out (by kernel_rfl)) (fun _ _ _ h => h) (Or.inr ⟨by rfl,rfl⟩) ?_ ?_;rotate_left
     ·exact ux_
     refine pure_ (i:=6) (N:=some 49) (v:=undef) (a':=?_) #[true,true,true,true,true,true,true,false,false,false,false,false] rfl rfl (any_of HT_.out (by kernel_rfl)) (fun _ _ _ h => h) (Or.inr ⟨by rfl,rfl⟩) ?_ ?_;rotate_left
     ·exact ux_
     refine pure_ (i:=7) (N:=some 50) (v:=undef) (a':=?_) #[true,true,true,true,true,true,true,true,false,false,false,false] rfl rfl (any_of HT_.out (by kernel_rfl)) (fun _ _ _ h => h) (Or.inr ⟨by rfl,rfl⟩) ?_ ?_;rotate_left
     ·exact ux_
     refine pure_ (i:=8) (N:=some 51) (v:=undef) (a':=?_) #[true,true,true,true,true,true,true,true,true,false,false,false] rfl rfl (any_of HT_.out (by kernel_rfl)) (fun _ _ _ h => h) (Or.inr ⟨by rfl,rfl⟩) ?_ ?_;rotate_left
     ·exact ux_
     refine pure_ (i:=9) (N:=some 52) (v:=undef) (a':=?_) #[true,true,true,true,true,true,true,true,true,true,false,false] rfl rfl (any_of HT_.out (by kernel_rfl)) (fun _ _ _ h => h) (Or.inr ⟨by rfl,rfl⟩) ?_ ?_;rotate_left
     ·exact ux_
     refine pure_ (i:=10) (N:=some 53) (v:=undef) (a':=?_) #[true,true,true,true,true,true,true,true,true,true,true,false] rfl rfl (any_of HT_.out (by kernel_rfl)) (fun _ _ _ h => h) (Or.inr ⟨by rfl,rfl⟩) ?_ ?_;rotate_left
     ·exact ux_
     refine pU_ 11 (some 54) ?_
     refine done_ (done_of HT_.out (by kernel_rfl)) ?_
     try go_wp2
     go_ret3;exact ⟨ex_,bq_ HB⟩
end Go.Proofs.Ytbcgnncbiblibaa.PFnMessages
