/- The contracts of Go functions that this law reaches: what each call returns, by a plain Lean function of its arguments, under the conditions that each names. By the kit's print.py, run by this repo's wip/gen/pp.py: not to the letter what print.sh prints. -/
import Derived.Test.YtbcgnncbiblibaaPFnMessagesx0
namespace Go.Proofs.Ytbcgnncbiblibaa.PFnMessages
open Go.RowKit Go.Proofs.YtbcgnncbiblibaaW.PrintWords Go.Proofs.YtbcgnncbiblibaaW.PrintLast Go.Proofs.YtbcgnncbiblibaaW.PrintMore
attribute [local go_sem] max2_int min2_int max_two min_two max_three min_three max_four min_four
set_option linter.unusedVariables false
set_option linter.unusedSimpArgs false
def laws_big.f (l0 : List Int) : Option (Bool) := some (decide ((l0.length : Int) > 1048576))
set_option maxHeartbeats 8000000 in
set_option maxRecDepth 100000 in
theorem laws_big.calls (A0 : Option Addr) (c0 : Nat) (l0 : List Int) (r : Bool) (w : World) (hr0 : Kd.C (Kd.int .u8) w A0 l0.length l0) (hc0 : l0.length ≤ c0) (h : laws_big.f l0 = some r) :
  Calls Try.prog 26 #[.slice A0 l0.length c0] w fun e w' => e = .returned (.bool r) ∧ Drawn0 w w':=by
 have HR0:=A_ hr0;have HC0:=A_ hc0;clear hr0 hc0;unfold laws_big.f at h;have H:=h;clear h;obtain rfl:=Option.some.inj H;go_enter Try.func26,Try.ntmps26;go_wp2;go_ret;exact ⟨by rfl,by repeat (exact Drawn0.refl _)⟩
def IsS146 (w0 W : World) (g : Nat) (f0 : List Int) (f1 f2 : Int) : Prop := ∃ A0 c0, W.heap[g]? = some (.cells #[.slice A0 f0.length c0, .int .i64 f1, .int .i64 f2] 146 (0, 0)) ∧ w0.heap.size ≤ g ∧ Kd.C (Kd.int .u8) w0 A0 f0.length f0
theorem IsS146.grown {w0 W : World} {g : Nat} {f0 : List Int} {f1 : Int} {f2 : Int} {W1 : World} {row : Option Nat} (h : IsS146 w0 W g f0 f1 f2) (hw : W.grownBy W1 row) (hne : some g ≠ row) : IsS146 w0 W1 g f0 f1 f2 := by
 obtain ⟨A0,c0,hb,hg,hr0⟩:=h;exact ⟨A0,c0,kg_ hb hw hne,hg,hr0⟩
theorem IsS146.own_neN {w0 W : World} {g : Nat} {f0 : List Int} {f1 : Int} {f2 : Int} {α : Type} {d : Kd α} {e : Nat} {base : Nat} {ok : Nat → Prop} {v : Value} {xs : List α} (h : IsS146 w0 W g f0 f1 f2) (ho : Kd.N d e W base ok v xs) (ht : e ≠ 146) : some g ≠ v.ownBlock := by
 obtain ⟨A0,c0,hb,hg,hr0⟩:=h;exact Kd.N_ne ho hb ht
theorem IsS146.fresh {w0 W : World} {g : Nat} {f0 : List Int} {f1 : Int} {f2 : Int} (h : IsS146 w0 W g f0 f1 f2) : ∀ k, W.heap.size ≤ k → k ≠ g := by
 obtain ⟨A0,c0,hb,hg,hr0⟩:=h;exact Kd.freshB hb
theorem IsS146.kept {w0 W : World} {g : Nat} {f0 : List Int} {f1 : Int} {f2 : Int} {W1 : World} {S : Nat → Prop} (h : IsS146 w0 W g f0 f1 f2) (hk : Kept W W1 S) (hne : ¬ S g) : IsS146 w0 W1 g f0 f1 f2 := by
 obtain ⟨A0,c0,hb,hg,hr0⟩:=h;exact ⟨A0,c0,blk_kept hb hk hne,hg,hr0⟩
theorem IsS146.below {w0 W : World} {g : Nat} {f0 : List Int} {f1 : Int} {f2 : Int} {W1 : World} (h : IsS146 w0 W g f0 f1 f2) (hw : Below W.heap.size W W1) : IsS146 w0 W1 g f0 f1 f2 := h.grown (grown_of_below hw none) (by simp)
theorem IsS146.alloc {w0 W : World} {g : Nat} {f0 : List Int} {f1 : Int} {f2 : Int} (h : IsS146 w0 W g f0 f1 f2) (o : Obj) : IsS146 w0 (W.alloc o) g f0 f1 f2 := h.below (below_alloc (Below.refl _ _) o)
theorem IsS146.drewN {w0 W : World} {g : Nat} {f0 : List Int} {f1 : Int} {f2 : Int} (h : IsS146 w0 W g f0 f1 f2) (m : Nat) : IsS146 w0 (W.drewN m) g f0 f1 f2 := h
theorem IsS146.drew {w0 W : World} {g : Nat} {f0 : List Int} {f1 : Int} {f2 : Int} (h : IsS146 w0 W g f0 f1 f2) : IsS146 w0 W.drew g f0 f1 f2 := h
theorem IsS146.at_ {w0 W : World} {g : Nat} {f0 : List Int} {f1 : Int} {f2 : Int} {w' : World} {m : Nat} (hq : W.drewN m = w') (h : IsS146 w0 W g f0 f1 f2) : IsS146 w0 w' g f0 f1 f2 := by subst hq; exact IsS146.drewN h m
theorem IsS146.apart {w0 W : World} {g : Nat} {f0 : List Int} {f1 : Int} {f2 : Int} {α : Type} {d : Kd α} {e : Nat} {base : Nat} {ok : Nat → Prop} {v : Value} {xs : List α} (h : IsS146 w0 W g f0 f1 f2) (ho : d.R e W base ok v xs) (ht : ∀ q, q ∈ e :: d.E → q ≠ 146) : d.R e W base (fun k => ok k ∧ k ≠ g) v xs := by
 obtain ⟨A0,c0,hb,hg,hr0⟩:=h;exact Kd.R_types ho hb ht
theorem IsS146.own_ne {w0 W : World} {g : Nat} {f0 : List Int} {f1 : Int} {f2 : Int} {α : Type} {d : Kd α} {e : Nat} {base : Nat} {ok : Nat → Prop} {v : Value} {xs : List α} (h : IsS146 w0 W g f0 f1 f2) (ho : d.R e W base ok v xs) (ht : e ≠ 146) : some g ≠ v.ownBlock := by
 obtain ⟨A0,c0,hb,hg,hr0⟩:=h;exact re_ ho hb ht
theorem IsS146.apartQ {w0 W : World} {g : Nat} {f0 : List Int} {f1 : Int} {f2 : Int} {α : Type} {d : Kd α} {e : Nat} {base : Nat} {ok : Nat → Prop} {v : Value} {xs : List α} (h : IsS146 w0 W g f0 f1 f2) (ho : d.Q e W base ok v xs) (ht : ∀ q, q ∈ e :: d.E → q ≠ 146) : d.Q e W base (fun k => ok k ∧ k ≠ g) v xs := by
 obtain ⟨A0,c0,hb,hg,hr0⟩:=h;exact Kd.Q_types ho hb ht
theorem IsS146.own_neQ {w0 W : World} {g : Nat} {f0 : List Int} {f1 : Int} {f2 : Int} {α : Type} {d : Kd α} {e : Nat} {base : Nat} {ok : Nat → Prop} {v : Value} {xs : List α} (h : IsS146 w0 W g f0 f1 f2) (ho : d.Q e W base ok v xs) (ht : e ≠ 146) : some g ≠ v.ownBlock := by
 obtain ⟨A0,c0,hb,hg,hr0⟩:=h;exact Kd.Q_ne ho hb ht
theorem IsS146.apartS {w0 W : World} {g : Nat} {f0 : List Int} {f1 : Int} {f2 : Int} {α : Type} {d : Kd α} {e : Nat} {base : Nat} {ok : Nat → Prop} {v : Value} {xs : List α} (h : IsS146 w0 W g f0 f1 f2) (ho : d.S e W base ok v xs) (ht : ∀ q, q ∈ e :: d.E → q ≠ 146) : d.S e W base (fun k => ok k ∧ k ≠ g) v xs := by
 obtain ⟨A0,c0,hb,hg,hr0⟩:=h;exact Kd.S_types ho hb ht
theorem IsS146.own_neS {w0 W : World} {g : Nat} {f0 : List Int} {f1 : Int} {f2 : Int} {α : Type} {d : Kd α} {e : Nat} {base : Nat} {ok : Nat → Prop} {v : Value} {xs : List α} (h : IsS146 w0 W g f0 f1 f2) (ho : d.S e W base ok v xs) (ht : e ≠ 146) : some g ≠ v.ownBlock := by
 obtain ⟨A0,c0,hb,hg,hr0⟩:=h;exact Kd.S_ne ho hb ht
theorem IsS146.lt {w0 W : World} {g : Nat} {f0 : List Int} {f1 : Int} {f2 : Int} (h : IsS146 w0 W g f0 f1 f2) : g < W.heap.size := by
 obtain ⟨A0,c0,hb,hg,hr0⟩:=h;exact kl_ hb
theorem IsS146.ge {w0 W : World} {g : Nat} {f0 : List Int} {f1 : Int} {f2 : Int} (h : IsS146 w0 W g f0 f1 f2) : w0.heap.size ≤ g := by
 obtain ⟨A0,c0,hb,hg,hr0⟩:=h;exact hg
theorem IsS146.ne_blk {w0 W : World} {g : Nat} {f0 : List Int} {f1 : Int} {f2 : Int} {a : Nat} {cs : Array Value} {t : TypeId} {fr : Nat × Nat} (h : IsS146 w0 W g f0 f1 f2) (hb2 : W.heap[a]? = some (.cells cs t fr)) (ht : t ≠ 146) : g ≠ a := by
 obtain ⟨A0,c0,hb,hg,hr0⟩:=h;rintro rfl;rw [hb] at hb2
 injection hb2 with hb2
 injection hb2 with _ ht2
 exact ht ht2.symm
theorem IsS146.far {w0 W : World} {g : Nat} {f0 : List Int} {f1 : Int} {f2 : Int} {p : Addr} (h : IsS146 w0 W g f0 f1 f2) (hne : g ≠ p.block) (u : Value) : IsS146 w0 (W.setCell p u) g f0 f1 f2 := by
 obtain ⟨A0,c0,hb,hg,hr0⟩:=h;exact ⟨A0,c0,kr_ hb hne u,hg,hr0⟩
theorem cellS146_0 {W : World} {g : Nat} {A0 : Option Addr} {c0 : Nat} {f0 : List Int} {f1 : Int} {f2 : Int} (h : W.heap[g]? = some (.cells #[.slice A0 f0.length c0, .int .i64 f1, .int .i64 f2] 146 (0, 0))) : W.cell? ⟨g, 0, none⟩ = some (.slice A0 f0.length c0) := (blk_cell h 0).trans rfl
theorem cellS146_1 {W : World} {g : Nat} {A0 : Option Addr} {c0 : Nat} {f0 : List Int} {f1 : Int} {f2 : Int} (h : W.heap[g]? = some (.cells #[.slice A0 f0.length c0, .int .i64 f1, .int .i64 f2] 146 (0, 0))) : W.cell? ⟨g, 1, none⟩ = some (.int .i64 f1) := (blk_cell h 1).trans rfl
theorem IsS146.set_1 {w0 W : World} {g : Nat} {f0 : List Int} {f1 : Int} {f2 : Int} (h : IsS146 w0 W g f0 f1 f2) (x : Int) : IsS146 w0 (W.setCell ⟨g, 1, none⟩ (.int .i64 x)) g f0 x f2 := by
 obtain ⟨A0,c0,hb,hg,hr0⟩:=h;exact ⟨A0,c0,by simpa using blk_set hb 1 (.int .i64 x),hg,hr0⟩
theorem cellS146_2 {W : World} {g : Nat} {A0 : Option Addr} {c0 : Nat} {f0 : List Int} {f1 : Int} {f2 : Int} (h : W.heap[g]? = some (.cells #[.slice A0 f0.length c0, .int .i64 f1, .int .i64 f2] 146 (0, 0))) : W.cell? ⟨g, 2, none⟩ = some (.int .i64 f2) := (blk_cell h 2).trans rfl
theorem IsS146.set_2 {w0 W : World} {g : Nat} {f0 : List Int} {f1 : Int} {f2 : Int} (h : IsS146 w0 W g f0 f1 f2) (x : Int) : IsS146 w0 (W.setCell ⟨g, 2, none⟩ (.int .i64 x)) g f0 f1 x := by
 obtain ⟨A0,c0,hb,hg,hr0⟩:=h;exact ⟨A0,c0,by simpa using blk_set hb 2 (.int .i64 x),hg,hr0⟩
theorem IsS146.new (w0 W : World) (A0 : Option Addr) (c0 : Nat) (f0 : List Int) (f1 f2 : Int) (hB : Below w0.heap.size w0 W) (hr0 : Kd.C (Kd.int .u8) w0 A0 f0.length f0) : IsS146 w0 (W.alloc (.cells #[.slice A0 f0.length c0, .int .i64 f1, .int .i64 f2] 146)) W.heap.size f0 f1 f2 := ⟨A0, c0, by simpa using heap_alloc_new W _, hB.size, hr0⟩
theorem iq146_ {p q : Prop} (B : Aside0 q) (h : q → p := by intro h_;repeat (first|(with_reducible first|exact h_|apply IsS146.alloc|apply IsS146.drewN|apply IsS146.drew|apply IsS146.set_1|apply IsS146.set_2|refine IsS146.far ?_ (Aside0.out (by assumption)) _)|exact h_)) : p := h B.out
def spec_l01Byte.f (s0_0 : List Int) (s0_1 s0_2 : Int) : Option (Int × Int × Int) := if s0_1 < (s0_0.length : Int) then (if 0 ≤ s0_1 then (some (Go.bits .and .i64 (wrap64 ((Go.bits .and .i64 (Go.bits .xor .i64 ((wrap64 ((wrap64 (s0_2 * 6364136223846793005)) + 1442695040888963407)) / 8589934592) ((wrap64 ((wrap64 (s0_2 * 6364136223846793005)) + 1442695040888963407)) / 35184372088832)) 255) + (wrap64 (rd s0_0 s0_1)))) 255, wrap64 (s0_1 + 1), wrap64 ((wrap64 (s0_2 * 6364136223846793005)) + 1442695040888963407))) else (none)) else (some (Go.bits .and .i64 (Go.bits .xor .i64 ((wrap64 ((wrap64 (s0_2 * 6364136223846793005)) + 1442695040888963407)) / 8589934592) ((wrap64 ((wrap64 (s0_2 * 6364136223846793005)) + 1442695040888963407)) / 35184372088832)) 255, s0_1, wrap64 ((wrap64 (s0_2 * 6364136223846793005)) + 1442695040888963407)))
set_option maxHeartbeats 8000000 in
set_option maxRecDepth 100000 in
theorem spec_l01Byte.calls (g : Nat) (s0_0 : List Int) (s0_1 s0_2 r1 r2 r3 : Int) (w0 w : World) (hI : IsS146 w0 w g s0_0 s0_1 s0_2) (hB : Below w0.heap.size w0 w) (h : spec_l01Byte.f s0_0 s0_1 s0_2 = some (r1, r2, r3)) :
  Calls Try.prog 133 #[.pointer (some ⟨g,0,none⟩)] w fun e w' => e = .returned (.int .i64 r1) ∧ IsS146 w0 w' g s0_0 r2 r3 ∧ Below w0.heap.size w0 w' ∧ KeepBut w w' g none:=by
 have HI0:=A_ hI;have HK:=A_ (KeepBut.refl w g none);have HL:=A_ hB.size;clear hI;have HW0:=A_ hB.size;have HB:=A_ hB;clear hB;unfold spec_l01Byte.f at h;have H:=h;clear h
 by_cases c2 : s0_1 < (s0_0.length : Int)
 ·rw [if_pos c2] at H;have c2b0:=de_ c2;clear c2
  by_cases c3 : 0 ≤ s0_1
  ·rw [if_pos c3] at H;have c3b0:=de_ c3;clear c3;simp only [Option.some.injEq,Prod.mk.injEq] at H;obtain ⟨rfl,rfl,rfl⟩:=H;obtain ⟨ASz4_0,cSz4_0,HGz4,hgz4,HSz4_0⟩:=HI0.out;have hcz4_0:=cellS146_0 HGz4;have hcz4_1:=cellS146_1 HGz4;have hcz4_2:=cellS146_2 HGz4;have hfz4_1:=kf_ HGz4 1;have hfz4_2:=kf_ HGz4 2;clear HGz4 hgz4;have p403 : 0 ≤ (s0_1 : Int):=oda_;have q403 : s0_1 < (s0_0.length : Int):=oda_;obtain ⟨ad403,e403,hx403_0⟩:=Kd.at_int HSz4_0 s0_1 p403 q403
   cases e403
   have hn403_0 : ad403.block ≠ g:=nl_ (Nat.lt_of_lt_of_le (by have:=wb_ _ _ hx403_0;rwa [add_block] at this) (IsS146.ge HI0.out));replace hx403_0:=pw_cell_below HB.out hx403_0;replace hx403_0:=(cell_far (p:=⟨g,2,none⟩) (by (rw [add_block];exact hn403_0)) (.int .i64 (wrap64 ((wrap64 (s0_2 * 6364136223846793005)) + 1442695040888963407)))).trans hx403_0
   (try have hy403_0:=fun (n_ : Nat) => (show (((w.drewN n_).setCell ⟨g,2,none⟩ (.int .i64 (wrap64 ((wrap64 (s0_2 * 6364136223846793005)) + 1442695040888963407))))).cell? _ = some _ from hx403_0))
   clear hn403_0;replace p403:=eq_true p403;replace q403:=eq_true q403;go_enter Try.func133,Try.ntmps133;go_wp2
   repeat (go_quiet (fail);try go_wp2)
   go_ret;exact ⟨ex_,iq146_ HI0,bi_ HB (IsS146.ge HI0.out),hq_ HK⟩
  rw [if_neg c3] at H;exact absurd H (by simp)
 rw [if_neg c2] at H;have c2b0:=decide_eq_false c2;clear c2;simp only [Option.some.injEq,Prod.mk.injEq] at H;obtain ⟨rfl,rfl,rfl⟩:=H;obtain ⟨ASz5_0,cSz5_0,HGz5,hgz5,HSz5_0⟩:=HI0.out;have hcz5_0:=cellS146_0 HGz5;have hcz5_1:=cellS146_1 HGz5;have hcz5_2:=cellS146_2 HGz5;have hfz5_1:=kf_ HGz5 1;have hfz5_2:=kf_ HGz5 2;clear HGz5 hgz5;go_enter Try.func133,Try.ntmps133;go_wp2
 repeat (go_quiet (fail);try go_wp2)
 go_ret;exact ⟨ex_,iq146_ HI0,bi_ HB (IsS146.ge HI0.out),hq_ HK⟩
def spec_l01Below.f (s0_0 : List Int) (s0_1 s0_2 a1 : Int) : Option (Int × Int × Int) := if a1 ≤ 0 then (some (0, s0_1, s0_2)) else (if a1 ≤ 256 then ((spec_l01Byte.f s0_0 s0_1 s0_2).bind fun bt404 => (if a1 = 0 then (none) else (some (Int.tmod bt404.1 a1, bt404.2.1, bt404.2.2)))) else ((spec_l01Byte.f s0_0 s0_1 s0_2).bind fun bt407 => ((spec_l01Byte.f s0_0 bt407.2.1 bt407.2.2).bind fun bt410 => ((spec_l01Byte.f s0_0 bt410.2.1 bt410.2.2).bind fun bt413 => ((spec_l01Byte.f s0_0 bt413.2.1 bt413.2.2).bind fun bt416 => (if a1 = 0 then (none) else (some (Int.tmod (wrap64 ((wrap64 ((wrap64 ((wrap64 (bt407.1 * 16777216)) + (wrap64 (bt410.1 * 65536)))) + (wrap64 (bt413.1 * 256)))) + bt416.1)) a1, bt416.2.1, bt416.2.2))))))))
set_option maxHeartbeats 8000000 in
set_option maxRecDepth 100000 in
theorem spec_l01Below.calls (g : Nat) (s0_0 : List Int) (s0_1 s0_2 a1 r1 r2 r3 : Int) (w0 w : World) (hI : IsS146 w0 w g s0_0 s0_1 s0_2) (hB : Below w0.heap.size w0 w) (h : spec_l01Below.f s0_0 s0_1 s0_2 a1 = some (r1, r2, r3)) :
  Calls Try.prog 111 #[.pointer (some ⟨g,0,none⟩),.int .i64 a1] w fun e w' => e = .returned (.int .i64 r1) ∧ IsS146 w0 w' g s0_0 r2 r3 ∧ Below w0.heap.size w0 w' ∧ KeepBut w w' g none:=by
 have HI0:=A_ hI;have HK:=A_ (KeepBut.refl w g none);have HL:=A_ hB.size;clear hI;have HW0:=A_ hB.size;have HB:=A_ hB;clear hB;unfold spec_l01Below.f at h;have H:=h;clear h
 by_cases c3 : a1 ≤ 0
 ·rw [if_pos c3] at H;have c3b0:=de_ c3;clear c3;simp only [Option.some.injEq,Prod.mk.injEq] at H;obtain ⟨rfl,rfl,rfl⟩:=H;go_enter Try.func111,Try.ntmps111;go_wp2;go_ret;exact ⟨ex_,iq146_ HI0,bi_ HB (IsS146.ge HI0.out),hq_ HK⟩
 rw [if_neg c3] at H;have c3b0:=decide_eq_false c3;clear c3
 by_cases c4 : a1 ≤ 256
 ·rw [if_pos c4] at H;have c4b0:=de_ c4;clear c4;obtain ⟨⟨t404,t405,t406⟩,A5,H⟩:=oB_ H;(try dsimp only at H)
  by_cases c6 : a1 = 0
  ·rw [if_pos c6] at H;exact absurd H (by simp)
  rw [if_neg c6] at H;have c6b0:=beq_eq_false_iff_ne.mpr c6;have c6b1:=bne_iff_ne.mpr c6;simp only [Option.some.injEq,Prod.mk.injEq] at H;obtain ⟨rfl,rfl,rfl⟩:=H;go_enter Try.func111,Try.ntmps111
  go_wp2_with (((with_reducible refine gate_callee (f:=133) rfl ?_);refine gL_ (some 14) Try.func133 #[.pointer (some ⟨g,0,none⟩)] ?_;(with_reducible refine (spec_l01Byte.calls g s0_0 s0_1 s0_2 t404 t405 t406 w0 _ ?side1 ?side2 A5.out).mono ?_);(case side1 => exact iq146_ HI0);(case side2 => exact bi_ HB (IsS146.ge HI0.out));rintro e w7 ⟨rfl,hi,hb,hk⟩;refine ⟨_,rfl,?_⟩;replace HK:=hT_ HK hk;replace HB:=A_ hb;replace HI0:=A_ hi;(try clear hb);(try clear hk);(try clear hi)))
  go_ret;exact ⟨ex_,iq146_ HI0,bi_ HB (IsS146.ge HI0.out),hq_ HK⟩
 rw [if_neg c4] at H;have c4b0:=decide_eq_false c4;clear c4;obtain ⟨⟨t407,t408,t409⟩,A8,H⟩:=oB_ H;(try dsimp only at H);obtain ⟨⟨t410,t411,t412⟩,A9,H⟩:=oB_ H;(try dsimp only at H);obtain ⟨⟨t413,t414,t415⟩,A10,H⟩:=oB_ H;(try dsimp only at H);obtain ⟨⟨t416,t417,t418⟩,A11,H⟩:=oB_ H;(try dsimp only at H)
 by_cases c12 : a1 = 0
 ·rw [if_pos c12] at H;exact absurd H (by simp)
 rw [if_neg c12] at H;have c12b0:=beq_eq_false_iff_ne.mpr c12;have c12b1:=bne_iff_ne.mpr c12;simp only [Option.some.injEq,Prod.mk.injEq] at H;obtain ⟨rfl,rfl,rfl⟩:=H;go_enter Try.func111,Try.ntmps111
 go_wp2_with (first|((with_reducible refine gate_callee (f:=133) rfl ?_);refine gL_ (some 18) Try.func133 #[.pointer (some ⟨g,0,none⟩)] ?_;(with_reducible refine (spec_l01Byte.calls g s0_0 s0_1 s0_2 t407 t408 t409 w0 _ ?side1 ?side2 A8.out).mono ?_);(case side1 => exact iq146_ HI0);(case side2 => exact bi_ HB (IsS146.ge HI0.out));rintro e w13 ⟨rfl,hi,hb,hk⟩;refine ⟨_,rfl,?_⟩;replace HK:=hT_ HK hk;replace HB:=A_ hb;replace HI0:=A_ hi;(try clear hb);(try clear hk);(try clear hi))|((with_reducible refine gate_callee (f:=133) rfl ?_);refine gL_ (some 20) Try.func133 #[.pointer (some ⟨g,0,none⟩)] ?_;(with_reducible refine (spec_l01Byte.calls g s0_0 t408 t409 t410 t411 t412 w0 _ ?side1 ?side2 A9.out).mono ?_);(case side1 => exact iq146_ HI0);(case side2 => exact bi_ HB (IsS146.ge HI0.out));rintro e w14 ⟨rfl,hi,hb,hk⟩;refine ⟨_,rfl,?_⟩;replace HK:=hT_ HK hk;replace HB:=A_ hb;replace HI0:=A_ hi;(try clear hb);(try clear hk);(try clear hi))|((with_reducible refine gate_callee (f:=133) rfl ?_);refine gL_ (some 22) Try.func133 #[.pointer (some ⟨g,0,none⟩)] ?_;(with_reducible refine (spec_l01Byte.calls g s0_0 t411 t412 t413 t414 t415 w0 _ ?side1 ?side2 A10.out).mono ?_);(case side1 => exact iq146_ HI0);(case side2 => exact bi_ HB (IsS146.ge HI0.out));rintro e w15 ⟨rfl,hi,hb,hk⟩;refine ⟨_,rfl,?_⟩;replace HK:=hT_ HK hk;replace HB:=A_ hb;replace HI0:=A_ hi;(try clear hb);(try clear hk);(try clear hi))|((with_reducible refine gate_callee (f:=133) rfl ?_);refine gL_ (some 24) Try.func133 #[.pointer (some ⟨g,0,none⟩)] ?_;(with_reducible refine (spec_l01Byte.calls g s0_0 t414 t415 t416 t417 t418 w0 _ ?side1 ?side2 A11.out).mono ?_);(case side1 => exact iq146_ HI0);(case side2 => exact bi_ HB (IsS146.ge HI0.out));rintro e w16 ⟨rfl,hi,hb,hk⟩;refine ⟨_,rfl,?_⟩;replace HK:=hT_ HK hk;replace HB:=A_ hb;replace HI0:=A_ hi;(try clear hb);(try clear hk);(try clear hi)))
 go_ret;exact ⟨ex_,iq146_ HI0,bi_ HB (IsS146.ge HI0.out),hq_ HK⟩
mutual
def spec_l01Text.j0 : Nat → Int → List Int → Int → Int → Option (ByteArray × Int × Int)
 | 0,_,_,_,_ => none
 | k + 1,x1,x1000,x1001,x1002 => spec_l01Text.l0 k x1 (([] : List Int)) 0 x1000 x1001 x1002
def spec_l01Text.l0 : Nat → Int → List Int → Int → List Int → Int → Int → Option (ByteArray × Int × Int)
 | 0,_,_,_,_,_,_ => none
 | k + 1,x1,x5,x6,x1000,x1001,x1002 => if x6 < x1 then ((spec_l01Byte.f x1000 x1001 x1002).bind fun bt422 => (if x5.length < 140737488355328 then (spec_l01Text.l0 k x1 (x5 ++ [(bt422.1) % 256]) (wrap64 (x6 + 1)) x1000 bt422.2.1 bt422.2.2) else (none))) else (some (strOfNums x5,x1001,x1002))
end
def spec_l01Text.f (k : Nat) (s0_0 : List Int) (s0_1 s0_2 a1 : Int) : Option (ByteArray × Int × Int) := if a1 > 5000 then (spec_l01Text.j0 k 5000 s0_0 s0_1 s0_2) else (spec_l01Text.j0 k a1 s0_0 s0_1 s0_2)
theorem spec_l01Text.mono_l : ∀ k, (∀ y0 y1 y2 y3, LeO (spec_l01Text.j0 k y0 y1 y2 y3) (spec_l01Text.j0 (k + 1) y0 y1 y2 y3)) ∧ (∀ y0 y1 y2 y3 y4 y5, LeO (spec_l01Text.l0 k y0 y1 y2 y3 y4 y5) (spec_l01Text.l0 (k + 1) y0 y1 y2 y3 y4 y5))
 | 0 => ⟨fun _ _ _ _ r h => by simp [spec_l01Text.j0] at h,fun _ _ _ _ _ _ r h => by simp [spec_l01Text.l0] at h⟩
 | k + 1 => by
  obtain ⟨ih0,ih1⟩:=spec_l01Text.mono_l k;refine ⟨?_,?_⟩
  ·intro y0 y1 y2 y3
   unfold spec_l01Text.j0
   repeat' first
   | (with_reducible exact ih1 _ _ _ _ _ _)
  intro y0 y1 y2 y3 y4 y5
  unfold spec_l01Text.l0
  repeat' first
  | (with_reducible exact ih1 _ _ _ _ _ _)
  | (with_reducible exact LeO.refl _)
  | (with_reducible refine LeO.ite ?_ ?_)
  | (with_reducible refine LeO.bind ?_ (fun _ => ?_))
theorem spec_l01Text.mono : ∀ a0 a1 a2 a3 k, LeO (spec_l01Text.f k a0 a1 a2 a3) (spec_l01Text.f (k + 1) a0 a1 a2 a3) := by
 intro a0 a1 a2 a3 k;obtain ⟨ih0,ih1⟩:=spec_l01Text.mono_l k
 unfold spec_l01Text.f
 repeat' first
   | (with_reducible exact ih0 _ _ _ _)
   | (with_reducible refine LeO.ite ?_ ?_)
set_option maxHeartbeats 8000000 in
set_option maxRecDepth 100000 in
theorem spec_l01Text.calls (k g : Nat) (s0_0 : List Int) (s0_1 s0_2 a1 : Int) (r1 : ByteArray) (r2 r3 : Int) (w0 w : World) (hI : IsS146 w0 w g s0_0 s0_1 s0_2) (hB : Below w0.heap.size w0 w) (h : spec_l01Text.f k s0_0 s0_1 s0_2 a1 = some (r1, r2, r3)) :
  Calls Try.prog 118 #[.pointer (some ⟨g,0,none⟩),.int .i64 a1] w fun e w' => e = .returned (.string r1) ∧ IsS146 w0 w' g s0_0 r2 r3 ∧ Below w0.heap.size w0 w' ∧ KeepBut w w' g none:=by
 have HI0:=A_ hI;have HK:=A_ (KeepBut.refl w g none);have HL:=A_ hB.size;clear hI;have HW0:=A_ hB.size;have HB:=A_ hB;clear hB;unfold spec_l01Text.f at h;have H:=h;clear h;have HC3:=A_ H;clear H;go_enter Try.func118,Try.ntmps118
 go_upto_if 8 with (fail)
 go_cut [1] (fun v1 wc => ∃ (kq : Nat) (x1_2 : Int),v1 = .int .i64 x1_2 ∧ Aside0 (spec_l01Text.j0 kq x1_2 s0_0 s0_1 s0_2 = some (r1,r2,r3)) ∧ Aside0 (kq ≤ k) ∧ Aside0 (IsS146 w0 wc g s0_0 s0_1 s0_2) ∧ Aside0 (KeepBut w wc g none) ∧ Aside0 (Below w0.heap.size w0 wc))
 case first =>
  have H:=HC3.out;clear HC3
  by_cases c4 : a1 > 5000
  ·rw [if_pos c4] at H;have c4b0:=de_ c4;clear c4
   (rw [c4b0])
   have H':=A_ H;clear H;go_wp2
   go_meet
   case rel => exact ⟨_,(5000),(by rfl),H',⟨by omega⟩,⟨iq146_ HI0⟩,⟨hq_ HK⟩,⟨bi_ HB (IsS146.ge HI0.out)⟩⟩
  rw [if_neg c4] at H;have c4b0:=decide_eq_false c4;clear c4
  (rw [c4b0])
  have H':=A_ H;clear H;go_wp2
  go_meet
  case rel => exact ⟨_,(a1),(by rfl),H',⟨by omega⟩,⟨iq146_ HI0⟩,⟨hq_ HK⟩,⟨bi_ HB (IsS146.ge HI0.out)⟩⟩
 case rest =>
  clear HC3
  (try clear c1);(try clear p2);(try clear c4);(try clear c4b0)
  obtain ⟨kq,x1_2,rfl,HA,HJ2,HI0,HK,HB⟩:=hcut
  cases kq with
  | zero => exact absurd HA.out (by simp [spec_l01Text.j0])
  | succ kj2 =>
   have H:=HA.out;clear HA;simp only [spec_l01Text.j0] at H;obtain ⟨y419,hy419⟩ : ∃ y_ : List Int,y_ = (([] : List Int)):=⟨_,rfl⟩
   replace H : (spec_l01Text.l0 kj2 x1_2 y419 0 s0_0 s0_1 s0_2) = some (r1,r2,r3):=by (rw [hy419];with_reducible exact H)
   have Ny419:=A_ hy419;clear hy419;have H':=A_ H;clear H
   go_wp2_with (((with_reducible refine gate_dst (N:=9) rfl ?_);refine rX_ (d:=(Kd.int .u8)) (e:=5) (xs:=([] : List Int)) (inner:=[]) (ok:=fun _ => True) (okp:=fun _ => True) 9 (Reps.none _ _) ?_;intro v420 w5 ho6 hb hg_ hnew_;clear hg_ hnew_;(rw [← Ny419.out] at ho6);have HO421:=A_ (rw_ ho6 (keep_size (w:=w) (g:=g) (row:=none) (hq_ HK)));replace HK:=hU_ HK hb;replace HB:=A_ (bs_ (bi_ HB (IsS146.ge HI0.out)) hb);replace HI0:=A_ (IsS146.below (iq146_ HI0) hb);clear hb ho6))
   go_loopg [5,6] kj2 (fun kq v5 v6 w' => ∃ (x5_2 : List Int) (x6_2 : Int) (x1001_2 : Int) (x1002_2 : Int),v6 = .int .i64 x6_2 ∧ Aside0 (spec_l01Text.l0 kq x1_2 x5_2 x6_2 s0_0 x1001_2 x1002_2 = some (r1,r2,r3)) ∧ Aside0 (kq ≤ kj2) ∧ Aside0 (Kd.R (Kd.int .u8) 5 w' w.heap.size (fun _ => True) v5 x5_2) ∧ Aside0 (IsS146 w0 w' g s0_0 x1001_2 x1002_2) ∧ Aside0 (KeepBut w w' g none) ∧ Aside0 (Below w0.heap.size w0 w'))
   case atStart => exact ⟨(y419),(0),(s0_1),(s0_2),(by rfl),H',⟨Nat.le_refl _⟩,⟨HO421.out⟩,⟨iq146_ HI0⟩,⟨hq_ HK⟩,⟨bi_ HB (IsS146.ge HI0.out)⟩⟩
   case round =>
    clear H'
    (try clear c1);(try clear p2);(try clear c4);(try clear c4b0);(try clear p2)
    obtain ⟨x5_2,x6_2,x1001_2,x1002_2,rfl,HA,HK2,HO_5,HI0,HK,HB⟩:=hrel
    cases gk with
    | zero => exact absurd HA.out (by simp [spec_l01Text.l0])
    | succ k2 =>
     have H:=HA.out;clear HA;simp only [spec_l01Text.l0] at H
     by_cases c7 : x6_2 < x1_2
     ·rw [if_pos c7] at H;have c7b0:=de_ c7;clear c7;obtain ⟨⟨t422,t423,t424⟩,A8,H⟩:=oB_ H;(try dsimp only at H)
      by_cases c9 : x5_2.length < 140737488355328
      ·rw [if_pos c9] at H;have LMc9:=A_ c9;clear c9;obtain ⟨y425,hy425⟩ : ∃ y_ : List Int,y_ = (x5_2 ++ [(t422) % 256]):=⟨_,rfl⟩
       replace H : (spec_l01Text.l0 k2 x1_2 y425 (wrap64 (x6_2 + 1)) s0_0 t423 t424) = some (r1,r2,r3):=by (rw [hy425];with_reducible exact H)
       have Ny425:=A_ hy425;clear hy425;have H':=A_ H;clear H
       go_wp2_with (first|((with_reducible refine gate_callee (f:=133) rfl ?_);refine gL_ (some 17) Try.func133 #[.pointer (some ⟨g,0,none⟩)] ?_;(with_reducible refine (spec_l01Byte.calls g s0_0 x1001_2 x1002_2 t422 t423 t424 w0 _ ?side1 ?side2 A8.out).mono ?_);(case side1 => exact iq146_ HI0);(case side2 => exact bi_ HB (IsS146.ge HI0.out));rintro e w10 ⟨rfl,hi,hb,hk⟩;refine ⟨_,rfl,?_⟩;replace HO_5:=A_ (rm_ (Kd.R_keep (IsS146.apart (show IsS146 w0 _ g s0_0 x1001_2 x1002_2 from iq146_ HI0) (rq_ HO_5) (by decide)) hk (fun _ h => h.2)) (fun _ h => h.1));replace HK:=hT_ HK hk;replace HB:=A_ hb;replace HI0:=A_ hi;(try clear hb);(try clear hk);(try clear hi))|((with_reducible refine gate_builtin (b:=.append) (xs:=#[.tmp 15,.tmp 19]) rfl ?_);at_builtin;refine Kd.R_append (Kd.int .u8) w.heap.size rfl (.tmp 15) (.tmp 19) 46 5 (.int .u8 0) 1 rfl Try.underlying46 info5 rfl (by decide) (by omega) u5 x5_2 ((t422) % 256) [.int .u8 ((t422) % 256)] (fun _ => True) (fun _ => False) rfl rfl ?aP (fun _ hk => hk.elim) ?aF ?aO (Below.refl _ _) ?aS ?aL ?_;(case aP => exact rfl);(case aF => exact (fun _ _ => trivial));(case aO => exact (rq_ HO_5));(case aS => exact (keep_size (w:=w) (g:=g) (row:=none) (hq_ HK)));(case aL => have:=LMc9.out;omega);intro v426 w11 ho hb hg hat;rw [← Ny425.out] at ho;replace HB:=A_ (below_weaken (bi_ HB (IsS146.ge HI0.out)) HL.out hb);replace HI0:=A_ (IsS146.grown (iq146_ HI0) hg (IsS146.own_ne HI0.out HO_5.out (by decide)));replace HK:=A_ (KeepBut.trans (hq_ HK) (KeepBut.of_grown hg g) (Kd.R_base2 HO_5.out));have HO427:=A_ ho;clear HO_5;clear ho hb hg hat))
       go_roundg k2
       case measure => have:=HJ2.out;have:=HK2.out;omega
       case rel => exact ⟨(y425),(wrap64 (x6_2 + 1)),(t423),(t424),(by rfl),H',⟨by have:=HJ2.out;have:=HK2.out;omega⟩,⟨HO427.out⟩,⟨iq146_ HI0⟩,⟨hq_ HK⟩,⟨bi_ HB (IsS146.ge HI0.out)⟩⟩
      rw [if_neg c9] at H;exact absurd H (by simp)
     rw [if_neg c7] at H;have c7b0:=decide_eq_false c7;clear c7;simp only [Option.some.injEq,Prod.mk.injEq] at H;obtain ⟨rfl,rfl,rfl⟩:=H;have hcv12:=own_string (P:=Try.prog) Try.underlying46 Try.underlying5 Try.underlying9 (Kd.own_of_R HO_5.out);go_wp2;go_ret;exact ⟨ex_,iq146_ HI0,bi_ HB (IsS146.ge HI0.out),hq_ HK⟩
def spec_l01Once.f (s0_0 : List Int) (s0_1 s0_2 a1 : Int) : Option (Bool × Int × Int) := (spec_l01Below.f s0_0 s0_1 s0_2 a1).bind fun bt428 => (some ((bt428.1 == 0), bt428.2.1, bt428.2.2))
set_option maxHeartbeats 8000000 in
set_option maxRecDepth 100000 in
theorem spec_l01Once.calls (g : Nat) (s0_0 : List Int) (s0_1 s0_2 a1 : Int) (r1 : Bool) (r2 r3 : Int) (w0 w : World) (hI : IsS146 w0 w g s0_0 s0_1 s0_2) (hB : Below w0.heap.size w0 w) (h : spec_l01Once.f s0_0 s0_1 s0_2 a1 = some (r1, r2, r3)) :
  Calls Try.prog 130 #[.pointer (some ⟨g,0,none⟩),.int .i64 a1] w fun e w' => e = .returned (.bool r1) ∧ IsS146 w0 w' g s0_0 r2 r3 ∧ Below w0.heap.size w0 w' ∧ KeepBut w w' g none:=by
 have HI0:=A_ hI;have HK:=A_ (KeepBut.refl w g none);have HL:=A_ hB.size;clear hI;have HW0:=A_ hB.size;have HB:=A_ hB;clear hB;unfold spec_l01Once.f at h;have H:=h;clear h;obtain ⟨⟨t428,t429,t430⟩,A3,H⟩:=oB_ H;(try dsimp only at H);simp only [Option.some.injEq,Prod.mk.injEq] at H;obtain ⟨rfl,rfl,rfl⟩:=H;go_enter Try.func130,Try.ntmps130
 go_wp2_with (((with_reducible refine gate_callee (f:=111) rfl ?_);refine gL_ (some 7) Try.func111 #[.pointer (some ⟨g,0,none⟩),.int .i64 a1] ?_;(with_reducible refine (spec_l01Below.calls g s0_0 s0_1 s0_2 a1 t428 t429 t430 w0 _ ?side1 ?side2 A3.out).mono ?_);(case side1 => exact iq146_ HI0);(case side2 => exact bi_ HB (IsS146.ge HI0.out));rintro e w4 ⟨rfl,hi,hb,hk⟩;refine ⟨_,rfl,?_⟩;replace HK:=hT_ HK hk;replace HB:=A_ hb;replace HI0:=A_ hi;(try clear hb);(try clear hk);(try clear hi)))
 go_ret;exact ⟨ex_,iq146_ HI0,bi_ HB (IsS146.ge HI0.out),hq_ HK⟩
def spec_l01PickInt.f (s0_0 : List Int) (s0_1 s0_2 : Int) (l1 : List Int) : Option (Int × Int × Int) := (spec_l01Below.f s0_0 s0_1 s0_2 (l1.length : Int)).bind fun bt431 => (if 0 ≤ bt431.1 then (if bt431.1 < (l1.length : Int) then (some (rd l1 bt431.1, bt431.2.1, bt431.2.2)) else (none)) else (none))
set_option maxHeartbeats 8000000 in
set_option maxRecDepth 100000 in
theorem spec_l01PickInt.calls (g : Nat) (s0_0 : List Int) (s0_1 s0_2 : Int) (A1 : Option Addr) (c1 : Nat) (l1 : List Int) (r1 r2 r3 : Int) (w0 w : World) (hI : IsS146 w0 w g s0_0 s0_1 s0_2) (hB : Below w0.heap.size w0 w) (hr1 : Kd.C (Kd.int .i64) w A1 l1.length l1) (hc1 : l1.length ≤ c1) (hf1 : ∀ ad, A1 = some ad → 0 < l1.length → ad.block ≠ g) (h : spec_l01PickInt.f s0_0 s0_1 s0_2 l1 = some (r1, r2, r3)) :
  Calls Try.prog 112 #[.pointer (some ⟨g,0,none⟩),.slice A1 l1.length c1] w fun e w' => e = .returned (.int .i64 r1) ∧ IsS146 w0 w' g s0_0 r2 r3 ∧ Below w0.heap.size w0 w' ∧ KeepBut w w' g none:=by
 have HR1:=A_ hr1;have HC1:=A_ hc1;clear hr1 hc1;have HI0:=A_ hI;have HK:=A_ (KeepBut.refl w g none);have HL:=A_ hB.size;clear hI;have HW0:=A_ hB.size;have HB:=A_ hB;clear hB;unfold spec_l01PickInt.f at h;have H:=h;clear h;obtain ⟨⟨t431,t432,t433⟩,A3,H⟩:=oB_ H;(try dsimp only at H)
 by_cases c4 : 0 ≤ t431
 ·rw [if_pos c4] at H;have c4b0:=de_ c4;clear c4
  by_cases c5 : t431 < (l1.length : Int)
  ·rw [if_pos c5] at H;have c5b0:=de_ c5;clear c5;simp only [Option.some.injEq,Prod.mk.injEq] at H;obtain ⟨rfl,rfl,rfl⟩:=H;go_enter Try.func112,Try.ntmps112
   go_wp2_with (((with_reducible refine gate_callee (f:=111) rfl ?_);refine gL_ (some 9) Try.func111 #[.pointer (some ⟨g,0,none⟩),.int .i64 (l1.length : Int)] ?_;(with_reducible refine (spec_l01Below.calls g s0_0 s0_1 s0_2 (l1.length : Int) t431 t432 t433 w0 _ ?side1 ?side2 A3.out).mono ?_);(case side1 => exact iq146_ HI0);(case side2 => exact bi_ HB (IsS146.ge HI0.out));rintro e w6 ⟨rfl,hi,hb,hk⟩;refine ⟨_,rfl,?_⟩;replace HK:=hT_ HK hk;replace HB:=A_ hb;replace HI0:=A_ hi;(try clear hb);(try clear hk);(try clear hi);have p434 : 0 ≤ (t431 : Int):=oda_;have q434 : t431 < (l1.length : Int):=oda_;obtain ⟨ad434,e434,hx434_0⟩:=Kd.at_int HR1.out t431 p434 q434;cases e434;replace hx434_0:=keep_cell HK.out hx434_0 (by (rw [add_block];exact hf1 _ rfl (by omega)));replace p434:=eq_true p434;replace q434:=eq_true q434))
   go_ret;exact ⟨ex_,iq146_ HI0,bi_ HB (IsS146.ge HI0.out),hq_ HK⟩
  rw [if_neg c5] at H;exact absurd H (by simp)
 rw [if_neg c4] at H;exact absurd H (by simp)
def spec_l07Conf.l0 : Nat → List Int → Int → List Int → Int → Int → Option (List Int × Int × Int)
 | 0,_,_,_,_,_ => none
 | k + 1,x3,x4,x1000,x1001,x1002 => if x4 ≤ 4 then ((spec_l01Once.f x1000 x1001 x1002 2).bind fun bt438 => (if bt438.1 = true then (if x3.length < 17592186044416 then (spec_l07Conf.l0 k (x3 ++ [x4]) (wrap64 (x4 + 1)) x1000 bt438.2.1 bt438.2.2) else (none)) else (spec_l07Conf.l0 k x3 (wrap64 (x4 + 1)) x1000 bt438.2.1 bt438.2.2))) else (if (x3.length : Int) = 0 then (if x3.length < 17592186044416 then (some ((x3 ++ [1]),x1001,x1002)) else (none)) else (some (x3,x1001,x1002)))
def spec_l07Conf.f (k : Nat) (s0_0 : List Int) (s0_1 s0_2 : Int) : Option (List Int × Int × Int) := spec_l07Conf.l0 k (([] : List Int)) 1 s0_0 s0_1 s0_2
theorem spec_l07Conf.mono_l : ∀ k, (∀ y0 y1 y2 y3 y4, LeO (spec_l07Conf.l0 k y0 y1 y2 y3 y4) (spec_l07Conf.l0 (k + 1) y0 y1 y2 y3 y4))
 | 0 => fun _ _ _ _ _ r h => by simp [spec_l07Conf.l0] at h
 | k + 1 => by
  have ih0:=spec_l07Conf.mono_l k
  ·intro y0 y1 y2 y3 y4
   unfold spec_l07Conf.l0
   repeat' first
   | (with_reducible exact ih0 _ _ _ _ _)
   | (with_reducible exact LeO.refl _)
   | (with_reducible refine LeO.ite ?_ ?_)
   | (with_reducible refine LeO.bind ?_ (fun _ => ?_))
theorem spec_l07Conf.mono : ∀ a0 a1 a2 k, LeO (spec_l07Conf.f k a0 a1 a2) (spec_l07Conf.f (k + 1) a0 a1 a2) := by
 intro a0 a1 a2 k;have ih0:=spec_l07Conf.mono_l k
 unfold spec_l07Conf.f
 repeat' first
   | (with_reducible exact ih0 _ _ _ _ _)
set_option maxHeartbeats 8000000 in
set_option maxRecDepth 100000 in
theorem spec_l07Conf.calls (k g : Nat) (s0_0 : List Int) (s0_1 s0_2 : Int) (r1 : List Int) (r2 r3 : Int) (w0 w : World) (hI : IsS146 w0 w g s0_0 s0_1 s0_2) (hB : Below w0.heap.size w0 w) (h : spec_l07Conf.f k s0_0 s0_1 s0_2 = some (r1, r2, r3)) :
  Calls Try.prog 132 #[.pointer (some ⟨g,0,none⟩)] w fun e w' => ∃ v0_ : Value,e = .returned (v0_) ∧ Kd.R (Kd.int .i64) 3 w' w.heap.size (fun _ => True) v0_ r1 ∧ IsS146 w0 w' g s0_0 r2 r3 ∧ Below w0.heap.size w0 w' ∧ KeepBut w w' g none:=by
 have HI0:=A_ hI;have HK:=A_ (KeepBut.refl w g none);have HL:=A_ hB.size;clear hI;have HW0:=A_ hB.size;have HB:=A_ hB;clear hB;unfold spec_l07Conf.f at h;have H:=h;clear h;obtain ⟨y435,hy435⟩ : ∃ y_ : List Int,y_ = (([] : List Int)):=⟨_,rfl⟩
 replace H : (spec_l07Conf.l0 k y435 1 s0_0 s0_1 s0_2) = some (r1,r2,r3):=by (rw [hy435];with_reducible exact H)
 have Ny435:=A_ hy435;clear hy435;have H':=A_ H;clear H;go_enter Try.func132,Try.ntmps132
 go_wp2_with (((with_reducible refine gate_dst (N:=5) rfl ?_);refine rX_ (d:=(Kd.int .i64)) (e:=3) (xs:=([] : List Int)) (inner:=[]) (ok:=fun _ => True) (okp:=fun _ => True) 5 (Reps.none _ _) ?_;intro v436 w2 ho3 hb hg_ hnew_;clear hg_ hnew_;(rw [← Ny435.out] at ho3);have HO437:=A_ (rw_ ho3 (keep_size (w:=w) (g:=g) (row:=none) (hq_ HK)));replace HK:=hU_ HK hb;replace HB:=A_ (bs_ (bi_ HB (IsS146.ge HI0.out)) hb);replace HI0:=A_ (IsS146.below (iq146_ HI0) hb);clear hb ho3))
 go_loopg [3,4] k (fun kq v3 v4 w' => ∃ (x3_1 : List Int) (x4_1 : Int) (x1001_1 : Int) (x1002_1 : Int),v4 = .int .i64 x4_1 ∧ Aside0 (spec_l07Conf.l0 kq x3_1 x4_1 s0_0 x1001_1 x1002_1 = some (r1,r2,r3)) ∧ Aside0 (kq ≤ k) ∧ Aside0 (Kd.R (Kd.int .i64) 3 w' w.heap.size (fun _ => True) v3 x3_1) ∧ Aside0 (IsS146 w0 w' g s0_0 x1001_1 x1002_1) ∧ Aside0 (KeepBut w w' g none) ∧ Aside0 (Below w0.heap.size w0 w'))
 case atStart => exact ⟨(y435),(1),(s0_1),(s0_2),(by rfl),H',⟨Nat.le_refl _⟩,⟨HO437.out⟩,⟨iq146_ HI0⟩,⟨hq_ HK⟩,⟨bi_ HB (IsS146.ge HI0.out)⟩⟩
 case round =>
  clear H'
  (try clear c1);(try clear p2)
  obtain ⟨x3_1,x4_1,x1001_1,x1002_1,rfl,HA,HK1,HO_3,HI0,HK,HB⟩:=hrel
  cases gk with
  | zero => exact absurd HA.out (by simp [spec_l07Conf.l0])
  | succ k1 =>
   have H:=HA.out;clear HA;simp only [spec_l07Conf.l0] at H
   by_cases c4 : x4_1 ≤ 4;rotate_left
   ·rw [if_neg c4] at H;have c4b0:=decide_eq_false c4;clear c4;have HC11:=A_ H;clear H;obtain ⟨Ao12,co12,eo12⟩:=Kd.R_slice HO_3.out;subst eo12
    go_upto_if 18 with (fail)
    have H:=HC11.out;clear HC11
    by_cases c13 : (x3_1.length : Int) = 0
    ·rw [if_pos c13] at H;have c13b0:=beq_iff_eq.mpr c13;have c13b1:=bne_eq_false_iff_eq.mpr c13;clear c13
     (rw [c13b0])
     by_cases c14 : x3_1.length < 17592186044416
     ·rw [if_pos c14] at H;have LMc14:=A_ c14;clear c14;obtain ⟨y444,hy444⟩ : ∃ y_ : List Int,y_ = (x3_1 ++ [1]):=⟨_,rfl⟩
      replace H : (some (y444,x1001_1,x1002_1)) = some (r1,r2,r3):=by (rw [hy444];with_reducible exact H)
      have Ny444:=A_ hy444;clear hy444;simp only [Option.some.injEq,Prod.mk.injEq] at H;obtain ⟨rfl,rfl,rfl⟩:=H
      go_wp2_with (((with_reducible refine gate_builtin (b:=.append) (xs:=#[.tmp 19,.tmp 20]) rfl ?_);at_builtin;refine Kd.R_append (Kd.int .i64) w.heap.size rfl (.tmp 19) (.tmp 20) 39 3 (.int .i64 0) 8 rfl Try.underlying39 info3 rfl (by decide) (by omega) (.slice Ao12 x3_1.length co12) x3_1 1 [.int .i64 1] (fun _ => True) (fun _ => False) rfl rfl ?aP (fun _ hk => hk.elim) ?aF ?aO (Below.refl _ _) ?aS ?aL ?_;(case aP => exact rfl);(case aF => exact (fun _ _ => trivial));(case aO => exact (rq_ HO_3));(case aS => exact (keep_size (w:=w) (g:=g) (row:=none) (hq_ HK)));(case aL => have:=LMc14.out;omega);intro v445 w15 ho hb hg hat;rw [← Ny444.out] at ho;replace HB:=A_ (below_weaken (bi_ HB (IsS146.ge HI0.out)) HL.out hb);replace HI0:=A_ (IsS146.grown (iq146_ HI0) hg (IsS146.own_ne HI0.out HO_3.out (by decide)));replace HK:=A_ (KeepBut.trans (hq_ HK) (KeepBut.of_grown hg g) (Kd.R_base2 HO_3.out));have HO446:=A_ ho;clear HO_3;clear ho hb hg hat))
      go_ret;exact ⟨_,by rfl,by exact HO446.out,iq146_ HI0,bi_ HB (IsS146.ge HI0.out),hq_ HK⟩
     rw [if_neg c14] at H;exact absurd H (by simp)
    rw [if_neg c13] at H;have c13b0:=beq_eq_false_iff_ne.mpr c13;have c13b1:=bne_iff_ne.mpr c13
    have c13b2 : ¬ (x3_1 = []):=fun h_ => c13 (by rw [h_];rfl)
    (rw [c13b0])
    simp only [Option.some.injEq,Prod.mk.injEq] at H;obtain ⟨rfl,rfl,rfl⟩:=H;go_wp2;go_ret;exact ⟨_,by rfl,by exact HO_3.out,iq146_ HI0,bi_ HB (IsS146.ge HI0.out),hq_ HK⟩
   rw [if_pos c4] at H;have c4b0:=de_ c4;clear c4;obtain ⟨⟨t438,t439,t440⟩,A5,H⟩:=oB_ H;(try dsimp only at H);have HC6:=A_ H;clear H
   go_upto_if 11 with (((with_reducible refine gate_callee (f:=130) rfl ?_);refine gL_ (some 11) Try.func130 #[.pointer (some ⟨g,0,none⟩),.int .i64 2] ?_;(with_reducible refine (spec_l01Once.calls g s0_0 x1001_1 x1002_1 2 t438 t439 t440 w0 _ ?side1 ?side2 A5.out).mono ?_);(case side1 => exact iq146_ HI0);(case side2 => exact bi_ HB (IsS146.ge HI0.out));rintro e w7 ⟨rfl,hi,hb,hk⟩;refine ⟨_,rfl,?_⟩;replace HO_3:=A_ (rm_ (Kd.R_keep (IsS146.apart (show IsS146 w0 _ g s0_0 x1001_1 x1002_1 from iq146_ HI0) (rq_ HO_3) (by decide)) hk (fun _ h => h.2)) (fun _ h => h.1));replace HK:=hT_ HK hk;replace HB:=A_ hb;replace HI0:=A_ hi;(try clear hb);(try clear hk);(try clear hi)))
   have H:=HC6.out;clear HC6
   by_cases c8 : t438 = true
   ·subst c8
    rw [if_pos rfl] at H
    by_cases c9 : x3_1.length < 17592186044416
    ·rw [if_pos c9] at H;have LMc9:=A_ c9;clear c9;obtain ⟨y441,hy441⟩ : ∃ y_ : List Int,y_ = (x3_1 ++ [x4_1]):=⟨_,rfl⟩
     replace H : (spec_l07Conf.l0 k1 y441 (wrap64 (x4_1 + 1)) s0_0 t439 t440) = some (r1,r2,r3):=by (rw [hy441];with_reducible exact H)
     have Ny441:=A_ hy441;clear hy441;have H':=A_ H;clear H
     go_wp2_with (((with_reducible refine gate_builtin (b:=.append) (xs:=#[.tmp 12,.tmp 14]) rfl ?_);at_builtin;refine Kd.R_append (Kd.int .i64) w.heap.size rfl (.tmp 12) (.tmp 14) 39 3 (.int .i64 0) 8 rfl Try.underlying39 info3 rfl (by decide) (by omega) u3 x3_1 x4_1 [.int .i64 x4_1] (fun _ => True) (fun _ => False) rfl rfl ?aP (fun _ hk => hk.elim) ?aF ?aO (Below.refl _ _) ?aS ?aL ?_;(case aP => exact rfl);(case aF => exact (fun _ _ => trivial));(case aO => exact (rq_ HO_3));(case aS => exact (keep_size (w:=w) (g:=g) (row:=none) (hq_ HK)));(case aL => have:=LMc9.out;omega);intro v442 w10 ho hb hg hat;rw [← Ny441.out] at ho;replace HB:=A_ (below_weaken (bi_ HB (IsS146.ge HI0.out)) HL.out hb);replace HI0:=A_ (IsS146.grown (iq146_ HI0) hg (IsS146.own_ne HI0.out HO_3.out (by decide)));replace HK:=A_ (KeepBut.trans (hq_ HK) (KeepBut.of_grown hg g) (Kd.R_base2 HO_3.out));have HO443:=A_ ho;clear HO_3;clear ho hb hg hat))
     go_roundg k1
     case measure => have:=HK1.out;omega
     case rel => exact ⟨(y441),(wrap64 (x4_1 + 1)),(t439),(t440),(by rfl),H',⟨by have:=HK1.out;omega⟩,⟨HO443.out⟩,⟨iq146_ HI0⟩,⟨hq_ HK⟩,⟨bi_ HB (IsS146.ge HI0.out)⟩⟩
    rw [if_neg c9] at H;exact absurd H (by simp)
   replace c8:=Bool.eq_false_iff.mpr c8;subst c8
   have H1 : (spec_l07Conf.l0 k1 x3_1 (wrap64 (x4_1 + 1)) s0_0 t439 t440) = some (r1,r2,r3):=by rw [if_neg (show ¬ (false = true) by decide)] at H;exact H
   clear H;have H:=H1;clear H1;have H':=A_ H;clear H;go_wp2
   go_roundg k1
   case measure => have:=HK1.out;omega
   case rel => exact ⟨(x3_1),(wrap64 (x4_1 + 1)),(t439),(t440),(by rfl),H',⟨by have:=HK1.out;omega⟩,⟨HO_3.out⟩,⟨iq146_ HI0⟩,⟨hq_ HK⟩,⟨bi_ HB (IsS146.ge HI0.out)⟩⟩
end Go.Proofs.Ytbcgnncbiblibaa.PFnMessages
