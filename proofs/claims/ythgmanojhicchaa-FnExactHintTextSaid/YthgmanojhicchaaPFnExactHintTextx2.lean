/- The contracts of the Go functions that this law reaches: what each call returns, by a plain Lean function of its arguments. No conditions but those each contract names. By the kit's print.py, run by this session's wip/gen/pp.py with facts and hand proofs beside it: not to the letter what print.sh prints. -/
import Derived.Test.YthgmanojhicchaaPFnExactHintTextx0
import Derived.Test.YthgmanojhicchaaPFnExactHintTextx1
namespace Go.Proofs.Ythgmanojhicchaa.PFnExactHintText
open Go.RowKit Go.Proofs.YthgmanojhicchaaW.PrintWords Go.Proofs.YthgmanojhicchaaW.PrintLast Go.Proofs.YthgmanojhicchaaW.PrintMore
attribute [local go_sem] max2_int min2_int max_two min_two max_three min_three max_four min_four
set_option linter.unusedVariables false
set_option linter.unusedSimpArgs false
theorem s1_ {α : Type} (l : List α) (i : Nat) (a : α) : l.toArray.setIfInBounds i a = (l.set i a).toArray := List.setIfInBounds_toArray l i a
theorem s2_ {α : Type} {x : α} {xs : List α} {a : α} : (x :: xs).set 0 a = a :: xs := List.set_cons_zero
theorem s3_ {α : Type} {x : α} {xs : List α} {i : Nat} {a : α} : (x :: xs).set (i + 1) a = x :: xs.set i a := List.set_cons_succ
def spec_DirOk.l0 : Nat → List (S89) → Int → Option (Bool)
 | 0,_,_ => none
 | k + 1,x0,x3 => if x3 < (x0.length : Int) then (if 0 ≤ x3 then ((spec_l05Key.f ((rd_T89 x0 x3).f0)).bind fun t117 => (if t117 = true then (if x3 > 0 then (if 0 ≤ (wrap64 (x3 - 1)) then (if (wrap64 (x3 - 1)) < (x0.length : Int) then (if ((Op.bytesLess (((rd_T89 x0 (wrap64 (x3 - 1))).f0).toList) (((rd_T89 x0 x3).f0).toList)) = true) then ((spec_l01In.f ((rd_T89 x0 x3).f1) 0 999).bind fun t119 => (if t119 = true then ((spec_l01In.f ((rd_T89 x0 x3).f2) 0 20000).bind fun t120 => (if t120 = true then ((spec_l01In.f ((rd_T89 x0 x3).f3) 0 40).bind fun t121 => (if t121 = true then (spec_DirOk.l0 k x0 (wrap64 (x3 + 1))) else (some false))) else (some false))) else (some false))) else (some false)) else (none)) else (none)) else ((spec_l01In.f ((rd_T89 x0 x3).f1) 0 999).bind fun t122 => (if t122 = true then ((spec_l01In.f ((rd_T89 x0 x3).f2) 0 20000).bind fun t123 => (if t123 = true then ((spec_l01In.f ((rd_T89 x0 x3).f3) 0 40).bind fun t124 => (if t124 = true then (spec_DirOk.l0 k x0 (wrap64 (x3 + 1))) else (some false))) else (some false))) else (some false)))) else (some false))) else (none)) else (some true)
def spec_DirOk.f (k : Nat) (l0 : List (S89)) : Option (Bool) := if (l0.length : Int) > 60 then (some false) else (spec_DirOk.l0 k l0 0)
theorem spec_DirOk.mono_l : ∀ k, (∀ y0 y1, LeO (spec_DirOk.l0 k y0 y1) (spec_DirOk.l0 (k + 1) y0 y1))
 | 0 => fun _ _ r h => by simp [spec_DirOk.l0] at h
 | k + 1 => by
  have ih0 := spec_DirOk.mono_l k
  ·intro y0 y1
   unfold spec_DirOk.l0
   repeat' first
   | (with_reducible exact ih0 _ _)
   | (with_reducible exact LeO.refl _)
   | (with_reducible exact LeO.none _)
   | (with_reducible refine LeO.ite ?_ ?_)
   | (with_reducible refine LeO.bind ?_ (fun _ => ?_))
   | exact ih0 _ _
   | exact LeO.none _
   | refine LeO.ite ?_ ?_
   | refine LeO.bind ?_ (fun _ => ?_)
theorem spec_DirOk.mono : ∀ a0 k, LeO (spec_DirOk.f k a0) (spec_DirOk.f (k + 1) a0) := by
 intro a0 k; have ih0 := spec_DirOk.mono_l k
 unfold spec_DirOk.f
 repeat' first
   | (with_reducible exact ih0 _ _)
   | (with_reducible exact LeO.refl _)
   | (with_reducible exact LeO.none _)
   | (with_reducible refine LeO.ite ?_ ?_)
   | (with_reducible refine LeO.bind ?_ (fun _ => ?_))
   | exact ih0 _ _
   | exact LeO.none _
   | refine LeO.ite ?_ ?_
   | refine LeO.bind ?_ (fun _ => ?_)
def spec_DirOk.T7 : Bool × List (List Nat × List Nat) := (true, [([], []), ([0], [0]), ([1], [1]), ([2], [2]), ([3, 2], [3]), ([4], [4]), ([5, 4], [4, 5]), ([6, 4, 4], [4, 6]), ([7], [7]), ([7], [7]), ([9, 7], [7, 9]), ([8, 10, 7], [7, 8, 10]), ([11, 7], [7, 11]), ([12, 7], [7, 12]), ([7], [7]), ([14, 7], [7, 14]), ([13, 15, 7], [7, 13, 15]), ([7, 16, 4], [4, 7, 16]), ([4, 17], [4, 17]), ([18, 7], [18]), ([19], [19]), ([20, 19], [19, 20]), ([21, 19, 19], [19, 21]), ([22, 19], [19, 22]), ([19, 23], [19, 23]), ([24, 22], [24]), ([25], [25]), ([26, 25], [25, 26]), ([27, 25, 25], [25, 27]), ([28, 25], [25, 28]), ([25, 29], [25, 29]), ([30, 28], [30]), ([31], [31]), ([32, 31], [31, 32]), ([33, 31, 31], [31, 33]), ([34, 31], [31, 34]), ([31, 35], [31, 35])])
def spec_DirOk.B7 : List Nat := [0, 1, 3, 7, 15, 31, 63, 127, 255, 255, 767, 2047, 4095, 8191, 255, 16639, 65535, 131071, 262143, 524287, 1048575, 2097151, 4194303, 8388607, 16777215, 33554431, 67108863, 134217727, 268435455, 536870911, 1073741823, 2147483647, 4294967295, 8589934591, 17179869183, 34359738367, 68719476735]
theorem spec_DirOk.tab7 : rtab .any (opsOf Try.f71 7) = spec_DirOk.T7 := by kernel_rfl
theorem spec_DirOk.bits7 : waitsOk spec_DirOk.T7.2 spec_DirOk.B7 = true := by kernel_rfl
set_option maxHeartbeats 8000000 in
set_option maxRecDepth 100000 in
theorem spec_DirOk.calls (k : Nat) (A0 : Option Addr) (c0 : Nat) (l0 : List (S89)) (r : Bool) (w : World) (hr0 : Kd.C k89 w A0 l0.length l0) (hc0 : l0.length ≤ c0) (h : spec_DirOk.f k l0 = some r) :
  Calls Try.prog 71 #[.slice A0 l0.length c0] w fun e w' => e = .returned (.bool r) ∧ Below w.heap.size w w' := by
 have hu89 := Try.underlying89; have HR0 := Aside0.mk hr0; have HC0 := Aside0.mk hc0; clear hr0 hc0; have HB := Aside0.mk (Below.refl w.heap.size w); have H : (if (l0.length : Int) > 60 then (some false) else (spec_DirOk.l0 k l0 0)) = some r := h; clear h
 by_cases c2 : (l0.length : Int) > 60
 ·rw [if_pos c2] at H; have c2b0 : decide (60 < (l0.length : Int)) = true := decide_eq_true c2; have c2b1 : decide (60 < l0.length) = true := decide_eq_true (by omega); clear c2; obtain rfl := Option.some.inj H; go_enter Try.func71,Try.ntmps71; go_wp2; go_ret; exact ⟨by first | rfl | (simp [errW_none,errW_some] <;> rfl) | (simp [*,errW_none,errW_some] <;> rfl),by repeat (first | (with_reducible first | exact HB.out | apply below_alloc | apply pw_below_drewN | apply below_drew1) | exact HB.out)⟩
 ·rw [if_neg c2] at H; have c2b0 : decide (60 < (l0.length : Int)) = false := decide_eq_false c2; have c2b1 : decide (60 < l0.length) = false := decide_eq_false (by omega); clear c2; have H' := Aside0.mk H; clear H; go_enter Try.func71,Try.ntmps71; go_wp2
  go_loopg [3] k (fun kq v3 w' => ∃ (x3_1 : Int),v3 = .int .i64 x3_1 ∧ Aside0 (spec_DirOk.l0 kq l0 x3_1 = some r) ∧ Aside0 (kq ≤ k) ∧ Aside0 (Below w.heap.size w w'))
  case atStart => exact ⟨(0),(by first | rfl | (simp; done) | (simp [*]; done)),H',⟨Nat.le_refl _⟩,⟨by repeat (first | (with_reducible first | exact HB.out | apply below_alloc | apply pw_below_drewN | apply below_drew1) | exact HB.out)⟩⟩
  case round =>
   clear H'
   try clear c2
   try clear c2b0
   try clear c2b1
   try clear p2
   obtain ⟨x3_1,rfl,HA,HK1,HB⟩ := hrel
   cases gk with
   | zero => exact absurd HA.out (by simp [spec_DirOk.l0])
   | succ k1 =>
    have H := HA.out; clear HA; simp only [spec_DirOk.l0] at H
    by_cases c3 : x3_1 < (l0.length : Int)
    ·rw [if_pos c3] at H; have c3b0 : decide (x3_1 < (l0.length : Int)) = true := decide_eq_true c3; clear c3
     by_cases c4 : 0 ≤ x3_1
     ·rw [if_pos c4] at H; have c4b0 : decide (0 ≤ x3_1) = true := decide_eq_true c4; clear c4; replace H := Option.bind_eq_some_iff.mp H; obtain ⟨t117,A50,H⟩ := H; replace H : (if t117 = true then (if x3_1 > 0 then (if 0 ≤ (wrap64 (x3_1 - 1)) then (if (wrap64 (x3_1 - 1)) < (l0.length : Int) then (if ((Op.bytesLess (((rd_T89 l0 (wrap64 (x3_1 - 1))).f0).toList) (((rd_T89 l0 x3_1).f0).toList)) = true) then ((spec_l01In.f ((rd_T89 l0 x3_1).f1) 0 999).bind fun t119 => (if t119 = true then ((spec_l01In.f ((rd_T89 l0 x3_1).f2) 0 20000).bind fun t120 => (if t120 = true then ((spec_l01In.f ((rd_T89 l0 x3_1).f3) 0 40).bind fun t121 => (if t121 = true then (spec_DirOk.l0 k1 l0 (wrap64 (x3_1 + 1))) else (some false))) else (some false))) else (some false))) else (some false)) else (none)) else (none)) else ((spec_l01In.f ((rd_T89 l0 x3_1).f1) 0 999).bind fun t122 => (if t122 = true then ((spec_l01In.f ((rd_T89 l0 x3_1).f2) 0 20000).bind fun t123 => (if t123 = true then ((spec_l01In.f ((rd_T89 l0 x3_1).f3) 0 40).bind fun t124 => (if t124 = true then (spec_DirOk.l0 k1 l0 (wrap64 (x3_1 + 1))) else (some false))) else (some false))) else (some false)))) else (some false)) = some r := H; have A5 := Aside0.mk A50; clear A50
      by_cases c6 : t117 = true
      ·subst c6
       have H1 : (if x3_1 > 0 then (if 0 ≤ (wrap64 (x3_1 - 1)) then (if (wrap64 (x3_1 - 1)) < (l0.length : Int) then (if ((Op.bytesLess (((rd_T89 l0 (wrap64 (x3_1 - 1))).f0).toList) (((rd_T89 l0 x3_1).f0).toList)) = true) then ((spec_l01In.f ((rd_T89 l0 x3_1).f1) 0 999).bind fun t119 => (if t119 = true then ((spec_l01In.f ((rd_T89 l0 x3_1).f2) 0 20000).bind fun t120 => (if t120 = true then ((spec_l01In.f ((rd_T89 l0 x3_1).f3) 0 40).bind fun t121 => (if t121 = true then (spec_DirOk.l0 k1 l0 (wrap64 (x3_1 + 1))) else (some false))) else (some false))) else (some false))) else (some false)) else (none)) else (none)) else ((spec_l01In.f ((rd_T89 l0 x3_1).f1) 0 999).bind fun t122 => (if t122 = true then ((spec_l01In.f ((rd_T89 l0 x3_1).f2) 0 20000).bind fun t123 => (if t123 = true then ((spec_l01In.f ((rd_T89 l0 x3_1).f3) 0 40).bind fun t124 => (if t124 = true then (spec_DirOk.l0 k1 l0 (wrap64 (x3_1 + 1))) else (some false))) else (some false))) else (some false)))) = some r := by rw [if_pos rfl] at H; exact H
       clear H; have H := H1; clear H1
       by_cases c7 : x3_1 > 0
       ·rw [if_pos c7] at H; have c7b0 : decide (0 < x3_1) = true := decide_eq_true c7; clear c7; obtain ⟨ji8,hji8⟩ : ∃ j_ : Int,(wrap64 (x3_1 - 1)) = j_ := ⟨_,rfl⟩
        replace H : (if 0 ≤ (ji8) then (if (ji8) < (l0.length : Int) then (if ((Op.bytesLess (((rd_T89 l0 (ji8)).f0).toList) (((rd_T89 l0 x3_1).f0).toList)) = true) then ((spec_l01In.f ((rd_T89 l0 x3_1).f1) 0 999).bind fun t119 => (if t119 = true then ((spec_l01In.f ((rd_T89 l0 x3_1).f2) 0 20000).bind fun t120 => (if t120 = true then ((spec_l01In.f ((rd_T89 l0 x3_1).f3) 0 40).bind fun t121 => (if t121 = true then (spec_DirOk.l0 k1 l0 (wrap64 (x3_1 + 1))) else (some false))) else (some false))) else (some false))) else (some false)) else (none)) else (none)) = some r := by first | (rw [hji8] at H; exact H) | (simp only [hji8] at H ⊢; exact H)
        (try rw [hji8] at A5)
        have hji8w : (IntKind.i64.wrap (x3_1 - 1)) = ji8 := (i64_w _).trans hji8
        by_cases c9 : 0 ≤ (ji8)
        ·rw [if_pos c9] at H; have c9b0 : decide (0 ≤ (ji8)) = true := decide_eq_true c9; clear c9
         by_cases c10 : (ji8) < (l0.length : Int)
         ·rw [if_pos c10] at H; have c10b0 : decide ((ji8) < (l0.length : Int)) = true := decide_eq_true c10; clear c10
          by_cases c11 : ((Op.bytesLess (((rd_T89 l0 (ji8)).f0).toList) (((rd_T89 l0 x3_1).f0).toList)) = true)
          ·rw [if_pos c11] at H; have c11b0 : (Op.bytesLess (((rd_T89 l0 (ji8)).f0).toList) (((rd_T89 l0 x3_1).f0).toList)) = true := c11; clear c11; replace H := Option.bind_eq_some_iff.mp H; obtain ⟨t119,A120,H⟩ := H; replace H : (if t119 = true then ((spec_l01In.f ((rd_T89 l0 x3_1).f2) 0 20000).bind fun t120 => (if t120 = true then ((spec_l01In.f ((rd_T89 l0 x3_1).f3) 0 40).bind fun t121 => (if t121 = true then (spec_DirOk.l0 k1 l0 (wrap64 (x3_1 + 1))) else (some false))) else (some false))) else (some false)) = some r := H; have A12 := Aside0.mk A120; clear A120
           by_cases c13 : t119 = true
           ·subst c13
            have H1 : ((spec_l01In.f ((rd_T89 l0 x3_1).f2) 0 20000).bind fun t120 => (if t120 = true then ((spec_l01In.f ((rd_T89 l0 x3_1).f3) 0 40).bind fun t121 => (if t121 = true then (spec_DirOk.l0 k1 l0 (wrap64 (x3_1 + 1))) else (some false))) else (some false))) = some r := by rw [if_pos rfl] at H; exact H
            clear H; have H := H1; clear H1; replace H := Option.bind_eq_some_iff.mp H; obtain ⟨t120,A140,H⟩ := H; replace H : (if t120 = true then ((spec_l01In.f ((rd_T89 l0 x3_1).f3) 0 40).bind fun t121 => (if t121 = true then (spec_DirOk.l0 k1 l0 (wrap64 (x3_1 + 1))) else (some false))) else (some false)) = some r := H; have A14 := Aside0.mk A140; clear A140
            by_cases c15 : t120 = true
            ·subst c15
             have H1 : ((spec_l01In.f ((rd_T89 l0 x3_1).f3) 0 40).bind fun t121 => (if t121 = true then (spec_DirOk.l0 k1 l0 (wrap64 (x3_1 + 1))) else (some false))) = some r := by rw [if_pos rfl] at H; exact H
             clear H; have H := H1; clear H1; replace H := Option.bind_eq_some_iff.mp H; obtain ⟨t121,A160,H⟩ := H; replace H : (if t121 = true then (spec_DirOk.l0 k1 l0 (wrap64 (x3_1 + 1))) else (some false)) = some r := H; have A16 := Aside0.mk A160; clear A160
             by_cases c17 : t121 = true
             ·subst c17
              have H1 : (spec_DirOk.l0 k1 l0 (wrap64 (x3_1 + 1))) = some r := by rw [if_pos rfl] at H; exact H
              clear H; have H := H1; clear H1; have H' := Aside0.mk H; clear H; have p115 : 0 ≤ (x3_1 : Int) := of_decide_eq_true (by first | (with_reducible assumption) | assumption); have q115 : x3_1 < (l0.length : Int) := of_decide_eq_true (by first | (with_reducible assumption) | assumption); obtain ⟨ad115,e115,hx115_0,hx115_1,hx115_2,hx115_3⟩ := at_T89 HR0.out x3_1 p115 q115
              cases e115
              replace hx115_0 := (HB.out.cell (World.block_lt_of_cell? w _ hx115_0)).trans hx115_0; replace hx115_1 := (HB.out.cell (World.block_lt_of_cell? w _ hx115_1)).trans hx115_1; replace hx115_2 := (HB.out.cell (World.block_lt_of_cell? w _ hx115_2)).trans hx115_2; replace hx115_3 := (HB.out.cell (World.block_lt_of_cell? w _ hx115_3)).trans hx115_3; replace p115 := eq_true p115; replace q115 := eq_true q115
              try go_wp2_with (first | ((with_reducible refine gate_dst (N:=4) rfl ?_); refine box_event ?hg (N:=4) ?hd (cs:=#[.string (⟨#[]⟩ : ByteArray),.int .i64 0,.int .i64 0,.int .i64 0]) (t:=89) ?hr ?_; (case hd => rfl); (case hg => rfl); (case hr => first | (go_simp; done) | (go_simp; rfl)); intro gb116 hg w18 hbox hb; have n0_ := Aside0.mk (below_step (by repeat (first | (with_reducible first | exact HB.out | apply below_alloc | apply pw_below_drewN | apply below_drew1) | exact HB.out)) hb); have n1_ := Aside0.mk (hbox); have n2_ := Aside0.mk ((by rw [hg]; exact (below_size (by repeat (first | (with_reducible first | exact HB.out | apply below_alloc | apply pw_below_drewN | apply below_drew1) | exact HB.out))) : w.heap.size ≤ gb116)); have n3_ := Aside0.mk ((by rw [hg]; exact (below_size (by repeat (first | (with_reducible first | exact HB.out | apply below_alloc | apply pw_below_drewN | apply below_drew1) | exact HB.out))) : w.heap.size ≤ gb116)); clear HB; have HB := n0_; have BK116 := n1_; have GW116 := n2_; have GE116 := n3_; clear n0_ n1_ n2_ n3_; clear hb hbox hg; have hcz19_0 : w18.cell? ⟨gb116,0,none⟩ = some (.string (⟨#[]⟩ : ByteArray)) := (blk_cell BK116.out 0).trans rfl; have hcz19_1 : w18.cell? ⟨gb116,1,none⟩ = some (.int .i64 0) := (blk_cell BK116.out 1).trans rfl; have hcz19_2 : w18.cell? ⟨gb116,2,none⟩ = some (.int .i64 0) := (blk_cell BK116.out 2).trans rfl; have hcz19_3 : w18.cell? ⟨gb116,3,none⟩ = some (.int .i64 0) := (blk_cell BK116.out 3).trans rfl; have hfz19_0 := blk_frozen BK116.out 0; have hfz19_1 := blk_frozen BK116.out 1; have hfz19_2 := blk_frozen BK116.out 2; have hfz19_3 := blk_frozen BK116.out 3))
              have n0_ : Aside0 (((((w18.setCell ⟨gb116,0,none⟩ (.string ((rd_T89 l0 x3_1).f0))).setCell ⟨gb116,1,none⟩ (.int .i64 ((rd_T89 l0 x3_1).f1))).setCell ⟨gb116,2,none⟩ (.int .i64 ((rd_T89 l0 x3_1).f2))).setCell ⟨gb116,3,none⟩ (.int .i64 ((rd_T89 l0 x3_1).f3))).heap[gb116]? = some (.cells #[.string ((rd_T89 l0 x3_1).f0),.int .i64 ((rd_T89 l0 x3_1).f1),.int .i64 ((rd_T89 l0 x3_1).f2),.int .i64 ((rd_T89 l0 x3_1).f3)] 89 (0,0))) := ⟨by (with_reducible repeat (first | refine blk_drewN ?_ _ | refine blk_drew ?_ | refine blk_alloc ?_ _)); refine blk_put (cs:=#[.string ((rd_T89 l0 x3_1).f0),.int .i64 ((rd_T89 l0 x3_1).f1),.int .i64 ((rd_T89 l0 x3_1).f2),.int .i64 0]) ?_ 3 _ rfl; (with_reducible repeat (first | refine blk_drewN ?_ _ | refine blk_drew ?_ | refine blk_alloc ?_ _)); refine blk_put (cs:=#[.string ((rd_T89 l0 x3_1).f0),.int .i64 ((rd_T89 l0 x3_1).f1),.int .i64 0,.int .i64 0]) ?_ 2 _ rfl; (with_reducible repeat (first | refine blk_drewN ?_ _ | refine blk_drew ?_ | refine blk_alloc ?_ _)); refine blk_put (cs:=#[.string ((rd_T89 l0 x3_1).f0),.int .i64 0,.int .i64 0,.int .i64 0]) ?_ 1 _ rfl; (with_reducible repeat (first | refine blk_drewN ?_ _ | refine blk_drew ?_ | refine blk_alloc ?_ _)); refine blk_put (cs:=#[.string (⟨#[]⟩ : ByteArray),.int .i64 0,.int .i64 0,.int .i64 0]) ?_ 0 _ rfl; (with_reducible repeat (first | refine blk_drewN ?_ _ | refine blk_drew ?_ | refine blk_alloc ?_ _)); exact BK116.out⟩; have n1_ : Aside0 (Below w.heap.size w ((((w18.setCell ⟨gb116,0,none⟩ (.string ((rd_T89 l0 x3_1).f0))).setCell ⟨gb116,1,none⟩ (.int .i64 ((rd_T89 l0 x3_1).f1))).setCell ⟨gb116,2,none⟩ (.int .i64 ((rd_T89 l0 x3_1).f2))).setCell ⟨gb116,3,none⟩ (.int .i64 ((rd_T89 l0 x3_1).f3)))) := ⟨by repeat (first | (with_reducible first | exact HB.out | apply below_alloc | apply pw_below_drewN | apply below_drew1 | refine below_set ?_ GE116.out) | exact HB.out)⟩
              (try clear BK116)
              (try clear HB)
              generalize ((((w18.setCell ⟨gb116,0,none⟩ (.string ((rd_T89 l0 x3_1).f0))).setCell ⟨gb116,1,none⟩ (.int .i64 ((rd_T89 l0 x3_1).f1))).setCell ⟨gb116,2,none⟩ (.int .i64 ((rd_T89 l0 x3_1).f2))).setCell ⟨gb116,3,none⟩ (.int .i64 ((rd_T89 l0 x3_1).f3))) = w20 at n0_ n1_ ⊢; have BK116 := n0_; have HB := n1_; clear n0_ n1_; have n0_ := Aside0.mk (blk_drew BK116.out); have n1_ := Aside0.mk (below_drew1 HB.out); clear BK116; clear HB; have BK116 := n0_; have HB := n1_; clear n0_ n1_; have p118 : 0 ≤ ((ji8) : Int) := of_decide_eq_true (by first | (with_reducible assumption) | assumption); have q118 : (ji8) < (l0.length : Int) := of_decide_eq_true (by first | (with_reducible assumption) | assumption); obtain ⟨ad118,e118,hx118_0,hx118_1,hx118_2,hx118_3⟩ := at_T89 HR0.out (ji8) p118 q118; have hw118_3 := hx118_3; have hw118_2 := hx118_2; have hw118_1 := hx118_1; have hw118_0 := hx118_0; obtain rfl : ad115 = ad118 := (by injection e118); replace hx118_0 := (HB.out.cell (World.block_lt_of_cell? w _ hx118_0)).trans hx118_0; replace hx118_1 := (HB.out.cell (World.block_lt_of_cell? w _ hx118_1)).trans hx118_1; replace hx118_2 := (HB.out.cell (World.block_lt_of_cell? w _ hx118_2)).trans hx118_2; replace hx118_3 := (HB.out.cell (World.block_lt_of_cell? w _ hx118_3)).trans hx118_3; replace p118 := eq_true p118; replace q118 := eq_true q118; refine start_ (n:=37) (S:=fun w' => w'.cell? ⟨gb116,0,none⟩ = some (.string ((rd_T89 l0 x3_1).f0)) ∧ w'.cell? ⟨gb116,1,none⟩ = some (.int .i64 ((rd_T89 l0 x3_1).f1)) ∧ w'.cell? ⟨gb116,2,none⟩ = some (.int .i64 ((rd_T89 l0 x3_1).f2)) ∧ w'.cell? ⟨gb116,3,none⟩ = some (.int .i64 ((rd_T89 l0 x3_1).f3)) ∧ w'.cell? (ad115.add (((ji8)).toNat * 4)) = some (.string ((rd_T89 l0 (ji8)).f0)) ∧ w'.cell? ⟨(ad115.add (((ji8)).toNat * 4)).block,(ad115.add (((ji8)).toNat * 4)).off + 1,none⟩ = some (.int .i64 ((rd_T89 l0 (ji8)).f1)) ∧ w'.cell? ⟨(ad115.add (((ji8)).toNat * 4)).block,(ad115.add (((ji8)).toNat * 4)).off + 2,none⟩ = some (.int .i64 ((rd_T89 l0 (ji8)).f2)) ∧ w'.cell? ⟨(ad115.add (((ji8)).toNat * 4)).block,(ad115.add (((ji8)).toNat * 4)).off + 3,none⟩ = some (.int .i64 ((rd_T89 l0 (ji8)).f3))) (ds:=[]) #[false,false,false,false,false,false,false,false,false,false,false,false,false,false,false,false,false,false,false,false,false,false,false,false,false,false,false,false,false,false,false,false,false,false,false,false,false] (by kernel_rfl) rfl rfl ⟨(blk_cell BK116.out 0).trans rfl,(blk_cell BK116.out 1).trans rfl,(blk_cell BK116.out 2).trans rfl,(blk_cell BK116.out 3).trans rfl,((HB.out.cell (World.block_lt_of_cell? w _ hw118_0)).trans hw118_0),((HB.out.cell (World.block_lt_of_cell? w _ hw118_1)).trans hw118_1),((HB.out.cell (World.block_lt_of_cell? w _ hw118_2)).trans hw118_2),((HB.out.cell (World.block_lt_of_cell? w _ hw118_3)).trans hw118_3)⟩ (fun hHeld => ?_); refine with_tabW spec_DirOk.tab7 spec_DirOk.bits7 (fun HT_ HW_ => ?_); generalize w20.drew = w21 at BK116 HB hx118_0 hx118_1 hx118_2 hx118_3 hHeld ⊢; refine pure_ (i:=0) (N:=some 18) (v:=?_) (a':=?_) #[true,false,false,false,false,false,false,false,false,false,false,false,false,false,false,false,false,false,false,false,false,false,false,false,false,false,false,false,false,false,false,false,false,false,false,false,false] rfl rfl (any_of HT_.out (by kernel_rfl)) (fun _ _ _ h => h) (Or.inl ⟨by rfl,?_⟩) ?_ ?_; rotate_left
              ·intro w'; go_simp; with_reducible rfl
              rotate_left
              ·simp only [Act.put,s1_,s2_,s3_,i64_w,i32_w]; rfl
              refine take_ (i:=1) (N:=some 19) (v:=?_) (a':=?_) #[true,true,false,false,false,false,false,false,false,false,false,false,false,false,false,false,false,false,false,false,false,false,false,false,false,false,false,false,false,false,false,false,false,false,false,false,false] rfl rfl (take_ofW HT_.out HW_.out (by kernel_rfl)) (fun _ _ _ h => h) (Or.inl ⟨by rfl,?_⟩) hHeld ?_ ?_; rotate_left
              ·rintro w' ⟨s0,s1,s2,s3,s4,s5,s6,s7⟩; go_simp; with_reducible rfl
              rotate_left
              ·simp only [Act.put,s1_,s2_,s3_,i64_w,i32_w]; rfl
              refine one_ (i:=2) (N:=some 20) #[true,true,true,false,false,false,false,false,false,false,false,false,false,false,false,false,false,false,false,false,false,false,false,false,false,false,false,false,false,false,false,false,false,false,false,false,false] rfl rfl (one_of HT_.out (by kernel_rfl)) (by decide) (fun K hK => ?_); refine goes_ Try.func85 (by kernel_rfl) rfl #[.string ((rd_T89 l0 x3_1).f0)] (by rfl) rfl rfl (by (try simp only [List.map_toArray,List.map_cons,List.map_nil]); first | done | rfl | (simp only [List.length_drop,List.length_take]; rfl)) ?_; with_reducible refine (spec_l05Key.calls ((rd_T89 l0 x3_1).f0) true _ A5.out).mono ?_; rintro e w' ⟨rfl,⟨nd,rfl⟩⟩; refine ⟨_,rfl,?_⟩; have BK116d_ := Aside0.mk (blk_drewN BK116.out nd); have HBd_ := Aside0.mk (pw_below_drewN HB.out nd); refine hK.out _ _ ⟨(blk_cell BK116d_.out 0).trans rfl,(blk_cell BK116d_.out 1).trans rfl,(blk_cell BK116d_.out 2).trans rfl,(blk_cell BK116d_.out 3).trans rfl,((HBd_.out.cell (World.block_lt_of_cell? w _ hw118_0)).trans hw118_0),((HBd_.out.cell (World.block_lt_of_cell? w _ hw118_1)).trans hw118_1),((HBd_.out.cell (World.block_lt_of_cell? w _ hw118_2)).trans hw118_2),((HBd_.out.cell (World.block_lt_of_cell? w _ hw118_3)).trans hw118_3)⟩ (fun hHeld => ?_); clear hK K; refine norm_ (a':=?_) ?_ ?_; rotate_left
              ·show Act.put _ (some 20) _ = _; simp only [Act.put,s1_,s2_,s3_,i64_w,i32_w]; rfl
              refine pure_ (i:=3) (N:=some 21) (v:=?_) (a':=?_) #[true,true,true,true,false,false,false,false,false,false,false,false,false,false,false,false,false,false,false,false,false,false,false,false,false,false,false,false,false,false,false,false,false,false,false,false,false] rfl rfl (any_of HT_.out (by kernel_rfl)) (fun _ _ _ h => h) (Or.inl ⟨by rfl,?_⟩) ?_ ?_; rotate_left
              ·intro w'; go_simp; with_reducible rfl
              rotate_left
              ·simp only [Act.put,s1_,s2_,s3_,i64_w,i32_w]; rfl
              refine pure_ (i:=4) (N:=some 22) (v:=?_) (a':=?_) #[true,true,true,true,true,false,false,false,false,false,false,false,false,false,false,false,false,false,false,false,false,false,false,false,false,false,false,false,false,false,false,false,false,false,false,false,false] rfl rfl (any_of HT_.out (by kernel_rfl)) (fun _ _ _ h => h) (Or.inl ⟨by rfl,?_⟩) ?_ ?_; rotate_left
              ·intro w'; go_simp; with_reducible rfl
              rotate_left
              ·simp only [Act.put,s1_,s2_,s3_,i64_w,i32_w]; rfl
              refine pure_ (i:=5) (N:=some 23) (v:=?_) (a':=?_) #[true,true,true,true,true,true,false,false,false,false,false,false,false,false,false,false,false,false,false,false,false,false,false,false,false,false,false,false,false,false,false,false,false,false,false,false,false] rfl rfl (any_of HT_.out (by kernel_rfl)) (fun _ _ _ h => h) (Or.inl ⟨by rfl,?_⟩) ?_ ?_; rotate_left
              ·intro w'; go_simp; with_reducible rfl
              rotate_left
              ·simp only [Act.put,s1_,s2_,s3_,i64_w,i32_w]; rfl
              refine pure_ (i:=6) (N:=some 24) (v:=?_) (a':=?_) #[true,true,true,true,true,true,true,false,false,false,false,false,false,false,false,false,false,false,false,false,false,false,false,false,false,false,false,false,false,false,false,false,false,false,false,false,false] rfl rfl (any_of HT_.out (by kernel_rfl)) (fun _ _ _ h => h) (Or.inl ⟨by rfl,?_⟩) ?_ ?_; rotate_left
              ·intro w'; go_simp; with_reducible rfl
              rotate_left
              ·simp only [Act.put,s1_,s2_,s3_,i64_w,i32_w]; rfl
              refine pure_ (i:=7) (N:=some 25) (v:=?_) (a':=?_) #[true,true,true,true,true,true,true,true,false,false,false,false,false,false,false,false,false,false,false,false,false,false,false,false,false,false,false,false,false,false,false,false,false,false,false,false,false] rfl rfl (any_of HT_.out (by kernel_rfl)) (fun _ _ _ h => h) (Or.inl ⟨by rfl,?_⟩) ?_ ?_; rotate_left
              ·intro w'; go_simp; with_reducible rfl
              rotate_left
              ·simp only [Act.put,s1_,s2_,s3_,i64_w,i32_w]; rfl
              refine pure_ (i:=8) (N:=some 26) (v:=?_) (a':=?_) #[true,true,true,true,true,true,true,true,true,false,false,false,false,false,false,false,false,false,false,false,false,false,false,false,false,false,false,false,false,false,false,false,false,false,false,false,false] rfl rfl (any_of HT_.out (by kernel_rfl)) (fun _ _ _ h => h) (Or.inl ⟨by rfl,?_⟩) ?_ ?_; rotate_left
              ·intro w'; go_simp; with_reducible rfl
              rotate_left
              ·simp only [Act.put,s1_,s2_,s3_,i64_w,i32_w]; rfl
              refine pure_ (i:=9) (N:=some 27) (v:=?_) (a':=?_) #[true,true,true,true,true,true,true,true,true,true,false,false,false,false,false,false,false,false,false,false,false,false,false,false,false,false,false,false,false,false,false,false,false,false,false,false,false] rfl rfl (any_of HT_.out (by kernel_rfl)) (fun _ _ _ h => h) (Or.inl ⟨by rfl,?_⟩) ?_ ?_; rotate_left
              ·intro w'; go_simp; with_reducible rfl
              rotate_left
              ·simp only [Act.put,s1_,s2_,s3_,i64_w,i32_w]; rfl
              refine pure_ (i:=10) (N:=some 28) (v:=?_) (a':=?_) #[true,true,true,true,true,true,true,true,true,true,true,false,false,false,false,false,false,false,false,false,false,false,false,false,false,false,false,false,false,false,false,false,false,false,false,false,false] rfl rfl (any_of HT_.out (by kernel_rfl)) (fun _ _ _ h => h) (Or.inl ⟨by rfl,?_⟩) ?_ ?_; rotate_left
              ·intro w'; go_simp; with_reducible rfl
              rotate_left
              ·simp only [Act.put,s1_,s2_,s3_,i64_w,i32_w]; rfl
              refine pure_ (i:=11) (N:=some 29) (v:=?_) (a':=?_) #[true,true,true,true,true,true,true,true,true,true,true,true,false,false,false,false,false,false,false,false,false,false,false,false,false,false,false,false,false,false,false,false,false,false,false,false,false] rfl rfl (any_of HT_.out (by kernel_rfl)) (fun _ _ _ h => h) (Or.inl ⟨by rfl,?_⟩) ?_ ?_; rotate_left
              ·intro w'; go_simp; with_reducible rfl
              rotate_left
              ·simp only [Act.put,s1_,s2_,s3_,i64_w,i32_w]; rfl
              refine pure_ (i:=12) (N:=some 30) (v:=?_) (a':=?_) #[true,true,true,true,true,true,true,true,true,true,true,true,true,false,false,false,false,false,false,false,false,false,false,false,false,false,false,false,false,false,false,false,false,false,false,false,false] rfl rfl (any_of HT_.out (by kernel_rfl)) (fun _ _ _ h => h) (Or.inl ⟨by rfl,?_⟩) ?_ ?_; rotate_left
              ·intro w'; go_simp; with_reducible rfl
              rotate_left
              ·simp only [Act.put,s1_,s2_,s3_,i64_w,i32_w]; rfl
              refine pure_ (i:=14) (N:=some 32) (v:=?_) (a':=?_) #[true,true,true,true,true,true,true,true,true,true,true,true,true,false,true,false,false,false,false,false,false,false,false,false,false,false,false,false,false,false,false,false,false,false,false,false,false] rfl rfl (any_of HT_.out (by kernel_rfl)) (fun _ _ _ h => h) (Or.inl ⟨by rfl,?_⟩) ?_ ?_; rotate_left
              ·intro w'; go_simp; with_reducible rfl
              rotate_left
              ·simp only [Act.put,s1_,s2_,s3_,i64_w,i32_w]; rfl
              refine take_ (i:=13) (N:=some 31) (v:=?_) (a':=?_) #[true,true,true,true,true,true,true,true,true,true,true,true,true,true,true,false,false,false,false,false,false,false,false,false,false,false,false,false,false,false,false,false,false,false,false,false,false] rfl rfl (take_ofW HT_.out HW_.out (by kernel_rfl)) (fun _ _ _ h => h) (Or.inl ⟨by rfl,?_⟩) hHeld ?_ ?_; rotate_left
              ·rintro w' ⟨s0,s1,s2,s3,s4,s5,s6,s7⟩; go_simp; with_reducible rfl
              rotate_left
              ·simp only [Act.put,s1_,s2_,s3_,i64_w,i32_w]; rfl
              refine take_ (i:=15) (N:=some 33) (v:=?_) (a':=?_) #[true,true,true,true,true,true,true,true,true,true,true,true,true,true,true,true,false,false,false,false,false,false,false,false,false,false,false,false,false,false,false,false,false,false,false,false,false] rfl rfl (take_ofW HT_.out HW_.out (by kernel_rfl)) (fun _ _ _ h => h) (Or.inl ⟨by rfl,?_⟩) hHeld ?_ ?_; rotate_left
              ·rintro w' ⟨s0,s1,s2,s3,s4,s5,s6,s7⟩; go_simp; with_reducible rfl
              rotate_left
              ·simp only [Act.put,s1_,s2_,s3_,i64_w,i32_w]; rfl
              refine pure_ (i:=16) (N:=some 34) (v:=?_) (a':=?_) #[true,true,true,true,true,true,true,true,true,true,true,true,true,true,true,true,true,false,false,false,false,false,false,false,false,false,false,false,false,false,false,false,false,false,false,false,false] rfl rfl (any_of HT_.out (by kernel_rfl)) (fun _ _ _ h => h) (Or.inl ⟨by rfl,?_⟩) ?_ ?_; rotate_left
              ·intro w'; go_simp; with_reducible rfl
              rotate_left
              ·simp only [Act.put,s1_,s2_,s3_,i64_w,i32_w]; rfl
              refine pure_ (i:=17) (N:=some 35) (v:=?_) (a':=?_) #[true,true,true,true,true,true,true,true,true,true,true,true,true,true,true,true,true,true,false,false,false,false,false,false,false,false,false,false,false,false,false,false,false,false,false,false,false] rfl rfl (any_of HT_.out (by kernel_rfl)) (fun _ _ _ h => h) (Or.inl ⟨by rfl,?_⟩) ?_ ?_; rotate_left
              ·intro w'; go_simp; with_reducible rfl
              rotate_left
              ·simp only [Act.put,s1_,s2_,s3_,i64_w,i32_w]; rfl
              refine pure_ (i:=18) (N:=some 36) (v:=?_) (a':=?_) #[true,true,true,true,true,true,true,true,true,true,true,true,true,true,true,true,true,true,true,false,false,false,false,false,false,false,false,false,false,false,false,false,false,false,false,false,false] rfl rfl (any_of HT_.out (by kernel_rfl)) (fun _ _ _ h => h) (Or.inl ⟨by rfl,?_⟩) ?_ ?_; rotate_left
              ·intro w'; go_simp; with_reducible rfl
              rotate_left
              ·simp only [Act.put,s1_,s2_,s3_,i64_w,i32_w]; rfl
              refine pure_ (i:=19) (N:=some 37) (v:=?_) (a':=?_) #[true,true,true,true,true,true,true,true,true,true,true,true,true,true,true,true,true,true,true,true,false,false,false,false,false,false,false,false,false,false,false,false,false,false,false,false,false] rfl rfl (any_of HT_.out (by kernel_rfl)) (fun _ _ _ h => h) (Or.inl ⟨by rfl,?_⟩) ?_ ?_; rotate_left
              ·intro w'; go_simp; with_reducible rfl
              rotate_left
              ·simp only [Act.put,s1_,s2_,s3_,i64_w,i32_w]; rfl
              refine pure_ (i:=20) (N:=some 38) (v:=?_) (a':=?_) #[true,true,true,true,true,true,true,true,true,true,true,true,true,true,true,true,true,true,true,true,true,false,false,false,false,false,false,false,false,false,false,false,false,false,false,false,false] rfl rfl (any_of HT_.out (by kernel_rfl)) (fun _ _ _ h => h) (Or.inl ⟨by rfl,?_⟩) ?_ ?_; rotate_left
              ·intro w'; go_simp; with_reducible rfl
              rotate_left
              ·simp only [Act.put,s1_,s2_,s3_,i64_w,i32_w]; rfl
              refine take_ (i:=21) (N:=some 39) (v:=?_) (a':=?_) #[true,true,true,true,true,true,true,true,true,true,true,true,true,true,true,true,true,true,true,true,true,true,false,false,false,false,false,false,false,false,false,false,false,false,false,false,false] rfl rfl (take_ofW HT_.out HW_.out (by kernel_rfl)) (fun _ _ _ h => h) (Or.inl ⟨by rfl,?_⟩) hHeld ?_ ?_; rotate_left
              ·rintro w' ⟨s0,s1,s2,s3,s4,s5,s6,s7⟩; go_simp; with_reducible rfl
              rotate_left
              ·simp only [Act.put,s1_,s2_,s3_,i64_w,i32_w]; rfl
              refine one_ (i:=22) (N:=some 40) #[true,true,true,true,true,true,true,true,true,true,true,true,true,true,true,true,true,true,true,true,true,true,true,false,false,false,false,false,false,false,false,false,false,false,false,false,false] rfl rfl (one_of HT_.out (by kernel_rfl)) (by decide) (fun K hK => ?_); refine goes_ Try.func55 (by kernel_rfl) rfl #[.int .i64 ((rd_T89 l0 x3_1).f1),.int .i64 0,.int .i64 999] (by rfl) rfl rfl (by (try simp only [List.map_toArray,List.map_cons,List.map_nil]); first | done | rfl | (simp only [List.length_drop,List.length_take]; rfl)) ?_; with_reducible refine (spec_l01In.calls ((rd_T89 l0 x3_1).f1) 0 999 true _ A12.out).mono ?_; rintro e w' ⟨rfl,⟨nd,rfl⟩⟩; refine ⟨_,rfl,?_⟩; replace BK116d_ := Aside0.mk (blk_drewN BK116d_.out nd); replace HBd_ := Aside0.mk (pw_below_drewN HBd_.out nd); refine hK.out _ _ ⟨(blk_cell BK116d_.out 0).trans rfl,(blk_cell BK116d_.out 1).trans rfl,(blk_cell BK116d_.out 2).trans rfl,(blk_cell BK116d_.out 3).trans rfl,((HBd_.out.cell (World.block_lt_of_cell? w _ hw118_0)).trans hw118_0),((HBd_.out.cell (World.block_lt_of_cell? w _ hw118_1)).trans hw118_1),((HBd_.out.cell (World.block_lt_of_cell? w _ hw118_2)).trans hw118_2),((HBd_.out.cell (World.block_lt_of_cell? w _ hw118_3)).trans hw118_3)⟩ (fun hHeld => ?_); clear hK K; refine norm_ (a':=?_) ?_ ?_; rotate_left
              ·show Act.put _ (some 40) _ = _; simp only [Act.put,s1_,s2_,s3_,i64_w,i32_w]; rfl
              refine pure_ (i:=23) (N:=some 41) (v:=?_) (a':=?_) #[true,true,true,true,true,true,true,true,true,true,true,true,true,true,true,true,true,true,true,true,true,true,true,true,false,false,false,false,false,false,false,false,false,false,false,false,false] rfl rfl (any_of HT_.out (by kernel_rfl)) (fun _ _ _ h => h) (Or.inl ⟨by rfl,?_⟩) ?_ ?_; rotate_left
              ·intro w'; go_simp; with_reducible rfl
              rotate_left
              ·simp only [Act.put,s1_,s2_,s3_,i64_w,i32_w]; rfl
              refine pure_ (i:=24) (N:=some 42) (v:=?_) (a':=?_) #[true,true,true,true,true,true,true,true,true,true,true,true,true,true,true,true,true,true,true,true,true,true,true,true,true,false,false,false,false,false,false,false,false,false,false,false,false] rfl rfl (any_of HT_.out (by kernel_rfl)) (fun _ _ _ h => h) (Or.inl ⟨by rfl,?_⟩) ?_ ?_; rotate_left
              ·intro w'; go_simp; with_reducible rfl
              rotate_left
              ·simp only [Act.put,s1_,s2_,s3_,i64_w,i32_w]; rfl
              refine pure_ (i:=25) (N:=some 43) (v:=?_) (a':=?_) #[true,true,true,true,true,true,true,true,true,true,true,true,true,true,true,true,true,true,true,true,true,true,true,true,true,true,false,false,false,false,false,false,false,false,false,false,false] rfl rfl (any_of HT_.out (by kernel_rfl)) (fun _ _ _ h => h) (Or.inl ⟨by rfl,?_⟩) ?_ ?_; rotate_left
              ·intro w'; go_simp; with_reducible rfl
              rotate_left
              ·simp only [Act.put,s1_,s2_,s3_,i64_w,i32_w]; rfl
              refine pure_ (i:=26) (N:=some 44) (v:=?_) (a':=?_) #[true,true,true,true,true,true,true,true,true,true,true,true,true,true,true,true,true,true,true,true,true,true,true,true,true,true,true,false,false,false,false,false,false,false,false,false,false] rfl rfl (any_of HT_.out (by kernel_rfl)) (fun _ _ _ h => h) (Or.inl ⟨by rfl,?_⟩) ?_ ?_; rotate_left
              ·intro w'; go_simp; with_reducible rfl
              rotate_left
              ·simp only [Act.put,s1_,s2_,s3_,i64_w,i32_w]; rfl
              refine take_ (i:=27) (N:=some 45) (v:=?_) (a':=?_) #[true,true,true,true,true,true,true,true,true,true,true,true,true,true,true,true,true,true,true,true,true,true,true,true,true,true,true,true,false,false,false,false,false,false,false,false,false] rfl rfl (take_ofW HT_.out HW_.out (by kernel_rfl)) (fun _ _ _ h => h) (Or.inl ⟨by rfl,?_⟩) hHeld ?_ ?_; rotate_left
              ·rintro w' ⟨s0,s1,s2,s3,s4,s5,s6,s7⟩; go_simp; with_reducible rfl
              rotate_left
              ·simp only [Act.put,s1_,s2_,s3_,i64_w,i32_w]; rfl
              refine one_ (i:=28) (N:=some 46) #[true,true,true,true,true,true,true,true,true,true,true,true,true,true,true,true,true,true,true,true,true,true,true,true,true,true,true,true,true,false,false,false,false,false,false,false,false] rfl rfl (one_of HT_.out (by kernel_rfl)) (by decide) (fun K hK => ?_); refine goes_ Try.func55 (by kernel_rfl) rfl #[.int .i64 ((rd_T89 l0 x3_1).f2),.int .i64 0,.int .i64 20000] (by rfl) rfl rfl (by (try simp only [List.map_toArray,List.map_cons,List.map_nil]); first | done | rfl | (simp only [List.length_drop,List.length_take]; rfl)) ?_; with_reducible refine (spec_l01In.calls ((rd_T89 l0 x3_1).f2) 0 20000 true _ A14.out).mono ?_; rintro e w' ⟨rfl,⟨nd,rfl⟩⟩; refine ⟨_,rfl,?_⟩; replace BK116d_ := Aside0.mk (blk_drewN BK116d_.out nd); replace HBd_ := Aside0.mk (pw_below_drewN HBd_.out nd); refine hK.out _ _ ⟨(blk_cell BK116d_.out 0).trans rfl,(blk_cell BK116d_.out 1).trans rfl,(blk_cell BK116d_.out 2).trans rfl,(blk_cell BK116d_.out 3).trans rfl,((HBd_.out.cell (World.block_lt_of_cell? w _ hw118_0)).trans hw118_0),((HBd_.out.cell (World.block_lt_of_cell? w _ hw118_1)).trans hw118_1),((HBd_.out.cell (World.block_lt_of_cell? w _ hw118_2)).trans hw118_2),((HBd_.out.cell (World.block_lt_of_cell? w _ hw118_3)).trans hw118_3)⟩ (fun hHeld => ?_); clear hK K; refine norm_ (a':=?_) ?_ ?_; rotate_left
              ·show Act.put _ (some 46) _ = _; simp only [Act.put,s1_,s2_,s3_,i64_w,i32_w]; rfl
              refine pure_ (i:=29) (N:=some 47) (v:=?_) (a':=?_) #[true,true,true,true,true,true,true,true,true,true,true,true,true,true,true,true,true,true,true,true,true,true,true,true,true,true,true,true,true,true,false,false,false,false,false,false,false] rfl rfl (any_of HT_.out (by kernel_rfl)) (fun _ _ _ h => h) (Or.inl ⟨by rfl,?_⟩) ?_ ?_; rotate_left
              ·intro w'; go_simp; with_reducible rfl
              rotate_left
              ·simp only [Act.put,s1_,s2_,s3_,i64_w,i32_w]; rfl
              refine pure_ (i:=30) (N:=some 48) (v:=?_) (a':=?_) #[true,true,true,true,true,true,true,true,true,true,true,true,true,true,true,true,true,true,true,true,true,true,true,true,true,true,true,true,true,true,true,false,false,false,false,false,false] rfl rfl (any_of HT_.out (by kernel_rfl)) (fun _ _ _ h => h) (Or.inl ⟨by rfl,?_⟩) ?_ ?_; rotate_left
              ·intro w'; go_simp; with_reducible rfl
              rotate_left
              ·simp only [Act.put,s1_,s2_,s3_,i64_w,i32_w]; rfl
              refine pure_ (i:=31) (N:=some 49) (v:=?_) (a':=?_) #[true,true,true,true,true,true,true,true,true,true,true,true,true,true,true,true,true,true,true,true,true,true,true,true,true,true,true,true,true,true,true,true,false,false,false,false,false] rfl rfl (any_of HT_.out (by kernel_rfl)) (fun _ _ _ h => h) (Or.inl ⟨by rfl,?_⟩) ?_ ?_; rotate_left
              ·intro w'; go_simp; with_reducible rfl
              rotate_left
              ·simp only [Act.put,s1_,s2_,s3_,i64_w,i32_w]; rfl
              refine pure_ (i:=32) (N:=some 50) (v:=?_) (a':=?_) #[true,true,true,true,true,true,true,true,true,true,true,true,true,true,true,true,true,true,true,true,true,true,true,true,true,true,true,true,true,true,true,true,true,false,false,false,false] rfl rfl (any_of HT_.out (by kernel_rfl)) (fun _ _ _ h => h) (Or.inl ⟨by rfl,?_⟩) ?_ ?_; rotate_left
              ·intro w'; go_simp; with_reducible rfl
              rotate_left
              ·simp only [Act.put,s1_,s2_,s3_,i64_w,i32_w]; rfl
              refine take_ (i:=33) (N:=some 51) (v:=?_) (a':=?_) #[true,true,true,true,true,true,true,true,true,true,true,true,true,true,true,true,true,true,true,true,true,true,true,true,true,true,true,true,true,true,true,true,true,true,false,false,false] rfl rfl (take_ofW HT_.out HW_.out (by kernel_rfl)) (fun _ _ _ h => h) (Or.inl ⟨by rfl,?_⟩) hHeld ?_ ?_; rotate_left
              ·rintro w' ⟨s0,s1,s2,s3,s4,s5,s6,s7⟩; go_simp; with_reducible rfl
              rotate_left
              ·simp only [Act.put,s1_,s2_,s3_,i64_w,i32_w]; rfl
              refine one_ (i:=34) (N:=some 52) #[true,true,true,true,true,true,true,true,true,true,true,true,true,true,true,true,true,true,true,true,true,true,true,true,true,true,true,true,true,true,true,true,true,true,true,false,false] rfl rfl (one_of HT_.out (by kernel_rfl)) (by decide) (fun K hK => ?_); refine goes_ Try.func55 (by kernel_rfl) rfl #[.int .i64 ((rd_T89 l0 x3_1).f3),.int .i64 0,.int .i64 40] (by rfl) rfl rfl (by (try simp only [List.map_toArray,List.map_cons,List.map_nil]); first | done | rfl | (simp only [List.length_drop,List.length_take]; rfl)) ?_; with_reducible refine (spec_l01In.calls ((rd_T89 l0 x3_1).f3) 0 40 true _ A16.out).mono ?_; rintro e w' ⟨rfl,⟨nd,rfl⟩⟩; refine ⟨_,rfl,?_⟩; replace BK116d_ := Aside0.mk (blk_drewN BK116d_.out nd); replace HBd_ := Aside0.mk (pw_below_drewN HBd_.out nd); refine hK.out _ _ ⟨(blk_cell BK116d_.out 0).trans rfl,(blk_cell BK116d_.out 1).trans rfl,(blk_cell BK116d_.out 2).trans rfl,(blk_cell BK116d_.out 3).trans rfl,((HBd_.out.cell (World.block_lt_of_cell? w _ hw118_0)).trans hw118_0),((HBd_.out.cell (World.block_lt_of_cell? w _ hw118_1)).trans hw118_1),((HBd_.out.cell (World.block_lt_of_cell? w _ hw118_2)).trans hw118_2),((HBd_.out.cell (World.block_lt_of_cell? w _ hw118_3)).trans hw118_3)⟩ (fun hHeld => ?_); clear hK K; refine norm_ (a':=?_) ?_ ?_; rotate_left
              ·show Act.put _ (some 52) _ = _; simp only [Act.put,s1_,s2_,s3_,i64_w,i32_w]; rfl
              refine pure_ (i:=35) (N:=some 53) (v:=?_) (a':=?_) #[true,true,true,true,true,true,true,true,true,true,true,true,true,true,true,true,true,true,true,true,true,true,true,true,true,true,true,true,true,true,true,true,true,true,true,true,false] rfl rfl (any_of HT_.out (by kernel_rfl)) (fun _ _ _ h => h) (Or.inl ⟨by rfl,?_⟩) ?_ ?_; rotate_left
              ·intro w'; go_simp; with_reducible rfl
              rotate_left
              ·simp only [Act.put,s1_,s2_,s3_,i64_w,i32_w]; rfl
              refine pure_ (i:=36) (N:=some 54) (v:=?_) (a':=?_) #[true,true,true,true,true,true,true,true,true,true,true,true,true,true,true,true,true,true,true,true,true,true,true,true,true,true,true,true,true,true,true,true,true,true,true,true,true] rfl rfl (any_of HT_.out (by kernel_rfl)) (fun _ _ _ h => h) (Or.inl ⟨by rfl,?_⟩) ?_ ?_; rotate_left
              ·intro w'; go_simp; with_reducible rfl
              rotate_left
              ·simp only [Act.put,s1_,s2_,s3_,i64_w,i32_w]; rfl
              refine done_ (done_of HT_.out (by kernel_rfl)) ?_
              try go_wp2
              go_roundg k1
              case measure => have := HK1.out; omega
              case rel => exact ⟨(wrap64 (x3_1 + 1)),(by first | rfl | (simp; done) | (simp [*]; done)),H',⟨by have := HK1.out; omega⟩,⟨by repeat (first | (with_reducible first | exact HB.out | apply below_alloc | apply pw_below_drewN | apply below_drew1 | refine below_set ?_ GE116.out) | exact HB.out)⟩⟩
             ·replace c17 := Bool.eq_false_iff.mpr c17; subst c17
              have H1 : (some false) = some r := by rw [if_neg (show ¬ (false = true) by decide)] at H; exact H
              clear H; have H := H1; clear H1; obtain rfl := Option.some.inj H; have p115 : 0 ≤ (x3_1 : Int) := of_decide_eq_true (by first | (with_reducible assumption) | assumption); have q115 : x3_1 < (l0.length : Int) := of_decide_eq_true (by first | (with_reducible assumption) | assumption); obtain ⟨ad115,e115,hx115_0,hx115_1,hx115_2,hx115_3⟩ := at_T89 HR0.out x3_1 p115 q115
              cases e115
              replace hx115_0 := (HB.out.cell (World.block_lt_of_cell? w _ hx115_0)).trans hx115_0; replace hx115_1 := (HB.out.cell (World.block_lt_of_cell? w _ hx115_1)).trans hx115_1; replace hx115_2 := (HB.out.cell (World.block_lt_of_cell? w _ hx115_2)).trans hx115_2; replace hx115_3 := (HB.out.cell (World.block_lt_of_cell? w _ hx115_3)).trans hx115_3; replace p115 := eq_true p115; replace q115 := eq_true q115
              try go_wp2_with (first | ((with_reducible refine gate_dst (N:=4) rfl ?_); refine box_event ?hg (N:=4) ?hd (cs:=#[.string (⟨#[]⟩ : ByteArray),.int .i64 0,.int .i64 0,.int .i64 0]) (t:=89) ?hr ?_; (case hd => rfl); (case hg => rfl); (case hr => first | (go_simp; done) | (go_simp; rfl)); intro gb116 hg w22 hbox hb; have n0_ := Aside0.mk (below_step (by repeat (first | (with_reducible first | exact HB.out | apply below_alloc | apply pw_below_drewN | apply below_drew1) | exact HB.out)) hb); have n1_ := Aside0.mk (hbox); have n2_ := Aside0.mk ((by rw [hg]; exact (below_size (by repeat (first | (with_reducible first | exact HB.out | apply below_alloc | apply pw_below_drewN | apply below_drew1) | exact HB.out))) : w.heap.size ≤ gb116)); have n3_ := Aside0.mk ((by rw [hg]; exact (below_size (by repeat (first | (with_reducible first | exact HB.out | apply below_alloc | apply pw_below_drewN | apply below_drew1) | exact HB.out))) : w.heap.size ≤ gb116)); clear HB; have HB := n0_; have BK116 := n1_; have GW116 := n2_; have GE116 := n3_; clear n0_ n1_ n2_ n3_; clear hb hbox hg; have hcz23_0 : w22.cell? ⟨gb116,0,none⟩ = some (.string (⟨#[]⟩ : ByteArray)) := (blk_cell BK116.out 0).trans rfl; have hcz23_1 : w22.cell? ⟨gb116,1,none⟩ = some (.int .i64 0) := (blk_cell BK116.out 1).trans rfl; have hcz23_2 : w22.cell? ⟨gb116,2,none⟩ = some (.int .i64 0) := (blk_cell BK116.out 2).trans rfl; have hcz23_3 : w22.cell? ⟨gb116,3,none⟩ = some (.int .i64 0) := (blk_cell BK116.out 3).trans rfl; have hfz23_0 := blk_frozen BK116.out 0; have hfz23_1 := blk_frozen BK116.out 1; have hfz23_2 := blk_frozen BK116.out 2; have hfz23_3 := blk_frozen BK116.out 3))
              have n0_ : Aside0 (((((w22.setCell ⟨gb116,0,none⟩ (.string ((rd_T89 l0 x3_1).f0))).setCell ⟨gb116,1,none⟩ (.int .i64 ((rd_T89 l0 x3_1).f1))).setCell ⟨gb116,2,none⟩ (.int .i64 ((rd_T89 l0 x3_1).f2))).setCell ⟨gb116,3,none⟩ (.int .i64 ((rd_T89 l0 x3_1).f3))).heap[gb116]? = some (.cells #[.string ((rd_T89 l0 x3_1).f0),.int .i64 ((rd_T89 l0 x3_1).f1),.int .i64 ((rd_T89 l0 x3_1).f2),.int .i64 ((rd_T89 l0 x3_1).f3)] 89 (0,0))) := ⟨by (with_reducible repeat (first | refine blk_drewN ?_ _ | refine blk_drew ?_ | refine blk_alloc ?_ _)); refine blk_put (cs:=#[.string ((rd_T89 l0 x3_1).f0),.int .i64 ((rd_T89 l0 x3_1).f1),.int .i64 ((rd_T89 l0 x3_1).f2),.int .i64 0]) ?_ 3 _ rfl; (with_reducible repeat (first | refine blk_drewN ?_ _ | refine blk_drew ?_ | refine blk_alloc ?_ _)); refine blk_put (cs:=#[.string ((rd_T89 l0 x3_1).f0),.int .i64 ((rd_T89 l0 x3_1).f1),.int .i64 0,.int .i64 0]) ?_ 2 _ rfl; (with_reducible repeat (first | refine blk_drewN ?_ _ | refine blk_drew ?_ | refine blk_alloc ?_ _)); refine blk_put (cs:=#[.string ((rd_T89 l0 x3_1).f0),.int .i64 0,.int .i64 0,.int .i64 0]) ?_ 1 _ rfl; (with_reducible repeat (first | refine blk_drewN ?_ _ | refine blk_drew ?_ | refine blk_alloc ?_ _)); refine blk_put (cs:=#[.string (⟨#[]⟩ : ByteArray),.int .i64 0,.int .i64 0,.int .i64 0]) ?_ 0 _ rfl; (with_reducible repeat (first | refine blk_drewN ?_ _ | refine blk_drew ?_ | refine blk_alloc ?_ _)); exact BK116.out⟩; have n1_ : Aside0 (Below w.heap.size w ((((w22.setCell ⟨gb116,0,none⟩ (.string ((rd_T89 l0 x3_1).f0))).setCell ⟨gb116,1,none⟩ (.int .i64 ((rd_T89 l0 x3_1).f1))).setCell ⟨gb116,2,none⟩ (.int .i64 ((rd_T89 l0 x3_1).f2))).setCell ⟨gb116,3,none⟩ (.int .i64 ((rd_T89 l0 x3_1).f3)))) := ⟨by repeat (first | (with_reducible first | exact HB.out | apply below_alloc | apply pw_below_drewN | apply below_drew1 | refine below_set ?_ GE116.out) | exact HB.out)⟩
              (try clear BK116)
              (try clear HB)
              generalize ((((w22.setCell ⟨gb116,0,none⟩ (.string ((rd_T89 l0 x3_1).f0))).setCell ⟨gb116,1,none⟩ (.int .i64 ((rd_T89 l0 x3_1).f1))).setCell ⟨gb116,2,none⟩ (.int .i64 ((rd_T89 l0 x3_1).f2))).setCell ⟨gb116,3,none⟩ (.int .i64 ((rd_T89 l0 x3_1).f3))) = w24 at n0_ n1_ ⊢; have BK116 := n0_; have HB := n1_; clear n0_ n1_; have n0_ := Aside0.mk (blk_drew BK116.out); have n1_ := Aside0.mk (below_drew1 HB.out); clear BK116; clear HB; have BK116 := n0_; have HB := n1_; clear n0_ n1_; have p118 : 0 ≤ ((ji8) : Int) := of_decide_eq_true (by first | (with_reducible assumption) | assumption); have q118 : (ji8) < (l0.length : Int) := of_decide_eq_true (by first | (with_reducible assumption) | assumption); obtain ⟨ad118,e118,hx118_0,hx118_1,hx118_2,hx118_3⟩ := at_T89 HR0.out (ji8) p118 q118; have hw118_3 := hx118_3; have hw118_2 := hx118_2; have hw118_1 := hx118_1; have hw118_0 := hx118_0; obtain rfl : ad115 = ad118 := (by injection e118); replace hx118_0 := (HB.out.cell (World.block_lt_of_cell? w _ hx118_0)).trans hx118_0; replace hx118_1 := (HB.out.cell (World.block_lt_of_cell? w _ hx118_1)).trans hx118_1; replace hx118_2 := (HB.out.cell (World.block_lt_of_cell? w _ hx118_2)).trans hx118_2; replace hx118_3 := (HB.out.cell (World.block_lt_of_cell? w _ hx118_3)).trans hx118_3; replace p118 := eq_true p118; replace q118 := eq_true q118; refine start_ (n:=37) (S:=fun w' => w'.cell? ⟨gb116,0,none⟩ = some (.string ((rd_T89 l0 x3_1).f0)) ∧ w'.cell? ⟨gb116,1,none⟩ = some (.int .i64 ((rd_T89 l0 x3_1).f1)) ∧ w'.cell? ⟨gb116,2,none⟩ = some (.int .i64 ((rd_T89 l0 x3_1).f2)) ∧ w'.cell? ⟨gb116,3,none⟩ = some (.int .i64 ((rd_T89 l0 x3_1).f3)) ∧ w'.cell? (ad115.add (((ji8)).toNat * 4)) = some (.string ((rd_T89 l0 (ji8)).f0)) ∧ w'.cell? ⟨(ad115.add (((ji8)).toNat * 4)).block,(ad115.add (((ji8)).toNat * 4)).off + 1,none⟩ = some (.int .i64 ((rd_T89 l0 (ji8)).f1)) ∧ w'.cell? ⟨(ad115.add (((ji8)).toNat * 4)).block,(ad115.add (((ji8)).toNat * 4)).off + 2,none⟩ = some (.int .i64 ((rd_T89 l0 (ji8)).f2)) ∧ w'.cell? ⟨(ad115.add (((ji8)).toNat * 4)).block,(ad115.add (((ji8)).toNat * 4)).off + 3,none⟩ = some (.int .i64 ((rd_T89 l0 (ji8)).f3))) (ds:=[]) #[false,false,false,false,false,false,false,false,false,false,false,false,false,false,false,false,false,false,false,false,false,false,false,false,false,false,false,false,false,false,false,false,false,false,false,false,false] (by kernel_rfl) rfl rfl ⟨(blk_cell BK116.out 0).trans rfl,(blk_cell BK116.out 1).trans rfl,(blk_cell BK116.out 2).trans rfl,(blk_cell BK116.out 3).trans rfl,((HB.out.cell (World.block_lt_of_cell? w _ hw118_0)).trans hw118_0),((HB.out.cell (World.block_lt_of_cell? w _ hw118_1)).trans hw118_1),((HB.out.cell (World.block_lt_of_cell? w _ hw118_2)).trans hw118_2),((HB.out.cell (World.block_lt_of_cell? w _ hw118_3)).trans hw118_3)⟩ (fun hHeld => ?_); refine with_tabW spec_DirOk.tab7 spec_DirOk.bits7 (fun HT_ HW_ => ?_); generalize w24.drew = w25 at BK116 HB hx118_0 hx118_1 hx118_2 hx118_3 hHeld ⊢; refine pure_ (i:=0) (N:=some 18) (v:=?_) (a':=?_) #[true,false,false,false,false,false,false,false,false,false,false,false,false,false,false,false,false,false,false,false,false,false,false,false,false,false,false,false,false,false,false,false,false,false,false,false,false] rfl rfl (any_of HT_.out (by kernel_rfl)) (fun _ _ _ h => h) (Or.inl ⟨by rfl,?_⟩) ?_ ?_; rotate_left
              ·intro w'; go_simp; with_reducible rfl
              rotate_left
              ·simp only [Act.put,s1_,s2_,s3_,i64_w,i32_w]; rfl
              refine take_ (i:=1) (N:=some 19) (v:=?_) (a':=?_) #[true,true,false,false,false,false,false,false,false,false,false,false,false,false,false,false,false,false,false,false,false,false,false,false,false,false,false,false,false,false,false,false,false,false,false,false,false] rfl rfl (take_ofW HT_.out HW_.out (by kernel_rfl)) (fun _ _ _ h => h) (Or.inl ⟨by rfl,?_⟩) hHeld ?_ ?_; rotate_left
              ·rintro w' ⟨s0,s1,s2,s3,s4,s5,s6,s7⟩; go_simp; with_reducible rfl
              rotate_left
              ·simp only [Act.put,s1_,s2_,s3_,i64_w,i32_w]; rfl
              refine one_ (i:=2) (N:=some 20) #[true,true,true,false,false,false,false,false,false,false,false,false,false,false,false,false,false,false,false,false,false,false,false,false,false,false,false,false,false,false,false,false,false,false,false,false,false] rfl rfl (one_of HT_.out (by kernel_rfl)) (by decide) (fun K hK => ?_); refine goes_ Try.func85 (by kernel_rfl) rfl #[.string ((rd_T89 l0 x3_1).f0)] (by rfl) rfl rfl (by (try simp only [List.map_toArray,List.map_cons,List.map_nil]); first | done | rfl | (simp only [List.length_drop,List.length_take]; rfl)) ?_; with_reducible refine (spec_l05Key.calls ((rd_T89 l0 x3_1).f0) true _ A5.out).mono ?_; rintro e w' ⟨rfl,⟨nd,rfl⟩⟩; refine ⟨_,rfl,?_⟩; have BK116d_ := Aside0.mk (blk_drewN BK116.out nd); have HBd_ := Aside0.mk (pw_below_drewN HB.out nd); refine hK.out _ _ ⟨(blk_cell BK116d_.out 0).trans rfl,(blk_cell BK116d_.out 1).trans rfl,(blk_cell BK116d_.out 2).trans rfl,(blk_cell BK116d_.out 3).trans rfl,((HBd_.out.cell (World.block_lt_of_cell? w _ hw118_0)).trans hw118_0),((HBd_.out.cell (World.block_lt_of_cell? w _ hw118_1)).trans hw118_1),((HBd_.out.cell (World.block_lt_of_cell? w _ hw118_2)).trans hw118_2),((HBd_.out.cell (World.block_lt_of_cell? w _ hw118_3)).trans hw118_3)⟩ (fun hHeld => ?_); clear hK K; refine norm_ (a':=?_) ?_ ?_; rotate_left
              ·show Act.put _ (some 20) _ = _; simp only [Act.put,s1_,s2_,s3_,i64_w,i32_w]; rfl
              refine pure_ (i:=3) (N:=some 21) (v:=?_) (a':=?_) #[true,true,true,true,false,false,false,false,false,false,false,false,false,false,false,false,false,false,false,false,false,false,false,false,false,false,false,false,false,false,false,false,false,false,false,false,false] rfl rfl (any_of HT_.out (by kernel_rfl)) (fun _ _ _ h => h) (Or.inl ⟨by rfl,?_⟩) ?_ ?_; rotate_left
              ·intro w'; go_simp; with_reducible rfl
              rotate_left
              ·simp only [Act.put,s1_,s2_,s3_,i64_w,i32_w]; rfl
              refine pure_ (i:=4) (N:=some 22) (v:=?_) (a':=?_) #[true,true,true,true,true,false,false,false,false,false,false,false,false,false,false,false,false,false,false,false,false,false,false,false,false,false,false,false,false,false,false,false,false,false,false,false,false] rfl rfl (any_of HT_.out (by kernel_rfl)) (fun _ _ _ h => h) (Or.inl ⟨by rfl,?_⟩) ?_ ?_; rotate_left
              ·intro w'; go_simp; with_reducible rfl
              rotate_left
              ·simp only [Act.put,s1_,s2_,s3_,i64_w,i32_w]; rfl
              refine pure_ (i:=5) (N:=some 23) (v:=?_) (a':=?_) #[true,true,true,true,true,true,false,false,false,false,false,false,false,false,false,false,false,false,false,false,false,false,false,false,false,false,false,false,false,false,false,false,false,false,false,false,false] rfl rfl (any_of HT_.out (by kernel_rfl)) (fun _ _ _ h => h) (Or.inl ⟨by rfl,?_⟩) ?_ ?_; rotate_left
              ·intro w'; go_simp; with_reducible rfl
              rotate_left
              ·simp only [Act.put,s1_,s2_,s3_,i64_w,i32_w]; rfl
              refine pure_ (i:=6) (N:=some 24) (v:=?_) (a':=?_) #[true,true,true,true,true,true,true,false,false,false,false,false,false,false,false,false,false,false,false,false,false,false,false,false,false,false,false,false,false,false,false,false,false,false,false,false,false] rfl rfl (any_of HT_.out (by kernel_rfl)) (fun _ _ _ h => h) (Or.inl ⟨by rfl,?_⟩) ?_ ?_; rotate_left
              ·intro w'; go_simp; with_reducible rfl
              rotate_left
              ·simp only [Act.put,s1_,s2_,s3_,i64_w,i32_w]; rfl
              refine pure_ (i:=7) (N:=some 25) (v:=?_) (a':=?_) #[true,true,true,true,true,true,true,true,false,false,false,false,false,false,false,false,false,false,false,false,false,false,false,false,false,false,false,false,false,false,false,false,false,false,false,false,false] rfl rfl (any_of HT_.out (by kernel_rfl)) (fun _ _ _ h => h) (Or.inl ⟨by rfl,?_⟩) ?_ ?_; rotate_left
              ·intro w'; go_simp; with_reducible rfl
              rotate_left
              ·simp only [Act.put,s1_,s2_,s3_,i64_w,i32_w]; rfl
              refine pure_ (i:=8) (N:=some 26) (v:=?_) (a':=?_) #[true,true,true,true,true,true,true,true,true,false,false,false,false,false,false,false,false,false,false,false,false,false,false,false,false,false,false,false,false,false,false,false,false,false,false,false,false] rfl rfl (any_of HT_.out (by kernel_rfl)) (fun _ _ _ h => h) (Or.inl ⟨by rfl,?_⟩) ?_ ?_; rotate_left
              ·intro w'; go_simp; with_reducible rfl
              rotate_left
              ·simp only [Act.put,s1_,s2_,s3_,i64_w,i32_w]; rfl
              refine pure_ (i:=9) (N:=some 27) (v:=?_) (a':=?_) #[true,true,true,true,true,true,true,true,true,true,false,false,false,false,false,false,false,false,false,false,false,false,false,false,false,false,false,false,false,false,false,false,false,false,false,false,false] rfl rfl (any_of HT_.out (by kernel_rfl)) (fun _ _ _ h => h) (Or.inl ⟨by rfl,?_⟩) ?_ ?_; rotate_left
              ·intro w'; go_simp; with_reducible rfl
              rotate_left
              ·simp only [Act.put,s1_,s2_,s3_,i64_w,i32_w]; rfl
              refine pure_ (i:=10) (N:=some 28) (v:=?_) (a':=?_) #[true,true,true,true,true,true,true,true,true,true,true,false,false,false,false,false,false,false,false,false,false,false,false,false,false,false,false,false,false,false,false,false,false,false,false,false,false] rfl rfl (any_of HT_.out (by kernel_rfl)) (fun _ _ _ h => h) (Or.inl ⟨by rfl,?_⟩) ?_ ?_; rotate_left
              ·intro w'; go_simp; with_reducible rfl
              rotate_left
              ·simp only [Act.put,s1_,s2_,s3_,i64_w,i32_w]; rfl
              refine pure_ (i:=11) (N:=some 29) (v:=?_) (a':=?_) #[true,true,true,true,true,true,true,true,true,true,true,true,false,false,false,false,false,false,false,false,false,false,false,false,false,false,false,false,false,false,false,false,false,false,false,false,false] rfl rfl (any_of HT_.out (by kernel_rfl)) (fun _ _ _ h => h) (Or.inl ⟨by rfl,?_⟩) ?_ ?_; rotate_left
              ·intro w'; go_simp; with_reducible rfl
              rotate_left
              ·simp only [Act.put,s1_,s2_,s3_,i64_w,i32_w]; rfl
              refine pure_ (i:=12) (N:=some 30) (v:=?_) (a':=?_) #[true,true,true,true,true,true,true,true,true,true,true,true,true,false,false,false,false,false,false,false,false,false,false,false,false,false,false,false,false,false,false,false,false,false,false,false,false] rfl rfl (any_of HT_.out (by kernel_rfl)) (fun _ _ _ h => h) (Or.inl ⟨by rfl,?_⟩) ?_ ?_; rotate_left
              ·intro w'; go_simp; with_reducible rfl
              rotate_left
              ·simp only [Act.put,s1_,s2_,s3_,i64_w,i32_w]; rfl
              refine pure_ (i:=14) (N:=some 32) (v:=?_) (a':=?_) #[true,true,true,true,true,true,true,true,true,true,true,true,true,false,true,false,false,false,false,false,false,false,false,false,false,false,false,false,false,false,false,false,false,false,false,false,false] rfl rfl (any_of HT_.out (by kernel_rfl)) (fun _ _ _ h => h) (Or.inl ⟨by rfl,?_⟩) ?_ ?_; rotate_left
              ·intro w'; go_simp; with_reducible rfl
              rotate_left
              ·simp only [Act.put,s1_,s2_,s3_,i64_w,i32_w]; rfl
              refine take_ (i:=13) (N:=some 31) (v:=?_) (a':=?_) #[true,true,true,true,true,true,true,true,true,true,true,true,true,true,true,false,false,false,false,false,false,false,false,false,false,false,false,false,false,false,false,false,false,false,false,false,false] rfl rfl (take_ofW HT_.out HW_.out (by kernel_rfl)) (fun _ _ _ h => h) (Or.inl ⟨by rfl,?_⟩) hHeld ?_ ?_; rotate_left
              ·rintro w' ⟨s0,s1,s2,s3,s4,s5,s6,s7⟩; go_simp; with_reducible rfl
              rotate_left
              ·simp only [Act.put,s1_,s2_,s3_,i64_w,i32_w]; rfl
              refine take_ (i:=15) (N:=some 33) (v:=?_) (a':=?_) #[true,true,true,true,true,true,true,true,true,true,true,true,true,true,true,true,false,false,false,false,false,false,false,false,false,false,false,false,false,false,false,false,false,false,false,false,false] rfl rfl (take_ofW HT_.out HW_.out (by kernel_rfl)) (fun _ _ _ h => h) (Or.inl ⟨by rfl,?_⟩) hHeld ?_ ?_; rotate_left
              ·rintro w' ⟨s0,s1,s2,s3,s4,s5,s6,s7⟩; go_simp; with_reducible rfl
              rotate_left
              ·simp only [Act.put,s1_,s2_,s3_,i64_w,i32_w]; rfl
              refine pure_ (i:=16) (N:=some 34) (v:=?_) (a':=?_) #[true,true,true,true,true,true,true,true,true,true,true,true,true,true,true,true,true,false,false,false,false,false,false,false,false,false,false,false,false,false,false,false,false,false,false,false,false] rfl rfl (any_of HT_.out (by kernel_rfl)) (fun _ _ _ h => h) (Or.inl ⟨by rfl,?_⟩) ?_ ?_; rotate_left
              ·intro w'; go_simp; with_reducible rfl
              rotate_left
              ·simp only [Act.put,s1_,s2_,s3_,i64_w,i32_w]; rfl
              refine pure_ (i:=17) (N:=some 35) (v:=?_) (a':=?_) #[true,true,true,true,true,true,true,true,true,true,true,true,true,true,true,true,true,true,false,false,false,false,false,false,false,false,false,false,false,false,false,false,false,false,false,false,false] rfl rfl (any_of HT_.out (by kernel_rfl)) (fun _ _ _ h => h) (Or.inl ⟨by rfl,?_⟩) ?_ ?_; rotate_left
              ·intro w'; go_simp; with_reducible rfl
              rotate_left
              ·simp only [Act.put,s1_,s2_,s3_,i64_w,i32_w]; rfl
              refine pure_ (i:=18) (N:=some 36) (v:=?_) (a':=?_) #[true,true,true,true,true,true,true,true,true,true,true,true,true,true,true,true,true,true,true,false,false,false,false,false,false,false,false,false,false,false,false,false,false,false,false,false,false] rfl rfl (any_of HT_.out (by kernel_rfl)) (fun _ _ _ h => h) (Or.inl ⟨by rfl,?_⟩) ?_ ?_; rotate_left
              ·intro w'; go_simp; with_reducible rfl
              rotate_left
              ·simp only [Act.put,s1_,s2_,s3_,i64_w,i32_w]; rfl
              refine pure_ (i:=19) (N:=some 37) (v:=?_) (a':=?_) #[true,true,true,true,true,true,true,true,true,true,true,true,true,true,true,true,true,true,true,true,false,false,false,false,false,false,false,false,false,false,false,false,false,false,false,false,false] rfl rfl (any_of HT_.out (by kernel_rfl)) (fun _ _ _ h => h) (Or.inl ⟨by rfl,?_⟩) ?_ ?_; rotate_left
              ·intro w'; go_simp; with_reducible rfl
              rotate_left
              ·simp only [Act.put,s1_,s2_,s3_,i64_w,i32_w]; rfl
              refine pure_ (i:=20) (N:=some 38) (v:=?_) (a':=?_) #[true,true,true,true,true,true,true,true,true,true,true,true,true,true,true,true,true,true,true,true,true,false,false,false,false,false,false,false,false,false,false,false,false,false,false,false,false] rfl rfl (any_of HT_.out (by kernel_rfl)) (fun _ _ _ h => h) (Or.inl ⟨by rfl,?_⟩) ?_ ?_; rotate_left
              ·intro w'; go_simp; with_reducible rfl
              rotate_left
              ·simp only [Act.put,s1_,s2_,s3_,i64_w,i32_w]; rfl
              refine take_ (i:=21) (N:=some 39) (v:=?_) (a':=?_) #[true,true,true,true,true,true,true,true,true,true,true,true,true,true,true,true,true,true,true,true,true,true,false,false,false,false,false,false,false,false,false,false,false,false,false,false,false] rfl rfl (take_ofW HT_.out HW_.out (by kernel_rfl)) (fun _ _ _ h => h) (Or.inl ⟨by rfl,?_⟩) hHeld ?_ ?_; rotate_left
              ·rintro w' ⟨s0,s1,s2,s3,s4,s5,s6,s7⟩; go_simp; with_reducible rfl
              rotate_left
              ·simp only [Act.put,s1_,s2_,s3_,i64_w,i32_w]; rfl
              refine one_ (i:=22) (N:=some 40) #[true,true,true,true,true,true,true,true,true,true,true,true,true,true,true,true,true,true,true,true,true,true,true,false,false,false,false,false,false,false,false,false,false,false,false,false,false] rfl rfl (one_of HT_.out (by kernel_rfl)) (by decide) (fun K hK => ?_); refine goes_ Try.func55 (by kernel_rfl) rfl #[.int .i64 ((rd_T89 l0 x3_1).f1),.int .i64 0,.int .i64 999] (by rfl) rfl rfl (by (try simp only [List.map_toArray,List.map_cons,List.map_nil]); first | done | rfl | (simp only [List.length_drop,List.length_take]; rfl)) ?_; with_reducible refine (spec_l01In.calls ((rd_T89 l0 x3_1).f1) 0 999 true _ A12.out).mono ?_; rintro e w' ⟨rfl,⟨nd,rfl⟩⟩; refine ⟨_,rfl,?_⟩; replace BK116d_ := Aside0.mk (blk_drewN BK116d_.out nd); replace HBd_ := Aside0.mk (pw_below_drewN HBd_.out nd); refine hK.out _ _ ⟨(blk_cell BK116d_.out 0).trans rfl,(blk_cell BK116d_.out 1).trans rfl,(blk_cell BK116d_.out 2).trans rfl,(blk_cell BK116d_.out 3).trans rfl,((HBd_.out.cell (World.block_lt_of_cell? w _ hw118_0)).trans hw118_0),((HBd_.out.cell (World.block_lt_of_cell? w _ hw118_1)).trans hw118_1),((HBd_.out.cell (World.block_lt_of_cell? w _ hw118_2)).trans hw118_2),((HBd_.out.cell (World.block_lt_of_cell? w _ hw118_3)).trans hw118_3)⟩ (fun hHeld => ?_); clear hK K; refine norm_ (a':=?_) ?_ ?_; rotate_left
              ·show Act.put _ (some 40) _ = _; simp only [Act.put,s1_,s2_,s3_,i64_w,i32_w]; rfl
              refine pure_ (i:=23) (N:=some 41) (v:=?_) (a':=?_) #[true,true,true,true,true,true,true,true,true,true,true,true,true,true,true,true,true,true,true,true,true,true,true,true,false,false,false,false,false,false,false,false,false,false,false,false,false] rfl rfl (any_of HT_.out (by kernel_rfl)) (fun _ _ _ h => h) (Or.inl ⟨by rfl,?_⟩) ?_ ?_; rotate_left
              ·intro w'; go_simp; with_reducible rfl
              rotate_left
              ·simp only [Act.put,s1_,s2_,s3_,i64_w,i32_w]; rfl
              refine pure_ (i:=24) (N:=some 42) (v:=?_) (a':=?_) #[true,true,true,true,true,true,true,true,true,true,true,true,true,true,true,true,true,true,true,true,true,true,true,true,true,false,false,false,false,false,false,false,false,false,false,false,false] rfl rfl (any_of HT_.out (by kernel_rfl)) (fun _ _ _ h => h) (Or.inl ⟨by rfl,?_⟩) ?_ ?_; rotate_left
              ·intro w'; go_simp; with_reducible rfl
              rotate_left
              ·simp only [Act.put,s1_,s2_,s3_,i64_w,i32_w]; rfl
              refine pure_ (i:=25) (N:=some 43) (v:=?_) (a':=?_) #[true,true,true,true,true,true,true,true,true,true,true,true,true,true,true,true,true,true,true,true,true,true,true,true,true,true,false,false,false,false,false,false,false,false,false,false,false] rfl rfl (any_of HT_.out (by kernel_rfl)) (fun _ _ _ h => h) (Or.inl ⟨by rfl,?_⟩) ?_ ?_; rotate_left
              ·intro w'; go_simp; with_reducible rfl
              rotate_left
              ·simp only [Act.put,s1_,s2_,s3_,i64_w,i32_w]; rfl
              refine pure_ (i:=26) (N:=some 44) (v:=?_) (a':=?_) #[true,true,true,true,true,true,true,true,true,true,true,true,true,true,true,true,true,true,true,true,true,true,true,true,true,true,true,false,false,false,false,false,false,false,false,false,false] rfl rfl (any_of HT_.out (by kernel_rfl)) (fun _ _ _ h => h) (Or.inl ⟨by rfl,?_⟩) ?_ ?_; rotate_left
              ·intro w'; go_simp; with_reducible rfl
              rotate_left
              ·simp only [Act.put,s1_,s2_,s3_,i64_w,i32_w]; rfl
              refine take_ (i:=27) (N:=some 45) (v:=?_) (a':=?_) #[true,true,true,true,true,true,true,true,true,true,true,true,true,true,true,true,true,true,true,true,true,true,true,true,true,true,true,true,false,false,false,false,false,false,false,false,false] rfl rfl (take_ofW HT_.out HW_.out (by kernel_rfl)) (fun _ _ _ h => h) (Or.inl ⟨by rfl,?_⟩) hHeld ?_ ?_; rotate_left
              ·rintro w' ⟨s0,s1,s2,s3,s4,s5,s6,s7⟩; go_simp; with_reducible rfl
              rotate_left
              ·simp only [Act.put,s1_,s2_,s3_,i64_w,i32_w]; rfl
              refine one_ (i:=28) (N:=some 46) #[true,true,true,true,true,true,true,true,true,true,true,true,true,true,true,true,true,true,true,true,true,true,true,true,true,true,true,true,true,false,false,false,false,false,false,false,false] rfl rfl (one_of HT_.out (by kernel_rfl)) (by decide) (fun K hK => ?_); refine goes_ Try.func55 (by kernel_rfl) rfl #[.int .i64 ((rd_T89 l0 x3_1).f2),.int .i64 0,.int .i64 20000] (by rfl) rfl rfl (by (try simp only [List.map_toArray,List.map_cons,List.map_nil]); first | done | rfl | (simp only [List.length_drop,List.length_take]; rfl)) ?_; with_reducible refine (spec_l01In.calls ((rd_T89 l0 x3_1).f2) 0 20000 true _ A14.out).mono ?_; rintro e w' ⟨rfl,⟨nd,rfl⟩⟩; refine ⟨_,rfl,?_⟩; replace BK116d_ := Aside0.mk (blk_drewN BK116d_.out nd); replace HBd_ := Aside0.mk (pw_below_drewN HBd_.out nd); refine hK.out _ _ ⟨(blk_cell BK116d_.out 0).trans rfl,(blk_cell BK116d_.out 1).trans rfl,(blk_cell BK116d_.out 2).trans rfl,(blk_cell BK116d_.out 3).trans rfl,((HBd_.out.cell (World.block_lt_of_cell? w _ hw118_0)).trans hw118_0),((HBd_.out.cell (World.block_lt_of_cell? w _ hw118_1)).trans hw118_1),((HBd_.out.cell (World.block_lt_of_cell? w _ hw118_2)).trans hw118_2),((HBd_.out.cell (World.block_lt_of_cell? w _ hw118_3)).trans hw118_3)⟩ (fun hHeld => ?_); clear hK K; refine norm_ (a':=?_) ?_ ?_; rotate_left
              ·show Act.put _ (some 46) _ = _; simp only [Act.put,s1_,s2_,s3_,i64_w,i32_w]; rfl
              refine pure_ (i:=29) (N:=some 47) (v:=?_) (a':=?_) #[true,true,true,true,true,true,true,true,true,true,true,true,true,true,true,true,true,true,true,true,true,true,true,true,true,true,true,true,true,true,false,false,false,false,false,false,false] rfl rfl (any_of HT_.out (by kernel_rfl)) (fun _ _ _ h => h) (Or.inl ⟨by rfl,?_⟩) ?_ ?_; rotate_left
              ·intro w'; go_simp; with_reducible rfl
              rotate_left
              ·simp only [Act.put,s1_,s2_,s3_,i64_w,i32_w]; rfl
              refine pure_ (i:=30) (N:=some 48) (v:=?_) (a':=?_) #[true,true,true,true,true,true,true,true,true,true,true,true,true,true,true,true,true,true,true,true,true,true,true,true,true,true,true,true,true,true,true,false,false,false,false,false,false] rfl rfl (any_of HT_.out (by kernel_rfl)) (fun _ _ _ h => h) (Or.inl ⟨by rfl,?_⟩) ?_ ?_; rotate_left
              ·intro w'; go_simp; with_reducible rfl
              rotate_left
              ·simp only [Act.put,s1_,s2_,s3_,i64_w,i32_w]; rfl
              refine pure_ (i:=31) (N:=some 49) (v:=?_) (a':=?_) #[true,true,true,true,true,true,true,true,true,true,true,true,true,true,true,true,true,true,true,true,true,true,true,true,true,true,true,true,true,true,true,true,false,false,false,false,false] rfl rfl (any_of HT_.out (by kernel_rfl)) (fun _ _ _ h => h) (Or.inl ⟨by rfl,?_⟩) ?_ ?_; rotate_left
              ·intro w'; go_simp; with_reducible rfl
              rotate_left
              ·simp only [Act.put,s1_,s2_,s3_,i64_w,i32_w]; rfl
              refine pure_ (i:=32) (N:=some 50) (v:=?_) (a':=?_) #[true,true,true,true,true,true,true,true,true,true,true,true,true,true,true,true,true,true,true,true,true,true,true,true,true,true,true,true,true,true,true,true,true,false,false,false,false] rfl rfl (any_of HT_.out (by kernel_rfl)) (fun _ _ _ h => h) (Or.inl ⟨by rfl,?_⟩) ?_ ?_; rotate_left
              ·intro w'; go_simp; with_reducible rfl
              rotate_left
              ·simp only [Act.put,s1_,s2_,s3_,i64_w,i32_w]; rfl
              refine take_ (i:=33) (N:=some 51) (v:=?_) (a':=?_) #[true,true,true,true,true,true,true,true,true,true,true,true,true,true,true,true,true,true,true,true,true,true,true,true,true,true,true,true,true,true,true,true,true,true,false,false,false] rfl rfl (take_ofW HT_.out HW_.out (by kernel_rfl)) (fun _ _ _ h => h) (Or.inl ⟨by rfl,?_⟩) hHeld ?_ ?_; rotate_left
              ·rintro w' ⟨s0,s1,s2,s3,s4,s5,s6,s7⟩; go_simp; with_reducible rfl
              rotate_left
              ·simp only [Act.put,s1_,s2_,s3_,i64_w,i32_w]; rfl
              refine one_ (i:=34) (N:=some 52) #[true,true,true,true,true,true,true,true,true,true,true,true,true,true,true,true,true,true,true,true,true,true,true,true,true,true,true,true,true,true,true,true,true,true,true,false,false] rfl rfl (one_of HT_.out (by kernel_rfl)) (by decide) (fun K hK => ?_); refine goes_ Try.func55 (by kernel_rfl) rfl #[.int .i64 ((rd_T89 l0 x3_1).f3),.int .i64 0,.int .i64 40] (by rfl) rfl rfl (by (try simp only [List.map_toArray,List.map_cons,List.map_nil]); first | done | rfl | (simp only [List.length_drop,List.length_take]; rfl)) ?_; with_reducible refine (spec_l01In.calls ((rd_T89 l0 x3_1).f3) 0 40 false _ A16.out).mono ?_; rintro e w' ⟨rfl,⟨nd,rfl⟩⟩; refine ⟨_,rfl,?_⟩; replace BK116d_ := Aside0.mk (blk_drewN BK116d_.out nd); replace HBd_ := Aside0.mk (pw_below_drewN HBd_.out nd); refine hK.out _ _ ⟨(blk_cell BK116d_.out 0).trans rfl,(blk_cell BK116d_.out 1).trans rfl,(blk_cell BK116d_.out 2).trans rfl,(blk_cell BK116d_.out 3).trans rfl,((HBd_.out.cell (World.block_lt_of_cell? w _ hw118_0)).trans hw118_0),((HBd_.out.cell (World.block_lt_of_cell? w _ hw118_1)).trans hw118_1),((HBd_.out.cell (World.block_lt_of_cell? w _ hw118_2)).trans hw118_2),((HBd_.out.cell (World.block_lt_of_cell? w _ hw118_3)).trans hw118_3)⟩ (fun hHeld => ?_); clear hK K; refine norm_ (a':=?_) ?_ ?_; rotate_left
              ·show Act.put _ (some 52) _ = _; simp only [Act.put,s1_,s2_,s3_,i64_w,i32_w]; rfl
              refine pure_ (i:=35) (N:=some 53) (v:=?_) (a':=?_) #[true,true,true,true,true,true,true,true,true,true,true,true,true,true,true,true,true,true,true,true,true,true,true,true,true,true,true,true,true,true,true,true,true,true,true,true,false] rfl rfl (any_of HT_.out (by kernel_rfl)) (fun _ _ _ h => h) (Or.inl ⟨by rfl,?_⟩) ?_ ?_; rotate_left
              ·intro w'; go_simp; with_reducible rfl
              rotate_left
              ·simp only [Act.put,s1_,s2_,s3_,i64_w,i32_w]; rfl
              refine pure_ (i:=36) (N:=some 54) (v:=?_) (a':=?_) #[true,true,true,true,true,true,true,true,true,true,true,true,true,true,true,true,true,true,true,true,true,true,true,true,true,true,true,true,true,true,true,true,true,true,true,true,true] rfl rfl (any_of HT_.out (by kernel_rfl)) (fun _ _ _ h => h) (Or.inl ⟨by rfl,?_⟩) ?_ ?_; rotate_left
              ·intro w'; go_simp; with_reducible rfl
              rotate_left
              ·simp only [Act.put,s1_,s2_,s3_,i64_w,i32_w]; rfl
              refine done_ (done_of HT_.out (by kernel_rfl)) ?_
              try go_wp2
              go_ret; exact ⟨by first | rfl | (simp [errW_none,errW_some] <;> rfl) | (simp only [← hji8]; first | rfl | (simp [errW_none,errW_some] <;> rfl)) | (simp [*,errW_none,errW_some] <;> rfl),by repeat (first | (with_reducible first | exact HB.out | apply below_alloc | apply pw_below_drewN | apply below_drew1 | refine below_set ?_ GE116.out) | exact HB.out)⟩
            ·replace c15 := Bool.eq_false_iff.mpr c15; subst c15
             have H1 : (some false) = some r := by rw [if_neg (show ¬ (false = true) by decide)] at H; exact H
             clear H; have H := H1; clear H1; obtain rfl := Option.some.inj H; have p115 : 0 ≤ (x3_1 : Int) := of_decide_eq_true (by first | (with_reducible assumption) | assumption); have q115 : x3_1 < (l0.length : Int) := of_decide_eq_true (by first | (with_reducible assumption) | assumption); obtain ⟨ad115,e115,hx115_0,hx115_1,hx115_2,hx115_3⟩ := at_T89 HR0.out x3_1 p115 q115
             cases e115
             replace hx115_0 := (HB.out.cell (World.block_lt_of_cell? w _ hx115_0)).trans hx115_0; replace hx115_1 := (HB.out.cell (World.block_lt_of_cell? w _ hx115_1)).trans hx115_1; replace hx115_2 := (HB.out.cell (World.block_lt_of_cell? w _ hx115_2)).trans hx115_2; replace hx115_3 := (HB.out.cell (World.block_lt_of_cell? w _ hx115_3)).trans hx115_3; replace p115 := eq_true p115; replace q115 := eq_true q115
             try go_wp2_with (first | ((with_reducible refine gate_dst (N:=4) rfl ?_); refine box_event ?hg (N:=4) ?hd (cs:=#[.string (⟨#[]⟩ : ByteArray),.int .i64 0,.int .i64 0,.int .i64 0]) (t:=89) ?hr ?_; (case hd => rfl); (case hg => rfl); (case hr => first | (go_simp; done) | (go_simp; rfl)); intro gb116 hg w26 hbox hb; have n0_ := Aside0.mk (below_step (by repeat (first | (with_reducible first | exact HB.out | apply below_alloc | apply pw_below_drewN | apply below_drew1) | exact HB.out)) hb); have n1_ := Aside0.mk (hbox); have n2_ := Aside0.mk ((by rw [hg]; exact (below_size (by repeat (first | (with_reducible first | exact HB.out | apply below_alloc | apply pw_below_drewN | apply below_drew1) | exact HB.out))) : w.heap.size ≤ gb116)); have n3_ := Aside0.mk ((by rw [hg]; exact (below_size (by repeat (first | (with_reducible first | exact HB.out | apply below_alloc | apply pw_below_drewN | apply below_drew1) | exact HB.out))) : w.heap.size ≤ gb116)); clear HB; have HB := n0_; have BK116 := n1_; have GW116 := n2_; have GE116 := n3_; clear n0_ n1_ n2_ n3_; clear hb hbox hg; have hcz27_0 : w26.cell? ⟨gb116,0,none⟩ = some (.string (⟨#[]⟩ : ByteArray)) := (blk_cell BK116.out 0).trans rfl; have hcz27_1 : w26.cell? ⟨gb116,1,none⟩ = some (.int .i64 0) := (blk_cell BK116.out 1).trans rfl; have hcz27_2 : w26.cell? ⟨gb116,2,none⟩ = some (.int .i64 0) := (blk_cell BK116.out 2).trans rfl; have hcz27_3 : w26.cell? ⟨gb116,3,none⟩ = some (.int .i64 0) := (blk_cell BK116.out 3).trans rfl; have hfz27_0 := blk_frozen BK116.out 0; have hfz27_1 := blk_frozen BK116.out 1; have hfz27_2 := blk_frozen BK116.out 2; have hfz27_3 := blk_frozen BK116.out 3))
             have n0_ : Aside0 (((((w26.setCell ⟨gb116,0,none⟩ (.string ((rd_T89 l0 x3_1).f0))).setCell ⟨gb116,1,none⟩ (.int .i64 ((rd_T89 l0 x3_1).f1))).setCell ⟨gb116,2,none⟩ (.int .i64 ((rd_T89 l0 x3_1).f2))).setCell ⟨gb116,3,none⟩ (.int .i64 ((rd_T89 l0 x3_1).f3))).heap[gb116]? = some (.cells #[.string ((rd_T89 l0 x3_1).f0),.int .i64 ((rd_T89 l0 x3_1).f1),.int .i64 ((rd_T89 l0 x3_1).f2),.int .i64 ((rd_T89 l0 x3_1).f3)] 89 (0,0))) := ⟨by (with_reducible repeat (first | refine blk_drewN ?_ _ | refine blk_drew ?_ | refine blk_alloc ?_ _)); refine blk_put (cs:=#[.string ((rd_T89 l0 x3_1).f0),.int .i64 ((rd_T89 l0 x3_1).f1),.int .i64 ((rd_T89 l0 x3_1).f2),.int .i64 0]) ?_ 3 _ rfl; (with_reducible repeat (first | refine blk_drewN ?_ _ | refine blk_drew ?_ | refine blk_alloc ?_ _)); refine blk_put (cs:=#[.string ((rd_T89 l0 x3_1).f0),.int .i64 ((rd_T89 l0 x3_1).f1),.int .i64 0,.int .i64 0]) ?_ 2 _ rfl; (with_reducible repeat (first | refine blk_drewN ?_ _ | refine blk_drew ?_ | refine blk_alloc ?_ _)); refine blk_put (cs:=#[.string ((rd_T89 l0 x3_1).f0),.int .i64 0,.int .i64 0,.int .i64 0]) ?_ 1 _ rfl; (with_reducible repeat (first | refine blk_drewN ?_ _ | refine blk_drew ?_ | refine blk_alloc ?_ _)); refine blk_put (cs:=#[.string (⟨#[]⟩ : ByteArray),.int .i64 0,.int .i64 0,.int .i64 0]) ?_ 0 _ rfl; (with_reducible repeat (first | refine blk_drewN ?_ _ | refine blk_drew ?_ | refine blk_alloc ?_ _)); exact BK116.out⟩; have n1_ : Aside0 (Below w.heap.size w ((((w26.setCell ⟨gb116,0,none⟩ (.string ((rd_T89 l0 x3_1).f0))).setCell ⟨gb116,1,none⟩ (.int .i64 ((rd_T89 l0 x3_1).f1))).setCell ⟨gb116,2,none⟩ (.int .i64 ((rd_T89 l0 x3_1).f2))).setCell ⟨gb116,3,none⟩ (.int .i64 ((rd_T89 l0 x3_1).f3)))) := ⟨by repeat (first | (with_reducible first | exact HB.out | apply below_alloc | apply pw_below_drewN | apply below_drew1 | refine below_set ?_ GE116.out) | exact HB.out)⟩
             (try clear BK116)
             (try clear HB)
             generalize ((((w26.setCell ⟨gb116,0,none⟩ (.string ((rd_T89 l0 x3_1).f0))).setCell ⟨gb116,1,none⟩ (.int .i64 ((rd_T89 l0 x3_1).f1))).setCell ⟨gb116,2,none⟩ (.int .i64 ((rd_T89 l0 x3_1).f2))).setCell ⟨gb116,3,none⟩ (.int .i64 ((rd_T89 l0 x3_1).f3))) = w28 at n0_ n1_ ⊢; have BK116 := n0_; have HB := n1_; clear n0_ n1_; have n0_ := Aside0.mk (blk_drew BK116.out); have n1_ := Aside0.mk (below_drew1 HB.out); clear BK116; clear HB; have BK116 := n0_; have HB := n1_; clear n0_ n1_; have p118 : 0 ≤ ((ji8) : Int) := of_decide_eq_true (by first | (with_reducible assumption) | assumption); have q118 : (ji8) < (l0.length : Int) := of_decide_eq_true (by first | (with_reducible assumption) | assumption); obtain ⟨ad118,e118,hx118_0,hx118_1,hx118_2,hx118_3⟩ := at_T89 HR0.out (ji8) p118 q118; have hw118_3 := hx118_3; have hw118_2 := hx118_2; have hw118_1 := hx118_1; have hw118_0 := hx118_0; obtain rfl : ad115 = ad118 := (by injection e118); replace hx118_0 := (HB.out.cell (World.block_lt_of_cell? w _ hx118_0)).trans hx118_0; replace hx118_1 := (HB.out.cell (World.block_lt_of_cell? w _ hx118_1)).trans hx118_1; replace hx118_2 := (HB.out.cell (World.block_lt_of_cell? w _ hx118_2)).trans hx118_2; replace hx118_3 := (HB.out.cell (World.block_lt_of_cell? w _ hx118_3)).trans hx118_3; replace p118 := eq_true p118; replace q118 := eq_true q118; refine start_ (n:=37) (S:=fun w' => w'.cell? ⟨gb116,0,none⟩ = some (.string ((rd_T89 l0 x3_1).f0)) ∧ w'.cell? ⟨gb116,1,none⟩ = some (.int .i64 ((rd_T89 l0 x3_1).f1)) ∧ w'.cell? ⟨gb116,2,none⟩ = some (.int .i64 ((rd_T89 l0 x3_1).f2)) ∧ w'.cell? ⟨gb116,3,none⟩ = some (.int .i64 ((rd_T89 l0 x3_1).f3)) ∧ w'.cell? (ad115.add (((ji8)).toNat * 4)) = some (.string ((rd_T89 l0 (ji8)).f0)) ∧ w'.cell? ⟨(ad115.add (((ji8)).toNat * 4)).block,(ad115.add (((ji8)).toNat * 4)).off + 1,none⟩ = some (.int .i64 ((rd_T89 l0 (ji8)).f1)) ∧ w'.cell? ⟨(ad115.add (((ji8)).toNat * 4)).block,(ad115.add (((ji8)).toNat * 4)).off + 2,none⟩ = some (.int .i64 ((rd_T89 l0 (ji8)).f2)) ∧ w'.cell? ⟨(ad115.add (((ji8)).toNat * 4)).block,(ad115.add (((ji8)).toNat * 4)).off + 3,none⟩ = some (.int .i64 ((rd_T89 l0 (ji8)).f3))) (ds:=[]) #[false,false,false,false,false,false,false,false,false,false,false,false,false,false,false,false,false,false,false,false,false,false,false,false,false,false,false,false,false,false,false,false,false,false,false,false,false] (by kernel_rfl) rfl rfl ⟨(blk_cell BK116.out 0).trans rfl,(blk_cell BK116.out 1).trans rfl,(blk_cell BK116.out 2).trans rfl,(blk_cell BK116.out 3).trans rfl,((HB.out.cell (World.block_lt_of_cell? w _ hw118_0)).trans hw118_0),((HB.out.cell (World.block_lt_of_cell? w _ hw118_1)).trans hw118_1),((HB.out.cell (World.block_lt_of_cell? w _ hw118_2)).trans hw118_2),((HB.out.cell (World.block_lt_of_cell? w _ hw118_3)).trans hw118_3)⟩ (fun hHeld => ?_); refine with_tabW spec_DirOk.tab7 spec_DirOk.bits7 (fun HT_ HW_ => ?_); generalize w28.drew = w29 at BK116 HB hx118_0 hx118_1 hx118_2 hx118_3 hHeld ⊢; refine pure_ (i:=0) (N:=some 18) (v:=?_) (a':=?_) #[true,false,false,false,false,false,false,false,false,false,false,false,false,false,false,false,false,false,false,false,false,false,false,false,false,false,false,false,false,false,false,false,false,false,false,false,false] rfl rfl (any_of HT_.out (by kernel_rfl)) (fun _ _ _ h => h) (Or.inl ⟨by rfl,?_⟩) ?_ ?_; rotate_left
             ·intro w'; go_simp; with_reducible rfl
             rotate_left
             ·simp only [Act.put,s1_,s2_,s3_,i64_w,i32_w]; rfl
             refine take_ (i:=1) (N:=some 19) (v:=?_) (a':=?_) #[true,true,false,false,false,false,false,false,false,false,false,false,false,false,false,false,false,false,false,false,false,false,false,false,false,false,false,false,false,false,false,false,false,false,false,false,false] rfl rfl (take_ofW HT_.out HW_.out (by kernel_rfl)) (fun _ _ _ h => h) (Or.inl ⟨by rfl,?_⟩) hHeld ?_ ?_; rotate_left
             ·rintro w' ⟨s0,s1,s2,s3,s4,s5,s6,s7⟩; go_simp; with_reducible rfl
             rotate_left
             ·simp only [Act.put,s1_,s2_,s3_,i64_w,i32_w]; rfl
             refine one_ (i:=2) (N:=some 20) #[true,true,true,false,false,false,false,false,false,false,false,false,false,false,false,false,false,false,false,false,false,false,false,false,false,false,false,false,false,false,false,false,false,false,false,false,false] rfl rfl (one_of HT_.out (by kernel_rfl)) (by decide) (fun K hK => ?_); refine goes_ Try.func85 (by kernel_rfl) rfl #[.string ((rd_T89 l0 x3_1).f0)] (by rfl) rfl rfl (by (try simp only [List.map_toArray,List.map_cons,List.map_nil]); first | done | rfl | (simp only [List.length_drop,List.length_take]; rfl)) ?_; with_reducible refine (spec_l05Key.calls ((rd_T89 l0 x3_1).f0) true _ A5.out).mono ?_; rintro e w' ⟨rfl,⟨nd,rfl⟩⟩; refine ⟨_,rfl,?_⟩; have BK116d_ := Aside0.mk (blk_drewN BK116.out nd); have HBd_ := Aside0.mk (pw_below_drewN HB.out nd); refine hK.out _ _ ⟨(blk_cell BK116d_.out 0).trans rfl,(blk_cell BK116d_.out 1).trans rfl,(blk_cell BK116d_.out 2).trans rfl,(blk_cell BK116d_.out 3).trans rfl,((HBd_.out.cell (World.block_lt_of_cell? w _ hw118_0)).trans hw118_0),((HBd_.out.cell (World.block_lt_of_cell? w _ hw118_1)).trans hw118_1),((HBd_.out.cell (World.block_lt_of_cell? w _ hw118_2)).trans hw118_2),((HBd_.out.cell (World.block_lt_of_cell? w _ hw118_3)).trans hw118_3)⟩ (fun hHeld => ?_); clear hK K; refine norm_ (a':=?_) ?_ ?_; rotate_left
             ·show Act.put _ (some 20) _ = _; simp only [Act.put,s1_,s2_,s3_,i64_w,i32_w]; rfl
             refine pure_ (i:=3) (N:=some 21) (v:=?_) (a':=?_) #[true,true,true,true,false,false,false,false,false,false,false,false,false,false,false,false,false,false,false,false,false,false,false,false,false,false,false,false,false,false,false,false,false,false,false,false,false] rfl rfl (any_of HT_.out (by kernel_rfl)) (fun _ _ _ h => h) (Or.inl ⟨by rfl,?_⟩) ?_ ?_; rotate_left
             ·intro w'; go_simp; with_reducible rfl
             rotate_left
             ·simp only [Act.put,s1_,s2_,s3_,i64_w,i32_w]; rfl
             refine pure_ (i:=4) (N:=some 22) (v:=?_) (a':=?_) #[true,true,true,true,true,false,false,false,false,false,false,false,false,false,false,false,false,false,false,false,false,false,false,false,false,false,false,false,false,false,false,false,false,false,false,false,false] rfl rfl (any_of HT_.out (by kernel_rfl)) (fun _ _ _ h => h) (Or.inl ⟨by rfl,?_⟩) ?_ ?_; rotate_left
             ·intro w'; go_simp; with_reducible rfl
             rotate_left
             ·simp only [Act.put,s1_,s2_,s3_,i64_w,i32_w]; rfl
             refine pure_ (i:=5) (N:=some 23) (v:=?_) (a':=?_) #[true,true,true,true,true,true,false,false,false,false,false,false,false,false,false,false,false,false,false,false,false,false,false,false,false,false,false,false,false,false,false,false,false,false,false,false,false] rfl rfl (any_of HT_.out (by kernel_rfl)) (fun _ _ _ h => h) (Or.inl ⟨by rfl,?_⟩) ?_ ?_; rotate_left
             ·intro w'; go_simp; with_reducible rfl
             rotate_left
             ·simp only [Act.put,s1_,s2_,s3_,i64_w,i32_w]; rfl
             refine pure_ (i:=6) (N:=some 24) (v:=?_) (a':=?_) #[true,true,true,true,true,true,true,false,false,false,false,false,false,false,false,false,false,false,false,false,false,false,false,false,false,false,false,false,false,false,false,false,false,false,false,false,false] rfl rfl (any_of HT_.out (by kernel_rfl)) (fun _ _ _ h => h) (Or.inl ⟨by rfl,?_⟩) ?_ ?_; rotate_left
             ·intro w'; go_simp; with_reducible rfl
             rotate_left
             ·simp only [Act.put,s1_,s2_,s3_,i64_w,i32_w]; rfl
             refine pure_ (i:=7) (N:=some 25) (v:=?_) (a':=?_) #[true,true,true,true,true,true,true,true,false,false,false,false,false,false,false,false,false,false,false,false,false,false,false,false,false,false,false,false,false,false,false,false,false,false,false,false,false] rfl rfl (any_of HT_.out (by kernel_rfl)) (fun _ _ _ h => h) (Or.inl ⟨by rfl,?_⟩) ?_ ?_; rotate_left
             ·intro w'; go_simp; with_reducible rfl
             rotate_left
             ·simp only [Act.put,s1_,s2_,s3_,i64_w,i32_w]; rfl
             refine pure_ (i:=8) (N:=some 26) (v:=?_) (a':=?_) #[true,true,true,true,true,true,true,true,true,false,false,false,false,false,false,false,false,false,false,false,false,false,false,false,false,false,false,false,false,false,false,false,false,false,false,false,false] rfl rfl (any_of HT_.out (by kernel_rfl)) (fun _ _ _ h => h) (Or.inl ⟨by rfl,?_⟩) ?_ ?_; rotate_left
             ·intro w'; go_simp; with_reducible rfl
             rotate_left
             ·simp only [Act.put,s1_,s2_,s3_,i64_w,i32_w]; rfl
             refine pure_ (i:=9) (N:=some 27) (v:=?_) (a':=?_) #[true,true,true,true,true,true,true,true,true,true,false,false,false,false,false,false,false,false,false,false,false,false,false,false,false,false,false,false,false,false,false,false,false,false,false,false,false] rfl rfl (any_of HT_.out (by kernel_rfl)) (fun _ _ _ h => h) (Or.inl ⟨by rfl,?_⟩) ?_ ?_; rotate_left
             ·intro w'; go_simp; with_reducible rfl
             rotate_left
             ·simp only [Act.put,s1_,s2_,s3_,i64_w,i32_w]; rfl
             refine pure_ (i:=10) (N:=some 28) (v:=?_) (a':=?_) #[true,true,true,true,true,true,true,true,true,true,true,false,false,false,false,false,false,false,false,false,false,false,false,false,false,false,false,false,false,false,false,false,false,false,false,false,false] rfl rfl (any_of HT_.out (by kernel_rfl)) (fun _ _ _ h => h) (Or.inl ⟨by rfl,?_⟩) ?_ ?_; rotate_left
             ·intro w'; go_simp; with_reducible rfl
             rotate_left
             ·simp only [Act.put,s1_,s2_,s3_,i64_w,i32_w]; rfl
             refine pure_ (i:=11) (N:=some 29) (v:=?_) (a':=?_) #[true,true,true,true,true,true,true,true,true,true,true,true,false,false,false,false,false,false,false,false,false,false,false,false,false,false,false,false,false,false,false,false,false,false,false,false,false] rfl rfl (any_of HT_.out (by kernel_rfl)) (fun _ _ _ h => h) (Or.inl ⟨by rfl,?_⟩) ?_ ?_; rotate_left
             ·intro w'; go_simp; with_reducible rfl
             rotate_left
             ·simp only [Act.put,s1_,s2_,s3_,i64_w,i32_w]; rfl
             refine pure_ (i:=12) (N:=some 30) (v:=?_) (a':=?_) #[true,true,true,true,true,true,true,true,true,true,true,true,true,false,false,false,false,false,false,false,false,false,false,false,false,false,false,false,false,false,false,false,false,false,false,false,false] rfl rfl (any_of HT_.out (by kernel_rfl)) (fun _ _ _ h => h) (Or.inl ⟨by rfl,?_⟩) ?_ ?_; rotate_left
             ·intro w'; go_simp; with_reducible rfl
             rotate_left
             ·simp only [Act.put,s1_,s2_,s3_,i64_w,i32_w]; rfl
             refine pure_ (i:=14) (N:=some 32) (v:=?_) (a':=?_) #[true,true,true,true,true,true,true,true,true,true,true,true,true,false,true,false,false,false,false,false,false,false,false,false,false,false,false,false,false,false,false,false,false,false,false,false,false] rfl rfl (any_of HT_.out (by kernel_rfl)) (fun _ _ _ h => h) (Or.inl ⟨by rfl,?_⟩) ?_ ?_; rotate_left
             ·intro w'; go_simp; with_reducible rfl
             rotate_left
             ·simp only [Act.put,s1_,s2_,s3_,i64_w,i32_w]; rfl
             refine take_ (i:=13) (N:=some 31) (v:=?_) (a':=?_) #[true,true,true,true,true,true,true,true,true,true,true,true,true,true,true,false,false,false,false,false,false,false,false,false,false,false,false,false,false,false,false,false,false,false,false,false,false] rfl rfl (take_ofW HT_.out HW_.out (by kernel_rfl)) (fun _ _ _ h => h) (Or.inl ⟨by rfl,?_⟩) hHeld ?_ ?_; rotate_left
             ·rintro w' ⟨s0,s1,s2,s3,s4,s5,s6,s7⟩; go_simp; with_reducible rfl
             rotate_left
             ·simp only [Act.put,s1_,s2_,s3_,i64_w,i32_w]; rfl
             refine take_ (i:=15) (N:=some 33) (v:=?_) (a':=?_) #[true,true,true,true,true,true,true,true,true,true,true,true,true,true,true,true,false,false,false,false,false,false,false,false,false,false,false,false,false,false,false,false,false,false,false,false,false] rfl rfl (take_ofW HT_.out HW_.out (by kernel_rfl)) (fun _ _ _ h => h) (Or.inl ⟨by rfl,?_⟩) hHeld ?_ ?_; rotate_left
             ·rintro w' ⟨s0,s1,s2,s3,s4,s5,s6,s7⟩; go_simp; with_reducible rfl
             rotate_left
             ·simp only [Act.put,s1_,s2_,s3_,i64_w,i32_w]; rfl
             refine pure_ (i:=16) (N:=some 34) (v:=?_) (a':=?_) #[true,true,true,true,true,true,true,true,true,true,true,true,true,true,true,true,true,false,false,false,false,false,false,false,false,false,false,false,false,false,false,false,false,false,false,false,false] rfl rfl (any_of HT_.out (by kernel_rfl)) (fun _ _ _ h => h) (Or.inl ⟨by rfl,?_⟩) ?_ ?_; rotate_left
             ·intro w'; go_simp; with_reducible rfl
             rotate_left
             ·simp only [Act.put,s1_,s2_,s3_,i64_w,i32_w]; rfl
             refine pure_ (i:=17) (N:=some 35) (v:=?_) (a':=?_) #[true,true,true,true,true,true,true,true,true,true,true,true,true,true,true,true,true,true,false,false,false,false,false,false,false,false,false,false,false,false,false,false,false,false,false,false,false] rfl rfl (any_of HT_.out (by kernel_rfl)) (fun _ _ _ h => h) (Or.inl ⟨by rfl,?_⟩) ?_ ?_; rotate_left
             ·intro w'; go_simp; with_reducible rfl
             rotate_left
             ·simp only [Act.put,s1_,s2_,s3_,i64_w,i32_w]; rfl
             refine pure_ (i:=18) (N:=some 36) (v:=?_) (a':=?_) #[true,true,true,true,true,true,true,true,true,true,true,true,true,true,true,true,true,true,true,false,false,false,false,false,false,false,false,false,false,false,false,false,false,false,false,false,false] rfl rfl (any_of HT_.out (by kernel_rfl)) (fun _ _ _ h => h) (Or.inl ⟨by rfl,?_⟩) ?_ ?_; rotate_left
             ·intro w'; go_simp; with_reducible rfl
             rotate_left
             ·simp only [Act.put,s1_,s2_,s3_,i64_w,i32_w]; rfl
             refine pure_ (i:=19) (N:=some 37) (v:=?_) (a':=?_) #[true,true,true,true,true,true,true,true,true,true,true,true,true,true,true,true,true,true,true,true,false,false,false,false,false,false,false,false,false,false,false,false,false,false,false,false,false] rfl rfl (any_of HT_.out (by kernel_rfl)) (fun _ _ _ h => h) (Or.inl ⟨by rfl,?_⟩) ?_ ?_; rotate_left
             ·intro w'; go_simp; with_reducible rfl
             rotate_left
             ·simp only [Act.put,s1_,s2_,s3_,i64_w,i32_w]; rfl
             refine pure_ (i:=20) (N:=some 38) (v:=?_) (a':=?_) #[true,true,true,true,true,true,true,true,true,true,true,true,true,true,true,true,true,true,true,true,true,false,false,false,false,false,false,false,false,false,false,false,false,false,false,false,false] rfl rfl (any_of HT_.out (by kernel_rfl)) (fun _ _ _ h => h) (Or.inl ⟨by rfl,?_⟩) ?_ ?_; rotate_left
             ·intro w'; go_simp; with_reducible rfl
             rotate_left
             ·simp only [Act.put,s1_,s2_,s3_,i64_w,i32_w]; rfl
             refine take_ (i:=21) (N:=some 39) (v:=?_) (a':=?_) #[true,true,true,true,true,true,true,true,true,true,true,true,true,true,true,true,true,true,true,true,true,true,false,false,false,false,false,false,false,false,false,false,false,false,false,false,false] rfl rfl (take_ofW HT_.out HW_.out (by kernel_rfl)) (fun _ _ _ h => h) (Or.inl ⟨by rfl,?_⟩) hHeld ?_ ?_; rotate_left
             ·rintro w' ⟨s0,s1,s2,s3,s4,s5,s6,s7⟩; go_simp; with_reducible rfl
             rotate_left
             ·simp only [Act.put,s1_,s2_,s3_,i64_w,i32_w]; rfl
             refine one_ (i:=22) (N:=some 40) #[true,true,true,true,true,true,true,true,true,true,true,true,true,true,true,true,true,true,true,true,true,true,true,false,false,false,false,false,false,false,false,false,false,false,false,false,false] rfl rfl (one_of HT_.out (by kernel_rfl)) (by decide) (fun K hK => ?_); refine goes_ Try.func55 (by kernel_rfl) rfl #[.int .i64 ((rd_T89 l0 x3_1).f1),.int .i64 0,.int .i64 999] (by rfl) rfl rfl (by (try simp only [List.map_toArray,List.map_cons,List.map_nil]); first | done | rfl | (simp only [List.length_drop,List.length_take]; rfl)) ?_; with_reducible refine (spec_l01In.calls ((rd_T89 l0 x3_1).f1) 0 999 true _ A12.out).mono ?_; rintro e w' ⟨rfl,⟨nd,rfl⟩⟩; refine ⟨_,rfl,?_⟩; replace BK116d_ := Aside0.mk (blk_drewN BK116d_.out nd); replace HBd_ := Aside0.mk (pw_below_drewN HBd_.out nd); refine hK.out _ _ ⟨(blk_cell BK116d_.out 0).trans rfl,(blk_cell BK116d_.out 1).trans rfl,(blk_cell BK116d_.out 2).trans rfl,(blk_cell BK116d_.out 3).trans rfl,((HBd_.out.cell (World.block_lt_of_cell? w _ hw118_0)).trans hw118_0),((HBd_.out.cell (World.block_lt_of_cell? w _ hw118_1)).trans hw118_1),((HBd_.out.cell (World.block_lt_of_cell? w _ hw118_2)).trans hw118_2),((HBd_.out.cell (World.block_lt_of_cell? w _ hw118_3)).trans hw118_3)⟩ (fun hHeld => ?_); clear hK K; refine norm_ (a':=?_) ?_ ?_; rotate_left
             ·show Act.put _ (some 40) _ = _; simp only [Act.put,s1_,s2_,s3_,i64_w,i32_w]; rfl
             refine pure_ (i:=23) (N:=some 41) (v:=?_) (a':=?_) #[true,true,true,true,true,true,true,true,true,true,true,true,true,true,true,true,true,true,true,true,true,true,true,true,false,false,false,false,false,false,false,false,false,false,false,false,false] rfl rfl (any_of HT_.out (by kernel_rfl)) (fun _ _ _ h => h) (Or.inl ⟨by rfl,?_⟩) ?_ ?_; rotate_left
             ·intro w'; go_simp; with_reducible rfl
             rotate_left
             ·simp only [Act.put,s1_,s2_,s3_,i64_w,i32_w]; rfl
             refine pure_ (i:=24) (N:=some 42) (v:=?_) (a':=?_) #[true,true,true,true,true,true,true,true,true,true,true,true,true,true,true,true,true,true,true,true,true,true,true,true,true,false,false,false,false,false,false,false,false,false,false,false,false] rfl rfl (any_of HT_.out (by kernel_rfl)) (fun _ _ _ h => h) (Or.inl ⟨by rfl,?_⟩) ?_ ?_; rotate_left
             ·intro w'; go_simp; with_reducible rfl
             rotate_left
             ·simp only [Act.put,s1_,s2_,s3_,i64_w,i32_w]; rfl
             refine pure_ (i:=25) (N:=some 43) (v:=?_) (a':=?_) #[true,true,true,true,true,true,true,true,true,true,true,true,true,true,true,true,true,true,true,true,true,true,true,true,true,true,false,false,false,false,false,false,false,false,false,false,false] rfl rfl (any_of HT_.out (by kernel_rfl)) (fun _ _ _ h => h) (Or.inl ⟨by rfl,?_⟩) ?_ ?_; rotate_left
             ·intro w'; go_simp; with_reducible rfl
             rotate_left
             ·simp only [Act.put,s1_,s2_,s3_,i64_w,i32_w]; rfl
             refine pure_ (i:=26) (N:=some 44) (v:=?_) (a':=?_) #[true,true,true,true,true,true,true,true,true,true,true,true,true,true,true,true,true,true,true,true,true,true,true,true,true,true,true,false,false,false,false,false,false,false,false,false,false] rfl rfl (any_of HT_.out (by kernel_rfl)) (fun _ _ _ h => h) (Or.inl ⟨by rfl,?_⟩) ?_ ?_; rotate_left
             ·intro w'; go_simp; with_reducible rfl
             rotate_left
             ·simp only [Act.put,s1_,s2_,s3_,i64_w,i32_w]; rfl
             refine take_ (i:=27) (N:=some 45) (v:=?_) (a':=?_) #[true,true,true,true,true,true,true,true,true,true,true,true,true,true,true,true,true,true,true,true,true,true,true,true,true,true,true,true,false,false,false,false,false,false,false,false,false] rfl rfl (take_ofW HT_.out HW_.out (by kernel_rfl)) (fun _ _ _ h => h) (Or.inl ⟨by rfl,?_⟩) hHeld ?_ ?_; rotate_left
             ·rintro w' ⟨s0,s1,s2,s3,s4,s5,s6,s7⟩; go_simp; with_reducible rfl
             rotate_left
             ·simp only [Act.put,s1_,s2_,s3_,i64_w,i32_w]; rfl
             refine one_ (i:=28) (N:=some 46) #[true,true,true,true,true,true,true,true,true,true,true,true,true,true,true,true,true,true,true,true,true,true,true,true,true,true,true,true,true,false,false,false,false,false,false,false,false] rfl rfl (one_of HT_.out (by kernel_rfl)) (by decide) (fun K hK => ?_); refine goes_ Try.func55 (by kernel_rfl) rfl #[.int .i64 ((rd_T89 l0 x3_1).f2),.int .i64 0,.int .i64 20000] (by rfl) rfl rfl (by (try simp only [List.map_toArray,List.map_cons,List.map_nil]); first | done | rfl | (simp only [List.length_drop,List.length_take]; rfl)) ?_; with_reducible refine (spec_l01In.calls ((rd_T89 l0 x3_1).f2) 0 20000 false _ A14.out).mono ?_; rintro e w' ⟨rfl,⟨nd,rfl⟩⟩; refine ⟨_,rfl,?_⟩; replace BK116d_ := Aside0.mk (blk_drewN BK116d_.out nd); replace HBd_ := Aside0.mk (pw_below_drewN HBd_.out nd); refine hK.out _ _ ⟨(blk_cell BK116d_.out 0).trans rfl,(blk_cell BK116d_.out 1).trans rfl,(blk_cell BK116d_.out 2).trans rfl,(blk_cell BK116d_.out 3).trans rfl,((HBd_.out.cell (World.block_lt_of_cell? w _ hw118_0)).trans hw118_0),((HBd_.out.cell (World.block_lt_of_cell? w _ hw118_1)).trans hw118_1),((HBd_.out.cell (World.block_lt_of_cell? w _ hw118_2)).trans hw118_2),((HBd_.out.cell (World.block_lt_of_cell? w _ hw118_3)).trans hw118_3)⟩ (fun hHeld => ?_); clear hK K; refine norm_ (a':=?_) ?_ ?_; rotate_left
             ·show Act.put _ (some 46) _ = _; simp only [Act.put,s1_,s2_,s3_,i64_w,i32_w]; rfl
             refine pure_ (i:=29) (N:=some 47) (v:=?_) (a':=?_) #[true,true,true,true,true,true,true,true,true,true,true,true,true,true,true,true,true,true,true,true,true,true,true,true,true,true,true,true,true,true,false,false,false,false,false,false,false] rfl rfl (any_of HT_.out (by kernel_rfl)) (fun _ _ _ h => h) (Or.inl ⟨by rfl,?_⟩) ?_ ?_; rotate_left
             ·intro w'; go_simp; with_reducible rfl
             rotate_left
             ·simp only [Act.put,s1_,s2_,s3_,i64_w,i32_w]; rfl
             refine pure_ (i:=30) (N:=some 48) (v:=?_) (a':=?_) #[true,true,true,true,true,true,true,true,true,true,true,true,true,true,true,true,true,true,true,true,true,true,true,true,true,true,true,true,true,true,true,false,false,false,false,false,false] rfl rfl (any_of HT_.out (by kernel_rfl)) (fun _ _ _ h => h) (Or.inl ⟨by rfl,?_⟩) ?_ ?_; rotate_left
             ·intro w'; go_simp; with_reducible rfl
             rotate_left
             ·simp only [Act.put,s1_,s2_,s3_,i64_w,i32_w]; rfl
             refine pure_ (i:=31) (N:=some 49) (v:=?_) (a':=?_) #[true,true,true,true,true,true,true,true,true,true,true,true,true,true,true,true,true,true,true,true,true,true,true,true,true,true,true,true,true,true,true,true,false,false,false,false,false] rfl rfl (any_of HT_.out (by kernel_rfl)) (fun _ _ _ h => h) (Or.inl ⟨by rfl,?_⟩) ?_ ?_; rotate_left
             ·intro w'; go_simp; with_reducible rfl
             rotate_left
             ·simp only [Act.put,s1_,s2_,s3_,i64_w,i32_w]; rfl
             refine pure_ (i:=32) (N:=some 50) (v:=undef) (a':=?_) #[true,true,true,true,true,true,true,true,true,true,true,true,true,true,true,true,true,true,true,true,true,true,true,true,true,true,true,true,true,true,true,true,true,false,false,false,false] rfl rfl (any_of HT_.out (by kernel_rfl)) (fun _ _ _ h => h) (Or.inr ⟨by rfl,rfl⟩) ?_ ?_; rotate_left
             ·simp only [Act.put,s1_,s2_,s3_,i64_w,i32_w]; rfl
             refine pure_ (i:=33) (N:=some 51) (v:=undef) (a':=?_) #[true,true,true,true,true,true,true,true,true,true,true,true,true,true,true,true,true,true,true,true,true,true,true,true,true,true,true,true,true,true,true,true,true,true,false,false,false] rfl rfl (any_of HT_.out (by kernel_rfl)) (fun _ _ _ h => h) (Or.inr ⟨by rfl,rfl⟩) ?_ ?_; rotate_left
             ·simp only [Act.put,s1_,s2_,s3_,i64_w,i32_w]; rfl
             refine pure_ (i:=34) (N:=some 52) (v:=undef) (a':=?_) #[true,true,true,true,true,true,true,true,true,true,true,true,true,true,true,true,true,true,true,true,true,true,true,true,true,true,true,true,true,true,true,true,true,true,true,false,false] rfl rfl (any_of HT_.out (by kernel_rfl)) (fun _ _ _ h => h) (Or.inr ⟨by rfl,rfl⟩) ?_ ?_; rotate_left
             ·simp only [Act.put,s1_,s2_,s3_,i64_w,i32_w]; rfl
             refine pure_ (i:=35) (N:=some 53) (v:=undef) (a':=?_) #[true,true,true,true,true,true,true,true,true,true,true,true,true,true,true,true,true,true,true,true,true,true,true,true,true,true,true,true,true,true,true,true,true,true,true,true,false] rfl rfl (any_of HT_.out (by kernel_rfl)) (fun _ _ _ h => h) (Or.inr ⟨by rfl,rfl⟩) ?_ ?_; rotate_left
             ·simp only [Act.put,s1_,s2_,s3_,i64_w,i32_w]; rfl
             refine pure_ (i:=36) (N:=some 54) (v:=?_) (a':=?_) #[true,true,true,true,true,true,true,true,true,true,true,true,true,true,true,true,true,true,true,true,true,true,true,true,true,true,true,true,true,true,true,true,true,true,true,true,true] rfl rfl (any_of HT_.out (by kernel_rfl)) (fun _ _ _ h => h) (Or.inl ⟨by rfl,?_⟩) ?_ ?_; rotate_left
             ·intro w'; go_simp; with_reducible rfl
             rotate_left
             ·simp only [Act.put,s1_,s2_,s3_,i64_w,i32_w]; rfl
             refine done_ (done_of HT_.out (by kernel_rfl)) ?_
             try go_wp2
             go_ret; exact ⟨by first | rfl | (simp [errW_none,errW_some] <;> rfl) | (simp only [← hji8]; first | rfl | (simp [errW_none,errW_some] <;> rfl)) | (simp [*,errW_none,errW_some] <;> rfl),by repeat (first | (with_reducible first | exact HB.out | apply below_alloc | apply pw_below_drewN | apply below_drew1 | refine below_set ?_ GE116.out) | exact HB.out)⟩
           ·replace c13 := Bool.eq_false_iff.mpr c13; subst c13
            have H1 : (some false) = some r := by rw [if_neg (show ¬ (false = true) by decide)] at H; exact H
            clear H; have H := H1; clear H1; obtain rfl := Option.some.inj H; have p115 : 0 ≤ (x3_1 : Int) := of_decide_eq_true (by first | (with_reducible assumption) | assumption); have q115 : x3_1 < (l0.length : Int) := of_decide_eq_true (by first | (with_reducible assumption) | assumption); obtain ⟨ad115,e115,hx115_0,hx115_1,hx115_2,hx115_3⟩ := at_T89 HR0.out x3_1 p115 q115
            cases e115
            replace hx115_0 := (HB.out.cell (World.block_lt_of_cell? w _ hx115_0)).trans hx115_0; replace hx115_1 := (HB.out.cell (World.block_lt_of_cell? w _ hx115_1)).trans hx115_1; replace hx115_2 := (HB.out.cell (World.block_lt_of_cell? w _ hx115_2)).trans hx115_2; replace hx115_3 := (HB.out.cell (World.block_lt_of_cell? w _ hx115_3)).trans hx115_3; replace p115 := eq_true p115; replace q115 := eq_true q115
            try go_wp2_with (first | ((with_reducible refine gate_dst (N:=4) rfl ?_); refine box_event ?hg (N:=4) ?hd (cs:=#[.string (⟨#[]⟩ : ByteArray),.int .i64 0,.int .i64 0,.int .i64 0]) (t:=89) ?hr ?_; (case hd => rfl); (case hg => rfl); (case hr => first | (go_simp; done) | (go_simp; rfl)); intro gb116 hg w30 hbox hb; have n0_ := Aside0.mk (below_step (by repeat (first | (with_reducible first | exact HB.out | apply below_alloc | apply pw_below_drewN | apply below_drew1) | exact HB.out)) hb); have n1_ := Aside0.mk (hbox); have n2_ := Aside0.mk ((by rw [hg]; exact (below_size (by repeat (first | (with_reducible first | exact HB.out | apply below_alloc | apply pw_below_drewN | apply below_drew1) | exact HB.out))) : w.heap.size ≤ gb116)); have n3_ := Aside0.mk ((by rw [hg]; exact (below_size (by repeat (first | (with_reducible first | exact HB.out | apply below_alloc | apply pw_below_drewN | apply below_drew1) | exact HB.out))) : w.heap.size ≤ gb116)); clear HB; have HB := n0_; have BK116 := n1_; have GW116 := n2_; have GE116 := n3_; clear n0_ n1_ n2_ n3_; clear hb hbox hg; have hcz31_0 : w30.cell? ⟨gb116,0,none⟩ = some (.string (⟨#[]⟩ : ByteArray)) := (blk_cell BK116.out 0).trans rfl; have hcz31_1 : w30.cell? ⟨gb116,1,none⟩ = some (.int .i64 0) := (blk_cell BK116.out 1).trans rfl; have hcz31_2 : w30.cell? ⟨gb116,2,none⟩ = some (.int .i64 0) := (blk_cell BK116.out 2).trans rfl; have hcz31_3 : w30.cell? ⟨gb116,3,none⟩ = some (.int .i64 0) := (blk_cell BK116.out 3).trans rfl; have hfz31_0 := blk_frozen BK116.out 0; have hfz31_1 := blk_frozen BK116.out 1; have hfz31_2 := blk_frozen BK116.out 2; have hfz31_3 := blk_frozen BK116.out 3))
            have n0_ : Aside0 (((((w30.setCell ⟨gb116,0,none⟩ (.string ((rd_T89 l0 x3_1).f0))).setCell ⟨gb116,1,none⟩ (.int .i64 ((rd_T89 l0 x3_1).f1))).setCell ⟨gb116,2,none⟩ (.int .i64 ((rd_T89 l0 x3_1).f2))).setCell ⟨gb116,3,none⟩ (.int .i64 ((rd_T89 l0 x3_1).f3))).heap[gb116]? = some (.cells #[.string ((rd_T89 l0 x3_1).f0),.int .i64 ((rd_T89 l0 x3_1).f1),.int .i64 ((rd_T89 l0 x3_1).f2),.int .i64 ((rd_T89 l0 x3_1).f3)] 89 (0,0))) := ⟨by (with_reducible repeat (first | refine blk_drewN ?_ _ | refine blk_drew ?_ | refine blk_alloc ?_ _)); refine blk_put (cs:=#[.string ((rd_T89 l0 x3_1).f0),.int .i64 ((rd_T89 l0 x3_1).f1),.int .i64 ((rd_T89 l0 x3_1).f2),.int .i64 0]) ?_ 3 _ rfl; (with_reducible repeat (first | refine blk_drewN ?_ _ | refine blk_drew ?_ | refine blk_alloc ?_ _)); refine blk_put (cs:=#[.string ((rd_T89 l0 x3_1).f0),.int .i64 ((rd_T89 l0 x3_1).f1),.int .i64 0,.int .i64 0]) ?_ 2 _ rfl; (with_reducible repeat (first | refine blk_drewN ?_ _ | refine blk_drew ?_ | refine blk_alloc ?_ _)); refine blk_put (cs:=#[.string ((rd_T89 l0 x3_1).f0),.int .i64 0,.int .i64 0,.int .i64 0]) ?_ 1 _ rfl; (with_reducible repeat (first | refine blk_drewN ?_ _ | refine blk_drew ?_ | refine blk_alloc ?_ _)); refine blk_put (cs:=#[.string (⟨#[]⟩ : ByteArray),.int .i64 0,.int .i64 0,.int .i64 0]) ?_ 0 _ rfl; (with_reducible repeat (first | refine blk_drewN ?_ _ | refine blk_drew ?_ | refine blk_alloc ?_ _)); exact BK116.out⟩; have n1_ : Aside0 (Below w.heap.size w ((((w30.setCell ⟨gb116,0,none⟩ (.string ((rd_T89 l0 x3_1).f0))).setCell ⟨gb116,1,none⟩ (.int .i64 ((rd_T89 l0 x3_1).f1))).setCell ⟨gb116,2,none⟩ (.int .i64 ((rd_T89 l0 x3_1).f2))).setCell ⟨gb116,3,none⟩ (.int .i64 ((rd_T89 l0 x3_1).f3)))) := ⟨by repeat (first | (with_reducible first | exact HB.out | apply below_alloc | apply pw_below_drewN | apply below_drew1 | refine below_set ?_ GE116.out) | exact HB.out)⟩
            (try clear BK116)
            (try clear HB)
            generalize ((((w30.setCell ⟨gb116,0,none⟩ (.string ((rd_T89 l0 x3_1).f0))).setCell ⟨gb116,1,none⟩ (.int .i64 ((rd_T89 l0 x3_1).f1))).setCell ⟨gb116,2,none⟩ (.int .i64 ((rd_T89 l0 x3_1).f2))).setCell ⟨gb116,3,none⟩ (.int .i64 ((rd_T89 l0 x3_1).f3))) = w32 at n0_ n1_ ⊢; have BK116 := n0_; have HB := n1_; clear n0_ n1_; have n0_ := Aside0.mk (blk_drew BK116.out); have n1_ := Aside0.mk (below_drew1 HB.out); clear BK116; clear HB; have BK116 := n0_; have HB := n1_; clear n0_ n1_; have p118 : 0 ≤ ((ji8) : Int) := of_decide_eq_true (by first | (with_reducible assumption) | assumption); have q118 : (ji8) < (l0.length : Int) := of_decide_eq_true (by first | (with_reducible assumption) | assumption); obtain ⟨ad118,e118,hx118_0,hx118_1,hx118_2,hx118_3⟩ := at_T89 HR0.out (ji8) p118 q118; have hw118_3 := hx118_3; have hw118_2 := hx118_2; have hw118_1 := hx118_1; have hw118_0 := hx118_0; obtain rfl : ad115 = ad118 := (by injection e118); replace hx118_0 := (HB.out.cell (World.block_lt_of_cell? w _ hx118_0)).trans hx118_0; replace hx118_1 := (HB.out.cell (World.block_lt_of_cell? w _ hx118_1)).trans hx118_1; replace hx118_2 := (HB.out.cell (World.block_lt_of_cell? w _ hx118_2)).trans hx118_2; replace hx118_3 := (HB.out.cell (World.block_lt_of_cell? w _ hx118_3)).trans hx118_3; replace p118 := eq_true p118; replace q118 := eq_true q118; refine start_ (n:=37) (S:=fun w' => w'.cell? ⟨gb116,0,none⟩ = some (.string ((rd_T89 l0 x3_1).f0)) ∧ w'.cell? ⟨gb116,1,none⟩ = some (.int .i64 ((rd_T89 l0 x3_1).f1)) ∧ w'.cell? ⟨gb116,2,none⟩ = some (.int .i64 ((rd_T89 l0 x3_1).f2)) ∧ w'.cell? ⟨gb116,3,none⟩ = some (.int .i64 ((rd_T89 l0 x3_1).f3)) ∧ w'.cell? (ad115.add (((ji8)).toNat * 4)) = some (.string ((rd_T89 l0 (ji8)).f0)) ∧ w'.cell? ⟨(ad115.add (((ji8)).toNat * 4)).block,(ad115.add (((ji8)).toNat * 4)).off + 1,none⟩ = some (.int .i64 ((rd_T89 l0 (ji8)).f1)) ∧ w'.cell? ⟨(ad115.add (((ji8)).toNat * 4)).block,(ad115.add (((ji8)).toNat * 4)).off + 2,none⟩ = some (.int .i64 ((rd_T89 l0 (ji8)).f2)) ∧ w'.cell? ⟨(ad115.add (((ji8)).toNat * 4)).block,(ad115.add (((ji8)).toNat * 4)).off + 3,none⟩ = some (.int .i64 ((rd_T89 l0 (ji8)).f3))) (ds:=[]) #[false,false,false,false,false,false,false,false,false,false,false,false,false,false,false,false,false,false,false,false,false,false,false,false,false,false,false,false,false,false,false,false,false,false,false,false,false] (by kernel_rfl) rfl rfl ⟨(blk_cell BK116.out 0).trans rfl,(blk_cell BK116.out 1).trans rfl,(blk_cell BK116.out 2).trans rfl,(blk_cell BK116.out 3).trans rfl,((HB.out.cell (World.block_lt_of_cell? w _ hw118_0)).trans hw118_0),((HB.out.cell (World.block_lt_of_cell? w _ hw118_1)).trans hw118_1),((HB.out.cell (World.block_lt_of_cell? w _ hw118_2)).trans hw118_2),((HB.out.cell (World.block_lt_of_cell? w _ hw118_3)).trans hw118_3)⟩ (fun hHeld => ?_); refine with_tabW spec_DirOk.tab7 spec_DirOk.bits7 (fun HT_ HW_ => ?_); generalize w32.drew = w33 at BK116 HB hx118_0 hx118_1 hx118_2 hx118_3 hHeld ⊢; refine pure_ (i:=0) (N:=some 18) (v:=?_) (a':=?_) #[true,false,false,false,false,false,false,false,false,false,false,false,false,false,false,false,false,false,false,false,false,false,false,false,false,false,false,false,false,false,false,false,false,false,false,false,false] rfl rfl (any_of HT_.out (by kernel_rfl)) (fun _ _ _ h => h) (Or.inl ⟨by rfl,?_⟩) ?_ ?_; rotate_left
            ·intro w'; go_simp; with_reducible rfl
            rotate_left
            ·simp only [Act.put,s1_,s2_,s3_,i64_w,i32_w]; rfl
            refine take_ (i:=1) (N:=some 19) (v:=?_) (a':=?_) #[true,true,false,false,false,false,false,false,false,false,false,false,false,false,false,false,false,false,false,false,false,false,false,false,false,false,false,false,false,false,false,false,false,false,false,false,false] rfl rfl (take_ofW HT_.out HW_.out (by kernel_rfl)) (fun _ _ _ h => h) (Or.inl ⟨by rfl,?_⟩) hHeld ?_ ?_; rotate_left
            ·rintro w' ⟨s0,s1,s2,s3,s4,s5,s6,s7⟩; go_simp; with_reducible rfl
            rotate_left
            ·simp only [Act.put,s1_,s2_,s3_,i64_w,i32_w]; rfl
            refine one_ (i:=2) (N:=some 20) #[true,true,true,false,false,false,false,false,false,false,false,false,false,false,false,false,false,false,false,false,false,false,false,false,false,false,false,false,false,false,false,false,false,false,false,false,false] rfl rfl (one_of HT_.out (by kernel_rfl)) (by decide) (fun K hK => ?_); refine goes_ Try.func85 (by kernel_rfl) rfl #[.string ((rd_T89 l0 x3_1).f0)] (by rfl) rfl rfl (by (try simp only [List.map_toArray,List.map_cons,List.map_nil]); first | done | rfl | (simp only [List.length_drop,List.length_take]; rfl)) ?_; with_reducible refine (spec_l05Key.calls ((rd_T89 l0 x3_1).f0) true _ A5.out).mono ?_; rintro e w' ⟨rfl,⟨nd,rfl⟩⟩; refine ⟨_,rfl,?_⟩; have BK116d_ := Aside0.mk (blk_drewN BK116.out nd); have HBd_ := Aside0.mk (pw_below_drewN HB.out nd); refine hK.out _ _ ⟨(blk_cell BK116d_.out 0).trans rfl,(blk_cell BK116d_.out 1).trans rfl,(blk_cell BK116d_.out 2).trans rfl,(blk_cell BK116d_.out 3).trans rfl,((HBd_.out.cell (World.block_lt_of_cell? w _ hw118_0)).trans hw118_0),((HBd_.out.cell (World.block_lt_of_cell? w _ hw118_1)).trans hw118_1),((HBd_.out.cell (World.block_lt_of_cell? w _ hw118_2)).trans hw118_2),((HBd_.out.cell (World.block_lt_of_cell? w _ hw118_3)).trans hw118_3)⟩ (fun hHeld => ?_); clear hK K; refine norm_ (a':=?_) ?_ ?_; rotate_left
            ·show Act.put _ (some 20) _ = _; simp only [Act.put,s1_,s2_,s3_,i64_w,i32_w]; rfl
            refine pure_ (i:=3) (N:=some 21) (v:=?_) (a':=?_) #[true,true,true,true,false,false,false,false,false,false,false,false,false,false,false,false,false,false,false,false,false,false,false,false,false,false,false,false,false,false,false,false,false,false,false,false,false] rfl rfl (any_of HT_.out (by kernel_rfl)) (fun _ _ _ h => h) (Or.inl ⟨by rfl,?_⟩) ?_ ?_; rotate_left
            ·intro w'; go_simp; with_reducible rfl
            rotate_left
            ·simp only [Act.put,s1_,s2_,s3_,i64_w,i32_w]; rfl
            refine pure_ (i:=4) (N:=some 22) (v:=?_) (a':=?_) #[true,true,true,true,true,false,false,false,false,false,false,false,false,false,false,false,false,false,false,false,false,false,false,false,false,false,false,false,false,false,false,false,false,false,false,false,false] rfl rfl (any_of HT_.out (by kernel_rfl)) (fun _ _ _ h => h) (Or.inl ⟨by rfl,?_⟩) ?_ ?_; rotate_left
            ·intro w'; go_simp; with_reducible rfl
            rotate_left
            ·simp only [Act.put,s1_,s2_,s3_,i64_w,i32_w]; rfl
            refine pure_ (i:=5) (N:=some 23) (v:=?_) (a':=?_) #[true,true,true,true,true,true,false,false,false,false,false,false,false,false,false,false,false,false,false,false,false,false,false,false,false,false,false,false,false,false,false,false,false,false,false,false,false] rfl rfl (any_of HT_.out (by kernel_rfl)) (fun _ _ _ h => h) (Or.inl ⟨by rfl,?_⟩) ?_ ?_; rotate_left
            ·intro w'; go_simp; with_reducible rfl
            rotate_left
            ·simp only [Act.put,s1_,s2_,s3_,i64_w,i32_w]; rfl
            refine pure_ (i:=6) (N:=some 24) (v:=?_) (a':=?_) #[true,true,true,true,true,true,true,false,false,false,false,false,false,false,false,false,false,false,false,false,false,false,false,false,false,false,false,false,false,false,false,false,false,false,false,false,false] rfl rfl (any_of HT_.out (by kernel_rfl)) (fun _ _ _ h => h) (Or.inl ⟨by rfl,?_⟩) ?_ ?_; rotate_left
            ·intro w'; go_simp; with_reducible rfl
            rotate_left
            ·simp only [Act.put,s1_,s2_,s3_,i64_w,i32_w]; rfl
            refine pure_ (i:=7) (N:=some 25) (v:=?_) (a':=?_) #[true,true,true,true,true,true,true,true,false,false,false,false,false,false,false,false,false,false,false,false,false,false,false,false,false,false,false,false,false,false,false,false,false,false,false,false,false] rfl rfl (any_of HT_.out (by kernel_rfl)) (fun _ _ _ h => h) (Or.inl ⟨by rfl,?_⟩) ?_ ?_; rotate_left
            ·intro w'; go_simp; with_reducible rfl
            rotate_left
            ·simp only [Act.put,s1_,s2_,s3_,i64_w,i32_w]; rfl
            refine pure_ (i:=8) (N:=some 26) (v:=?_) (a':=?_) #[true,true,true,true,true,true,true,true,true,false,false,false,false,false,false,false,false,false,false,false,false,false,false,false,false,false,false,false,false,false,false,false,false,false,false,false,false] rfl rfl (any_of HT_.out (by kernel_rfl)) (fun _ _ _ h => h) (Or.inl ⟨by rfl,?_⟩) ?_ ?_; rotate_left
            ·intro w'; go_simp; with_reducible rfl
            rotate_left
            ·simp only [Act.put,s1_,s2_,s3_,i64_w,i32_w]; rfl
            refine pure_ (i:=9) (N:=some 27) (v:=?_) (a':=?_) #[true,true,true,true,true,true,true,true,true,true,false,false,false,false,false,false,false,false,false,false,false,false,false,false,false,false,false,false,false,false,false,false,false,false,false,false,false] rfl rfl (any_of HT_.out (by kernel_rfl)) (fun _ _ _ h => h) (Or.inl ⟨by rfl,?_⟩) ?_ ?_; rotate_left
            ·intro w'; go_simp; with_reducible rfl
            rotate_left
            ·simp only [Act.put,s1_,s2_,s3_,i64_w,i32_w]; rfl
            refine pure_ (i:=10) (N:=some 28) (v:=?_) (a':=?_) #[true,true,true,true,true,true,true,true,true,true,true,false,false,false,false,false,false,false,false,false,false,false,false,false,false,false,false,false,false,false,false,false,false,false,false,false,false] rfl rfl (any_of HT_.out (by kernel_rfl)) (fun _ _ _ h => h) (Or.inl ⟨by rfl,?_⟩) ?_ ?_; rotate_left
            ·intro w'; go_simp; with_reducible rfl
            rotate_left
            ·simp only [Act.put,s1_,s2_,s3_,i64_w,i32_w]; rfl
            refine pure_ (i:=11) (N:=some 29) (v:=?_) (a':=?_) #[true,true,true,true,true,true,true,true,true,true,true,true,false,false,false,false,false,false,false,false,false,false,false,false,false,false,false,false,false,false,false,false,false,false,false,false,false] rfl rfl (any_of HT_.out (by kernel_rfl)) (fun _ _ _ h => h) (Or.inl ⟨by rfl,?_⟩) ?_ ?_; rotate_left
            ·intro w'; go_simp; with_reducible rfl
            rotate_left
            ·simp only [Act.put,s1_,s2_,s3_,i64_w,i32_w]; rfl
            refine pure_ (i:=12) (N:=some 30) (v:=?_) (a':=?_) #[true,true,true,true,true,true,true,true,true,true,true,true,true,false,false,false,false,false,false,false,false,false,false,false,false,false,false,false,false,false,false,false,false,false,false,false,false] rfl rfl (any_of HT_.out (by kernel_rfl)) (fun _ _ _ h => h) (Or.inl ⟨by rfl,?_⟩) ?_ ?_; rotate_left
            ·intro w'; go_simp; with_reducible rfl
            rotate_left
            ·simp only [Act.put,s1_,s2_,s3_,i64_w,i32_w]; rfl
            refine pure_ (i:=14) (N:=some 32) (v:=?_) (a':=?_) #[true,true,true,true,true,true,true,true,true,true,true,true,true,false,true,false,false,false,false,false,false,false,false,false,false,false,false,false,false,false,false,false,false,false,false,false,false] rfl rfl (any_of HT_.out (by kernel_rfl)) (fun _ _ _ h => h) (Or.inl ⟨by rfl,?_⟩) ?_ ?_; rotate_left
            ·intro w'; go_simp; with_reducible rfl
            rotate_left
            ·simp only [Act.put,s1_,s2_,s3_,i64_w,i32_w]; rfl
            refine take_ (i:=13) (N:=some 31) (v:=?_) (a':=?_) #[true,true,true,true,true,true,true,true,true,true,true,true,true,true,true,false,false,false,false,false,false,false,false,false,false,false,false,false,false,false,false,false,false,false,false,false,false] rfl rfl (take_ofW HT_.out HW_.out (by kernel_rfl)) (fun _ _ _ h => h) (Or.inl ⟨by rfl,?_⟩) hHeld ?_ ?_; rotate_left
            ·rintro w' ⟨s0,s1,s2,s3,s4,s5,s6,s7⟩; go_simp; with_reducible rfl
            rotate_left
            ·simp only [Act.put,s1_,s2_,s3_,i64_w,i32_w]; rfl
            refine take_ (i:=15) (N:=some 33) (v:=?_) (a':=?_) #[true,true,true,true,true,true,true,true,true,true,true,true,true,true,true,true,false,false,false,false,false,false,false,false,false,false,false,false,false,false,false,false,false,false,false,false,false] rfl rfl (take_ofW HT_.out HW_.out (by kernel_rfl)) (fun _ _ _ h => h) (Or.inl ⟨by rfl,?_⟩) hHeld ?_ ?_; rotate_left
            ·rintro w' ⟨s0,s1,s2,s3,s4,s5,s6,s7⟩; go_simp; with_reducible rfl
            rotate_left
            ·simp only [Act.put,s1_,s2_,s3_,i64_w,i32_w]; rfl
            refine pure_ (i:=16) (N:=some 34) (v:=?_) (a':=?_) #[true,true,true,true,true,true,true,true,true,true,true,true,true,true,true,true,true,false,false,false,false,false,false,false,false,false,false,false,false,false,false,false,false,false,false,false,false] rfl rfl (any_of HT_.out (by kernel_rfl)) (fun _ _ _ h => h) (Or.inl ⟨by rfl,?_⟩) ?_ ?_; rotate_left
            ·intro w'; go_simp; with_reducible rfl
            rotate_left
            ·simp only [Act.put,s1_,s2_,s3_,i64_w,i32_w]; rfl
            refine pure_ (i:=17) (N:=some 35) (v:=?_) (a':=?_) #[true,true,true,true,true,true,true,true,true,true,true,true,true,true,true,true,true,true,false,false,false,false,false,false,false,false,false,false,false,false,false,false,false,false,false,false,false] rfl rfl (any_of HT_.out (by kernel_rfl)) (fun _ _ _ h => h) (Or.inl ⟨by rfl,?_⟩) ?_ ?_; rotate_left
            ·intro w'; go_simp; with_reducible rfl
            rotate_left
            ·simp only [Act.put,s1_,s2_,s3_,i64_w,i32_w]; rfl
            refine pure_ (i:=18) (N:=some 36) (v:=?_) (a':=?_) #[true,true,true,true,true,true,true,true,true,true,true,true,true,true,true,true,true,true,true,false,false,false,false,false,false,false,false,false,false,false,false,false,false,false,false,false,false] rfl rfl (any_of HT_.out (by kernel_rfl)) (fun _ _ _ h => h) (Or.inl ⟨by rfl,?_⟩) ?_ ?_; rotate_left
            ·intro w'; go_simp; with_reducible rfl
            rotate_left
            ·simp only [Act.put,s1_,s2_,s3_,i64_w,i32_w]; rfl
            refine pure_ (i:=19) (N:=some 37) (v:=?_) (a':=?_) #[true,true,true,true,true,true,true,true,true,true,true,true,true,true,true,true,true,true,true,true,false,false,false,false,false,false,false,false,false,false,false,false,false,false,false,false,false] rfl rfl (any_of HT_.out (by kernel_rfl)) (fun _ _ _ h => h) (Or.inl ⟨by rfl,?_⟩) ?_ ?_; rotate_left
            ·intro w'; go_simp; with_reducible rfl
            rotate_left
            ·simp only [Act.put,s1_,s2_,s3_,i64_w,i32_w]; rfl
            refine pure_ (i:=20) (N:=some 38) (v:=?_) (a':=?_) #[true,true,true,true,true,true,true,true,true,true,true,true,true,true,true,true,true,true,true,true,true,false,false,false,false,false,false,false,false,false,false,false,false,false,false,false,false] rfl rfl (any_of HT_.out (by kernel_rfl)) (fun _ _ _ h => h) (Or.inl ⟨by rfl,?_⟩) ?_ ?_; rotate_left
            ·intro w'; go_simp; with_reducible rfl
            rotate_left
            ·simp only [Act.put,s1_,s2_,s3_,i64_w,i32_w]; rfl
            refine take_ (i:=21) (N:=some 39) (v:=?_) (a':=?_) #[true,true,true,true,true,true,true,true,true,true,true,true,true,true,true,true,true,true,true,true,true,true,false,false,false,false,false,false,false,false,false,false,false,false,false,false,false] rfl rfl (take_ofW HT_.out HW_.out (by kernel_rfl)) (fun _ _ _ h => h) (Or.inl ⟨by rfl,?_⟩) hHeld ?_ ?_; rotate_left
            ·rintro w' ⟨s0,s1,s2,s3,s4,s5,s6,s7⟩; go_simp; with_reducible rfl
            rotate_left
            ·simp only [Act.put,s1_,s2_,s3_,i64_w,i32_w]; rfl
            refine one_ (i:=22) (N:=some 40) #[true,true,true,true,true,true,true,true,true,true,true,true,true,true,true,true,true,true,true,true,true,true,true,false,false,false,false,false,false,false,false,false,false,false,false,false,false] rfl rfl (one_of HT_.out (by kernel_rfl)) (by decide) (fun K hK => ?_); refine goes_ Try.func55 (by kernel_rfl) rfl #[.int .i64 ((rd_T89 l0 x3_1).f1),.int .i64 0,.int .i64 999] (by rfl) rfl rfl (by (try simp only [List.map_toArray,List.map_cons,List.map_nil]); first | done | rfl | (simp only [List.length_drop,List.length_take]; rfl)) ?_; with_reducible refine (spec_l01In.calls ((rd_T89 l0 x3_1).f1) 0 999 false _ A12.out).mono ?_; rintro e w' ⟨rfl,⟨nd,rfl⟩⟩; refine ⟨_,rfl,?_⟩; replace BK116d_ := Aside0.mk (blk_drewN BK116d_.out nd); replace HBd_ := Aside0.mk (pw_below_drewN HBd_.out nd); refine hK.out _ _ ⟨(blk_cell BK116d_.out 0).trans rfl,(blk_cell BK116d_.out 1).trans rfl,(blk_cell BK116d_.out 2).trans rfl,(blk_cell BK116d_.out 3).trans rfl,((HBd_.out.cell (World.block_lt_of_cell? w _ hw118_0)).trans hw118_0),((HBd_.out.cell (World.block_lt_of_cell? w _ hw118_1)).trans hw118_1),((HBd_.out.cell (World.block_lt_of_cell? w _ hw118_2)).trans hw118_2),((HBd_.out.cell (World.block_lt_of_cell? w _ hw118_3)).trans hw118_3)⟩ (fun hHeld => ?_); clear hK K; refine norm_ (a':=?_) ?_ ?_; rotate_left
            ·show Act.put _ (some 40) _ = _; simp only [Act.put,s1_,s2_,s3_,i64_w,i32_w]; rfl
            refine pure_ (i:=23) (N:=some 41) (v:=?_) (a':=?_) #[true,true,true,true,true,true,true,true,true,true,true,true,true,true,true,true,true,true,true,true,true,true,true,true,false,false,false,false,false,false,false,false,false,false,false,false,false] rfl rfl (any_of HT_.out (by kernel_rfl)) (fun _ _ _ h => h) (Or.inl ⟨by rfl,?_⟩) ?_ ?_; rotate_left
            ·intro w'; go_simp; with_reducible rfl
            rotate_left
            ·simp only [Act.put,s1_,s2_,s3_,i64_w,i32_w]; rfl
            refine pure_ (i:=24) (N:=some 42) (v:=?_) (a':=?_) #[true,true,true,true,true,true,true,true,true,true,true,true,true,true,true,true,true,true,true,true,true,true,true,true,true,false,false,false,false,false,false,false,false,false,false,false,false] rfl rfl (any_of HT_.out (by kernel_rfl)) (fun _ _ _ h => h) (Or.inl ⟨by rfl,?_⟩) ?_ ?_; rotate_left
            ·intro w'; go_simp; with_reducible rfl
            rotate_left
            ·simp only [Act.put,s1_,s2_,s3_,i64_w,i32_w]; rfl
            refine pure_ (i:=25) (N:=some 43) (v:=?_) (a':=?_) #[true,true,true,true,true,true,true,true,true,true,true,true,true,true,true,true,true,true,true,true,true,true,true,true,true,true,false,false,false,false,false,false,false,false,false,false,false] rfl rfl (any_of HT_.out (by kernel_rfl)) (fun _ _ _ h => h) (Or.inl ⟨by rfl,?_⟩) ?_ ?_; rotate_left
            ·intro w'; go_simp; with_reducible rfl
            rotate_left
            ·simp only [Act.put,s1_,s2_,s3_,i64_w,i32_w]; rfl
            refine pure_ (i:=26) (N:=some 44) (v:=undef) (a':=?_) #[true,true,true,true,true,true,true,true,true,true,true,true,true,true,true,true,true,true,true,true,true,true,true,true,true,true,true,false,false,false,false,false,false,false,false,false,false] rfl rfl (any_of HT_.out (by kernel_rfl)) (fun _ _ _ h => h) (Or.inr ⟨by rfl,rfl⟩) ?_ ?_; rotate_left
            ·simp only [Act.put,s1_,s2_,s3_,i64_w,i32_w]; rfl
            refine pure_ (i:=27) (N:=some 45) (v:=undef) (a':=?_) #[true,true,true,true,true,true,true,true,true,true,true,true,true,true,true,true,true,true,true,true,true,true,true,true,true,true,true,true,false,false,false,false,false,false,false,false,false] rfl rfl (any_of HT_.out (by kernel_rfl)) (fun _ _ _ h => h) (Or.inr ⟨by rfl,rfl⟩) ?_ ?_; rotate_left
            ·simp only [Act.put,s1_,s2_,s3_,i64_w,i32_w]; rfl
            refine pure_ (i:=28) (N:=some 46) (v:=undef) (a':=?_) #[true,true,true,true,true,true,true,true,true,true,true,true,true,true,true,true,true,true,true,true,true,true,true,true,true,true,true,true,true,false,false,false,false,false,false,false,false] rfl rfl (any_of HT_.out (by kernel_rfl)) (fun _ _ _ h => h) (Or.inr ⟨by rfl,rfl⟩) ?_ ?_; rotate_left
            ·simp only [Act.put,s1_,s2_,s3_,i64_w,i32_w]; rfl
            refine pure_ (i:=29) (N:=some 47) (v:=undef) (a':=?_) #[true,true,true,true,true,true,true,true,true,true,true,true,true,true,true,true,true,true,true,true,true,true,true,true,true,true,true,true,true,true,false,false,false,false,false,false,false] rfl rfl (any_of HT_.out (by kernel_rfl)) (fun _ _ _ h => h) (Or.inr ⟨by rfl,rfl⟩) ?_ ?_; rotate_left
            ·simp only [Act.put,s1_,s2_,s3_,i64_w,i32_w]; rfl
            refine pure_ (i:=30) (N:=some 48) (v:=?_) (a':=?_) #[true,true,true,true,true,true,true,true,true,true,true,true,true,true,true,true,true,true,true,true,true,true,true,true,true,true,true,true,true,true,true,false,false,false,false,false,false] rfl rfl (any_of HT_.out (by kernel_rfl)) (fun _ _ _ h => h) (Or.inl ⟨by rfl,?_⟩) ?_ ?_; rotate_left
            ·intro w'; go_simp; with_reducible rfl
            rotate_left
            ·simp only [Act.put,s1_,s2_,s3_,i64_w,i32_w]; rfl
            refine pure_ (i:=31) (N:=some 49) (v:=?_) (a':=?_) #[true,true,true,true,true,true,true,true,true,true,true,true,true,true,true,true,true,true,true,true,true,true,true,true,true,true,true,true,true,true,true,true,false,false,false,false,false] rfl rfl (any_of HT_.out (by kernel_rfl)) (fun _ _ _ h => h) (Or.inl ⟨by rfl,?_⟩) ?_ ?_; rotate_left
            ·intro w'; go_simp; with_reducible rfl
            rotate_left
            ·simp only [Act.put,s1_,s2_,s3_,i64_w,i32_w]; rfl
            refine pure_ (i:=32) (N:=some 50) (v:=undef) (a':=?_) #[true,true,true,true,true,true,true,true,true,true,true,true,true,true,true,true,true,true,true,true,true,true,true,true,true,true,true,true,true,true,true,true,true,false,false,false,false] rfl rfl (any_of HT_.out (by kernel_rfl)) (fun _ _ _ h => h) (Or.inr ⟨by rfl,rfl⟩) ?_ ?_; rotate_left
            ·simp only [Act.put,s1_,s2_,s3_,i64_w,i32_w]; rfl
            refine pure_ (i:=33) (N:=some 51) (v:=undef) (a':=?_) #[true,true,true,true,true,true,true,true,true,true,true,true,true,true,true,true,true,true,true,true,true,true,true,true,true,true,true,true,true,true,true,true,true,true,false,false,false] rfl rfl (any_of HT_.out (by kernel_rfl)) (fun _ _ _ h => h) (Or.inr ⟨by rfl,rfl⟩) ?_ ?_; rotate_left
            ·simp only [Act.put,s1_,s2_,s3_,i64_w,i32_w]; rfl
            refine pure_ (i:=34) (N:=some 52) (v:=undef) (a':=?_) #[true,true,true,true,true,true,true,true,true,true,true,true,true,true,true,true,true,true,true,true,true,true,true,true,true,true,true,true,true,true,true,true,true,true,true,false,false] rfl rfl (any_of HT_.out (by kernel_rfl)) (fun _ _ _ h => h) (Or.inr ⟨by rfl,rfl⟩) ?_ ?_; rotate_left
            ·simp only [Act.put,s1_,s2_,s3_,i64_w,i32_w]; rfl
            refine pure_ (i:=35) (N:=some 53) (v:=undef) (a':=?_) #[true,true,true,true,true,true,true,true,true,true,true,true,true,true,true,true,true,true,true,true,true,true,true,true,true,true,true,true,true,true,true,true,true,true,true,true,false] rfl rfl (any_of HT_.out (by kernel_rfl)) (fun _ _ _ h => h) (Or.inr ⟨by rfl,rfl⟩) ?_ ?_; rotate_left
            ·simp only [Act.put,s1_,s2_,s3_,i64_w,i32_w]; rfl
            refine pure_ (i:=36) (N:=some 54) (v:=?_) (a':=?_) #[true,true,true,true,true,true,true,true,true,true,true,true,true,true,true,true,true,true,true,true,true,true,true,true,true,true,true,true,true,true,true,true,true,true,true,true,true] rfl rfl (any_of HT_.out (by kernel_rfl)) (fun _ _ _ h => h) (Or.inl ⟨by rfl,?_⟩) ?_ ?_; rotate_left
            ·intro w'; go_simp; with_reducible rfl
            rotate_left
            ·simp only [Act.put,s1_,s2_,s3_,i64_w,i32_w]; rfl
            refine done_ (done_of HT_.out (by kernel_rfl)) ?_
            try go_wp2
            go_ret; exact ⟨by first | rfl | (simp [errW_none,errW_some] <;> rfl) | (simp only [← hji8]; first | rfl | (simp [errW_none,errW_some] <;> rfl)) | (simp [*,errW_none,errW_some] <;> rfl),by repeat (first | (with_reducible first | exact HB.out | apply below_alloc | apply pw_below_drewN | apply below_drew1 | refine below_set ?_ GE116.out) | exact HB.out)⟩
          ·rw [if_neg c11] at H
           have c11b0 : (Op.bytesLess (((rd_T89 l0 (ji8)).f0).toList) (((rd_T89 l0 x3_1).f0).toList)) = false := by simpa using c11
           clear c11; obtain rfl := Option.some.inj H; have p115 : 0 ≤ (x3_1 : Int) := of_decide_eq_true (by first | (with_reducible assumption) | assumption); have q115 : x3_1 < (l0.length : Int) := of_decide_eq_true (by first | (with_reducible assumption) | assumption); obtain ⟨ad115,e115,hx115_0,hx115_1,hx115_2,hx115_3⟩ := at_T89 HR0.out x3_1 p115 q115
           cases e115
           replace hx115_0 := (HB.out.cell (World.block_lt_of_cell? w _ hx115_0)).trans hx115_0; replace hx115_1 := (HB.out.cell (World.block_lt_of_cell? w _ hx115_1)).trans hx115_1; replace hx115_2 := (HB.out.cell (World.block_lt_of_cell? w _ hx115_2)).trans hx115_2; replace hx115_3 := (HB.out.cell (World.block_lt_of_cell? w _ hx115_3)).trans hx115_3; replace p115 := eq_true p115; replace q115 := eq_true q115
           try go_wp2_with (first | ((with_reducible refine gate_dst (N:=4) rfl ?_); refine box_event ?hg (N:=4) ?hd (cs:=#[.string (⟨#[]⟩ : ByteArray),.int .i64 0,.int .i64 0,.int .i64 0]) (t:=89) ?hr ?_; (case hd => rfl); (case hg => rfl); (case hr => first | (go_simp; done) | (go_simp; rfl)); intro gb116 hg w34 hbox hb; have n0_ := Aside0.mk (below_step (by repeat (first | (with_reducible first | exact HB.out | apply below_alloc | apply pw_below_drewN | apply below_drew1) | exact HB.out)) hb); have n1_ := Aside0.mk (hbox); have n2_ := Aside0.mk ((by rw [hg]; exact (below_size (by repeat (first | (with_reducible first | exact HB.out | apply below_alloc | apply pw_below_drewN | apply below_drew1) | exact HB.out))) : w.heap.size ≤ gb116)); have n3_ := Aside0.mk ((by rw [hg]; exact (below_size (by repeat (first | (with_reducible first | exact HB.out | apply below_alloc | apply pw_below_drewN | apply below_drew1) | exact HB.out))) : w.heap.size ≤ gb116)); clear HB; have HB := n0_; have BK116 := n1_; have GW116 := n2_; have GE116 := n3_; clear n0_ n1_ n2_ n3_; clear hb hbox hg; have hcz35_0 : w34.cell? ⟨gb116,0,none⟩ = some (.string (⟨#[]⟩ : ByteArray)) := (blk_cell BK116.out 0).trans rfl; have hcz35_1 : w34.cell? ⟨gb116,1,none⟩ = some (.int .i64 0) := (blk_cell BK116.out 1).trans rfl; have hcz35_2 : w34.cell? ⟨gb116,2,none⟩ = some (.int .i64 0) := (blk_cell BK116.out 2).trans rfl; have hcz35_3 : w34.cell? ⟨gb116,3,none⟩ = some (.int .i64 0) := (blk_cell BK116.out 3).trans rfl; have hfz35_0 := blk_frozen BK116.out 0; have hfz35_1 := blk_frozen BK116.out 1; have hfz35_2 := blk_frozen BK116.out 2; have hfz35_3 := blk_frozen BK116.out 3))
           have n0_ : Aside0 (((((w34.setCell ⟨gb116,0,none⟩ (.string ((rd_T89 l0 x3_1).f0))).setCell ⟨gb116,1,none⟩ (.int .i64 ((rd_T89 l0 x3_1).f1))).setCell ⟨gb116,2,none⟩ (.int .i64 ((rd_T89 l0 x3_1).f2))).setCell ⟨gb116,3,none⟩ (.int .i64 ((rd_T89 l0 x3_1).f3))).heap[gb116]? = some (.cells #[.string ((rd_T89 l0 x3_1).f0),.int .i64 ((rd_T89 l0 x3_1).f1),.int .i64 ((rd_T89 l0 x3_1).f2),.int .i64 ((rd_T89 l0 x3_1).f3)] 89 (0,0))) := ⟨by (with_reducible repeat (first | refine blk_drewN ?_ _ | refine blk_drew ?_ | refine blk_alloc ?_ _)); refine blk_put (cs:=#[.string ((rd_T89 l0 x3_1).f0),.int .i64 ((rd_T89 l0 x3_1).f1),.int .i64 ((rd_T89 l0 x3_1).f2),.int .i64 0]) ?_ 3 _ rfl; (with_reducible repeat (first | refine blk_drewN ?_ _ | refine blk_drew ?_ | refine blk_alloc ?_ _)); refine blk_put (cs:=#[.string ((rd_T89 l0 x3_1).f0),.int .i64 ((rd_T89 l0 x3_1).f1),.int .i64 0,.int .i64 0]) ?_ 2 _ rfl; (with_reducible repeat (first | refine blk_drewN ?_ _ | refine blk_drew ?_ | refine blk_alloc ?_ _)); refine blk_put (cs:=#[.string ((rd_T89 l0 x3_1).f0),.int .i64 0,.int .i64 0,.int .i64 0]) ?_ 1 _ rfl; (with_reducible repeat (first | refine blk_drewN ?_ _ | refine blk_drew ?_ | refine blk_alloc ?_ _)); refine blk_put (cs:=#[.string (⟨#[]⟩ : ByteArray),.int .i64 0,.int .i64 0,.int .i64 0]) ?_ 0 _ rfl; (with_reducible repeat (first | refine blk_drewN ?_ _ | refine blk_drew ?_ | refine blk_alloc ?_ _)); exact BK116.out⟩; have n1_ : Aside0 (Below w.heap.size w ((((w34.setCell ⟨gb116,0,none⟩ (.string ((rd_T89 l0 x3_1).f0))).setCell ⟨gb116,1,none⟩ (.int .i64 ((rd_T89 l0 x3_1).f1))).setCell ⟨gb116,2,none⟩ (.int .i64 ((rd_T89 l0 x3_1).f2))).setCell ⟨gb116,3,none⟩ (.int .i64 ((rd_T89 l0 x3_1).f3)))) := ⟨by repeat (first | (with_reducible first | exact HB.out | apply below_alloc | apply pw_below_drewN | apply below_drew1 | refine below_set ?_ GE116.out) | exact HB.out)⟩
           (try clear BK116)
           (try clear HB)
           generalize ((((w34.setCell ⟨gb116,0,none⟩ (.string ((rd_T89 l0 x3_1).f0))).setCell ⟨gb116,1,none⟩ (.int .i64 ((rd_T89 l0 x3_1).f1))).setCell ⟨gb116,2,none⟩ (.int .i64 ((rd_T89 l0 x3_1).f2))).setCell ⟨gb116,3,none⟩ (.int .i64 ((rd_T89 l0 x3_1).f3))) = w36 at n0_ n1_ ⊢; have BK116 := n0_; have HB := n1_; clear n0_ n1_; have n0_ := Aside0.mk (blk_drew BK116.out); have n1_ := Aside0.mk (below_drew1 HB.out); clear BK116; clear HB; have BK116 := n0_; have HB := n1_; clear n0_ n1_; have p118 : 0 ≤ ((ji8) : Int) := of_decide_eq_true (by first | (with_reducible assumption) | assumption); have q118 : (ji8) < (l0.length : Int) := of_decide_eq_true (by first | (with_reducible assumption) | assumption); obtain ⟨ad118,e118,hx118_0,hx118_1,hx118_2,hx118_3⟩ := at_T89 HR0.out (ji8) p118 q118; have hw118_3 := hx118_3; have hw118_2 := hx118_2; have hw118_1 := hx118_1; have hw118_0 := hx118_0; obtain rfl : ad115 = ad118 := (by injection e118); replace hx118_0 := (HB.out.cell (World.block_lt_of_cell? w _ hx118_0)).trans hx118_0; replace hx118_1 := (HB.out.cell (World.block_lt_of_cell? w _ hx118_1)).trans hx118_1; replace hx118_2 := (HB.out.cell (World.block_lt_of_cell? w _ hx118_2)).trans hx118_2; replace hx118_3 := (HB.out.cell (World.block_lt_of_cell? w _ hx118_3)).trans hx118_3; replace p118 := eq_true p118; replace q118 := eq_true q118; refine start_ (n:=37) (S:=fun w' => w'.cell? ⟨gb116,0,none⟩ = some (.string ((rd_T89 l0 x3_1).f0)) ∧ w'.cell? ⟨gb116,1,none⟩ = some (.int .i64 ((rd_T89 l0 x3_1).f1)) ∧ w'.cell? ⟨gb116,2,none⟩ = some (.int .i64 ((rd_T89 l0 x3_1).f2)) ∧ w'.cell? ⟨gb116,3,none⟩ = some (.int .i64 ((rd_T89 l0 x3_1).f3)) ∧ w'.cell? (ad115.add (((ji8)).toNat * 4)) = some (.string ((rd_T89 l0 (ji8)).f0)) ∧ w'.cell? ⟨(ad115.add (((ji8)).toNat * 4)).block,(ad115.add (((ji8)).toNat * 4)).off + 1,none⟩ = some (.int .i64 ((rd_T89 l0 (ji8)).f1)) ∧ w'.cell? ⟨(ad115.add (((ji8)).toNat * 4)).block,(ad115.add (((ji8)).toNat * 4)).off + 2,none⟩ = some (.int .i64 ((rd_T89 l0 (ji8)).f2)) ∧ w'.cell? ⟨(ad115.add (((ji8)).toNat * 4)).block,(ad115.add (((ji8)).toNat * 4)).off + 3,none⟩ = some (.int .i64 ((rd_T89 l0 (ji8)).f3))) (ds:=[]) #[false,false,false,false,false,false,false,false,false,false,false,false,false,false,false,false,false,false,false,false,false,false,false,false,false,false,false,false,false,false,false,false,false,false,false,false,false] (by kernel_rfl) rfl rfl ⟨(blk_cell BK116.out 0).trans rfl,(blk_cell BK116.out 1).trans rfl,(blk_cell BK116.out 2).trans rfl,(blk_cell BK116.out 3).trans rfl,((HB.out.cell (World.block_lt_of_cell? w _ hw118_0)).trans hw118_0),((HB.out.cell (World.block_lt_of_cell? w _ hw118_1)).trans hw118_1),((HB.out.cell (World.block_lt_of_cell? w _ hw118_2)).trans hw118_2),((HB.out.cell (World.block_lt_of_cell? w _ hw118_3)).trans hw118_3)⟩ (fun hHeld => ?_); refine with_tabW spec_DirOk.tab7 spec_DirOk.bits7 (fun HT_ HW_ => ?_); generalize w36.drew = w37 at BK116 HB hx118_0 hx118_1 hx118_2 hx118_3 hHeld ⊢; refine pure_ (i:=0) (N:=some 18) (v:=?_) (a':=?_) #[true,false,false,false,false,false,false,false,false,false,false,false,false,false,false,false,false,false,false,false,false,false,false,false,false,false,false,false,false,false,false,false,false,false,false,false,false] rfl rfl (any_of HT_.out (by kernel_rfl)) (fun _ _ _ h => h) (Or.inl ⟨by rfl,?_⟩) ?_ ?_; rotate_left
           ·intro w'; go_simp; with_reducible rfl
           rotate_left
           ·simp only [Act.put,s1_,s2_,s3_,i64_w,i32_w]; rfl
           refine take_ (i:=1) (N:=some 19) (v:=?_) (a':=?_) #[true,true,false,false,false,false,false,false,false,false,false,false,false,false,false,false,false,false,false,false,false,false,false,false,false,false,false,false,false,false,false,false,false,false,false,false,false] rfl rfl (take_ofW HT_.out HW_.out (by kernel_rfl)) (fun _ _ _ h => h) (Or.inl ⟨by rfl,?_⟩) hHeld ?_ ?_; rotate_left
           ·rintro w' ⟨s0,s1,s2,s3,s4,s5,s6,s7⟩; go_simp; with_reducible rfl
           rotate_left
           ·simp only [Act.put,s1_,s2_,s3_,i64_w,i32_w]; rfl
           refine one_ (i:=2) (N:=some 20) #[true,true,true,false,false,false,false,false,false,false,false,false,false,false,false,false,false,false,false,false,false,false,false,false,false,false,false,false,false,false,false,false,false,false,false,false,false] rfl rfl (one_of HT_.out (by kernel_rfl)) (by decide) (fun K hK => ?_); refine goes_ Try.func85 (by kernel_rfl) rfl #[.string ((rd_T89 l0 x3_1).f0)] (by rfl) rfl rfl (by (try simp only [List.map_toArray,List.map_cons,List.map_nil]); first | done | rfl | (simp only [List.length_drop,List.length_take]; rfl)) ?_; with_reducible refine (spec_l05Key.calls ((rd_T89 l0 x3_1).f0) true _ A5.out).mono ?_; rintro e w' ⟨rfl,⟨nd,rfl⟩⟩; refine ⟨_,rfl,?_⟩; have BK116d_ := Aside0.mk (blk_drewN BK116.out nd); have HBd_ := Aside0.mk (pw_below_drewN HB.out nd); refine hK.out _ _ ⟨(blk_cell BK116d_.out 0).trans rfl,(blk_cell BK116d_.out 1).trans rfl,(blk_cell BK116d_.out 2).trans rfl,(blk_cell BK116d_.out 3).trans rfl,((HBd_.out.cell (World.block_lt_of_cell? w _ hw118_0)).trans hw118_0),((HBd_.out.cell (World.block_lt_of_cell? w _ hw118_1)).trans hw118_1),((HBd_.out.cell (World.block_lt_of_cell? w _ hw118_2)).trans hw118_2),((HBd_.out.cell (World.block_lt_of_cell? w _ hw118_3)).trans hw118_3)⟩ (fun hHeld => ?_); clear hK K; refine norm_ (a':=?_) ?_ ?_; rotate_left
           ·show Act.put _ (some 20) _ = _; simp only [Act.put,s1_,s2_,s3_,i64_w,i32_w]; rfl
           refine pure_ (i:=3) (N:=some 21) (v:=?_) (a':=?_) #[true,true,true,true,false,false,false,false,false,false,false,false,false,false,false,false,false,false,false,false,false,false,false,false,false,false,false,false,false,false,false,false,false,false,false,false,false] rfl rfl (any_of HT_.out (by kernel_rfl)) (fun _ _ _ h => h) (Or.inl ⟨by rfl,?_⟩) ?_ ?_; rotate_left
           ·intro w'; go_simp; with_reducible rfl
           rotate_left
           ·simp only [Act.put,s1_,s2_,s3_,i64_w,i32_w]; rfl
           refine pure_ (i:=4) (N:=some 22) (v:=?_) (a':=?_) #[true,true,true,true,true,false,false,false,false,false,false,false,false,false,false,false,false,false,false,false,false,false,false,false,false,false,false,false,false,false,false,false,false,false,false,false,false] rfl rfl (any_of HT_.out (by kernel_rfl)) (fun _ _ _ h => h) (Or.inl ⟨by rfl,?_⟩) ?_ ?_; rotate_left
           ·intro w'; go_simp; with_reducible rfl
           rotate_left
           ·simp only [Act.put,s1_,s2_,s3_,i64_w,i32_w]; rfl
           refine pure_ (i:=5) (N:=some 23) (v:=?_) (a':=?_) #[true,true,true,true,true,true,false,false,false,false,false,false,false,false,false,false,false,false,false,false,false,false,false,false,false,false,false,false,false,false,false,false,false,false,false,false,false] rfl rfl (any_of HT_.out (by kernel_rfl)) (fun _ _ _ h => h) (Or.inl ⟨by rfl,?_⟩) ?_ ?_; rotate_left
           ·intro w'; go_simp; with_reducible rfl
           rotate_left
           ·simp only [Act.put,s1_,s2_,s3_,i64_w,i32_w]; rfl
           refine pure_ (i:=6) (N:=some 24) (v:=?_) (a':=?_) #[true,true,true,true,true,true,true,false,false,false,false,false,false,false,false,false,false,false,false,false,false,false,false,false,false,false,false,false,false,false,false,false,false,false,false,false,false] rfl rfl (any_of HT_.out (by kernel_rfl)) (fun _ _ _ h => h) (Or.inl ⟨by rfl,?_⟩) ?_ ?_; rotate_left
           ·intro w'; go_simp; with_reducible rfl
           rotate_left
           ·simp only [Act.put,s1_,s2_,s3_,i64_w,i32_w]; rfl
           refine pure_ (i:=7) (N:=some 25) (v:=?_) (a':=?_) #[true,true,true,true,true,true,true,true,false,false,false,false,false,false,false,false,false,false,false,false,false,false,false,false,false,false,false,false,false,false,false,false,false,false,false,false,false] rfl rfl (any_of HT_.out (by kernel_rfl)) (fun _ _ _ h => h) (Or.inl ⟨by rfl,?_⟩) ?_ ?_; rotate_left
           ·intro w'; go_simp; with_reducible rfl
           rotate_left
           ·simp only [Act.put,s1_,s2_,s3_,i64_w,i32_w]; rfl
           refine pure_ (i:=8) (N:=some 26) (v:=?_) (a':=?_) #[true,true,true,true,true,true,true,true,true,false,false,false,false,false,false,false,false,false,false,false,false,false,false,false,false,false,false,false,false,false,false,false,false,false,false,false,false] rfl rfl (any_of HT_.out (by kernel_rfl)) (fun _ _ _ h => h) (Or.inl ⟨by rfl,?_⟩) ?_ ?_; rotate_left
           ·intro w'; go_simp; with_reducible rfl
           rotate_left
           ·simp only [Act.put,s1_,s2_,s3_,i64_w,i32_w]; rfl
           refine pure_ (i:=9) (N:=some 27) (v:=?_) (a':=?_) #[true,true,true,true,true,true,true,true,true,true,false,false,false,false,false,false,false,false,false,false,false,false,false,false,false,false,false,false,false,false,false,false,false,false,false,false,false] rfl rfl (any_of HT_.out (by kernel_rfl)) (fun _ _ _ h => h) (Or.inl ⟨by rfl,?_⟩) ?_ ?_; rotate_left
           ·intro w'; go_simp; with_reducible rfl
           rotate_left
           ·simp only [Act.put,s1_,s2_,s3_,i64_w,i32_w]; rfl
           refine pure_ (i:=10) (N:=some 28) (v:=?_) (a':=?_) #[true,true,true,true,true,true,true,true,true,true,true,false,false,false,false,false,false,false,false,false,false,false,false,false,false,false,false,false,false,false,false,false,false,false,false,false,false] rfl rfl (any_of HT_.out (by kernel_rfl)) (fun _ _ _ h => h) (Or.inl ⟨by rfl,?_⟩) ?_ ?_; rotate_left
           ·intro w'; go_simp; with_reducible rfl
           rotate_left
           ·simp only [Act.put,s1_,s2_,s3_,i64_w,i32_w]; rfl
           refine pure_ (i:=11) (N:=some 29) (v:=?_) (a':=?_) #[true,true,true,true,true,true,true,true,true,true,true,true,false,false,false,false,false,false,false,false,false,false,false,false,false,false,false,false,false,false,false,false,false,false,false,false,false] rfl rfl (any_of HT_.out (by kernel_rfl)) (fun _ _ _ h => h) (Or.inl ⟨by rfl,?_⟩) ?_ ?_; rotate_left
           ·intro w'; go_simp; with_reducible rfl
           rotate_left
           ·simp only [Act.put,s1_,s2_,s3_,i64_w,i32_w]; rfl
           refine pure_ (i:=12) (N:=some 30) (v:=?_) (a':=?_) #[true,true,true,true,true,true,true,true,true,true,true,true,true,false,false,false,false,false,false,false,false,false,false,false,false,false,false,false,false,false,false,false,false,false,false,false,false] rfl rfl (any_of HT_.out (by kernel_rfl)) (fun _ _ _ h => h) (Or.inl ⟨by rfl,?_⟩) ?_ ?_; rotate_left
           ·intro w'; go_simp; with_reducible rfl
           rotate_left
           ·simp only [Act.put,s1_,s2_,s3_,i64_w,i32_w]; rfl
           refine pure_ (i:=14) (N:=some 32) (v:=?_) (a':=?_) #[true,true,true,true,true,true,true,true,true,true,true,true,true,false,true,false,false,false,false,false,false,false,false,false,false,false,false,false,false,false,false,false,false,false,false,false,false] rfl rfl (any_of HT_.out (by kernel_rfl)) (fun _ _ _ h => h) (Or.inl ⟨by rfl,?_⟩) ?_ ?_; rotate_left
           ·intro w'; go_simp; with_reducible rfl
           rotate_left
           ·simp only [Act.put,s1_,s2_,s3_,i64_w,i32_w]; rfl
           refine take_ (i:=13) (N:=some 31) (v:=?_) (a':=?_) #[true,true,true,true,true,true,true,true,true,true,true,true,true,true,true,false,false,false,false,false,false,false,false,false,false,false,false,false,false,false,false,false,false,false,false,false,false] rfl rfl (take_ofW HT_.out HW_.out (by kernel_rfl)) (fun _ _ _ h => h) (Or.inl ⟨by rfl,?_⟩) hHeld ?_ ?_; rotate_left
           ·rintro w' ⟨s0,s1,s2,s3,s4,s5,s6,s7⟩; go_simp; with_reducible rfl
           rotate_left
           ·simp only [Act.put,s1_,s2_,s3_,i64_w,i32_w]; rfl
           refine take_ (i:=15) (N:=some 33) (v:=?_) (a':=?_) #[true,true,true,true,true,true,true,true,true,true,true,true,true,true,true,true,false,false,false,false,false,false,false,false,false,false,false,false,false,false,false,false,false,false,false,false,false] rfl rfl (take_ofW HT_.out HW_.out (by kernel_rfl)) (fun _ _ _ h => h) (Or.inl ⟨by rfl,?_⟩) hHeld ?_ ?_; rotate_left
           ·rintro w' ⟨s0,s1,s2,s3,s4,s5,s6,s7⟩; go_simp; with_reducible rfl
           rotate_left
           ·simp only [Act.put,s1_,s2_,s3_,i64_w,i32_w]; rfl
           refine pure_ (i:=16) (N:=some 34) (v:=?_) (a':=?_) #[true,true,true,true,true,true,true,true,true,true,true,true,true,true,true,true,true,false,false,false,false,false,false,false,false,false,false,false,false,false,false,false,false,false,false,false,false] rfl rfl (any_of HT_.out (by kernel_rfl)) (fun _ _ _ h => h) (Or.inl ⟨by rfl,?_⟩) ?_ ?_; rotate_left
           ·intro w'; go_simp; with_reducible rfl
           rotate_left
           ·simp only [Act.put,s1_,s2_,s3_,i64_w,i32_w]; rfl
           refine pure_ (i:=17) (N:=some 35) (v:=?_) (a':=?_) #[true,true,true,true,true,true,true,true,true,true,true,true,true,true,true,true,true,true,false,false,false,false,false,false,false,false,false,false,false,false,false,false,false,false,false,false,false] rfl rfl (any_of HT_.out (by kernel_rfl)) (fun _ _ _ h => h) (Or.inl ⟨by rfl,?_⟩) ?_ ?_; rotate_left
           ·intro w'; go_simp; with_reducible rfl
           rotate_left
           ·simp only [Act.put,s1_,s2_,s3_,i64_w,i32_w]; rfl
           refine pure_ (i:=18) (N:=some 36) (v:=?_) (a':=?_) #[true,true,true,true,true,true,true,true,true,true,true,true,true,true,true,true,true,true,true,false,false,false,false,false,false,false,false,false,false,false,false,false,false,false,false,false,false] rfl rfl (any_of HT_.out (by kernel_rfl)) (fun _ _ _ h => h) (Or.inl ⟨by rfl,?_⟩) ?_ ?_; rotate_left
           ·intro w'; go_simp; with_reducible rfl
           rotate_left
           ·simp only [Act.put,s1_,s2_,s3_,i64_w,i32_w]; rfl
           refine pure_ (i:=19) (N:=some 37) (v:=?_) (a':=?_) #[true,true,true,true,true,true,true,true,true,true,true,true,true,true,true,true,true,true,true,true,false,false,false,false,false,false,false,false,false,false,false,false,false,false,false,false,false] rfl rfl (any_of HT_.out (by kernel_rfl)) (fun _ _ _ h => h) (Or.inl ⟨by rfl,?_⟩) ?_ ?_; rotate_left
           ·intro w'; go_simp; with_reducible rfl
           rotate_left
           ·simp only [Act.put,s1_,s2_,s3_,i64_w,i32_w]; rfl
           refine pure_ (i:=20) (N:=some 38) (v:=undef) (a':=?_) #[true,true,true,true,true,true,true,true,true,true,true,true,true,true,true,true,true,true,true,true,true,false,false,false,false,false,false,false,false,false,false,false,false,false,false,false,false] rfl rfl (any_of HT_.out (by kernel_rfl)) (fun _ _ _ h => h) (Or.inr ⟨by rfl,rfl⟩) ?_ ?_; rotate_left
           ·simp only [Act.put,s1_,s2_,s3_,i64_w,i32_w]; rfl
           refine pure_ (i:=21) (N:=some 39) (v:=undef) (a':=?_) #[true,true,true,true,true,true,true,true,true,true,true,true,true,true,true,true,true,true,true,true,true,true,false,false,false,false,false,false,false,false,false,false,false,false,false,false,false] rfl rfl (any_of HT_.out (by kernel_rfl)) (fun _ _ _ h => h) (Or.inr ⟨by rfl,rfl⟩) ?_ ?_; rotate_left
           ·simp only [Act.put,s1_,s2_,s3_,i64_w,i32_w]; rfl
           refine pure_ (i:=22) (N:=some 40) (v:=undef) (a':=?_) #[true,true,true,true,true,true,true,true,true,true,true,true,true,true,true,true,true,true,true,true,true,true,true,false,false,false,false,false,false,false,false,false,false,false,false,false,false] rfl rfl (any_of HT_.out (by kernel_rfl)) (fun _ _ _ h => h) (Or.inr ⟨by rfl,rfl⟩) ?_ ?_; rotate_left
           ·simp only [Act.put,s1_,s2_,s3_,i64_w,i32_w]; rfl
           refine pure_ (i:=23) (N:=some 41) (v:=undef) (a':=?_) #[true,true,true,true,true,true,true,true,true,true,true,true,true,true,true,true,true,true,true,true,true,true,true,true,false,false,false,false,false,false,false,false,false,false,false,false,false] rfl rfl (any_of HT_.out (by kernel_rfl)) (fun _ _ _ h => h) (Or.inr ⟨by rfl,rfl⟩) ?_ ?_; rotate_left
           ·simp only [Act.put,s1_,s2_,s3_,i64_w,i32_w]; rfl
           refine pure_ (i:=24) (N:=some 42) (v:=?_) (a':=?_) #[true,true,true,true,true,true,true,true,true,true,true,true,true,true,true,true,true,true,true,true,true,true,true,true,true,false,false,false,false,false,false,false,false,false,false,false,false] rfl rfl (any_of HT_.out (by kernel_rfl)) (fun _ _ _ h => h) (Or.inl ⟨by rfl,?_⟩) ?_ ?_; rotate_left
           ·intro w'; go_simp; with_reducible rfl
           rotate_left
           ·simp only [Act.put,s1_,s2_,s3_,i64_w,i32_w]; rfl
           refine pure_ (i:=25) (N:=some 43) (v:=?_) (a':=?_) #[true,true,true,true,true,true,true,true,true,true,true,true,true,true,true,true,true,true,true,true,true,true,true,true,true,true,false,false,false,false,false,false,false,false,false,false,false] rfl rfl (any_of HT_.out (by kernel_rfl)) (fun _ _ _ h => h) (Or.inl ⟨by rfl,?_⟩) ?_ ?_; rotate_left
           ·intro w'; go_simp; with_reducible rfl
           rotate_left
           ·simp only [Act.put,s1_,s2_,s3_,i64_w,i32_w]; rfl
           refine pure_ (i:=26) (N:=some 44) (v:=undef) (a':=?_) #[true,true,true,true,true,true,true,true,true,true,true,true,true,true,true,true,true,true,true,true,true,true,true,true,true,true,true,false,false,false,false,false,false,false,false,false,false] rfl rfl (any_of HT_.out (by kernel_rfl)) (fun _ _ _ h => h) (Or.inr ⟨by rfl,rfl⟩) ?_ ?_; rotate_left
           ·simp only [Act.put,s1_,s2_,s3_,i64_w,i32_w]; rfl
           refine pure_ (i:=27) (N:=some 45) (v:=undef) (a':=?_) #[true,true,true,true,true,true,true,true,true,true,true,true,true,true,true,true,true,true,true,true,true,true,true,true,true,true,true,true,false,false,false,false,false,false,false,false,false] rfl rfl (any_of HT_.out (by kernel_rfl)) (fun _ _ _ h => h) (Or.inr ⟨by rfl,rfl⟩) ?_ ?_; rotate_left
           ·simp only [Act.put,s1_,s2_,s3_,i64_w,i32_w]; rfl
           refine pure_ (i:=28) (N:=some 46) (v:=undef) (a':=?_) #[true,true,true,true,true,true,true,true,true,true,true,true,true,true,true,true,true,true,true,true,true,true,true,true,true,true,true,true,true,false,false,false,false,false,false,false,false] rfl rfl (any_of HT_.out (by kernel_rfl)) (fun _ _ _ h => h) (Or.inr ⟨by rfl,rfl⟩) ?_ ?_; rotate_left
           ·simp only [Act.put,s1_,s2_,s3_,i64_w,i32_w]; rfl
           refine pure_ (i:=29) (N:=some 47) (v:=undef) (a':=?_) #[true,true,true,true,true,true,true,true,true,true,true,true,true,true,true,true,true,true,true,true,true,true,true,true,true,true,true,true,true,true,false,false,false,false,false,false,false] rfl rfl (any_of HT_.out (by kernel_rfl)) (fun _ _ _ h => h) (Or.inr ⟨by rfl,rfl⟩) ?_ ?_; rotate_left
           ·simp only [Act.put,s1_,s2_,s3_,i64_w,i32_w]; rfl
           refine pure_ (i:=30) (N:=some 48) (v:=?_) (a':=?_) #[true,true,true,true,true,true,true,true,true,true,true,true,true,true,true,true,true,true,true,true,true,true,true,true,true,true,true,true,true,true,true,false,false,false,false,false,false] rfl rfl (any_of HT_.out (by kernel_rfl)) (fun _ _ _ h => h) (Or.inl ⟨by rfl,?_⟩) ?_ ?_; rotate_left
           ·intro w'; go_simp; with_reducible rfl
           rotate_left
           ·simp only [Act.put,s1_,s2_,s3_,i64_w,i32_w]; rfl
           refine pure_ (i:=31) (N:=some 49) (v:=?_) (a':=?_) #[true,true,true,true,true,true,true,true,true,true,true,true,true,true,true,true,true,true,true,true,true,true,true,true,true,true,true,true,true,true,true,true,false,false,false,false,false] rfl rfl (any_of HT_.out (by kernel_rfl)) (fun _ _ _ h => h) (Or.inl ⟨by rfl,?_⟩) ?_ ?_; rotate_left
           ·intro w'; go_simp; with_reducible rfl
           rotate_left
           ·simp only [Act.put,s1_,s2_,s3_,i64_w,i32_w]; rfl
           refine pure_ (i:=32) (N:=some 50) (v:=undef) (a':=?_) #[true,true,true,true,true,true,true,true,true,true,true,true,true,true,true,true,true,true,true,true,true,true,true,true,true,true,true,true,true,true,true,true,true,false,false,false,false] rfl rfl (any_of HT_.out (by kernel_rfl)) (fun _ _ _ h => h) (Or.inr ⟨by rfl,rfl⟩) ?_ ?_; rotate_left
           ·simp only [Act.put,s1_,s2_,s3_,i64_w,i32_w]; rfl
           refine pure_ (i:=33) (N:=some 51) (v:=undef) (a':=?_) #[true,true,true,true,true,true,true,true,true,true,true,true,true,true,true,true,true,true,true,true,true,true,true,true,true,true,true,true,true,true,true,true,true,true,false,false,false] rfl rfl (any_of HT_.out (by kernel_rfl)) (fun _ _ _ h => h) (Or.inr ⟨by rfl,rfl⟩) ?_ ?_; rotate_left
           ·simp only [Act.put,s1_,s2_,s3_,i64_w,i32_w]; rfl
           refine pure_ (i:=34) (N:=some 52) (v:=undef) (a':=?_) #[true,true,true,true,true,true,true,true,true,true,true,true,true,true,true,true,true,true,true,true,true,true,true,true,true,true,true,true,true,true,true,true,true,true,true,false,false] rfl rfl (any_of HT_.out (by kernel_rfl)) (fun _ _ _ h => h) (Or.inr ⟨by rfl,rfl⟩) ?_ ?_; rotate_left
           ·simp only [Act.put,s1_,s2_,s3_,i64_w,i32_w]; rfl
           refine pure_ (i:=35) (N:=some 53) (v:=undef) (a':=?_) #[true,true,true,true,true,true,true,true,true,true,true,true,true,true,true,true,true,true,true,true,true,true,true,true,true,true,true,true,true,true,true,true,true,true,true,true,false] rfl rfl (any_of HT_.out (by kernel_rfl)) (fun _ _ _ h => h) (Or.inr ⟨by rfl,rfl⟩) ?_ ?_; rotate_left
           ·simp only [Act.put,s1_,s2_,s3_,i64_w,i32_w]; rfl
           refine pure_ (i:=36) (N:=some 54) (v:=?_) (a':=?_) #[true,true,true,true,true,true,true,true,true,true,true,true,true,true,true,true,true,true,true,true,true,true,true,true,true,true,true,true,true,true,true,true,true,true,true,true,true] rfl rfl (any_of HT_.out (by kernel_rfl)) (fun _ _ _ h => h) (Or.inl ⟨by rfl,?_⟩) ?_ ?_; rotate_left
           ·intro w'; go_simp; with_reducible rfl
           rotate_left
           ·simp only [Act.put,s1_,s2_,s3_,i64_w,i32_w]; rfl
           refine done_ (done_of HT_.out (by kernel_rfl)) ?_
           try go_wp2
           go_ret; exact ⟨by first | rfl | (simp [errW_none,errW_some] <;> rfl) | (simp only [← hji8]; first | rfl | (simp [errW_none,errW_some] <;> rfl)) | (simp [*,errW_none,errW_some] <;> rfl),by repeat (first | (with_reducible first | exact HB.out | apply below_alloc | apply pw_below_drewN | apply below_drew1 | refine below_set ?_ GE116.out) | exact HB.out)⟩
         ·rw [if_neg c10] at H; exact absurd H (by simp)
        ·rw [if_neg c9] at H; exact absurd H (by simp)
       ·rw [if_neg c7] at H; have c7b0 : decide (0 < x3_1) = false := decide_eq_false c7; clear c7; replace H := Option.bind_eq_some_iff.mp H; obtain ⟨t122,A380,H⟩ := H; replace H : (if t122 = true then ((spec_l01In.f ((rd_T89 l0 x3_1).f2) 0 20000).bind fun t123 => (if t123 = true then ((spec_l01In.f ((rd_T89 l0 x3_1).f3) 0 40).bind fun t124 => (if t124 = true then (spec_DirOk.l0 k1 l0 (wrap64 (x3_1 + 1))) else (some false))) else (some false))) else (some false)) = some r := H; have A38 := Aside0.mk A380; clear A380
        by_cases c39 : t122 = true
        ·subst c39
         have H1 : ((spec_l01In.f ((rd_T89 l0 x3_1).f2) 0 20000).bind fun t123 => (if t123 = true then ((spec_l01In.f ((rd_T89 l0 x3_1).f3) 0 40).bind fun t124 => (if t124 = true then (spec_DirOk.l0 k1 l0 (wrap64 (x3_1 + 1))) else (some false))) else (some false))) = some r := by rw [if_pos rfl] at H; exact H
         clear H; have H := H1; clear H1; replace H := Option.bind_eq_some_iff.mp H; obtain ⟨t123,A400,H⟩ := H; replace H : (if t123 = true then ((spec_l01In.f ((rd_T89 l0 x3_1).f3) 0 40).bind fun t124 => (if t124 = true then (spec_DirOk.l0 k1 l0 (wrap64 (x3_1 + 1))) else (some false))) else (some false)) = some r := H; have A40 := Aside0.mk A400; clear A400
         by_cases c41 : t123 = true
         ·subst c41
          have H1 : ((spec_l01In.f ((rd_T89 l0 x3_1).f3) 0 40).bind fun t124 => (if t124 = true then (spec_DirOk.l0 k1 l0 (wrap64 (x3_1 + 1))) else (some false))) = some r := by rw [if_pos rfl] at H; exact H
          clear H; have H := H1; clear H1; replace H := Option.bind_eq_some_iff.mp H; obtain ⟨t124,A420,H⟩ := H; replace H : (if t124 = true then (spec_DirOk.l0 k1 l0 (wrap64 (x3_1 + 1))) else (some false)) = some r := H; have A42 := Aside0.mk A420; clear A420
          by_cases c43 : t124 = true
          ·subst c43
           have H1 : (spec_DirOk.l0 k1 l0 (wrap64 (x3_1 + 1))) = some r := by rw [if_pos rfl] at H; exact H
           clear H; have H := H1; clear H1; have H' := Aside0.mk H; clear H; have p115 : 0 ≤ (x3_1 : Int) := of_decide_eq_true (by first | (with_reducible assumption) | assumption); have q115 : x3_1 < (l0.length : Int) := of_decide_eq_true (by first | (with_reducible assumption) | assumption); obtain ⟨ad115,e115,hx115_0,hx115_1,hx115_2,hx115_3⟩ := at_T89 HR0.out x3_1 p115 q115
           cases e115
           replace hx115_0 := (HB.out.cell (World.block_lt_of_cell? w _ hx115_0)).trans hx115_0; replace hx115_1 := (HB.out.cell (World.block_lt_of_cell? w _ hx115_1)).trans hx115_1; replace hx115_2 := (HB.out.cell (World.block_lt_of_cell? w _ hx115_2)).trans hx115_2; replace hx115_3 := (HB.out.cell (World.block_lt_of_cell? w _ hx115_3)).trans hx115_3; replace p115 := eq_true p115; replace q115 := eq_true q115
           try go_wp2_with (first | ((with_reducible refine gate_dst (N:=4) rfl ?_); refine box_event ?hg (N:=4) ?hd (cs:=#[.string (⟨#[]⟩ : ByteArray),.int .i64 0,.int .i64 0,.int .i64 0]) (t:=89) ?hr ?_; (case hd => rfl); (case hg => rfl); (case hr => first | (go_simp; done) | (go_simp; rfl)); intro gb116 hg w44 hbox hb; have n0_ := Aside0.mk (below_step (by repeat (first | (with_reducible first | exact HB.out | apply below_alloc | apply pw_below_drewN | apply below_drew1) | exact HB.out)) hb); have n1_ := Aside0.mk (hbox); have n2_ := Aside0.mk ((by rw [hg]; exact (below_size (by repeat (first | (with_reducible first | exact HB.out | apply below_alloc | apply pw_below_drewN | apply below_drew1) | exact HB.out))) : w.heap.size ≤ gb116)); have n3_ := Aside0.mk ((by rw [hg]; exact (below_size (by repeat (first | (with_reducible first | exact HB.out | apply below_alloc | apply pw_below_drewN | apply below_drew1) | exact HB.out))) : w.heap.size ≤ gb116)); clear HB; have HB := n0_; have BK116 := n1_; have GW116 := n2_; have GE116 := n3_; clear n0_ n1_ n2_ n3_; clear hb hbox hg; have hcz45_0 : w44.cell? ⟨gb116,0,none⟩ = some (.string (⟨#[]⟩ : ByteArray)) := (blk_cell BK116.out 0).trans rfl; have hcz45_1 : w44.cell? ⟨gb116,1,none⟩ = some (.int .i64 0) := (blk_cell BK116.out 1).trans rfl; have hcz45_2 : w44.cell? ⟨gb116,2,none⟩ = some (.int .i64 0) := (blk_cell BK116.out 2).trans rfl; have hcz45_3 : w44.cell? ⟨gb116,3,none⟩ = some (.int .i64 0) := (blk_cell BK116.out 3).trans rfl; have hfz45_0 := blk_frozen BK116.out 0; have hfz45_1 := blk_frozen BK116.out 1; have hfz45_2 := blk_frozen BK116.out 2; have hfz45_3 := blk_frozen BK116.out 3))
           have n0_ : Aside0 (((((w44.setCell ⟨gb116,0,none⟩ (.string ((rd_T89 l0 x3_1).f0))).setCell ⟨gb116,1,none⟩ (.int .i64 ((rd_T89 l0 x3_1).f1))).setCell ⟨gb116,2,none⟩ (.int .i64 ((rd_T89 l0 x3_1).f2))).setCell ⟨gb116,3,none⟩ (.int .i64 ((rd_T89 l0 x3_1).f3))).heap[gb116]? = some (.cells #[.string ((rd_T89 l0 x3_1).f0),.int .i64 ((rd_T89 l0 x3_1).f1),.int .i64 ((rd_T89 l0 x3_1).f2),.int .i64 ((rd_T89 l0 x3_1).f3)] 89 (0,0))) := ⟨by (with_reducible repeat (first | refine blk_drewN ?_ _ | refine blk_drew ?_ | refine blk_alloc ?_ _)); refine blk_put (cs:=#[.string ((rd_T89 l0 x3_1).f0),.int .i64 ((rd_T89 l0 x3_1).f1),.int .i64 ((rd_T89 l0 x3_1).f2),.int .i64 0]) ?_ 3 _ rfl; (with_reducible repeat (first | refine blk_drewN ?_ _ | refine blk_drew ?_ | refine blk_alloc ?_ _)); refine blk_put (cs:=#[.string ((rd_T89 l0 x3_1).f0),.int .i64 ((rd_T89 l0 x3_1).f1),.int .i64 0,.int .i64 0]) ?_ 2 _ rfl; (with_reducible repeat (first | refine blk_drewN ?_ _ | refine blk_drew ?_ | refine blk_alloc ?_ _)); refine blk_put (cs:=#[.string ((rd_T89 l0 x3_1).f0),.int .i64 0,.int .i64 0,.int .i64 0]) ?_ 1 _ rfl; (with_reducible repeat (first | refine blk_drewN ?_ _ | refine blk_drew ?_ | refine blk_alloc ?_ _)); refine blk_put (cs:=#[.string (⟨#[]⟩ : ByteArray),.int .i64 0,.int .i64 0,.int .i64 0]) ?_ 0 _ rfl; (with_reducible repeat (first | refine blk_drewN ?_ _ | refine blk_drew ?_ | refine blk_alloc ?_ _)); exact BK116.out⟩; have n1_ : Aside0 (Below w.heap.size w ((((w44.setCell ⟨gb116,0,none⟩ (.string ((rd_T89 l0 x3_1).f0))).setCell ⟨gb116,1,none⟩ (.int .i64 ((rd_T89 l0 x3_1).f1))).setCell ⟨gb116,2,none⟩ (.int .i64 ((rd_T89 l0 x3_1).f2))).setCell ⟨gb116,3,none⟩ (.int .i64 ((rd_T89 l0 x3_1).f3)))) := ⟨by repeat (first | (with_reducible first | exact HB.out | apply below_alloc | apply pw_below_drewN | apply below_drew1 | refine below_set ?_ GE116.out) | exact HB.out)⟩
           (try clear BK116)
           (try clear HB)
           generalize ((((w44.setCell ⟨gb116,0,none⟩ (.string ((rd_T89 l0 x3_1).f0))).setCell ⟨gb116,1,none⟩ (.int .i64 ((rd_T89 l0 x3_1).f1))).setCell ⟨gb116,2,none⟩ (.int .i64 ((rd_T89 l0 x3_1).f2))).setCell ⟨gb116,3,none⟩ (.int .i64 ((rd_T89 l0 x3_1).f3))) = w46 at n0_ n1_ ⊢; have BK116 := n0_; have HB := n1_; clear n0_ n1_; have n0_ := Aside0.mk (blk_drew BK116.out); have n1_ := Aside0.mk (below_drew1 HB.out); clear BK116; clear HB; have BK116 := n0_; have HB := n1_; clear n0_ n1_; refine start_ (n:=37) (S:=fun w' => w'.cell? ⟨gb116,0,none⟩ = some (.string ((rd_T89 l0 x3_1).f0)) ∧ w'.cell? ⟨gb116,1,none⟩ = some (.int .i64 ((rd_T89 l0 x3_1).f1)) ∧ w'.cell? ⟨gb116,2,none⟩ = some (.int .i64 ((rd_T89 l0 x3_1).f2)) ∧ w'.cell? ⟨gb116,3,none⟩ = some (.int .i64 ((rd_T89 l0 x3_1).f3))) (ds:=[]) #[false,false,false,false,false,false,false,false,false,false,false,false,false,false,false,false,false,false,false,false,false,false,false,false,false,false,false,false,false,false,false,false,false,false,false,false,false] (by kernel_rfl) rfl rfl ⟨(blk_cell BK116.out 0).trans rfl,(blk_cell BK116.out 1).trans rfl,(blk_cell BK116.out 2).trans rfl,(blk_cell BK116.out 3).trans rfl⟩ (fun hHeld => ?_); refine with_tabW spec_DirOk.tab7 spec_DirOk.bits7 (fun HT_ HW_ => ?_); generalize w46.drew = w47 at BK116 HB hHeld ⊢; refine pure_ (i:=0) (N:=some 18) (v:=?_) (a':=?_) #[true,false,false,false,false,false,false,false,false,false,false,false,false,false,false,false,false,false,false,false,false,false,false,false,false,false,false,false,false,false,false,false,false,false,false,false,false] rfl rfl (any_of HT_.out (by kernel_rfl)) (fun _ _ _ h => h) (Or.inl ⟨by rfl,?_⟩) ?_ ?_; rotate_left
           ·intro w'; go_simp; with_reducible rfl
           rotate_left
           ·simp only [Act.put,s1_,s2_,s3_,i64_w,i32_w]; rfl
           refine take_ (i:=1) (N:=some 19) (v:=?_) (a':=?_) #[true,true,false,false,false,false,false,false,false,false,false,false,false,false,false,false,false,false,false,false,false,false,false,false,false,false,false,false,false,false,false,false,false,false,false,false,false] rfl rfl (take_ofW HT_.out HW_.out (by kernel_rfl)) (fun _ _ _ h => h) (Or.inl ⟨by rfl,?_⟩) hHeld ?_ ?_; rotate_left
           ·rintro w' ⟨s0,s1,s2,s3⟩; go_simp; with_reducible rfl
           rotate_left
           ·simp only [Act.put,s1_,s2_,s3_,i64_w,i32_w]; rfl
           refine one_ (i:=2) (N:=some 20) #[true,true,true,false,false,false,false,false,false,false,false,false,false,false,false,false,false,false,false,false,false,false,false,false,false,false,false,false,false,false,false,false,false,false,false,false,false] rfl rfl (one_of HT_.out (by kernel_rfl)) (by decide) (fun K hK => ?_); refine goes_ Try.func85 (by kernel_rfl) rfl #[.string ((rd_T89 l0 x3_1).f0)] (by rfl) rfl rfl (by (try simp only [List.map_toArray,List.map_cons,List.map_nil]); first | done | rfl | (simp only [List.length_drop,List.length_take]; rfl)) ?_; with_reducible refine (spec_l05Key.calls ((rd_T89 l0 x3_1).f0) true _ A5.out).mono ?_; rintro e w' ⟨rfl,⟨nd,rfl⟩⟩; refine ⟨_,rfl,?_⟩; have BK116d_ := Aside0.mk (blk_drewN BK116.out nd); have HBd_ := Aside0.mk (pw_below_drewN HB.out nd); refine hK.out _ _ ⟨(blk_cell BK116d_.out 0).trans rfl,(blk_cell BK116d_.out 1).trans rfl,(blk_cell BK116d_.out 2).trans rfl,(blk_cell BK116d_.out 3).trans rfl⟩ (fun hHeld => ?_); clear hK K; refine norm_ (a':=?_) ?_ ?_; rotate_left
           ·show Act.put _ (some 20) _ = _; simp only [Act.put,s1_,s2_,s3_,i64_w,i32_w]; rfl
           refine pure_ (i:=3) (N:=some 21) (v:=?_) (a':=?_) #[true,true,true,true,false,false,false,false,false,false,false,false,false,false,false,false,false,false,false,false,false,false,false,false,false,false,false,false,false,false,false,false,false,false,false,false,false] rfl rfl (any_of HT_.out (by kernel_rfl)) (fun _ _ _ h => h) (Or.inl ⟨by rfl,?_⟩) ?_ ?_; rotate_left
           ·intro w'; go_simp; with_reducible rfl
           rotate_left
           ·simp only [Act.put,s1_,s2_,s3_,i64_w,i32_w]; rfl
           refine pure_ (i:=4) (N:=some 22) (v:=?_) (a':=?_) #[true,true,true,true,true,false,false,false,false,false,false,false,false,false,false,false,false,false,false,false,false,false,false,false,false,false,false,false,false,false,false,false,false,false,false,false,false] rfl rfl (any_of HT_.out (by kernel_rfl)) (fun _ _ _ h => h) (Or.inl ⟨by rfl,?_⟩) ?_ ?_; rotate_left
           ·intro w'; go_simp; with_reducible rfl
           rotate_left
           ·simp only [Act.put,s1_,s2_,s3_,i64_w,i32_w]; rfl
           refine pure_ (i:=5) (N:=some 23) (v:=?_) (a':=?_) #[true,true,true,true,true,true,false,false,false,false,false,false,false,false,false,false,false,false,false,false,false,false,false,false,false,false,false,false,false,false,false,false,false,false,false,false,false] rfl rfl (any_of HT_.out (by kernel_rfl)) (fun _ _ _ h => h) (Or.inl ⟨by rfl,?_⟩) ?_ ?_; rotate_left
           ·intro w'; go_simp; with_reducible rfl
           rotate_left
           ·simp only [Act.put,s1_,s2_,s3_,i64_w,i32_w]; rfl
           refine pure_ (i:=6) (N:=some 24) (v:=?_) (a':=?_) #[true,true,true,true,true,true,true,false,false,false,false,false,false,false,false,false,false,false,false,false,false,false,false,false,false,false,false,false,false,false,false,false,false,false,false,false,false] rfl rfl (any_of HT_.out (by kernel_rfl)) (fun _ _ _ h => h) (Or.inl ⟨by rfl,?_⟩) ?_ ?_; rotate_left
           ·intro w'; go_simp; with_reducible rfl
           rotate_left
           ·simp only [Act.put,s1_,s2_,s3_,i64_w,i32_w]; rfl
           refine pure_ (i:=7) (N:=some 25) (v:=?_) (a':=?_) #[true,true,true,true,true,true,true,true,false,false,false,false,false,false,false,false,false,false,false,false,false,false,false,false,false,false,false,false,false,false,false,false,false,false,false,false,false] rfl rfl (any_of HT_.out (by kernel_rfl)) (fun _ _ _ h => h) (Or.inl ⟨by rfl,?_⟩) ?_ ?_; rotate_left
           ·intro w'; go_simp; with_reducible rfl
           rotate_left
           ·simp only [Act.put,s1_,s2_,s3_,i64_w,i32_w]; rfl
           refine pure_ (i:=8) (N:=some 26) (v:=undef) (a':=?_) #[true,true,true,true,true,true,true,true,true,false,false,false,false,false,false,false,false,false,false,false,false,false,false,false,false,false,false,false,false,false,false,false,false,false,false,false,false] rfl rfl (any_of HT_.out (by kernel_rfl)) (fun _ _ _ h => h) (Or.inr ⟨by rfl,rfl⟩) ?_ ?_; rotate_left
           ·simp only [Act.put,s1_,s2_,s3_,i64_w,i32_w]; rfl
           refine pure_ (i:=9) (N:=some 27) (v:=undef) (a':=?_) #[true,true,true,true,true,true,true,true,true,true,false,false,false,false,false,false,false,false,false,false,false,false,false,false,false,false,false,false,false,false,false,false,false,false,false,false,false] rfl rfl (any_of HT_.out (by kernel_rfl)) (fun _ _ _ h => h) (Or.inr ⟨by rfl,rfl⟩) ?_ ?_; rotate_left
           ·simp only [Act.put,s1_,s2_,s3_,i64_w,i32_w]; rfl
           refine pure_ (i:=10) (N:=some 28) (v:=undef) (a':=?_) #[true,true,true,true,true,true,true,true,true,true,true,false,false,false,false,false,false,false,false,false,false,false,false,false,false,false,false,false,false,false,false,false,false,false,false,false,false] rfl rfl (any_of HT_.out (by kernel_rfl)) (fun _ _ _ h => h) (Or.inr ⟨by rfl,rfl⟩) ?_ ?_; rotate_left
           ·simp only [Act.put,s1_,s2_,s3_,i64_w,i32_w]; rfl
           refine pure_ (i:=11) (N:=some 29) (v:=undef) (a':=?_) #[true,true,true,true,true,true,true,true,true,true,true,true,false,false,false,false,false,false,false,false,false,false,false,false,false,false,false,false,false,false,false,false,false,false,false,false,false] rfl rfl (any_of HT_.out (by kernel_rfl)) (fun _ _ _ h => h) (Or.inr ⟨by rfl,rfl⟩) ?_ ?_; rotate_left
           ·simp only [Act.put,s1_,s2_,s3_,i64_w,i32_w]; rfl
           refine pure_ (i:=12) (N:=some 30) (v:=undef) (a':=?_) #[true,true,true,true,true,true,true,true,true,true,true,true,true,false,false,false,false,false,false,false,false,false,false,false,false,false,false,false,false,false,false,false,false,false,false,false,false] rfl rfl (any_of HT_.out (by kernel_rfl)) (fun _ _ _ h => h) (Or.inr ⟨by rfl,rfl⟩) ?_ ?_; rotate_left
           ·simp only [Act.put,s1_,s2_,s3_,i64_w,i32_w]; rfl
           refine pure_ (i:=13) (N:=some 31) (v:=undef) (a':=?_) #[true,true,true,true,true,true,true,true,true,true,true,true,true,true,false,false,false,false,false,false,false,false,false,false,false,false,false,false,false,false,false,false,false,false,false,false,false] rfl rfl (any_of HT_.out (by kernel_rfl)) (fun _ _ _ h => h) (Or.inr ⟨by rfl,rfl⟩) ?_ ?_; rotate_left
           ·simp only [Act.put,s1_,s2_,s3_,i64_w,i32_w]; rfl
           refine pure_ (i:=14) (N:=some 32) (v:=undef) (a':=?_) #[true,true,true,true,true,true,true,true,true,true,true,true,true,true,true,false,false,false,false,false,false,false,false,false,false,false,false,false,false,false,false,false,false,false,false,false,false] rfl rfl (any_of HT_.out (by kernel_rfl)) (fun _ _ _ h => h) (Or.inr ⟨by rfl,rfl⟩) ?_ ?_; rotate_left
           ·simp only [Act.put,s1_,s2_,s3_,i64_w,i32_w]; rfl
           refine pure_ (i:=15) (N:=some 33) (v:=undef) (a':=?_) #[true,true,true,true,true,true,true,true,true,true,true,true,true,true,true,true,false,false,false,false,false,false,false,false,false,false,false,false,false,false,false,false,false,false,false,false,false] rfl rfl (any_of HT_.out (by kernel_rfl)) (fun _ _ _ h => h) (Or.inr ⟨by rfl,rfl⟩) ?_ ?_; rotate_left
           ·simp only [Act.put,s1_,s2_,s3_,i64_w,i32_w]; rfl
           refine pure_ (i:=16) (N:=some 34) (v:=undef) (a':=?_) #[true,true,true,true,true,true,true,true,true,true,true,true,true,true,true,true,true,false,false,false,false,false,false,false,false,false,false,false,false,false,false,false,false,false,false,false,false] rfl rfl (any_of HT_.out (by kernel_rfl)) (fun _ _ _ h => h) (Or.inr ⟨by rfl,rfl⟩) ?_ ?_; rotate_left
           ·simp only [Act.put,s1_,s2_,s3_,i64_w,i32_w]; rfl
           refine pure_ (i:=17) (N:=some 35) (v:=?_) (a':=?_) #[true,true,true,true,true,true,true,true,true,true,true,true,true,true,true,true,true,true,false,false,false,false,false,false,false,false,false,false,false,false,false,false,false,false,false,false,false] rfl rfl (any_of HT_.out (by kernel_rfl)) (fun _ _ _ h => h) (Or.inl ⟨by rfl,?_⟩) ?_ ?_; rotate_left
           ·intro w'; go_simp; with_reducible rfl
           rotate_left
           ·simp only [Act.put,s1_,s2_,s3_,i64_w,i32_w]; rfl
           refine pure_ (i:=18) (N:=some 36) (v:=?_) (a':=?_) #[true,true,true,true,true,true,true,true,true,true,true,true,true,true,true,true,true,true,true,false,false,false,false,false,false,false,false,false,false,false,false,false,false,false,false,false,false] rfl rfl (any_of HT_.out (by kernel_rfl)) (fun _ _ _ h => h) (Or.inl ⟨by rfl,?_⟩) ?_ ?_; rotate_left
           ·intro w'; go_simp; with_reducible rfl
           rotate_left
           ·simp only [Act.put,s1_,s2_,s3_,i64_w,i32_w]; rfl
           refine pure_ (i:=19) (N:=some 37) (v:=?_) (a':=?_) #[true,true,true,true,true,true,true,true,true,true,true,true,true,true,true,true,true,true,true,true,false,false,false,false,false,false,false,false,false,false,false,false,false,false,false,false,false] rfl rfl (any_of HT_.out (by kernel_rfl)) (fun _ _ _ h => h) (Or.inl ⟨by rfl,?_⟩) ?_ ?_; rotate_left
           ·intro w'; go_simp; with_reducible rfl
           rotate_left
           ·simp only [Act.put,s1_,s2_,s3_,i64_w,i32_w]; rfl
           refine pure_ (i:=20) (N:=some 38) (v:=?_) (a':=?_) #[true,true,true,true,true,true,true,true,true,true,true,true,true,true,true,true,true,true,true,true,true,false,false,false,false,false,false,false,false,false,false,false,false,false,false,false,false] rfl rfl (any_of HT_.out (by kernel_rfl)) (fun _ _ _ h => h) (Or.inl ⟨by rfl,?_⟩) ?_ ?_; rotate_left
           ·intro w'; go_simp; with_reducible rfl
           rotate_left
           ·simp only [Act.put,s1_,s2_,s3_,i64_w,i32_w]; rfl
           refine take_ (i:=21) (N:=some 39) (v:=?_) (a':=?_) #[true,true,true,true,true,true,true,true,true,true,true,true,true,true,true,true,true,true,true,true,true,true,false,false,false,false,false,false,false,false,false,false,false,false,false,false,false] rfl rfl (take_ofW HT_.out HW_.out (by kernel_rfl)) (fun _ _ _ h => h) (Or.inl ⟨by rfl,?_⟩) hHeld ?_ ?_; rotate_left
           ·rintro w' ⟨s0,s1,s2,s3⟩; go_simp; with_reducible rfl
           rotate_left
           ·simp only [Act.put,s1_,s2_,s3_,i64_w,i32_w]; rfl
           refine one_ (i:=22) (N:=some 40) #[true,true,true,true,true,true,true,true,true,true,true,true,true,true,true,true,true,true,true,true,true,true,true,false,false,false,false,false,false,false,false,false,false,false,false,false,false] rfl rfl (one_of HT_.out (by kernel_rfl)) (by decide) (fun K hK => ?_); refine goes_ Try.func55 (by kernel_rfl) rfl #[.int .i64 ((rd_T89 l0 x3_1).f1),.int .i64 0,.int .i64 999] (by rfl) rfl rfl (by (try simp only [List.map_toArray,List.map_cons,List.map_nil]); first | done | rfl | (simp only [List.length_drop,List.length_take]; rfl)) ?_; with_reducible refine (spec_l01In.calls ((rd_T89 l0 x3_1).f1) 0 999 true _ A38.out).mono ?_; rintro e w' ⟨rfl,⟨nd,rfl⟩⟩; refine ⟨_,rfl,?_⟩; replace BK116d_ := Aside0.mk (blk_drewN BK116d_.out nd); replace HBd_ := Aside0.mk (pw_below_drewN HBd_.out nd); refine hK.out _ _ ⟨(blk_cell BK116d_.out 0).trans rfl,(blk_cell BK116d_.out 1).trans rfl,(blk_cell BK116d_.out 2).trans rfl,(blk_cell BK116d_.out 3).trans rfl⟩ (fun hHeld => ?_); clear hK K; refine norm_ (a':=?_) ?_ ?_; rotate_left
           ·show Act.put _ (some 40) _ = _; simp only [Act.put,s1_,s2_,s3_,i64_w,i32_w]; rfl
           refine pure_ (i:=23) (N:=some 41) (v:=?_) (a':=?_) #[true,true,true,true,true,true,true,true,true,true,true,true,true,true,true,true,true,true,true,true,true,true,true,true,false,false,false,false,false,false,false,false,false,false,false,false,false] rfl rfl (any_of HT_.out (by kernel_rfl)) (fun _ _ _ h => h) (Or.inl ⟨by rfl,?_⟩) ?_ ?_; rotate_left
           ·intro w'; go_simp; with_reducible rfl
           rotate_left
           ·simp only [Act.put,s1_,s2_,s3_,i64_w,i32_w]; rfl
           refine pure_ (i:=24) (N:=some 42) (v:=?_) (a':=?_) #[true,true,true,true,true,true,true,true,true,true,true,true,true,true,true,true,true,true,true,true,true,true,true,true,true,false,false,false,false,false,false,false,false,false,false,false,false] rfl rfl (any_of HT_.out (by kernel_rfl)) (fun _ _ _ h => h) (Or.inl ⟨by rfl,?_⟩) ?_ ?_; rotate_left
           ·intro w'; go_simp; with_reducible rfl
           rotate_left
           ·simp only [Act.put,s1_,s2_,s3_,i64_w,i32_w]; rfl
           refine pure_ (i:=25) (N:=some 43) (v:=?_) (a':=?_) #[true,true,true,true,true,true,true,true,true,true,true,true,true,true,true,true,true,true,true,true,true,true,true,true,true,true,false,false,false,false,false,false,false,false,false,false,false] rfl rfl (any_of HT_.out (by kernel_rfl)) (fun _ _ _ h => h) (Or.inl ⟨by rfl,?_⟩) ?_ ?_; rotate_left
           ·intro w'; go_simp; with_reducible rfl
           rotate_left
           ·simp only [Act.put,s1_,s2_,s3_,i64_w,i32_w]; rfl
           refine pure_ (i:=26) (N:=some 44) (v:=?_) (a':=?_) #[true,true,true,true,true,true,true,true,true,true,true,true,true,true,true,true,true,true,true,true,true,true,true,true,true,true,true,false,false,false,false,false,false,false,false,false,false] rfl rfl (any_of HT_.out (by kernel_rfl)) (fun _ _ _ h => h) (Or.inl ⟨by rfl,?_⟩) ?_ ?_; rotate_left
           ·intro w'; go_simp; with_reducible rfl
           rotate_left
           ·simp only [Act.put,s1_,s2_,s3_,i64_w,i32_w]; rfl
           refine take_ (i:=27) (N:=some 45) (v:=?_) (a':=?_) #[true,true,true,true,true,true,true,true,true,true,true,true,true,true,true,true,true,true,true,true,true,true,true,true,true,true,true,true,false,false,false,false,false,false,false,false,false] rfl rfl (take_ofW HT_.out HW_.out (by kernel_rfl)) (fun _ _ _ h => h) (Or.inl ⟨by rfl,?_⟩) hHeld ?_ ?_; rotate_left
           ·rintro w' ⟨s0,s1,s2,s3⟩; go_simp; with_reducible rfl
           rotate_left
           ·simp only [Act.put,s1_,s2_,s3_,i64_w,i32_w]; rfl
           refine one_ (i:=28) (N:=some 46) #[true,true,true,true,true,true,true,true,true,true,true,true,true,true,true,true,true,true,true,true,true,true,true,true,true,true,true,true,true,false,false,false,false,false,false,false,false] rfl rfl (one_of HT_.out (by kernel_rfl)) (by decide) (fun K hK => ?_); refine goes_ Try.func55 (by kernel_rfl) rfl #[.int .i64 ((rd_T89 l0 x3_1).f2),.int .i64 0,.int .i64 20000] (by rfl) rfl rfl (by (try simp only [List.map_toArray,List.map_cons,List.map_nil]); first | done | rfl | (simp only [List.length_drop,List.length_take]; rfl)) ?_; with_reducible refine (spec_l01In.calls ((rd_T89 l0 x3_1).f2) 0 20000 true _ A40.out).mono ?_; rintro e w' ⟨rfl,⟨nd,rfl⟩⟩; refine ⟨_,rfl,?_⟩; replace BK116d_ := Aside0.mk (blk_drewN BK116d_.out nd); replace HBd_ := Aside0.mk (pw_below_drewN HBd_.out nd); refine hK.out _ _ ⟨(blk_cell BK116d_.out 0).trans rfl,(blk_cell BK116d_.out 1).trans rfl,(blk_cell BK116d_.out 2).trans rfl,(blk_cell BK116d_.out 3).trans rfl⟩ (fun hHeld => ?_); clear hK K; refine norm_ (a':=?_) ?_ ?_; rotate_left
           ·show Act.put _ (some 46) _ = _; simp only [Act.put,s1_,s2_,s3_,i64_w,i32_w]; rfl
           refine pure_ (i:=29) (N:=some 47) (v:=?_) (a':=?_) #[true,true,true,true,true,true,true,true,true,true,true,true,true,true,true,true,true,true,true,true,true,true,true,true,true,true,true,true,true,true,false,false,false,false,false,false,false] rfl rfl (any_of HT_.out (by kernel_rfl)) (fun _ _ _ h => h) (Or.inl ⟨by rfl,?_⟩) ?_ ?_; rotate_left
           ·intro w'; go_simp; with_reducible rfl
           rotate_left
           ·simp only [Act.put,s1_,s2_,s3_,i64_w,i32_w]; rfl
           refine pure_ (i:=30) (N:=some 48) (v:=?_) (a':=?_) #[true,true,true,true,true,true,true,true,true,true,true,true,true,true,true,true,true,true,true,true,true,true,true,true,true,true,true,true,true,true,true,false,false,false,false,false,false] rfl rfl (any_of HT_.out (by kernel_rfl)) (fun _ _ _ h => h) (Or.inl ⟨by rfl,?_⟩) ?_ ?_; rotate_left
           ·intro w'; go_simp; with_reducible rfl
           rotate_left
           ·simp only [Act.put,s1_,s2_,s3_,i64_w,i32_w]; rfl
           refine pure_ (i:=31) (N:=some 49) (v:=?_) (a':=?_) #[true,true,true,true,true,true,true,true,true,true,true,true,true,true,true,true,true,true,true,true,true,true,true,true,true,true,true,true,true,true,true,true,false,false,false,false,false] rfl rfl (any_of HT_.out (by kernel_rfl)) (fun _ _ _ h => h) (Or.inl ⟨by rfl,?_⟩) ?_ ?_; rotate_left
           ·intro w'; go_simp; with_reducible rfl
           rotate_left
           ·simp only [Act.put,s1_,s2_,s3_,i64_w,i32_w]; rfl
           refine pure_ (i:=32) (N:=some 50) (v:=?_) (a':=?_) #[true,true,true,true,true,true,true,true,true,true,true,true,true,true,true,true,true,true,true,true,true,true,true,true,true,true,true,true,true,true,true,true,true,false,false,false,false] rfl rfl (any_of HT_.out (by kernel_rfl)) (fun _ _ _ h => h) (Or.inl ⟨by rfl,?_⟩) ?_ ?_; rotate_left
           ·intro w'; go_simp; with_reducible rfl
           rotate_left
           ·simp only [Act.put,s1_,s2_,s3_,i64_w,i32_w]; rfl
           refine take_ (i:=33) (N:=some 51) (v:=?_) (a':=?_) #[true,true,true,true,true,true,true,true,true,true,true,true,true,true,true,true,true,true,true,true,true,true,true,true,true,true,true,true,true,true,true,true,true,true,false,false,false] rfl rfl (take_ofW HT_.out HW_.out (by kernel_rfl)) (fun _ _ _ h => h) (Or.inl ⟨by rfl,?_⟩) hHeld ?_ ?_; rotate_left
           ·rintro w' ⟨s0,s1,s2,s3⟩; go_simp; with_reducible rfl
           rotate_left
           ·simp only [Act.put,s1_,s2_,s3_,i64_w,i32_w]; rfl
           refine one_ (i:=34) (N:=some 52) #[true,true,true,true,true,true,true,true,true,true,true,true,true,true,true,true,true,true,true,true,true,true,true,true,true,true,true,true,true,true,true,true,true,true,true,false,false] rfl rfl (one_of HT_.out (by kernel_rfl)) (by decide) (fun K hK => ?_); refine goes_ Try.func55 (by kernel_rfl) rfl #[.int .i64 ((rd_T89 l0 x3_1).f3),.int .i64 0,.int .i64 40] (by rfl) rfl rfl (by (try simp only [List.map_toArray,List.map_cons,List.map_nil]); first | done | rfl | (simp only [List.length_drop,List.length_take]; rfl)) ?_; with_reducible refine (spec_l01In.calls ((rd_T89 l0 x3_1).f3) 0 40 true _ A42.out).mono ?_; rintro e w' ⟨rfl,⟨nd,rfl⟩⟩; refine ⟨_,rfl,?_⟩; replace BK116d_ := Aside0.mk (blk_drewN BK116d_.out nd); replace HBd_ := Aside0.mk (pw_below_drewN HBd_.out nd); refine hK.out _ _ ⟨(blk_cell BK116d_.out 0).trans rfl,(blk_cell BK116d_.out 1).trans rfl,(blk_cell BK116d_.out 2).trans rfl,(blk_cell BK116d_.out 3).trans rfl⟩ (fun hHeld => ?_); clear hK K; refine norm_ (a':=?_) ?_ ?_; rotate_left
           ·show Act.put _ (some 52) _ = _; simp only [Act.put,s1_,s2_,s3_,i64_w,i32_w]; rfl
           refine pure_ (i:=35) (N:=some 53) (v:=?_) (a':=?_) #[true,true,true,true,true,true,true,true,true,true,true,true,true,true,true,true,true,true,true,true,true,true,true,true,true,true,true,true,true,true,true,true,true,true,true,true,false] rfl rfl (any_of HT_.out (by kernel_rfl)) (fun _ _ _ h => h) (Or.inl ⟨by rfl,?_⟩) ?_ ?_; rotate_left
           ·intro w'; go_simp; with_reducible rfl
           rotate_left
           ·simp only [Act.put,s1_,s2_,s3_,i64_w,i32_w]; rfl
           refine pure_ (i:=36) (N:=some 54) (v:=?_) (a':=?_) #[true,true,true,true,true,true,true,true,true,true,true,true,true,true,true,true,true,true,true,true,true,true,true,true,true,true,true,true,true,true,true,true,true,true,true,true,true] rfl rfl (any_of HT_.out (by kernel_rfl)) (fun _ _ _ h => h) (Or.inl ⟨by rfl,?_⟩) ?_ ?_; rotate_left
           ·intro w'; go_simp; with_reducible rfl
           rotate_left
           ·simp only [Act.put,s1_,s2_,s3_,i64_w,i32_w]; rfl
           refine done_ (done_of HT_.out (by kernel_rfl)) ?_
           try go_wp2
           go_roundg k1
           case measure => have := HK1.out; omega
           case rel => exact ⟨(wrap64 (x3_1 + 1)),(by first | rfl | (simp; done) | (simp [*]; done)),H',⟨by have := HK1.out; omega⟩,⟨by repeat (first | (with_reducible first | exact HB.out | apply below_alloc | apply pw_below_drewN | apply below_drew1 | refine below_set ?_ GE116.out) | exact HB.out)⟩⟩
          ·replace c43 := Bool.eq_false_iff.mpr c43; subst c43
           have H1 : (some false) = some r := by rw [if_neg (show ¬ (false = true) by decide)] at H; exact H
           clear H; have H := H1; clear H1; obtain rfl := Option.some.inj H; have p115 : 0 ≤ (x3_1 : Int) := of_decide_eq_true (by first | (with_reducible assumption) | assumption); have q115 : x3_1 < (l0.length : Int) := of_decide_eq_true (by first | (with_reducible assumption) | assumption); obtain ⟨ad115,e115,hx115_0,hx115_1,hx115_2,hx115_3⟩ := at_T89 HR0.out x3_1 p115 q115
           cases e115
           replace hx115_0 := (HB.out.cell (World.block_lt_of_cell? w _ hx115_0)).trans hx115_0; replace hx115_1 := (HB.out.cell (World.block_lt_of_cell? w _ hx115_1)).trans hx115_1; replace hx115_2 := (HB.out.cell (World.block_lt_of_cell? w _ hx115_2)).trans hx115_2; replace hx115_3 := (HB.out.cell (World.block_lt_of_cell? w _ hx115_3)).trans hx115_3; replace p115 := eq_true p115; replace q115 := eq_true q115
           try go_wp2_with (first | ((with_reducible refine gate_dst (N:=4) rfl ?_); refine box_event ?hg (N:=4) ?hd (cs:=#[.string (⟨#[]⟩ : ByteArray),.int .i64 0,.int .i64 0,.int .i64 0]) (t:=89) ?hr ?_; (case hd => rfl); (case hg => rfl); (case hr => first | (go_simp; done) | (go_simp; rfl)); intro gb116 hg w48 hbox hb; have n0_ := Aside0.mk (below_step (by repeat (first | (with_reducible first | exact HB.out | apply below_alloc | apply pw_below_drewN | apply below_drew1) | exact HB.out)) hb); have n1_ := Aside0.mk (hbox); have n2_ := Aside0.mk ((by rw [hg]; exact (below_size (by repeat (first | (with_reducible first | exact HB.out | apply below_alloc | apply pw_below_drewN | apply below_drew1) | exact HB.out))) : w.heap.size ≤ gb116)); have n3_ := Aside0.mk ((by rw [hg]; exact (below_size (by repeat (first | (with_reducible first | exact HB.out | apply below_alloc | apply pw_below_drewN | apply below_drew1) | exact HB.out))) : w.heap.size ≤ gb116)); clear HB; have HB := n0_; have BK116 := n1_; have GW116 := n2_; have GE116 := n3_; clear n0_ n1_ n2_ n3_; clear hb hbox hg; have hcz49_0 : w48.cell? ⟨gb116,0,none⟩ = some (.string (⟨#[]⟩ : ByteArray)) := (blk_cell BK116.out 0).trans rfl; have hcz49_1 : w48.cell? ⟨gb116,1,none⟩ = some (.int .i64 0) := (blk_cell BK116.out 1).trans rfl; have hcz49_2 : w48.cell? ⟨gb116,2,none⟩ = some (.int .i64 0) := (blk_cell BK116.out 2).trans rfl; have hcz49_3 : w48.cell? ⟨gb116,3,none⟩ = some (.int .i64 0) := (blk_cell BK116.out 3).trans rfl; have hfz49_0 := blk_frozen BK116.out 0; have hfz49_1 := blk_frozen BK116.out 1; have hfz49_2 := blk_frozen BK116.out 2; have hfz49_3 := blk_frozen BK116.out 3))
           have n0_ : Aside0 (((((w48.setCell ⟨gb116,0,none⟩ (.string ((rd_T89 l0 x3_1).f0))).setCell ⟨gb116,1,none⟩ (.int .i64 ((rd_T89 l0 x3_1).f1))).setCell ⟨gb116,2,none⟩ (.int .i64 ((rd_T89 l0 x3_1).f2))).setCell ⟨gb116,3,none⟩ (.int .i64 ((rd_T89 l0 x3_1).f3))).heap[gb116]? = some (.cells #[.string ((rd_T89 l0 x3_1).f0),.int .i64 ((rd_T89 l0 x3_1).f1),.int .i64 ((rd_T89 l0 x3_1).f2),.int .i64 ((rd_T89 l0 x3_1).f3)] 89 (0,0))) := ⟨by (with_reducible repeat (first | refine blk_drewN ?_ _ | refine blk_drew ?_ | refine blk_alloc ?_ _)); refine blk_put (cs:=#[.string ((rd_T89 l0 x3_1).f0),.int .i64 ((rd_T89 l0 x3_1).f1),.int .i64 ((rd_T89 l0 x3_1).f2),.int .i64 0]) ?_ 3 _ rfl; (with_reducible repeat (first | refine blk_drewN ?_ _ | refine blk_drew ?_ | refine blk_alloc ?_ _)); refine blk_put (cs:=#[.string ((rd_T89 l0 x3_1).f0),.int .i64 ((rd_T89 l0 x3_1).f1),.int .i64 0,.int .i64 0]) ?_ 2 _ rfl; (with_reducible repeat (first | refine blk_drewN ?_ _ | refine blk_drew ?_ | refine blk_alloc ?_ _)); refine blk_put (cs:=#[.string ((rd_T89 l0 x3_1).f0),.int .i64 0,.int .i64 0,.int .i64 0]) ?_ 1 _ rfl; (with_reducible repeat (first | refine blk_drewN ?_ _ | refine blk_drew ?_ | refine blk_alloc ?_ _)); refine blk_put (cs:=#[.string (⟨#[]⟩ : ByteArray),.int .i64 0,.int .i64 0,.int .i64 0]) ?_ 0 _ rfl; (with_reducible repeat (first | refine blk_drewN ?_ _ | refine blk_drew ?_ | refine blk_alloc ?_ _)); exact BK116.out⟩; have n1_ : Aside0 (Below w.heap.size w ((((w48.setCell ⟨gb116,0,none⟩ (.string ((rd_T89 l0 x3_1).f0))).setCell ⟨gb116,1,none⟩ (.int .i64 ((rd_T89 l0 x3_1).f1))).setCell ⟨gb116,2,none⟩ (.int .i64 ((rd_T89 l0 x3_1).f2))).setCell ⟨gb116,3,none⟩ (.int .i64 ((rd_T89 l0 x3_1).f3)))) := ⟨by repeat (first | (with_reducible first | exact HB.out | apply below_alloc | apply pw_below_drewN | apply below_drew1 | refine below_set ?_ GE116.out) | exact HB.out)⟩
           (try clear BK116)
           (try clear HB)
           generalize ((((w48.setCell ⟨gb116,0,none⟩ (.string ((rd_T89 l0 x3_1).f0))).setCell ⟨gb116,1,none⟩ (.int .i64 ((rd_T89 l0 x3_1).f1))).setCell ⟨gb116,2,none⟩ (.int .i64 ((rd_T89 l0 x3_1).f2))).setCell ⟨gb116,3,none⟩ (.int .i64 ((rd_T89 l0 x3_1).f3))) = w50 at n0_ n1_ ⊢; have BK116 := n0_; have HB := n1_; clear n0_ n1_; have n0_ := Aside0.mk (blk_drew BK116.out); have n1_ := Aside0.mk (below_drew1 HB.out); clear BK116; clear HB; have BK116 := n0_; have HB := n1_; clear n0_ n1_; refine start_ (n:=37) (S:=fun w' => w'.cell? ⟨gb116,0,none⟩ = some (.string ((rd_T89 l0 x3_1).f0)) ∧ w'.cell? ⟨gb116,1,none⟩ = some (.int .i64 ((rd_T89 l0 x3_1).f1)) ∧ w'.cell? ⟨gb116,2,none⟩ = some (.int .i64 ((rd_T89 l0 x3_1).f2)) ∧ w'.cell? ⟨gb116,3,none⟩ = some (.int .i64 ((rd_T89 l0 x3_1).f3))) (ds:=[]) #[false,false,false,false,false,false,false,false,false,false,false,false,false,false,false,false,false,false,false,false,false,false,false,false,false,false,false,false,false,false,false,false,false,false,false,false,false] (by kernel_rfl) rfl rfl ⟨(blk_cell BK116.out 0).trans rfl,(blk_cell BK116.out 1).trans rfl,(blk_cell BK116.out 2).trans rfl,(blk_cell BK116.out 3).trans rfl⟩ (fun hHeld => ?_); refine with_tabW spec_DirOk.tab7 spec_DirOk.bits7 (fun HT_ HW_ => ?_); generalize w50.drew = w51 at BK116 HB hHeld ⊢; refine pure_ (i:=0) (N:=some 18) (v:=?_) (a':=?_) #[true,false,false,false,false,false,false,false,false,false,false,false,false,false,false,false,false,false,false,false,false,false,false,false,false,false,false,false,false,false,false,false,false,false,false,false,false] rfl rfl (any_of HT_.out (by kernel_rfl)) (fun _ _ _ h => h) (Or.inl ⟨by rfl,?_⟩) ?_ ?_; rotate_left
           ·intro w'; go_simp; with_reducible rfl
           rotate_left
           ·simp only [Act.put,s1_,s2_,s3_,i64_w,i32_w]; rfl
           refine take_ (i:=1) (N:=some 19) (v:=?_) (a':=?_) #[true,true,false,false,false,false,false,false,false,false,false,false,false,false,false,false,false,false,false,false,false,false,false,false,false,false,false,false,false,false,false,false,false,false,false,false,false] rfl rfl (take_ofW HT_.out HW_.out (by kernel_rfl)) (fun _ _ _ h => h) (Or.inl ⟨by rfl,?_⟩) hHeld ?_ ?_; rotate_left
           ·rintro w' ⟨s0,s1,s2,s3⟩; go_simp; with_reducible rfl
           rotate_left
           ·simp only [Act.put,s1_,s2_,s3_,i64_w,i32_w]; rfl
           refine one_ (i:=2) (N:=some 20) #[true,true,true,false,false,false,false,false,false,false,false,false,false,false,false,false,false,false,false,false,false,false,false,false,false,false,false,false,false,false,false,false,false,false,false,false,false] rfl rfl (one_of HT_.out (by kernel_rfl)) (by decide) (fun K hK => ?_); refine goes_ Try.func85 (by kernel_rfl) rfl #[.string ((rd_T89 l0 x3_1).f0)] (by rfl) rfl rfl (by (try simp only [List.map_toArray,List.map_cons,List.map_nil]); first | done | rfl | (simp only [List.length_drop,List.length_take]; rfl)) ?_; with_reducible refine (spec_l05Key.calls ((rd_T89 l0 x3_1).f0) true _ A5.out).mono ?_; rintro e w' ⟨rfl,⟨nd,rfl⟩⟩; refine ⟨_,rfl,?_⟩; have BK116d_ := Aside0.mk (blk_drewN BK116.out nd); have HBd_ := Aside0.mk (pw_below_drewN HB.out nd); refine hK.out _ _ ⟨(blk_cell BK116d_.out 0).trans rfl,(blk_cell BK116d_.out 1).trans rfl,(blk_cell BK116d_.out 2).trans rfl,(blk_cell BK116d_.out 3).trans rfl⟩ (fun hHeld => ?_); clear hK K; refine norm_ (a':=?_) ?_ ?_; rotate_left
           ·show Act.put _ (some 20) _ = _; simp only [Act.put,s1_,s2_,s3_,i64_w,i32_w]; rfl
           refine pure_ (i:=3) (N:=some 21) (v:=?_) (a':=?_) #[true,true,true,true,false,false,false,false,false,false,false,false,false,false,false,false,false,false,false,false,false,false,false,false,false,false,false,false,false,false,false,false,false,false,false,false,false] rfl rfl (any_of HT_.out (by kernel_rfl)) (fun _ _ _ h => h) (Or.inl ⟨by rfl,?_⟩) ?_ ?_; rotate_left
           ·intro w'; go_simp; with_reducible rfl
           rotate_left
           ·simp only [Act.put,s1_,s2_,s3_,i64_w,i32_w]; rfl
           refine pure_ (i:=4) (N:=some 22) (v:=?_) (a':=?_) #[true,true,true,true,true,false,false,false,false,false,false,false,false,false,false,false,false,false,false,false,false,false,false,false,false,false,false,false,false,false,false,false,false,false,false,false,false] rfl rfl (any_of HT_.out (by kernel_rfl)) (fun _ _ _ h => h) (Or.inl ⟨by rfl,?_⟩) ?_ ?_; rotate_left
           ·intro w'; go_simp; with_reducible rfl
           rotate_left
           ·simp only [Act.put,s1_,s2_,s3_,i64_w,i32_w]; rfl
           refine pure_ (i:=5) (N:=some 23) (v:=?_) (a':=?_) #[true,true,true,true,true,true,false,false,false,false,false,false,false,false,false,false,false,false,false,false,false,false,false,false,false,false,false,false,false,false,false,false,false,false,false,false,false] rfl rfl (any_of HT_.out (by kernel_rfl)) (fun _ _ _ h => h) (Or.inl ⟨by rfl,?_⟩) ?_ ?_; rotate_left
           ·intro w'; go_simp; with_reducible rfl
           rotate_left
           ·simp only [Act.put,s1_,s2_,s3_,i64_w,i32_w]; rfl
           refine pure_ (i:=6) (N:=some 24) (v:=?_) (a':=?_) #[true,true,true,true,true,true,true,false,false,false,false,false,false,false,false,false,false,false,false,false,false,false,false,false,false,false,false,false,false,false,false,false,false,false,false,false,false] rfl rfl (any_of HT_.out (by kernel_rfl)) (fun _ _ _ h => h) (Or.inl ⟨by rfl,?_⟩) ?_ ?_; rotate_left
           ·intro w'; go_simp; with_reducible rfl
           rotate_left
           ·simp only [Act.put,s1_,s2_,s3_,i64_w,i32_w]; rfl
           refine pure_ (i:=7) (N:=some 25) (v:=?_) (a':=?_) #[true,true,true,true,true,true,true,true,false,false,false,false,false,false,false,false,false,false,false,false,false,false,false,false,false,false,false,false,false,false,false,false,false,false,false,false,false] rfl rfl (any_of HT_.out (by kernel_rfl)) (fun _ _ _ h => h) (Or.inl ⟨by rfl,?_⟩) ?_ ?_; rotate_left
           ·intro w'; go_simp; with_reducible rfl
           rotate_left
           ·simp only [Act.put,s1_,s2_,s3_,i64_w,i32_w]; rfl
           refine pure_ (i:=8) (N:=some 26) (v:=undef) (a':=?_) #[true,true,true,true,true,true,true,true,true,false,false,false,false,false,false,false,false,false,false,false,false,false,false,false,false,false,false,false,false,false,false,false,false,false,false,false,false] rfl rfl (any_of HT_.out (by kernel_rfl)) (fun _ _ _ h => h) (Or.inr ⟨by rfl,rfl⟩) ?_ ?_; rotate_left
           ·simp only [Act.put,s1_,s2_,s3_,i64_w,i32_w]; rfl
           refine pure_ (i:=9) (N:=some 27) (v:=undef) (a':=?_) #[true,true,true,true,true,true,true,true,true,true,false,false,false,false,false,false,false,false,false,false,false,false,false,false,false,false,false,false,false,false,false,false,false,false,false,false,false] rfl rfl (any_of HT_.out (by kernel_rfl)) (fun _ _ _ h => h) (Or.inr ⟨by rfl,rfl⟩) ?_ ?_; rotate_left
           ·simp only [Act.put,s1_,s2_,s3_,i64_w,i32_w]; rfl
           refine pure_ (i:=10) (N:=some 28) (v:=undef) (a':=?_) #[true,true,true,true,true,true,true,true,true,true,true,false,false,false,false,false,false,false,false,false,false,false,false,false,false,false,false,false,false,false,false,false,false,false,false,false,false] rfl rfl (any_of HT_.out (by kernel_rfl)) (fun _ _ _ h => h) (Or.inr ⟨by rfl,rfl⟩) ?_ ?_; rotate_left
           ·simp only [Act.put,s1_,s2_,s3_,i64_w,i32_w]; rfl
           refine pure_ (i:=11) (N:=some 29) (v:=undef) (a':=?_) #[true,true,true,true,true,true,true,true,true,true,true,true,false,false,false,false,false,false,false,false,false,false,false,false,false,false,false,false,false,false,false,false,false,false,false,false,false] rfl rfl (any_of HT_.out (by kernel_rfl)) (fun _ _ _ h => h) (Or.inr ⟨by rfl,rfl⟩) ?_ ?_; rotate_left
           ·simp only [Act.put,s1_,s2_,s3_,i64_w,i32_w]; rfl
           refine pure_ (i:=12) (N:=some 30) (v:=undef) (a':=?_) #[true,true,true,true,true,true,true,true,true,true,true,true,true,false,false,false,false,false,false,false,false,false,false,false,false,false,false,false,false,false,false,false,false,false,false,false,false] rfl rfl (any_of HT_.out (by kernel_rfl)) (fun _ _ _ h => h) (Or.inr ⟨by rfl,rfl⟩) ?_ ?_; rotate_left
           ·simp only [Act.put,s1_,s2_,s3_,i64_w,i32_w]; rfl
           refine pure_ (i:=13) (N:=some 31) (v:=undef) (a':=?_) #[true,true,true,true,true,true,true,true,true,true,true,true,true,true,false,false,false,false,false,false,false,false,false,false,false,false,false,false,false,false,false,false,false,false,false,false,false] rfl rfl (any_of HT_.out (by kernel_rfl)) (fun _ _ _ h => h) (Or.inr ⟨by rfl,rfl⟩) ?_ ?_; rotate_left
           ·simp only [Act.put,s1_,s2_,s3_,i64_w,i32_w]; rfl
           refine pure_ (i:=14) (N:=some 32) (v:=undef) (a':=?_) #[true,true,true,true,true,true,true,true,true,true,true,true,true,true,true,false,false,false,false,false,false,false,false,false,false,false,false,false,false,false,false,false,false,false,false,false,false] rfl rfl (any_of HT_.out (by kernel_rfl)) (fun _ _ _ h => h) (Or.inr ⟨by rfl,rfl⟩) ?_ ?_; rotate_left
           ·simp only [Act.put,s1_,s2_,s3_,i64_w,i32_w]; rfl
           refine pure_ (i:=15) (N:=some 33) (v:=undef) (a':=?_) #[true,true,true,true,true,true,true,true,true,true,true,true,true,true,true,true,false,false,false,false,false,false,false,false,false,false,false,false,false,false,false,false,false,false,false,false,false] rfl rfl (any_of HT_.out (by kernel_rfl)) (fun _ _ _ h => h) (Or.inr ⟨by rfl,rfl⟩) ?_ ?_; rotate_left
           ·simp only [Act.put,s1_,s2_,s3_,i64_w,i32_w]; rfl
           refine pure_ (i:=16) (N:=some 34) (v:=undef) (a':=?_) #[true,true,true,true,true,true,true,true,true,true,true,true,true,true,true,true,true,false,false,false,false,false,false,false,false,false,false,false,false,false,false,false,false,false,false,false,false] rfl rfl (any_of HT_.out (by kernel_rfl)) (fun _ _ _ h => h) (Or.inr ⟨by rfl,rfl⟩) ?_ ?_; rotate_left
           ·simp only [Act.put,s1_,s2_,s3_,i64_w,i32_w]; rfl
           refine pure_ (i:=17) (N:=some 35) (v:=?_) (a':=?_) #[true,true,true,true,true,true,true,true,true,true,true,true,true,true,true,true,true,true,false,false,false,false,false,false,false,false,false,false,false,false,false,false,false,false,false,false,false] rfl rfl (any_of HT_.out (by kernel_rfl)) (fun _ _ _ h => h) (Or.inl ⟨by rfl,?_⟩) ?_ ?_; rotate_left
           ·intro w'; go_simp; with_reducible rfl
           rotate_left
           ·simp only [Act.put,s1_,s2_,s3_,i64_w,i32_w]; rfl
           refine pure_ (i:=18) (N:=some 36) (v:=?_) (a':=?_) #[true,true,true,true,true,true,true,true,true,true,true,true,true,true,true,true,true,true,true,false,false,false,false,false,false,false,false,false,false,false,false,false,false,false,false,false,false] rfl rfl (any_of HT_.out (by kernel_rfl)) (fun _ _ _ h => h) (Or.inl ⟨by rfl,?_⟩) ?_ ?_; rotate_left
           ·intro w'; go_simp; with_reducible rfl
           rotate_left
           ·simp only [Act.put,s1_,s2_,s3_,i64_w,i32_w]; rfl
           refine pure_ (i:=19) (N:=some 37) (v:=?_) (a':=?_) #[true,true,true,true,true,true,true,true,true,true,true,true,true,true,true,true,true,true,true,true,false,false,false,false,false,false,false,false,false,false,false,false,false,false,false,false,false] rfl rfl (any_of HT_.out (by kernel_rfl)) (fun _ _ _ h => h) (Or.inl ⟨by rfl,?_⟩) ?_ ?_; rotate_left
           ·intro w'; go_simp; with_reducible rfl
           rotate_left
           ·simp only [Act.put,s1_,s2_,s3_,i64_w,i32_w]; rfl
           refine pure_ (i:=20) (N:=some 38) (v:=?_) (a':=?_) #[true,true,true,true,true,true,true,true,true,true,true,true,true,true,true,true,true,true,true,true,true,false,false,false,false,false,false,false,false,false,false,false,false,false,false,false,false] rfl rfl (any_of HT_.out (by kernel_rfl)) (fun _ _ _ h => h) (Or.inl ⟨by rfl,?_⟩) ?_ ?_; rotate_left
           ·intro w'; go_simp; with_reducible rfl
           rotate_left
           ·simp only [Act.put,s1_,s2_,s3_,i64_w,i32_w]; rfl
           refine take_ (i:=21) (N:=some 39) (v:=?_) (a':=?_) #[true,true,true,true,true,true,true,true,true,true,true,true,true,true,true,true,true,true,true,true,true,true,false,false,false,false,false,false,false,false,false,false,false,false,false,false,false] rfl rfl (take_ofW HT_.out HW_.out (by kernel_rfl)) (fun _ _ _ h => h) (Or.inl ⟨by rfl,?_⟩) hHeld ?_ ?_; rotate_left
           ·rintro w' ⟨s0,s1,s2,s3⟩; go_simp; with_reducible rfl
           rotate_left
           ·simp only [Act.put,s1_,s2_,s3_,i64_w,i32_w]; rfl
           refine one_ (i:=22) (N:=some 40) #[true,true,true,true,true,true,true,true,true,true,true,true,true,true,true,true,true,true,true,true,true,true,true,false,false,false,false,false,false,false,false,false,false,false,false,false,false] rfl rfl (one_of HT_.out (by kernel_rfl)) (by decide) (fun K hK => ?_); refine goes_ Try.func55 (by kernel_rfl) rfl #[.int .i64 ((rd_T89 l0 x3_1).f1),.int .i64 0,.int .i64 999] (by rfl) rfl rfl (by (try simp only [List.map_toArray,List.map_cons,List.map_nil]); first | done | rfl | (simp only [List.length_drop,List.length_take]; rfl)) ?_; with_reducible refine (spec_l01In.calls ((rd_T89 l0 x3_1).f1) 0 999 true _ A38.out).mono ?_; rintro e w' ⟨rfl,⟨nd,rfl⟩⟩; refine ⟨_,rfl,?_⟩; replace BK116d_ := Aside0.mk (blk_drewN BK116d_.out nd); replace HBd_ := Aside0.mk (pw_below_drewN HBd_.out nd); refine hK.out _ _ ⟨(blk_cell BK116d_.out 0).trans rfl,(blk_cell BK116d_.out 1).trans rfl,(blk_cell BK116d_.out 2).trans rfl,(blk_cell BK116d_.out 3).trans rfl⟩ (fun hHeld => ?_); clear hK K; refine norm_ (a':=?_) ?_ ?_; rotate_left
           ·show Act.put _ (some 40) _ = _; simp only [Act.put,s1_,s2_,s3_,i64_w,i32_w]; rfl
           refine pure_ (i:=23) (N:=some 41) (v:=?_) (a':=?_) #[true,true,true,true,true,true,true,true,true,true,true,true,true,true,true,true,true,true,true,true,true,true,true,true,false,false,false,false,false,false,false,false,false,false,false,false,false] rfl rfl (any_of HT_.out (by kernel_rfl)) (fun _ _ _ h => h) (Or.inl ⟨by rfl,?_⟩) ?_ ?_; rotate_left
           ·intro w'; go_simp; with_reducible rfl
           rotate_left
           ·simp only [Act.put,s1_,s2_,s3_,i64_w,i32_w]; rfl
           refine pure_ (i:=24) (N:=some 42) (v:=?_) (a':=?_) #[true,true,true,true,true,true,true,true,true,true,true,true,true,true,true,true,true,true,true,true,true,true,true,true,true,false,false,false,false,false,false,false,false,false,false,false,false] rfl rfl (any_of HT_.out (by kernel_rfl)) (fun _ _ _ h => h) (Or.inl ⟨by rfl,?_⟩) ?_ ?_; rotate_left
           ·intro w'; go_simp; with_reducible rfl
           rotate_left
           ·simp only [Act.put,s1_,s2_,s3_,i64_w,i32_w]; rfl
           refine pure_ (i:=25) (N:=some 43) (v:=?_) (a':=?_) #[true,true,true,true,true,true,true,true,true,true,true,true,true,true,true,true,true,true,true,true,true,true,true,true,true,true,false,false,false,false,false,false,false,false,false,false,false] rfl rfl (any_of HT_.out (by kernel_rfl)) (fun _ _ _ h => h) (Or.inl ⟨by rfl,?_⟩) ?_ ?_; rotate_left
           ·intro w'; go_simp; with_reducible rfl
           rotate_left
           ·simp only [Act.put,s1_,s2_,s3_,i64_w,i32_w]; rfl
           refine pure_ (i:=26) (N:=some 44) (v:=?_) (a':=?_) #[true,true,true,true,true,true,true,true,true,true,true,true,true,true,true,true,true,true,true,true,true,true,true,true,true,true,true,false,false,false,false,false,false,false,false,false,false] rfl rfl (any_of HT_.out (by kernel_rfl)) (fun _ _ _ h => h) (Or.inl ⟨by rfl,?_⟩) ?_ ?_; rotate_left
           ·intro w'; go_simp; with_reducible rfl
           rotate_left
           ·simp only [Act.put,s1_,s2_,s3_,i64_w,i32_w]; rfl
           refine take_ (i:=27) (N:=some 45) (v:=?_) (a':=?_) #[true,true,true,true,true,true,true,true,true,true,true,true,true,true,true,true,true,true,true,true,true,true,true,true,true,true,true,true,false,false,false,false,false,false,false,false,false] rfl rfl (take_ofW HT_.out HW_.out (by kernel_rfl)) (fun _ _ _ h => h) (Or.inl ⟨by rfl,?_⟩) hHeld ?_ ?_; rotate_left
           ·rintro w' ⟨s0,s1,s2,s3⟩; go_simp; with_reducible rfl
           rotate_left
           ·simp only [Act.put,s1_,s2_,s3_,i64_w,i32_w]; rfl
           refine one_ (i:=28) (N:=some 46) #[true,true,true,true,true,true,true,true,true,true,true,true,true,true,true,true,true,true,true,true,true,true,true,true,true,true,true,true,true,false,false,false,false,false,false,false,false] rfl rfl (one_of HT_.out (by kernel_rfl)) (by decide) (fun K hK => ?_); refine goes_ Try.func55 (by kernel_rfl) rfl #[.int .i64 ((rd_T89 l0 x3_1).f2),.int .i64 0,.int .i64 20000] (by rfl) rfl rfl (by (try simp only [List.map_toArray,List.map_cons,List.map_nil]); first | done | rfl | (simp only [List.length_drop,List.length_take]; rfl)) ?_; with_reducible refine (spec_l01In.calls ((rd_T89 l0 x3_1).f2) 0 20000 true _ A40.out).mono ?_; rintro e w' ⟨rfl,⟨nd,rfl⟩⟩; refine ⟨_,rfl,?_⟩; replace BK116d_ := Aside0.mk (blk_drewN BK116d_.out nd); replace HBd_ := Aside0.mk (pw_below_drewN HBd_.out nd); refine hK.out _ _ ⟨(blk_cell BK116d_.out 0).trans rfl,(blk_cell BK116d_.out 1).trans rfl,(blk_cell BK116d_.out 2).trans rfl,(blk_cell BK116d_.out 3).trans rfl⟩ (fun hHeld => ?_); clear hK K; refine norm_ (a':=?_) ?_ ?_; rotate_left
           ·show Act.put _ (some 46) _ = _; simp only [Act.put,s1_,s2_,s3_,i64_w,i32_w]; rfl
           refine pure_ (i:=29) (N:=some 47) (v:=?_) (a':=?_) #[true,true,true,true,true,true,true,true,true,true,true,true,true,true,true,true,true,true,true,true,true,true,true,true,true,true,true,true,true,true,false,false,false,false,false,false,false] rfl rfl (any_of HT_.out (by kernel_rfl)) (fun _ _ _ h => h) (Or.inl ⟨by rfl,?_⟩) ?_ ?_; rotate_left
           ·intro w'; go_simp; with_reducible rfl
           rotate_left
           ·simp only [Act.put,s1_,s2_,s3_,i64_w,i32_w]; rfl
           refine pure_ (i:=30) (N:=some 48) (v:=?_) (a':=?_) #[true,true,true,true,true,true,true,true,true,true,true,true,true,true,true,true,true,true,true,true,true,true,true,true,true,true,true,true,true,true,true,false,false,false,false,false,false] rfl rfl (any_of HT_.out (by kernel_rfl)) (fun _ _ _ h => h) (Or.inl ⟨by rfl,?_⟩) ?_ ?_; rotate_left
           ·intro w'; go_simp; with_reducible rfl
           rotate_left
           ·simp only [Act.put,s1_,s2_,s3_,i64_w,i32_w]; rfl
           refine pure_ (i:=31) (N:=some 49) (v:=?_) (a':=?_) #[true,true,true,true,true,true,true,true,true,true,true,true,true,true,true,true,true,true,true,true,true,true,true,true,true,true,true,true,true,true,true,true,false,false,false,false,false] rfl rfl (any_of HT_.out (by kernel_rfl)) (fun _ _ _ h => h) (Or.inl ⟨by rfl,?_⟩) ?_ ?_; rotate_left
           ·intro w'; go_simp; with_reducible rfl
           rotate_left
           ·simp only [Act.put,s1_,s2_,s3_,i64_w,i32_w]; rfl
           refine pure_ (i:=32) (N:=some 50) (v:=?_) (a':=?_) #[true,true,true,true,true,true,true,true,true,true,true,true,true,true,true,true,true,true,true,true,true,true,true,true,true,true,true,true,true,true,true,true,true,false,false,false,false] rfl rfl (any_of HT_.out (by kernel_rfl)) (fun _ _ _ h => h) (Or.inl ⟨by rfl,?_⟩) ?_ ?_; rotate_left
           ·intro w'; go_simp; with_reducible rfl
           rotate_left
           ·simp only [Act.put,s1_,s2_,s3_,i64_w,i32_w]; rfl
           refine take_ (i:=33) (N:=some 51) (v:=?_) (a':=?_) #[true,true,true,true,true,true,true,true,true,true,true,true,true,true,true,true,true,true,true,true,true,true,true,true,true,true,true,true,true,true,true,true,true,true,false,false,false] rfl rfl (take_ofW HT_.out HW_.out (by kernel_rfl)) (fun _ _ _ h => h) (Or.inl ⟨by rfl,?_⟩) hHeld ?_ ?_; rotate_left
           ·rintro w' ⟨s0,s1,s2,s3⟩; go_simp; with_reducible rfl
           rotate_left
           ·simp only [Act.put,s1_,s2_,s3_,i64_w,i32_w]; rfl
           refine one_ (i:=34) (N:=some 52) #[true,true,true,true,true,true,true,true,true,true,true,true,true,true,true,true,true,true,true,true,true,true,true,true,true,true,true,true,true,true,true,true,true,true,true,false,false] rfl rfl (one_of HT_.out (by kernel_rfl)) (by decide) (fun K hK => ?_); refine goes_ Try.func55 (by kernel_rfl) rfl #[.int .i64 ((rd_T89 l0 x3_1).f3),.int .i64 0,.int .i64 40] (by rfl) rfl rfl (by (try simp only [List.map_toArray,List.map_cons,List.map_nil]); first | done | rfl | (simp only [List.length_drop,List.length_take]; rfl)) ?_; with_reducible refine (spec_l01In.calls ((rd_T89 l0 x3_1).f3) 0 40 false _ A42.out).mono ?_; rintro e w' ⟨rfl,⟨nd,rfl⟩⟩; refine ⟨_,rfl,?_⟩; replace BK116d_ := Aside0.mk (blk_drewN BK116d_.out nd); replace HBd_ := Aside0.mk (pw_below_drewN HBd_.out nd); refine hK.out _ _ ⟨(blk_cell BK116d_.out 0).trans rfl,(blk_cell BK116d_.out 1).trans rfl,(blk_cell BK116d_.out 2).trans rfl,(blk_cell BK116d_.out 3).trans rfl⟩ (fun hHeld => ?_); clear hK K; refine norm_ (a':=?_) ?_ ?_; rotate_left
           ·show Act.put _ (some 52) _ = _; simp only [Act.put,s1_,s2_,s3_,i64_w,i32_w]; rfl
           refine pure_ (i:=35) (N:=some 53) (v:=?_) (a':=?_) #[true,true,true,true,true,true,true,true,true,true,true,true,true,true,true,true,true,true,true,true,true,true,true,true,true,true,true,true,true,true,true,true,true,true,true,true,false] rfl rfl (any_of HT_.out (by kernel_rfl)) (fun _ _ _ h => h) (Or.inl ⟨by rfl,?_⟩) ?_ ?_; rotate_left
           ·intro w'; go_simp; with_reducible rfl
           rotate_left
           ·simp only [Act.put,s1_,s2_,s3_,i64_w,i32_w]; rfl
           refine pure_ (i:=36) (N:=some 54) (v:=?_) (a':=?_) #[true,true,true,true,true,true,true,true,true,true,true,true,true,true,true,true,true,true,true,true,true,true,true,true,true,true,true,true,true,true,true,true,true,true,true,true,true] rfl rfl (any_of HT_.out (by kernel_rfl)) (fun _ _ _ h => h) (Or.inl ⟨by rfl,?_⟩) ?_ ?_; rotate_left
           ·intro w'; go_simp; with_reducible rfl
           rotate_left
           ·simp only [Act.put,s1_,s2_,s3_,i64_w,i32_w]; rfl
           refine done_ (done_of HT_.out (by kernel_rfl)) ?_
           try go_wp2
           go_ret; exact ⟨by first | rfl | (simp [errW_none,errW_some] <;> rfl) | (simp [*,errW_none,errW_some] <;> rfl),by repeat (first | (with_reducible first | exact HB.out | apply below_alloc | apply pw_below_drewN | apply below_drew1 | refine below_set ?_ GE116.out) | exact HB.out)⟩
         ·replace c41 := Bool.eq_false_iff.mpr c41; subst c41
          have H1 : (some false) = some r := by rw [if_neg (show ¬ (false = true) by decide)] at H; exact H
          clear H; have H := H1; clear H1; obtain rfl := Option.some.inj H; have p115 : 0 ≤ (x3_1 : Int) := of_decide_eq_true (by first | (with_reducible assumption) | assumption); have q115 : x3_1 < (l0.length : Int) := of_decide_eq_true (by first | (with_reducible assumption) | assumption); obtain ⟨ad115,e115,hx115_0,hx115_1,hx115_2,hx115_3⟩ := at_T89 HR0.out x3_1 p115 q115
          cases e115
          replace hx115_0 := (HB.out.cell (World.block_lt_of_cell? w _ hx115_0)).trans hx115_0; replace hx115_1 := (HB.out.cell (World.block_lt_of_cell? w _ hx115_1)).trans hx115_1; replace hx115_2 := (HB.out.cell (World.block_lt_of_cell? w _ hx115_2)).trans hx115_2; replace hx115_3 := (HB.out.cell (World.block_lt_of_cell? w _ hx115_3)).trans hx115_3; replace p115 := eq_true p115; replace q115 := eq_true q115
          try go_wp2_with (first | ((with_reducible refine gate_dst (N:=4) rfl ?_); refine box_event ?hg (N:=4) ?hd (cs:=#[.string (⟨#[]⟩ : ByteArray),.int .i64 0,.int .i64 0,.int .i64 0]) (t:=89) ?hr ?_; (case hd => rfl); (case hg => rfl); (case hr => first | (go_simp; done) | (go_simp; rfl)); intro gb116 hg w52 hbox hb; have n0_ := Aside0.mk (below_step (by repeat (first | (with_reducible first | exact HB.out | apply below_alloc | apply pw_below_drewN | apply below_drew1) | exact HB.out)) hb); have n1_ := Aside0.mk (hbox); have n2_ := Aside0.mk ((by rw [hg]; exact (below_size (by repeat (first | (with_reducible first | exact HB.out | apply below_alloc | apply pw_below_drewN | apply below_drew1) | exact HB.out))) : w.heap.size ≤ gb116)); have n3_ := Aside0.mk ((by rw [hg]; exact (below_size (by repeat (first | (with_reducible first | exact HB.out | apply below_alloc | apply pw_below_drewN | apply below_drew1) | exact HB.out))) : w.heap.size ≤ gb116)); clear HB; have HB := n0_; have BK116 := n1_; have GW116 := n2_; have GE116 := n3_; clear n0_ n1_ n2_ n3_; clear hb hbox hg; have hcz53_0 : w52.cell? ⟨gb116,0,none⟩ = some (.string (⟨#[]⟩ : ByteArray)) := (blk_cell BK116.out 0).trans rfl; have hcz53_1 : w52.cell? ⟨gb116,1,none⟩ = some (.int .i64 0) := (blk_cell BK116.out 1).trans rfl; have hcz53_2 : w52.cell? ⟨gb116,2,none⟩ = some (.int .i64 0) := (blk_cell BK116.out 2).trans rfl; have hcz53_3 : w52.cell? ⟨gb116,3,none⟩ = some (.int .i64 0) := (blk_cell BK116.out 3).trans rfl; have hfz53_0 := blk_frozen BK116.out 0; have hfz53_1 := blk_frozen BK116.out 1; have hfz53_2 := blk_frozen BK116.out 2; have hfz53_3 := blk_frozen BK116.out 3))
          have n0_ : Aside0 (((((w52.setCell ⟨gb116,0,none⟩ (.string ((rd_T89 l0 x3_1).f0))).setCell ⟨gb116,1,none⟩ (.int .i64 ((rd_T89 l0 x3_1).f1))).setCell ⟨gb116,2,none⟩ (.int .i64 ((rd_T89 l0 x3_1).f2))).setCell ⟨gb116,3,none⟩ (.int .i64 ((rd_T89 l0 x3_1).f3))).heap[gb116]? = some (.cells #[.string ((rd_T89 l0 x3_1).f0),.int .i64 ((rd_T89 l0 x3_1).f1),.int .i64 ((rd_T89 l0 x3_1).f2),.int .i64 ((rd_T89 l0 x3_1).f3)] 89 (0,0))) := ⟨by (with_reducible repeat (first | refine blk_drewN ?_ _ | refine blk_drew ?_ | refine blk_alloc ?_ _)); refine blk_put (cs:=#[.string ((rd_T89 l0 x3_1).f0),.int .i64 ((rd_T89 l0 x3_1).f1),.int .i64 ((rd_T89 l0 x3_1).f2),.int .i64 0]) ?_ 3 _ rfl; (with_reducible repeat (first | refine blk_drewN ?_ _ | refine blk_drew ?_ | refine blk_alloc ?_ _)); refine blk_put (cs:=#[.string ((rd_T89 l0 x3_1).f0),.int .i64 ((rd_T89 l0 x3_1).f1),.int .i64 0,.int .i64 0]) ?_ 2 _ rfl; (with_reducible repeat (first | refine blk_drewN ?_ _ | refine blk_drew ?_ | refine blk_alloc ?_ _)); refine blk_put (cs:=#[.string ((rd_T89 l0 x3_1).f0),.int .i64 0,.int .i64 0,.int .i64 0]) ?_ 1 _ rfl; (with_reducible repeat (first | refine blk_drewN ?_ _ | refine blk_drew ?_ | refine blk_alloc ?_ _)); refine blk_put (cs:=#[.string (⟨#[]⟩ : ByteArray),.int .i64 0,.int .i64 0,.int .i64 0]) ?_ 0 _ rfl; (with_reducible repeat (first | refine blk_drewN ?_ _ | refine blk_drew ?_ | refine blk_alloc ?_ _)); exact BK116.out⟩; have n1_ : Aside0 (Below w.heap.size w ((((w52.setCell ⟨gb116,0,none⟩ (.string ((rd_T89 l0 x3_1).f0))).setCell ⟨gb116,1,none⟩ (.int .i64 ((rd_T89 l0 x3_1).f1))).setCell ⟨gb116,2,none⟩ (.int .i64 ((rd_T89 l0 x3_1).f2))).setCell ⟨gb116,3,none⟩ (.int .i64 ((rd_T89 l0 x3_1).f3)))) := ⟨by repeat (first | (with_reducible first | exact HB.out | apply below_alloc | apply pw_below_drewN | apply below_drew1 | refine below_set ?_ GE116.out) | exact HB.out)⟩
          (try clear BK116)
          (try clear HB)
          generalize ((((w52.setCell ⟨gb116,0,none⟩ (.string ((rd_T89 l0 x3_1).f0))).setCell ⟨gb116,1,none⟩ (.int .i64 ((rd_T89 l0 x3_1).f1))).setCell ⟨gb116,2,none⟩ (.int .i64 ((rd_T89 l0 x3_1).f2))).setCell ⟨gb116,3,none⟩ (.int .i64 ((rd_T89 l0 x3_1).f3))) = w54 at n0_ n1_ ⊢; have BK116 := n0_; have HB := n1_; clear n0_ n1_; have n0_ := Aside0.mk (blk_drew BK116.out); have n1_ := Aside0.mk (below_drew1 HB.out); clear BK116; clear HB; have BK116 := n0_; have HB := n1_; clear n0_ n1_; refine start_ (n:=37) (S:=fun w' => w'.cell? ⟨gb116,0,none⟩ = some (.string ((rd_T89 l0 x3_1).f0)) ∧ w'.cell? ⟨gb116,1,none⟩ = some (.int .i64 ((rd_T89 l0 x3_1).f1)) ∧ w'.cell? ⟨gb116,2,none⟩ = some (.int .i64 ((rd_T89 l0 x3_1).f2)) ∧ w'.cell? ⟨gb116,3,none⟩ = some (.int .i64 ((rd_T89 l0 x3_1).f3))) (ds:=[]) #[false,false,false,false,false,false,false,false,false,false,false,false,false,false,false,false,false,false,false,false,false,false,false,false,false,false,false,false,false,false,false,false,false,false,false,false,false] (by kernel_rfl) rfl rfl ⟨(blk_cell BK116.out 0).trans rfl,(blk_cell BK116.out 1).trans rfl,(blk_cell BK116.out 2).trans rfl,(blk_cell BK116.out 3).trans rfl⟩ (fun hHeld => ?_); refine with_tabW spec_DirOk.tab7 spec_DirOk.bits7 (fun HT_ HW_ => ?_); generalize w54.drew = w55 at BK116 HB hHeld ⊢; refine pure_ (i:=0) (N:=some 18) (v:=?_) (a':=?_) #[true,false,false,false,false,false,false,false,false,false,false,false,false,false,false,false,false,false,false,false,false,false,false,false,false,false,false,false,false,false,false,false,false,false,false,false,false] rfl rfl (any_of HT_.out (by kernel_rfl)) (fun _ _ _ h => h) (Or.inl ⟨by rfl,?_⟩) ?_ ?_; rotate_left
          ·intro w'; go_simp; with_reducible rfl
          rotate_left
          ·simp only [Act.put,s1_,s2_,s3_,i64_w,i32_w]; rfl
          refine take_ (i:=1) (N:=some 19) (v:=?_) (a':=?_) #[true,true,false,false,false,false,false,false,false,false,false,false,false,false,false,false,false,false,false,false,false,false,false,false,false,false,false,false,false,false,false,false,false,false,false,false,false] rfl rfl (take_ofW HT_.out HW_.out (by kernel_rfl)) (fun _ _ _ h => h) (Or.inl ⟨by rfl,?_⟩) hHeld ?_ ?_; rotate_left
          ·rintro w' ⟨s0,s1,s2,s3⟩; go_simp; with_reducible rfl
          rotate_left
          ·simp only [Act.put,s1_,s2_,s3_,i64_w,i32_w]; rfl
          refine one_ (i:=2) (N:=some 20) #[true,true,true,false,false,false,false,false,false,false,false,false,false,false,false,false,false,false,false,false,false,false,false,false,false,false,false,false,false,false,false,false,false,false,false,false,false] rfl rfl (one_of HT_.out (by kernel_rfl)) (by decide) (fun K hK => ?_); refine goes_ Try.func85 (by kernel_rfl) rfl #[.string ((rd_T89 l0 x3_1).f0)] (by rfl) rfl rfl (by (try simp only [List.map_toArray,List.map_cons,List.map_nil]); first | done | rfl | (simp only [List.length_drop,List.length_take]; rfl)) ?_; with_reducible refine (spec_l05Key.calls ((rd_T89 l0 x3_1).f0) true _ A5.out).mono ?_; rintro e w' ⟨rfl,⟨nd,rfl⟩⟩; refine ⟨_,rfl,?_⟩; have BK116d_ := Aside0.mk (blk_drewN BK116.out nd); have HBd_ := Aside0.mk (pw_below_drewN HB.out nd); refine hK.out _ _ ⟨(blk_cell BK116d_.out 0).trans rfl,(blk_cell BK116d_.out 1).trans rfl,(blk_cell BK116d_.out 2).trans rfl,(blk_cell BK116d_.out 3).trans rfl⟩ (fun hHeld => ?_); clear hK K; refine norm_ (a':=?_) ?_ ?_; rotate_left
          ·show Act.put _ (some 20) _ = _; simp only [Act.put,s1_,s2_,s3_,i64_w,i32_w]; rfl
          refine pure_ (i:=3) (N:=some 21) (v:=?_) (a':=?_) #[true,true,true,true,false,false,false,false,false,false,false,false,false,false,false,false,false,false,false,false,false,false,false,false,false,false,false,false,false,false,false,false,false,false,false,false,false] rfl rfl (any_of HT_.out (by kernel_rfl)) (fun _ _ _ h => h) (Or.inl ⟨by rfl,?_⟩) ?_ ?_; rotate_left
          ·intro w'; go_simp; with_reducible rfl
          rotate_left
          ·simp only [Act.put,s1_,s2_,s3_,i64_w,i32_w]; rfl
          refine pure_ (i:=4) (N:=some 22) (v:=?_) (a':=?_) #[true,true,true,true,true,false,false,false,false,false,false,false,false,false,false,false,false,false,false,false,false,false,false,false,false,false,false,false,false,false,false,false,false,false,false,false,false] rfl rfl (any_of HT_.out (by kernel_rfl)) (fun _ _ _ h => h) (Or.inl ⟨by rfl,?_⟩) ?_ ?_; rotate_left
          ·intro w'; go_simp; with_reducible rfl
          rotate_left
          ·simp only [Act.put,s1_,s2_,s3_,i64_w,i32_w]; rfl
          refine pure_ (i:=5) (N:=some 23) (v:=?_) (a':=?_) #[true,true,true,true,true,true,false,false,false,false,false,false,false,false,false,false,false,false,false,false,false,false,false,false,false,false,false,false,false,false,false,false,false,false,false,false,false] rfl rfl (any_of HT_.out (by kernel_rfl)) (fun _ _ _ h => h) (Or.inl ⟨by rfl,?_⟩) ?_ ?_; rotate_left
          ·intro w'; go_simp; with_reducible rfl
          rotate_left
          ·simp only [Act.put,s1_,s2_,s3_,i64_w,i32_w]; rfl
          refine pure_ (i:=6) (N:=some 24) (v:=?_) (a':=?_) #[true,true,true,true,true,true,true,false,false,false,false,false,false,false,false,false,false,false,false,false,false,false,false,false,false,false,false,false,false,false,false,false,false,false,false,false,false] rfl rfl (any_of HT_.out (by kernel_rfl)) (fun _ _ _ h => h) (Or.inl ⟨by rfl,?_⟩) ?_ ?_; rotate_left
          ·intro w'; go_simp; with_reducible rfl
          rotate_left
          ·simp only [Act.put,s1_,s2_,s3_,i64_w,i32_w]; rfl
          refine pure_ (i:=7) (N:=some 25) (v:=?_) (a':=?_) #[true,true,true,true,true,true,true,true,false,false,false,false,false,false,false,false,false,false,false,false,false,false,false,false,false,false,false,false,false,false,false,false,false,false,false,false,false] rfl rfl (any_of HT_.out (by kernel_rfl)) (fun _ _ _ h => h) (Or.inl ⟨by rfl,?_⟩) ?_ ?_; rotate_left
          ·intro w'; go_simp; with_reducible rfl
          rotate_left
          ·simp only [Act.put,s1_,s2_,s3_,i64_w,i32_w]; rfl
          refine pure_ (i:=8) (N:=some 26) (v:=undef) (a':=?_) #[true,true,true,true,true,true,true,true,true,false,false,false,false,false,false,false,false,false,false,false,false,false,false,false,false,false,false,false,false,false,false,false,false,false,false,false,false] rfl rfl (any_of HT_.out (by kernel_rfl)) (fun _ _ _ h => h) (Or.inr ⟨by rfl,rfl⟩) ?_ ?_; rotate_left
          ·simp only [Act.put,s1_,s2_,s3_,i64_w,i32_w]; rfl
          refine pure_ (i:=9) (N:=some 27) (v:=undef) (a':=?_) #[true,true,true,true,true,true,true,true,true,true,false,false,false,false,false,false,false,false,false,false,false,false,false,false,false,false,false,false,false,false,false,false,false,false,false,false,false] rfl rfl (any_of HT_.out (by kernel_rfl)) (fun _ _ _ h => h) (Or.inr ⟨by rfl,rfl⟩) ?_ ?_; rotate_left
          ·simp only [Act.put,s1_,s2_,s3_,i64_w,i32_w]; rfl
          refine pure_ (i:=10) (N:=some 28) (v:=undef) (a':=?_) #[true,true,true,true,true,true,true,true,true,true,true,false,false,false,false,false,false,false,false,false,false,false,false,false,false,false,false,false,false,false,false,false,false,false,false,false,false] rfl rfl (any_of HT_.out (by kernel_rfl)) (fun _ _ _ h => h) (Or.inr ⟨by rfl,rfl⟩) ?_ ?_; rotate_left
          ·simp only [Act.put,s1_,s2_,s3_,i64_w,i32_w]; rfl
          refine pure_ (i:=11) (N:=some 29) (v:=undef) (a':=?_) #[true,true,true,true,true,true,true,true,true,true,true,true,false,false,false,false,false,false,false,false,false,false,false,false,false,false,false,false,false,false,false,false,false,false,false,false,false] rfl rfl (any_of HT_.out (by kernel_rfl)) (fun _ _ _ h => h) (Or.inr ⟨by rfl,rfl⟩) ?_ ?_; rotate_left
          ·simp only [Act.put,s1_,s2_,s3_,i64_w,i32_w]; rfl
          refine pure_ (i:=12) (N:=some 30) (v:=undef) (a':=?_) #[true,true,true,true,true,true,true,true,true,true,true,true,true,false,false,false,false,false,false,false,false,false,false,false,false,false,false,false,false,false,false,false,false,false,false,false,false] rfl rfl (any_of HT_.out (by kernel_rfl)) (fun _ _ _ h => h) (Or.inr ⟨by rfl,rfl⟩) ?_ ?_; rotate_left
          ·simp only [Act.put,s1_,s2_,s3_,i64_w,i32_w]; rfl
          refine pure_ (i:=13) (N:=some 31) (v:=undef) (a':=?_) #[true,true,true,true,true,true,true,true,true,true,true,true,true,true,false,false,false,false,false,false,false,false,false,false,false,false,false,false,false,false,false,false,false,false,false,false,false] rfl rfl (any_of HT_.out (by kernel_rfl)) (fun _ _ _ h => h) (Or.inr ⟨by rfl,rfl⟩) ?_ ?_; rotate_left
          ·simp only [Act.put,s1_,s2_,s3_,i64_w,i32_w]; rfl
          refine pure_ (i:=14) (N:=some 32) (v:=undef) (a':=?_) #[true,true,true,true,true,true,true,true,true,true,true,true,true,true,true,false,false,false,false,false,false,false,false,false,false,false,false,false,false,false,false,false,false,false,false,false,false] rfl rfl (any_of HT_.out (by kernel_rfl)) (fun _ _ _ h => h) (Or.inr ⟨by rfl,rfl⟩) ?_ ?_; rotate_left
          ·simp only [Act.put,s1_,s2_,s3_,i64_w,i32_w]; rfl
          refine pure_ (i:=15) (N:=some 33) (v:=undef) (a':=?_) #[true,true,true,true,true,true,true,true,true,true,true,true,true,true,true,true,false,false,false,false,false,false,false,false,false,false,false,false,false,false,false,false,false,false,false,false,false] rfl rfl (any_of HT_.out (by kernel_rfl)) (fun _ _ _ h => h) (Or.inr ⟨by rfl,rfl⟩) ?_ ?_; rotate_left
          ·simp only [Act.put,s1_,s2_,s3_,i64_w,i32_w]; rfl
          refine pure_ (i:=16) (N:=some 34) (v:=undef) (a':=?_) #[true,true,true,true,true,true,true,true,true,true,true,true,true,true,true,true,true,false,false,false,false,false,false,false,false,false,false,false,false,false,false,false,false,false,false,false,false] rfl rfl (any_of HT_.out (by kernel_rfl)) (fun _ _ _ h => h) (Or.inr ⟨by rfl,rfl⟩) ?_ ?_; rotate_left
          ·simp only [Act.put,s1_,s2_,s3_,i64_w,i32_w]; rfl
          refine pure_ (i:=17) (N:=some 35) (v:=?_) (a':=?_) #[true,true,true,true,true,true,true,true,true,true,true,true,true,true,true,true,true,true,false,false,false,false,false,false,false,false,false,false,false,false,false,false,false,false,false,false,false] rfl rfl (any_of HT_.out (by kernel_rfl)) (fun _ _ _ h => h) (Or.inl ⟨by rfl,?_⟩) ?_ ?_; rotate_left
          ·intro w'; go_simp; with_reducible rfl
          rotate_left
          ·simp only [Act.put,s1_,s2_,s3_,i64_w,i32_w]; rfl
          refine pure_ (i:=18) (N:=some 36) (v:=?_) (a':=?_) #[true,true,true,true,true,true,true,true,true,true,true,true,true,true,true,true,true,true,true,false,false,false,false,false,false,false,false,false,false,false,false,false,false,false,false,false,false] rfl rfl (any_of HT_.out (by kernel_rfl)) (fun _ _ _ h => h) (Or.inl ⟨by rfl,?_⟩) ?_ ?_; rotate_left
          ·intro w'; go_simp; with_reducible rfl
          rotate_left
          ·simp only [Act.put,s1_,s2_,s3_,i64_w,i32_w]; rfl
          refine pure_ (i:=19) (N:=some 37) (v:=?_) (a':=?_) #[true,true,true,true,true,true,true,true,true,true,true,true,true,true,true,true,true,true,true,true,false,false,false,false,false,false,false,false,false,false,false,false,false,false,false,false,false] rfl rfl (any_of HT_.out (by kernel_rfl)) (fun _ _ _ h => h) (Or.inl ⟨by rfl,?_⟩) ?_ ?_; rotate_left
          ·intro w'; go_simp; with_reducible rfl
          rotate_left
          ·simp only [Act.put,s1_,s2_,s3_,i64_w,i32_w]; rfl
          refine pure_ (i:=20) (N:=some 38) (v:=?_) (a':=?_) #[true,true,true,true,true,true,true,true,true,true,true,true,true,true,true,true,true,true,true,true,true,false,false,false,false,false,false,false,false,false,false,false,false,false,false,false,false] rfl rfl (any_of HT_.out (by kernel_rfl)) (fun _ _ _ h => h) (Or.inl ⟨by rfl,?_⟩) ?_ ?_; rotate_left
          ·intro w'; go_simp; with_reducible rfl
          rotate_left
          ·simp only [Act.put,s1_,s2_,s3_,i64_w,i32_w]; rfl
          refine take_ (i:=21) (N:=some 39) (v:=?_) (a':=?_) #[true,true,true,true,true,true,true,true,true,true,true,true,true,true,true,true,true,true,true,true,true,true,false,false,false,false,false,false,false,false,false,false,false,false,false,false,false] rfl rfl (take_ofW HT_.out HW_.out (by kernel_rfl)) (fun _ _ _ h => h) (Or.inl ⟨by rfl,?_⟩) hHeld ?_ ?_; rotate_left
          ·rintro w' ⟨s0,s1,s2,s3⟩; go_simp; with_reducible rfl
          rotate_left
          ·simp only [Act.put,s1_,s2_,s3_,i64_w,i32_w]; rfl
          refine one_ (i:=22) (N:=some 40) #[true,true,true,true,true,true,true,true,true,true,true,true,true,true,true,true,true,true,true,true,true,true,true,false,false,false,false,false,false,false,false,false,false,false,false,false,false] rfl rfl (one_of HT_.out (by kernel_rfl)) (by decide) (fun K hK => ?_); refine goes_ Try.func55 (by kernel_rfl) rfl #[.int .i64 ((rd_T89 l0 x3_1).f1),.int .i64 0,.int .i64 999] (by rfl) rfl rfl (by (try simp only [List.map_toArray,List.map_cons,List.map_nil]); first | done | rfl | (simp only [List.length_drop,List.length_take]; rfl)) ?_; with_reducible refine (spec_l01In.calls ((rd_T89 l0 x3_1).f1) 0 999 true _ A38.out).mono ?_; rintro e w' ⟨rfl,⟨nd,rfl⟩⟩; refine ⟨_,rfl,?_⟩; replace BK116d_ := Aside0.mk (blk_drewN BK116d_.out nd); replace HBd_ := Aside0.mk (pw_below_drewN HBd_.out nd); refine hK.out _ _ ⟨(blk_cell BK116d_.out 0).trans rfl,(blk_cell BK116d_.out 1).trans rfl,(blk_cell BK116d_.out 2).trans rfl,(blk_cell BK116d_.out 3).trans rfl⟩ (fun hHeld => ?_); clear hK K; refine norm_ (a':=?_) ?_ ?_; rotate_left
          ·show Act.put _ (some 40) _ = _; simp only [Act.put,s1_,s2_,s3_,i64_w,i32_w]; rfl
          refine pure_ (i:=23) (N:=some 41) (v:=?_) (a':=?_) #[true,true,true,true,true,true,true,true,true,true,true,true,true,true,true,true,true,true,true,true,true,true,true,true,false,false,false,false,false,false,false,false,false,false,false,false,false] rfl rfl (any_of HT_.out (by kernel_rfl)) (fun _ _ _ h => h) (Or.inl ⟨by rfl,?_⟩) ?_ ?_; rotate_left
          ·intro w'; go_simp; with_reducible rfl
          rotate_left
          ·simp only [Act.put,s1_,s2_,s3_,i64_w,i32_w]; rfl
          refine pure_ (i:=24) (N:=some 42) (v:=?_) (a':=?_) #[true,true,true,true,true,true,true,true,true,true,true,true,true,true,true,true,true,true,true,true,true,true,true,true,true,false,false,false,false,false,false,false,false,false,false,false,false] rfl rfl (any_of HT_.out (by kernel_rfl)) (fun _ _ _ h => h) (Or.inl ⟨by rfl,?_⟩) ?_ ?_; rotate_left
          ·intro w'; go_simp; with_reducible rfl
          rotate_left
          ·simp only [Act.put,s1_,s2_,s3_,i64_w,i32_w]; rfl
          refine pure_ (i:=25) (N:=some 43) (v:=?_) (a':=?_) #[true,true,true,true,true,true,true,true,true,true,true,true,true,true,true,true,true,true,true,true,true,true,true,true,true,true,false,false,false,false,false,false,false,false,false,false,false] rfl rfl (any_of HT_.out (by kernel_rfl)) (fun _ _ _ h => h) (Or.inl ⟨by rfl,?_⟩) ?_ ?_; rotate_left
          ·intro w'; go_simp; with_reducible rfl
          rotate_left
          ·simp only [Act.put,s1_,s2_,s3_,i64_w,i32_w]; rfl
          refine pure_ (i:=26) (N:=some 44) (v:=?_) (a':=?_) #[true,true,true,true,true,true,true,true,true,true,true,true,true,true,true,true,true,true,true,true,true,true,true,true,true,true,true,false,false,false,false,false,false,false,false,false,false] rfl rfl (any_of HT_.out (by kernel_rfl)) (fun _ _ _ h => h) (Or.inl ⟨by rfl,?_⟩) ?_ ?_; rotate_left
          ·intro w'; go_simp; with_reducible rfl
          rotate_left
          ·simp only [Act.put,s1_,s2_,s3_,i64_w,i32_w]; rfl
          refine take_ (i:=27) (N:=some 45) (v:=?_) (a':=?_) #[true,true,true,true,true,true,true,true,true,true,true,true,true,true,true,true,true,true,true,true,true,true,true,true,true,true,true,true,false,false,false,false,false,false,false,false,false] rfl rfl (take_ofW HT_.out HW_.out (by kernel_rfl)) (fun _ _ _ h => h) (Or.inl ⟨by rfl,?_⟩) hHeld ?_ ?_; rotate_left
          ·rintro w' ⟨s0,s1,s2,s3⟩; go_simp; with_reducible rfl
          rotate_left
          ·simp only [Act.put,s1_,s2_,s3_,i64_w,i32_w]; rfl
          refine one_ (i:=28) (N:=some 46) #[true,true,true,true,true,true,true,true,true,true,true,true,true,true,true,true,true,true,true,true,true,true,true,true,true,true,true,true,true,false,false,false,false,false,false,false,false] rfl rfl (one_of HT_.out (by kernel_rfl)) (by decide) (fun K hK => ?_); refine goes_ Try.func55 (by kernel_rfl) rfl #[.int .i64 ((rd_T89 l0 x3_1).f2),.int .i64 0,.int .i64 20000] (by rfl) rfl rfl (by (try simp only [List.map_toArray,List.map_cons,List.map_nil]); first | done | rfl | (simp only [List.length_drop,List.length_take]; rfl)) ?_; with_reducible refine (spec_l01In.calls ((rd_T89 l0 x3_1).f2) 0 20000 false _ A40.out).mono ?_; rintro e w' ⟨rfl,⟨nd,rfl⟩⟩; refine ⟨_,rfl,?_⟩; replace BK116d_ := Aside0.mk (blk_drewN BK116d_.out nd); replace HBd_ := Aside0.mk (pw_below_drewN HBd_.out nd); refine hK.out _ _ ⟨(blk_cell BK116d_.out 0).trans rfl,(blk_cell BK116d_.out 1).trans rfl,(blk_cell BK116d_.out 2).trans rfl,(blk_cell BK116d_.out 3).trans rfl⟩ (fun hHeld => ?_); clear hK K; refine norm_ (a':=?_) ?_ ?_; rotate_left
          ·show Act.put _ (some 46) _ = _; simp only [Act.put,s1_,s2_,s3_,i64_w,i32_w]; rfl
          refine pure_ (i:=29) (N:=some 47) (v:=?_) (a':=?_) #[true,true,true,true,true,true,true,true,true,true,true,true,true,true,true,true,true,true,true,true,true,true,true,true,true,true,true,true,true,true,false,false,false,false,false,false,false] rfl rfl (any_of HT_.out (by kernel_rfl)) (fun _ _ _ h => h) (Or.inl ⟨by rfl,?_⟩) ?_ ?_; rotate_left
          ·intro w'; go_simp; with_reducible rfl
          rotate_left
          ·simp only [Act.put,s1_,s2_,s3_,i64_w,i32_w]; rfl
          refine pure_ (i:=30) (N:=some 48) (v:=?_) (a':=?_) #[true,true,true,true,true,true,true,true,true,true,true,true,true,true,true,true,true,true,true,true,true,true,true,true,true,true,true,true,true,true,true,false,false,false,false,false,false] rfl rfl (any_of HT_.out (by kernel_rfl)) (fun _ _ _ h => h) (Or.inl ⟨by rfl,?_⟩) ?_ ?_; rotate_left
          ·intro w'; go_simp; with_reducible rfl
          rotate_left
          ·simp only [Act.put,s1_,s2_,s3_,i64_w,i32_w]; rfl
          refine pure_ (i:=31) (N:=some 49) (v:=?_) (a':=?_) #[true,true,true,true,true,true,true,true,true,true,true,true,true,true,true,true,true,true,true,true,true,true,true,true,true,true,true,true,true,true,true,true,false,false,false,false,false] rfl rfl (any_of HT_.out (by kernel_rfl)) (fun _ _ _ h => h) (Or.inl ⟨by rfl,?_⟩) ?_ ?_; rotate_left
          ·intro w'; go_simp; with_reducible rfl
          rotate_left
          ·simp only [Act.put,s1_,s2_,s3_,i64_w,i32_w]; rfl
          refine pure_ (i:=32) (N:=some 50) (v:=undef) (a':=?_) #[true,true,true,true,true,true,true,true,true,true,true,true,true,true,true,true,true,true,true,true,true,true,true,true,true,true,true,true,true,true,true,true,true,false,false,false,false] rfl rfl (any_of HT_.out (by kernel_rfl)) (fun _ _ _ h => h) (Or.inr ⟨by rfl,rfl⟩) ?_ ?_; rotate_left
          ·simp only [Act.put,s1_,s2_,s3_,i64_w,i32_w]; rfl
          refine pure_ (i:=33) (N:=some 51) (v:=undef) (a':=?_) #[true,true,true,true,true,true,true,true,true,true,true,true,true,true,true,true,true,true,true,true,true,true,true,true,true,true,true,true,true,true,true,true,true,true,false,false,false] rfl rfl (any_of HT_.out (by kernel_rfl)) (fun _ _ _ h => h) (Or.inr ⟨by rfl,rfl⟩) ?_ ?_; rotate_left
          ·simp only [Act.put,s1_,s2_,s3_,i64_w,i32_w]; rfl
          refine pure_ (i:=34) (N:=some 52) (v:=undef) (a':=?_) #[true,true,true,true,true,true,true,true,true,true,true,true,true,true,true,true,true,true,true,true,true,true,true,true,true,true,true,true,true,true,true,true,true,true,true,false,false] rfl rfl (any_of HT_.out (by kernel_rfl)) (fun _ _ _ h => h) (Or.inr ⟨by rfl,rfl⟩) ?_ ?_; rotate_left
          ·simp only [Act.put,s1_,s2_,s3_,i64_w,i32_w]; rfl
          refine pure_ (i:=35) (N:=some 53) (v:=undef) (a':=?_) #[true,true,true,true,true,true,true,true,true,true,true,true,true,true,true,true,true,true,true,true,true,true,true,true,true,true,true,true,true,true,true,true,true,true,true,true,false] rfl rfl (any_of HT_.out (by kernel_rfl)) (fun _ _ _ h => h) (Or.inr ⟨by rfl,rfl⟩) ?_ ?_; rotate_left
          ·simp only [Act.put,s1_,s2_,s3_,i64_w,i32_w]; rfl
          refine pure_ (i:=36) (N:=some 54) (v:=?_) (a':=?_) #[true,true,true,true,true,true,true,true,true,true,true,true,true,true,true,true,true,true,true,true,true,true,true,true,true,true,true,true,true,true,true,true,true,true,true,true,true] rfl rfl (any_of HT_.out (by kernel_rfl)) (fun _ _ _ h => h) (Or.inl ⟨by rfl,?_⟩) ?_ ?_; rotate_left
          ·intro w'; go_simp; with_reducible rfl
          rotate_left
          ·simp only [Act.put,s1_,s2_,s3_,i64_w,i32_w]; rfl
          refine done_ (done_of HT_.out (by kernel_rfl)) ?_
          try go_wp2
          go_ret; exact ⟨by first | rfl | (simp [errW_none,errW_some] <;> rfl) | (simp [*,errW_none,errW_some] <;> rfl),by repeat (first | (with_reducible first | exact HB.out | apply below_alloc | apply pw_below_drewN | apply below_drew1 | refine below_set ?_ GE116.out) | exact HB.out)⟩
        ·replace c39 := Bool.eq_false_iff.mpr c39; subst c39
         have H1 : (some false) = some r := by rw [if_neg (show ¬ (false = true) by decide)] at H; exact H
         clear H; have H := H1; clear H1; obtain rfl := Option.some.inj H; have p115 : 0 ≤ (x3_1 : Int) := of_decide_eq_true (by first | (with_reducible assumption) | assumption); have q115 : x3_1 < (l0.length : Int) := of_decide_eq_true (by first | (with_reducible assumption) | assumption); obtain ⟨ad115,e115,hx115_0,hx115_1,hx115_2,hx115_3⟩ := at_T89 HR0.out x3_1 p115 q115
         cases e115
         replace hx115_0 := (HB.out.cell (World.block_lt_of_cell? w _ hx115_0)).trans hx115_0; replace hx115_1 := (HB.out.cell (World.block_lt_of_cell? w _ hx115_1)).trans hx115_1; replace hx115_2 := (HB.out.cell (World.block_lt_of_cell? w _ hx115_2)).trans hx115_2; replace hx115_3 := (HB.out.cell (World.block_lt_of_cell? w _ hx115_3)).trans hx115_3; replace p115 := eq_true p115; replace q115 := eq_true q115
         try go_wp2_with (first | ((with_reducible refine gate_dst (N:=4) rfl ?_); refine box_event ?hg (N:=4) ?hd (cs:=#[.string (⟨#[]⟩ : ByteArray),.int .i64 0,.int .i64 0,.int .i64 0]) (t:=89) ?hr ?_; (case hd => rfl); (case hg => rfl); (case hr => first | (go_simp; done) | (go_simp; rfl)); intro gb116 hg w56 hbox hb; have n0_ := Aside0.mk (below_step (by repeat (first | (with_reducible first | exact HB.out | apply below_alloc | apply pw_below_drewN | apply below_drew1) | exact HB.out)) hb); have n1_ := Aside0.mk (hbox); have n2_ := Aside0.mk ((by rw [hg]; exact (below_size (by repeat (first | (with_reducible first | exact HB.out | apply below_alloc | apply pw_below_drewN | apply below_drew1) | exact HB.out))) : w.heap.size ≤ gb116)); have n3_ := Aside0.mk ((by rw [hg]; exact (below_size (by repeat (first | (with_reducible first | exact HB.out | apply below_alloc | apply pw_below_drewN | apply below_drew1) | exact HB.out))) : w.heap.size ≤ gb116)); clear HB; have HB := n0_; have BK116 := n1_; have GW116 := n2_; have GE116 := n3_; clear n0_ n1_ n2_ n3_; clear hb hbox hg; have hcz57_0 : w56.cell? ⟨gb116,0,none⟩ = some (.string (⟨#[]⟩ : ByteArray)) := (blk_cell BK116.out 0).trans rfl; have hcz57_1 : w56.cell? ⟨gb116,1,none⟩ = some (.int .i64 0) := (blk_cell BK116.out 1).trans rfl; have hcz57_2 : w56.cell? ⟨gb116,2,none⟩ = some (.int .i64 0) := (blk_cell BK116.out 2).trans rfl; have hcz57_3 : w56.cell? ⟨gb116,3,none⟩ = some (.int .i64 0) := (blk_cell BK116.out 3).trans rfl; have hfz57_0 := blk_frozen BK116.out 0; have hfz57_1 := blk_frozen BK116.out 1; have hfz57_2 := blk_frozen BK116.out 2; have hfz57_3 := blk_frozen BK116.out 3))
         have n0_ : Aside0 (((((w56.setCell ⟨gb116,0,none⟩ (.string ((rd_T89 l0 x3_1).f0))).setCell ⟨gb116,1,none⟩ (.int .i64 ((rd_T89 l0 x3_1).f1))).setCell ⟨gb116,2,none⟩ (.int .i64 ((rd_T89 l0 x3_1).f2))).setCell ⟨gb116,3,none⟩ (.int .i64 ((rd_T89 l0 x3_1).f3))).heap[gb116]? = some (.cells #[.string ((rd_T89 l0 x3_1).f0),.int .i64 ((rd_T89 l0 x3_1).f1),.int .i64 ((rd_T89 l0 x3_1).f2),.int .i64 ((rd_T89 l0 x3_1).f3)] 89 (0,0))) := ⟨by (with_reducible repeat (first | refine blk_drewN ?_ _ | refine blk_drew ?_ | refine blk_alloc ?_ _)); refine blk_put (cs:=#[.string ((rd_T89 l0 x3_1).f0),.int .i64 ((rd_T89 l0 x3_1).f1),.int .i64 ((rd_T89 l0 x3_1).f2),.int .i64 0]) ?_ 3 _ rfl; (with_reducible repeat (first | refine blk_drewN ?_ _ | refine blk_drew ?_ | refine blk_alloc ?_ _)); refine blk_put (cs:=#[.string ((rd_T89 l0 x3_1).f0),.int .i64 ((rd_T89 l0 x3_1).f1),.int .i64 0,.int .i64 0]) ?_ 2 _ rfl; (with_reducible repeat (first | refine blk_drewN ?_ _ | refine blk_drew ?_ | refine blk_alloc ?_ _)); refine blk_put (cs:=#[.string ((rd_T89 l0 x3_1).f0),.int .i64 0,.int .i64 0,.int .i64 0]) ?_ 1 _ rfl; (with_reducible repeat (first | refine blk_drewN ?_ _ | refine blk_drew ?_ | refine blk_alloc ?_ _)); refine blk_put (cs:=#[.string (⟨#[]⟩ : ByteArray),.int .i64 0,.int .i64 0,.int .i64 0]) ?_ 0 _ rfl; (with_reducible repeat (first | refine blk_drewN ?_ _ | refine blk_drew ?_ | refine blk_alloc ?_ _)); exact BK116.out⟩; have n1_ : Aside0 (Below w.heap.size w ((((w56.setCell ⟨gb116,0,none⟩ (.string ((rd_T89 l0 x3_1).f0))).setCell ⟨gb116,1,none⟩ (.int .i64 ((rd_T89 l0 x3_1).f1))).setCell ⟨gb116,2,none⟩ (.int .i64 ((rd_T89 l0 x3_1).f2))).setCell ⟨gb116,3,none⟩ (.int .i64 ((rd_T89 l0 x3_1).f3)))) := ⟨by repeat (first | (with_reducible first | exact HB.out | apply below_alloc | apply pw_below_drewN | apply below_drew1 | refine below_set ?_ GE116.out) | exact HB.out)⟩
         (try clear BK116)
         (try clear HB)
         generalize ((((w56.setCell ⟨gb116,0,none⟩ (.string ((rd_T89 l0 x3_1).f0))).setCell ⟨gb116,1,none⟩ (.int .i64 ((rd_T89 l0 x3_1).f1))).setCell ⟨gb116,2,none⟩ (.int .i64 ((rd_T89 l0 x3_1).f2))).setCell ⟨gb116,3,none⟩ (.int .i64 ((rd_T89 l0 x3_1).f3))) = w58 at n0_ n1_ ⊢; have BK116 := n0_; have HB := n1_; clear n0_ n1_; have n0_ := Aside0.mk (blk_drew BK116.out); have n1_ := Aside0.mk (below_drew1 HB.out); clear BK116; clear HB; have BK116 := n0_; have HB := n1_; clear n0_ n1_; refine start_ (n:=37) (S:=fun w' => w'.cell? ⟨gb116,0,none⟩ = some (.string ((rd_T89 l0 x3_1).f0)) ∧ w'.cell? ⟨gb116,1,none⟩ = some (.int .i64 ((rd_T89 l0 x3_1).f1)) ∧ w'.cell? ⟨gb116,2,none⟩ = some (.int .i64 ((rd_T89 l0 x3_1).f2)) ∧ w'.cell? ⟨gb116,3,none⟩ = some (.int .i64 ((rd_T89 l0 x3_1).f3))) (ds:=[]) #[false,false,false,false,false,false,false,false,false,false,false,false,false,false,false,false,false,false,false,false,false,false,false,false,false,false,false,false,false,false,false,false,false,false,false,false,false] (by kernel_rfl) rfl rfl ⟨(blk_cell BK116.out 0).trans rfl,(blk_cell BK116.out 1).trans rfl,(blk_cell BK116.out 2).trans rfl,(blk_cell BK116.out 3).trans rfl⟩ (fun hHeld => ?_); refine with_tabW spec_DirOk.tab7 spec_DirOk.bits7 (fun HT_ HW_ => ?_); generalize w58.drew = w59 at BK116 HB hHeld ⊢; refine pure_ (i:=0) (N:=some 18) (v:=?_) (a':=?_) #[true,false,false,false,false,false,false,false,false,false,false,false,false,false,false,false,false,false,false,false,false,false,false,false,false,false,false,false,false,false,false,false,false,false,false,false,false] rfl rfl (any_of HT_.out (by kernel_rfl)) (fun _ _ _ h => h) (Or.inl ⟨by rfl,?_⟩) ?_ ?_; rotate_left
         ·intro w'; go_simp; with_reducible rfl
         rotate_left
         ·simp only [Act.put,s1_,s2_,s3_,i64_w,i32_w]; rfl
         refine take_ (i:=1) (N:=some 19) (v:=?_) (a':=?_) #[true,true,false,false,false,false,false,false,false,false,false,false,false,false,false,false,false,false,false,false,false,false,false,false,false,false,false,false,false,false,false,false,false,false,false,false,false] rfl rfl (take_ofW HT_.out HW_.out (by kernel_rfl)) (fun _ _ _ h => h) (Or.inl ⟨by rfl,?_⟩) hHeld ?_ ?_; rotate_left
         ·rintro w' ⟨s0,s1,s2,s3⟩; go_simp; with_reducible rfl
         rotate_left
         ·simp only [Act.put,s1_,s2_,s3_,i64_w,i32_w]; rfl
         refine one_ (i:=2) (N:=some 20) #[true,true,true,false,false,false,false,false,false,false,false,false,false,false,false,false,false,false,false,false,false,false,false,false,false,false,false,false,false,false,false,false,false,false,false,false,false] rfl rfl (one_of HT_.out (by kernel_rfl)) (by decide) (fun K hK => ?_); refine goes_ Try.func85 (by kernel_rfl) rfl #[.string ((rd_T89 l0 x3_1).f0)] (by rfl) rfl rfl (by (try simp only [List.map_toArray,List.map_cons,List.map_nil]); first | done | rfl | (simp only [List.length_drop,List.length_take]; rfl)) ?_; with_reducible refine (spec_l05Key.calls ((rd_T89 l0 x3_1).f0) true _ A5.out).mono ?_; rintro e w' ⟨rfl,⟨nd,rfl⟩⟩; refine ⟨_,rfl,?_⟩; have BK116d_ := Aside0.mk (blk_drewN BK116.out nd); have HBd_ := Aside0.mk (pw_below_drewN HB.out nd); refine hK.out _ _ ⟨(blk_cell BK116d_.out 0).trans rfl,(blk_cell BK116d_.out 1).trans rfl,(blk_cell BK116d_.out 2).trans rfl,(blk_cell BK116d_.out 3).trans rfl⟩ (fun hHeld => ?_); clear hK K; refine norm_ (a':=?_) ?_ ?_; rotate_left
         ·show Act.put _ (some 20) _ = _; simp only [Act.put,s1_,s2_,s3_,i64_w,i32_w]; rfl
         refine pure_ (i:=3) (N:=some 21) (v:=?_) (a':=?_) #[true,true,true,true,false,false,false,false,false,false,false,false,false,false,false,false,false,false,false,false,false,false,false,false,false,false,false,false,false,false,false,false,false,false,false,false,false] rfl rfl (any_of HT_.out (by kernel_rfl)) (fun _ _ _ h => h) (Or.inl ⟨by rfl,?_⟩) ?_ ?_; rotate_left
         ·intro w'; go_simp; with_reducible rfl
         rotate_left
         ·simp only [Act.put,s1_,s2_,s3_,i64_w,i32_w]; rfl
         refine pure_ (i:=4) (N:=some 22) (v:=?_) (a':=?_) #[true,true,true,true,true,false,false,false,false,false,false,false,false,false,false,false,false,false,false,false,false,false,false,false,false,false,false,false,false,false,false,false,false,false,false,false,false] rfl rfl (any_of HT_.out (by kernel_rfl)) (fun _ _ _ h => h) (Or.inl ⟨by rfl,?_⟩) ?_ ?_; rotate_left
         ·intro w'; go_simp; with_reducible rfl
         rotate_left
         ·simp only [Act.put,s1_,s2_,s3_,i64_w,i32_w]; rfl
         refine pure_ (i:=5) (N:=some 23) (v:=?_) (a':=?_) #[true,true,true,true,true,true,false,false,false,false,false,false,false,false,false,false,false,false,false,false,false,false,false,false,false,false,false,false,false,false,false,false,false,false,false,false,false] rfl rfl (any_of HT_.out (by kernel_rfl)) (fun _ _ _ h => h) (Or.inl ⟨by rfl,?_⟩) ?_ ?_; rotate_left
         ·intro w'; go_simp; with_reducible rfl
         rotate_left
         ·simp only [Act.put,s1_,s2_,s3_,i64_w,i32_w]; rfl
         refine pure_ (i:=6) (N:=some 24) (v:=?_) (a':=?_) #[true,true,true,true,true,true,true,false,false,false,false,false,false,false,false,false,false,false,false,false,false,false,false,false,false,false,false,false,false,false,false,false,false,false,false,false,false] rfl rfl (any_of HT_.out (by kernel_rfl)) (fun _ _ _ h => h) (Or.inl ⟨by rfl,?_⟩) ?_ ?_; rotate_left
         ·intro w'; go_simp; with_reducible rfl
         rotate_left
         ·simp only [Act.put,s1_,s2_,s3_,i64_w,i32_w]; rfl
         refine pure_ (i:=7) (N:=some 25) (v:=?_) (a':=?_) #[true,true,true,true,true,true,true,true,false,false,false,false,false,false,false,false,false,false,false,false,false,false,false,false,false,false,false,false,false,false,false,false,false,false,false,false,false] rfl rfl (any_of HT_.out (by kernel_rfl)) (fun _ _ _ h => h) (Or.inl ⟨by rfl,?_⟩) ?_ ?_; rotate_left
         ·intro w'; go_simp; with_reducible rfl
         rotate_left
         ·simp only [Act.put,s1_,s2_,s3_,i64_w,i32_w]; rfl
         refine pure_ (i:=8) (N:=some 26) (v:=undef) (a':=?_) #[true,true,true,true,true,true,true,true,true,false,false,false,false,false,false,false,false,false,false,false,false,false,false,false,false,false,false,false,false,false,false,false,false,false,false,false,false] rfl rfl (any_of HT_.out (by kernel_rfl)) (fun _ _ _ h => h) (Or.inr ⟨by rfl,rfl⟩) ?_ ?_; rotate_left
         ·simp only [Act.put,s1_,s2_,s3_,i64_w,i32_w]; rfl
         refine pure_ (i:=9) (N:=some 27) (v:=undef) (a':=?_) #[true,true,true,true,true,true,true,true,true,true,false,false,false,false,false,false,false,false,false,false,false,false,false,false,false,false,false,false,false,false,false,false,false,false,false,false,false] rfl rfl (any_of HT_.out (by kernel_rfl)) (fun _ _ _ h => h) (Or.inr ⟨by rfl,rfl⟩) ?_ ?_; rotate_left
         ·simp only [Act.put,s1_,s2_,s3_,i64_w,i32_w]; rfl
         refine pure_ (i:=10) (N:=some 28) (v:=undef) (a':=?_) #[true,true,true,true,true,true,true,true,true,true,true,false,false,false,false,false,false,false,false,false,false,false,false,false,false,false,false,false,false,false,false,false,false,false,false,false,false] rfl rfl (any_of HT_.out (by kernel_rfl)) (fun _ _ _ h => h) (Or.inr ⟨by rfl,rfl⟩) ?_ ?_; rotate_left
         ·simp only [Act.put,s1_,s2_,s3_,i64_w,i32_w]; rfl
         refine pure_ (i:=11) (N:=some 29) (v:=undef) (a':=?_) #[true,true,true,true,true,true,true,true,true,true,true,true,false,false,false,false,false,false,false,false,false,false,false,false,false,false,false,false,false,false,false,false,false,false,false,false,false] rfl rfl (any_of HT_.out (by kernel_rfl)) (fun _ _ _ h => h) (Or.inr ⟨by rfl,rfl⟩) ?_ ?_; rotate_left
         ·simp only [Act.put,s1_,s2_,s3_,i64_w,i32_w]; rfl
         refine pure_ (i:=12) (N:=some 30) (v:=undef) (a':=?_) #[true,true,true,true,true,true,true,true,true,true,true,true,true,false,false,false,false,false,false,false,false,false,false,false,false,false,false,false,false,false,false,false,false,false,false,false,false] rfl rfl (any_of HT_.out (by kernel_rfl)) (fun _ _ _ h => h) (Or.inr ⟨by rfl,rfl⟩) ?_ ?_; rotate_left
         ·simp only [Act.put,s1_,s2_,s3_,i64_w,i32_w]; rfl
         refine pure_ (i:=13) (N:=some 31) (v:=undef) (a':=?_) #[true,true,true,true,true,true,true,true,true,true,true,true,true,true,false,false,false,false,false,false,false,false,false,false,false,false,false,false,false,false,false,false,false,false,false,false,false] rfl rfl (any_of HT_.out (by kernel_rfl)) (fun _ _ _ h => h) (Or.inr ⟨by rfl,rfl⟩) ?_ ?_; rotate_left
         ·simp only [Act.put,s1_,s2_,s3_,i64_w,i32_w]; rfl
         refine pure_ (i:=14) (N:=some 32) (v:=undef) (a':=?_) #[true,true,true,true,true,true,true,true,true,true,true,true,true,true,true,false,false,false,false,false,false,false,false,false,false,false,false,false,false,false,false,false,false,false,false,false,false] rfl rfl (any_of HT_.out (by kernel_rfl)) (fun _ _ _ h => h) (Or.inr ⟨by rfl,rfl⟩) ?_ ?_; rotate_left
         ·simp only [Act.put,s1_,s2_,s3_,i64_w,i32_w]; rfl
         refine pure_ (i:=15) (N:=some 33) (v:=undef) (a':=?_) #[true,true,true,true,true,true,true,true,true,true,true,true,true,true,true,true,false,false,false,false,false,false,false,false,false,false,false,false,false,false,false,false,false,false,false,false,false] rfl rfl (any_of HT_.out (by kernel_rfl)) (fun _ _ _ h => h) (Or.inr ⟨by rfl,rfl⟩) ?_ ?_; rotate_left
         ·simp only [Act.put,s1_,s2_,s3_,i64_w,i32_w]; rfl
         refine pure_ (i:=16) (N:=some 34) (v:=undef) (a':=?_) #[true,true,true,true,true,true,true,true,true,true,true,true,true,true,true,true,true,false,false,false,false,false,false,false,false,false,false,false,false,false,false,false,false,false,false,false,false] rfl rfl (any_of HT_.out (by kernel_rfl)) (fun _ _ _ h => h) (Or.inr ⟨by rfl,rfl⟩) ?_ ?_; rotate_left
         ·simp only [Act.put,s1_,s2_,s3_,i64_w,i32_w]; rfl
         refine pure_ (i:=17) (N:=some 35) (v:=?_) (a':=?_) #[true,true,true,true,true,true,true,true,true,true,true,true,true,true,true,true,true,true,false,false,false,false,false,false,false,false,false,false,false,false,false,false,false,false,false,false,false] rfl rfl (any_of HT_.out (by kernel_rfl)) (fun _ _ _ h => h) (Or.inl ⟨by rfl,?_⟩) ?_ ?_; rotate_left
         ·intro w'; go_simp; with_reducible rfl
         rotate_left
         ·simp only [Act.put,s1_,s2_,s3_,i64_w,i32_w]; rfl
         refine pure_ (i:=18) (N:=some 36) (v:=?_) (a':=?_) #[true,true,true,true,true,true,true,true,true,true,true,true,true,true,true,true,true,true,true,false,false,false,false,false,false,false,false,false,false,false,false,false,false,false,false,false,false] rfl rfl (any_of HT_.out (by kernel_rfl)) (fun _ _ _ h => h) (Or.inl ⟨by rfl,?_⟩) ?_ ?_; rotate_left
         ·intro w'; go_simp; with_reducible rfl
         rotate_left
         ·simp only [Act.put,s1_,s2_,s3_,i64_w,i32_w]; rfl
         refine pure_ (i:=19) (N:=some 37) (v:=?_) (a':=?_) #[true,true,true,true,true,true,true,true,true,true,true,true,true,true,true,true,true,true,true,true,false,false,false,false,false,false,false,false,false,false,false,false,false,false,false,false,false] rfl rfl (any_of HT_.out (by kernel_rfl)) (fun _ _ _ h => h) (Or.inl ⟨by rfl,?_⟩) ?_ ?_; rotate_left
         ·intro w'; go_simp; with_reducible rfl
         rotate_left
         ·simp only [Act.put,s1_,s2_,s3_,i64_w,i32_w]; rfl
         refine pure_ (i:=20) (N:=some 38) (v:=?_) (a':=?_) #[true,true,true,true,true,true,true,true,true,true,true,true,true,true,true,true,true,true,true,true,true,false,false,false,false,false,false,false,false,false,false,false,false,false,false,false,false] rfl rfl (any_of HT_.out (by kernel_rfl)) (fun _ _ _ h => h) (Or.inl ⟨by rfl,?_⟩) ?_ ?_; rotate_left
         ·intro w'; go_simp; with_reducible rfl
         rotate_left
         ·simp only [Act.put,s1_,s2_,s3_,i64_w,i32_w]; rfl
         refine take_ (i:=21) (N:=some 39) (v:=?_) (a':=?_) #[true,true,true,true,true,true,true,true,true,true,true,true,true,true,true,true,true,true,true,true,true,true,false,false,false,false,false,false,false,false,false,false,false,false,false,false,false] rfl rfl (take_ofW HT_.out HW_.out (by kernel_rfl)) (fun _ _ _ h => h) (Or.inl ⟨by rfl,?_⟩) hHeld ?_ ?_; rotate_left
         ·rintro w' ⟨s0,s1,s2,s3⟩; go_simp; with_reducible rfl
         rotate_left
         ·simp only [Act.put,s1_,s2_,s3_,i64_w,i32_w]; rfl
         refine one_ (i:=22) (N:=some 40) #[true,true,true,true,true,true,true,true,true,true,true,true,true,true,true,true,true,true,true,true,true,true,true,false,false,false,false,false,false,false,false,false,false,false,false,false,false] rfl rfl (one_of HT_.out (by kernel_rfl)) (by decide) (fun K hK => ?_); refine goes_ Try.func55 (by kernel_rfl) rfl #[.int .i64 ((rd_T89 l0 x3_1).f1),.int .i64 0,.int .i64 999] (by rfl) rfl rfl (by (try simp only [List.map_toArray,List.map_cons,List.map_nil]); first | done | rfl | (simp only [List.length_drop,List.length_take]; rfl)) ?_; with_reducible refine (spec_l01In.calls ((rd_T89 l0 x3_1).f1) 0 999 false _ A38.out).mono ?_; rintro e w' ⟨rfl,⟨nd,rfl⟩⟩; refine ⟨_,rfl,?_⟩; replace BK116d_ := Aside0.mk (blk_drewN BK116d_.out nd); replace HBd_ := Aside0.mk (pw_below_drewN HBd_.out nd); refine hK.out _ _ ⟨(blk_cell BK116d_.out 0).trans rfl,(blk_cell BK116d_.out 1).trans rfl,(blk_cell BK116d_.out 2).trans rfl,(blk_cell BK116d_.out 3).trans rfl⟩ (fun hHeld => ?_); clear hK K; refine norm_ (a':=?_) ?_ ?_; rotate_left
         ·show Act.put _ (some 40) _ = _; simp only [Act.put,s1_,s2_,s3_,i64_w,i32_w]; rfl
         refine pure_ (i:=23) (N:=some 41) (v:=?_) (a':=?_) #[true,true,true,true,true,true,true,true,true,true,true,true,true,true,true,true,true,true,true,true,true,true,true,true,false,false,false,false,false,false,false,false,false,false,false,false,false] rfl rfl (any_of HT_.out (by kernel_rfl)) (fun _ _ _ h => h) (Or.inl ⟨by rfl,?_⟩) ?_ ?_; rotate_left
         ·intro w'; go_simp; with_reducible rfl
         rotate_left
         ·simp only [Act.put,s1_,s2_,s3_,i64_w,i32_w]; rfl
         refine pure_ (i:=24) (N:=some 42) (v:=?_) (a':=?_) #[true,true,true,true,true,true,true,true,true,true,true,true,true,true,true,true,true,true,true,true,true,true,true,true,true,false,false,false,false,false,false,false,false,false,false,false,false] rfl rfl (any_of HT_.out (by kernel_rfl)) (fun _ _ _ h => h) (Or.inl ⟨by rfl,?_⟩) ?_ ?_; rotate_left
         ·intro w'; go_simp; with_reducible rfl
         rotate_left
         ·simp only [Act.put,s1_,s2_,s3_,i64_w,i32_w]; rfl
         refine pure_ (i:=25) (N:=some 43) (v:=?_) (a':=?_) #[true,true,true,true,true,true,true,true,true,true,true,true,true,true,true,true,true,true,true,true,true,true,true,true,true,true,false,false,false,false,false,false,false,false,false,false,false] rfl rfl (any_of HT_.out (by kernel_rfl)) (fun _ _ _ h => h) (Or.inl ⟨by rfl,?_⟩) ?_ ?_; rotate_left
         ·intro w'; go_simp; with_reducible rfl
         rotate_left
         ·simp only [Act.put,s1_,s2_,s3_,i64_w,i32_w]; rfl
         refine pure_ (i:=26) (N:=some 44) (v:=undef) (a':=?_) #[true,true,true,true,true,true,true,true,true,true,true,true,true,true,true,true,true,true,true,true,true,true,true,true,true,true,true,false,false,false,false,false,false,false,false,false,false] rfl rfl (any_of HT_.out (by kernel_rfl)) (fun _ _ _ h => h) (Or.inr ⟨by rfl,rfl⟩) ?_ ?_; rotate_left
         ·simp only [Act.put,s1_,s2_,s3_,i64_w,i32_w]; rfl
         refine pure_ (i:=27) (N:=some 45) (v:=undef) (a':=?_) #[true,true,true,true,true,true,true,true,true,true,true,true,true,true,true,true,true,true,true,true,true,true,true,true,true,true,true,true,false,false,false,false,false,false,false,false,false] rfl rfl (any_of HT_.out (by kernel_rfl)) (fun _ _ _ h => h) (Or.inr ⟨by rfl,rfl⟩) ?_ ?_; rotate_left
         ·simp only [Act.put,s1_,s2_,s3_,i64_w,i32_w]; rfl
         refine pure_ (i:=28) (N:=some 46) (v:=undef) (a':=?_) #[true,true,true,true,true,true,true,true,true,true,true,true,true,true,true,true,true,true,true,true,true,true,true,true,true,true,true,true,true,false,false,false,false,false,false,false,false] rfl rfl (any_of HT_.out (by kernel_rfl)) (fun _ _ _ h => h) (Or.inr ⟨by rfl,rfl⟩) ?_ ?_; rotate_left
         ·simp only [Act.put,s1_,s2_,s3_,i64_w,i32_w]; rfl
         refine pure_ (i:=29) (N:=some 47) (v:=undef) (a':=?_) #[true,true,true,true,true,true,true,true,true,true,true,true,true,true,true,true,true,true,true,true,true,true,true,true,true,true,true,true,true,true,false,false,false,false,false,false,false] rfl rfl (any_of HT_.out (by kernel_rfl)) (fun _ _ _ h => h) (Or.inr ⟨by rfl,rfl⟩) ?_ ?_; rotate_left
         ·simp only [Act.put,s1_,s2_,s3_,i64_w,i32_w]; rfl
         refine pure_ (i:=30) (N:=some 48) (v:=?_) (a':=?_) #[true,true,true,true,true,true,true,true,true,true,true,true,true,true,true,true,true,true,true,true,true,true,true,true,true,true,true,true,true,true,true,false,false,false,false,false,false] rfl rfl (any_of HT_.out (by kernel_rfl)) (fun _ _ _ h => h) (Or.inl ⟨by rfl,?_⟩) ?_ ?_; rotate_left
         ·intro w'; go_simp; with_reducible rfl
         rotate_left
         ·simp only [Act.put,s1_,s2_,s3_,i64_w,i32_w]; rfl
         refine pure_ (i:=31) (N:=some 49) (v:=?_) (a':=?_) #[true,true,true,true,true,true,true,true,true,true,true,true,true,true,true,true,true,true,true,true,true,true,true,true,true,true,true,true,true,true,true,true,false,false,false,false,false] rfl rfl (any_of HT_.out (by kernel_rfl)) (fun _ _ _ h => h) (Or.inl ⟨by rfl,?_⟩) ?_ ?_; rotate_left
         ·intro w'; go_simp; with_reducible rfl
         rotate_left
         ·simp only [Act.put,s1_,s2_,s3_,i64_w,i32_w]; rfl
         refine pure_ (i:=32) (N:=some 50) (v:=undef) (a':=?_) #[true,true,true,true,true,true,true,true,true,true,true,true,true,true,true,true,true,true,true,true,true,true,true,true,true,true,true,true,true,true,true,true,true,false,false,false,false] rfl rfl (any_of HT_.out (by kernel_rfl)) (fun _ _ _ h => h) (Or.inr ⟨by rfl,rfl⟩) ?_ ?_; rotate_left
         ·simp only [Act.put,s1_,s2_,s3_,i64_w,i32_w]; rfl
         refine pure_ (i:=33) (N:=some 51) (v:=undef) (a':=?_) #[true,true,true,true,true,true,true,true,true,true,true,true,true,true,true,true,true,true,true,true,true,true,true,true,true,true,true,true,true,true,true,true,true,true,false,false,false] rfl rfl (any_of HT_.out (by kernel_rfl)) (fun _ _ _ h => h) (Or.inr ⟨by rfl,rfl⟩) ?_ ?_; rotate_left
         ·simp only [Act.put,s1_,s2_,s3_,i64_w,i32_w]; rfl
         refine pure_ (i:=34) (N:=some 52) (v:=undef) (a':=?_) #[true,true,true,true,true,true,true,true,true,true,true,true,true,true,true,true,true,true,true,true,true,true,true,true,true,true,true,true,true,true,true,true,true,true,true,false,false] rfl rfl (any_of HT_.out (by kernel_rfl)) (fun _ _ _ h => h) (Or.inr ⟨by rfl,rfl⟩) ?_ ?_; rotate_left
         ·simp only [Act.put,s1_,s2_,s3_,i64_w,i32_w]; rfl
         refine pure_ (i:=35) (N:=some 53) (v:=undef) (a':=?_) #[true,true,true,true,true,true,true,true,true,true,true,true,true,true,true,true,true,true,true,true,true,true,true,true,true,true,true,true,true,true,true,true,true,true,true,true,false] rfl rfl (any_of HT_.out (by kernel_rfl)) (fun _ _ _ h => h) (Or.inr ⟨by rfl,rfl⟩) ?_ ?_; rotate_left
         ·simp only [Act.put,s1_,s2_,s3_,i64_w,i32_w]; rfl
         refine pure_ (i:=36) (N:=some 54) (v:=?_) (a':=?_) #[true,true,true,true,true,true,true,true,true,true,true,true,true,true,true,true,true,true,true,true,true,true,true,true,true,true,true,true,true,true,true,true,true,true,true,true,true] rfl rfl (any_of HT_.out (by kernel_rfl)) (fun _ _ _ h => h) (Or.inl ⟨by rfl,?_⟩) ?_ ?_; rotate_left
         ·intro w'; go_simp; with_reducible rfl
         rotate_left
         ·simp only [Act.put,s1_,s2_,s3_,i64_w,i32_w]; rfl
         refine done_ (done_of HT_.out (by kernel_rfl)) ?_
         try go_wp2
         go_ret; exact ⟨by first | rfl | (simp [errW_none,errW_some] <;> rfl) | (simp [*,errW_none,errW_some] <;> rfl),by repeat (first | (with_reducible first | exact HB.out | apply below_alloc | apply pw_below_drewN | apply below_drew1 | refine below_set ?_ GE116.out) | exact HB.out)⟩
      ·replace c6 := Bool.eq_false_iff.mpr c6; subst c6
       have H1 : (some false) = some r := by rw [if_neg (show ¬ (false = true) by decide)] at H; exact H
       clear H; have H := H1; clear H1; obtain rfl := Option.some.inj H; have p115 : 0 ≤ (x3_1 : Int) := of_decide_eq_true (by first | (with_reducible assumption) | assumption); have q115 : x3_1 < (l0.length : Int) := of_decide_eq_true (by first | (with_reducible assumption) | assumption); obtain ⟨ad115,e115,hx115_0,hx115_1,hx115_2,hx115_3⟩ := at_T89 HR0.out x3_1 p115 q115
       cases e115
       replace hx115_0 := (HB.out.cell (World.block_lt_of_cell? w _ hx115_0)).trans hx115_0; replace hx115_1 := (HB.out.cell (World.block_lt_of_cell? w _ hx115_1)).trans hx115_1; replace hx115_2 := (HB.out.cell (World.block_lt_of_cell? w _ hx115_2)).trans hx115_2; replace hx115_3 := (HB.out.cell (World.block_lt_of_cell? w _ hx115_3)).trans hx115_3; replace p115 := eq_true p115; replace q115 := eq_true q115
       try go_wp2_with (first | ((with_reducible refine gate_dst (N:=4) rfl ?_); refine box_event ?hg (N:=4) ?hd (cs:=#[.string (⟨#[]⟩ : ByteArray),.int .i64 0,.int .i64 0,.int .i64 0]) (t:=89) ?hr ?_; (case hd => rfl); (case hg => rfl); (case hr => first | (go_simp; done) | (go_simp; rfl)); intro gb116 hg w60 hbox hb; have n0_ := Aside0.mk (below_step (by repeat (first | (with_reducible first | exact HB.out | apply below_alloc | apply pw_below_drewN | apply below_drew1) | exact HB.out)) hb); have n1_ := Aside0.mk (hbox); have n2_ := Aside0.mk ((by rw [hg]; exact (below_size (by repeat (first | (with_reducible first | exact HB.out | apply below_alloc | apply pw_below_drewN | apply below_drew1) | exact HB.out))) : w.heap.size ≤ gb116)); have n3_ := Aside0.mk ((by rw [hg]; exact (below_size (by repeat (first | (with_reducible first | exact HB.out | apply below_alloc | apply pw_below_drewN | apply below_drew1) | exact HB.out))) : w.heap.size ≤ gb116)); clear HB; have HB := n0_; have BK116 := n1_; have GW116 := n2_; have GE116 := n3_; clear n0_ n1_ n2_ n3_; clear hb hbox hg; have hcz61_0 : w60.cell? ⟨gb116,0,none⟩ = some (.string (⟨#[]⟩ : ByteArray)) := (blk_cell BK116.out 0).trans rfl; have hcz61_1 : w60.cell? ⟨gb116,1,none⟩ = some (.int .i64 0) := (blk_cell BK116.out 1).trans rfl; have hcz61_2 : w60.cell? ⟨gb116,2,none⟩ = some (.int .i64 0) := (blk_cell BK116.out 2).trans rfl; have hcz61_3 : w60.cell? ⟨gb116,3,none⟩ = some (.int .i64 0) := (blk_cell BK116.out 3).trans rfl; have hfz61_0 := blk_frozen BK116.out 0; have hfz61_1 := blk_frozen BK116.out 1; have hfz61_2 := blk_frozen BK116.out 2; have hfz61_3 := blk_frozen BK116.out 3))
       have n0_ : Aside0 (((((w60.setCell ⟨gb116,0,none⟩ (.string ((rd_T89 l0 x3_1).f0))).setCell ⟨gb116,1,none⟩ (.int .i64 ((rd_T89 l0 x3_1).f1))).setCell ⟨gb116,2,none⟩ (.int .i64 ((rd_T89 l0 x3_1).f2))).setCell ⟨gb116,3,none⟩ (.int .i64 ((rd_T89 l0 x3_1).f3))).heap[gb116]? = some (.cells #[.string ((rd_T89 l0 x3_1).f0),.int .i64 ((rd_T89 l0 x3_1).f1),.int .i64 ((rd_T89 l0 x3_1).f2),.int .i64 ((rd_T89 l0 x3_1).f3)] 89 (0,0))) := ⟨by (with_reducible repeat (first | refine blk_drewN ?_ _ | refine blk_drew ?_ | refine blk_alloc ?_ _)); refine blk_put (cs:=#[.string ((rd_T89 l0 x3_1).f0),.int .i64 ((rd_T89 l0 x3_1).f1),.int .i64 ((rd_T89 l0 x3_1).f2),.int .i64 0]) ?_ 3 _ rfl; (with_reducible repeat (first | refine blk_drewN ?_ _ | refine blk_drew ?_ | refine blk_alloc ?_ _)); refine blk_put (cs:=#[.string ((rd_T89 l0 x3_1).f0),.int .i64 ((rd_T89 l0 x3_1).f1),.int .i64 0,.int .i64 0]) ?_ 2 _ rfl; (with_reducible repeat (first | refine blk_drewN ?_ _ | refine blk_drew ?_ | refine blk_alloc ?_ _)); refine blk_put (cs:=#[.string ((rd_T89 l0 x3_1).f0),.int .i64 0,.int .i64 0,.int .i64 0]) ?_ 1 _ rfl; (with_reducible repeat (first | refine blk_drewN ?_ _ | refine blk_drew ?_ | refine blk_alloc ?_ _)); refine blk_put (cs:=#[.string (⟨#[]⟩ : ByteArray),.int .i64 0,.int .i64 0,.int .i64 0]) ?_ 0 _ rfl; (with_reducible repeat (first | refine blk_drewN ?_ _ | refine blk_drew ?_ | refine blk_alloc ?_ _)); exact BK116.out⟩; have n1_ : Aside0 (Below w.heap.size w ((((w60.setCell ⟨gb116,0,none⟩ (.string ((rd_T89 l0 x3_1).f0))).setCell ⟨gb116,1,none⟩ (.int .i64 ((rd_T89 l0 x3_1).f1))).setCell ⟨gb116,2,none⟩ (.int .i64 ((rd_T89 l0 x3_1).f2))).setCell ⟨gb116,3,none⟩ (.int .i64 ((rd_T89 l0 x3_1).f3)))) := ⟨by repeat (first | (with_reducible first | exact HB.out | apply below_alloc | apply pw_below_drewN | apply below_drew1 | refine below_set ?_ GE116.out) | exact HB.out)⟩
       (try clear BK116)
       (try clear HB)
       generalize ((((w60.setCell ⟨gb116,0,none⟩ (.string ((rd_T89 l0 x3_1).f0))).setCell ⟨gb116,1,none⟩ (.int .i64 ((rd_T89 l0 x3_1).f1))).setCell ⟨gb116,2,none⟩ (.int .i64 ((rd_T89 l0 x3_1).f2))).setCell ⟨gb116,3,none⟩ (.int .i64 ((rd_T89 l0 x3_1).f3))) = w62 at n0_ n1_ ⊢; have BK116 := n0_; have HB := n1_; clear n0_ n1_; have n0_ := Aside0.mk (blk_drew BK116.out); have n1_ := Aside0.mk (below_drew1 HB.out); clear BK116; clear HB; have BK116 := n0_; have HB := n1_; clear n0_ n1_; refine start_ (n:=37) (S:=fun w' => w'.cell? ⟨gb116,0,none⟩ = some (.string ((rd_T89 l0 x3_1).f0)) ∧ w'.cell? ⟨gb116,1,none⟩ = some (.int .i64 ((rd_T89 l0 x3_1).f1)) ∧ w'.cell? ⟨gb116,2,none⟩ = some (.int .i64 ((rd_T89 l0 x3_1).f2)) ∧ w'.cell? ⟨gb116,3,none⟩ = some (.int .i64 ((rd_T89 l0 x3_1).f3))) (ds:=[]) #[false,false,false,false,false,false,false,false,false,false,false,false,false,false,false,false,false,false,false,false,false,false,false,false,false,false,false,false,false,false,false,false,false,false,false,false,false] (by kernel_rfl) rfl rfl ⟨(blk_cell BK116.out 0).trans rfl,(blk_cell BK116.out 1).trans rfl,(blk_cell BK116.out 2).trans rfl,(blk_cell BK116.out 3).trans rfl⟩ (fun hHeld => ?_); refine with_tabW spec_DirOk.tab7 spec_DirOk.bits7 (fun HT_ HW_ => ?_); generalize w62.drew = w63 at BK116 HB hHeld ⊢; refine pure_ (i:=0) (N:=some 18) (v:=?_) (a':=?_) #[true,false,false,false,false,false,false,false,false,false,false,false,false,false,false,false,false,false,false,false,false,false,false,false,false,false,false,false,false,false,false,false,false,false,false,false,false] rfl rfl (any_of HT_.out (by kernel_rfl)) (fun _ _ _ h => h) (Or.inl ⟨by rfl,?_⟩) ?_ ?_; rotate_left
       ·intro w'; go_simp; with_reducible rfl
       rotate_left
       ·simp only [Act.put,s1_,s2_,s3_,i64_w,i32_w]; rfl
       refine take_ (i:=1) (N:=some 19) (v:=?_) (a':=?_) #[true,true,false,false,false,false,false,false,false,false,false,false,false,false,false,false,false,false,false,false,false,false,false,false,false,false,false,false,false,false,false,false,false,false,false,false,false] rfl rfl (take_ofW HT_.out HW_.out (by kernel_rfl)) (fun _ _ _ h => h) (Or.inl ⟨by rfl,?_⟩) hHeld ?_ ?_; rotate_left
       ·rintro w' ⟨s0,s1,s2,s3⟩; go_simp; with_reducible rfl
       rotate_left
       ·simp only [Act.put,s1_,s2_,s3_,i64_w,i32_w]; rfl
       refine one_ (i:=2) (N:=some 20) #[true,true,true,false,false,false,false,false,false,false,false,false,false,false,false,false,false,false,false,false,false,false,false,false,false,false,false,false,false,false,false,false,false,false,false,false,false] rfl rfl (one_of HT_.out (by kernel_rfl)) (by decide) (fun K hK => ?_); refine goes_ Try.func85 (by kernel_rfl) rfl #[.string ((rd_T89 l0 x3_1).f0)] (by rfl) rfl rfl (by (try simp only [List.map_toArray,List.map_cons,List.map_nil]); first | done | rfl | (simp only [List.length_drop,List.length_take]; rfl)) ?_; with_reducible refine (spec_l05Key.calls ((rd_T89 l0 x3_1).f0) false _ A5.out).mono ?_; rintro e w' ⟨rfl,⟨nd,rfl⟩⟩; refine ⟨_,rfl,?_⟩; have BK116d_ := Aside0.mk (blk_drewN BK116.out nd); have HBd_ := Aside0.mk (pw_below_drewN HB.out nd); refine hK.out _ _ ⟨(blk_cell BK116d_.out 0).trans rfl,(blk_cell BK116d_.out 1).trans rfl,(blk_cell BK116d_.out 2).trans rfl,(blk_cell BK116d_.out 3).trans rfl⟩ (fun hHeld => ?_); clear hK K; refine norm_ (a':=?_) ?_ ?_; rotate_left
       ·show Act.put _ (some 20) _ = _; simp only [Act.put,s1_,s2_,s3_,i64_w,i32_w]; rfl
       refine pure_ (i:=3) (N:=some 21) (v:=?_) (a':=?_) #[true,true,true,true,false,false,false,false,false,false,false,false,false,false,false,false,false,false,false,false,false,false,false,false,false,false,false,false,false,false,false,false,false,false,false,false,false] rfl rfl (any_of HT_.out (by kernel_rfl)) (fun _ _ _ h => h) (Or.inl ⟨by rfl,?_⟩) ?_ ?_; rotate_left
       ·intro w'; go_simp; with_reducible rfl
       rotate_left
       ·simp only [Act.put,s1_,s2_,s3_,i64_w,i32_w]; rfl
       refine pure_ (i:=4) (N:=some 22) (v:=?_) (a':=?_) #[true,true,true,true,true,false,false,false,false,false,false,false,false,false,false,false,false,false,false,false,false,false,false,false,false,false,false,false,false,false,false,false,false,false,false,false,false] rfl rfl (any_of HT_.out (by kernel_rfl)) (fun _ _ _ h => h) (Or.inl ⟨by rfl,?_⟩) ?_ ?_; rotate_left
       ·intro w'; go_simp; with_reducible rfl
       rotate_left
       ·simp only [Act.put,s1_,s2_,s3_,i64_w,i32_w]; rfl
       refine pure_ (i:=5) (N:=some 23) (v:=undef) (a':=?_) #[true,true,true,true,true,true,false,false,false,false,false,false,false,false,false,false,false,false,false,false,false,false,false,false,false,false,false,false,false,false,false,false,false,false,false,false,false] rfl rfl (any_of HT_.out (by kernel_rfl)) (fun _ _ _ h => h) (Or.inr ⟨by rfl,rfl⟩) ?_ ?_; rotate_left
       ·simp only [Act.put,s1_,s2_,s3_,i64_w,i32_w]; rfl
       refine pure_ (i:=6) (N:=some 24) (v:=undef) (a':=?_) #[true,true,true,true,true,true,true,false,false,false,false,false,false,false,false,false,false,false,false,false,false,false,false,false,false,false,false,false,false,false,false,false,false,false,false,false,false] rfl rfl (any_of HT_.out (by kernel_rfl)) (fun _ _ _ h => h) (Or.inr ⟨by rfl,rfl⟩) ?_ ?_; rotate_left
       ·simp only [Act.put,s1_,s2_,s3_,i64_w,i32_w]; rfl
       refine pure_ (i:=7) (N:=some 25) (v:=undef) (a':=?_) #[true,true,true,true,true,true,true,true,false,false,false,false,false,false,false,false,false,false,false,false,false,false,false,false,false,false,false,false,false,false,false,false,false,false,false,false,false] rfl rfl (any_of HT_.out (by kernel_rfl)) (fun _ _ _ h => h) (Or.inr ⟨by rfl,rfl⟩) ?_ ?_; rotate_left
       ·simp only [Act.put,s1_,s2_,s3_,i64_w,i32_w]; rfl
       refine pure_ (i:=8) (N:=some 26) (v:=undef) (a':=?_) #[true,true,true,true,true,true,true,true,true,false,false,false,false,false,false,false,false,false,false,false,false,false,false,false,false,false,false,false,false,false,false,false,false,false,false,false,false] rfl rfl (any_of HT_.out (by kernel_rfl)) (fun _ _ _ h => h) (Or.inr ⟨by rfl,rfl⟩) ?_ ?_; rotate_left
       ·simp only [Act.put,s1_,s2_,s3_,i64_w,i32_w]; rfl
       refine pure_ (i:=9) (N:=some 27) (v:=undef) (a':=?_) #[true,true,true,true,true,true,true,true,true,true,false,false,false,false,false,false,false,false,false,false,false,false,false,false,false,false,false,false,false,false,false,false,false,false,false,false,false] rfl rfl (any_of HT_.out (by kernel_rfl)) (fun _ _ _ h => h) (Or.inr ⟨by rfl,rfl⟩) ?_ ?_; rotate_left
       ·simp only [Act.put,s1_,s2_,s3_,i64_w,i32_w]; rfl
       refine pure_ (i:=10) (N:=some 28) (v:=undef) (a':=?_) #[true,true,true,true,true,true,true,true,true,true,true,false,false,false,false,false,false,false,false,false,false,false,false,false,false,false,false,false,false,false,false,false,false,false,false,false,false] rfl rfl (any_of HT_.out (by kernel_rfl)) (fun _ _ _ h => h) (Or.inr ⟨by rfl,rfl⟩) ?_ ?_; rotate_left
       ·simp only [Act.put,s1_,s2_,s3_,i64_w,i32_w]; rfl
       refine pure_ (i:=11) (N:=some 29) (v:=undef) (a':=?_) #[true,true,true,true,true,true,true,true,true,true,true,true,false,false,false,false,false,false,false,false,false,false,false,false,false,false,false,false,false,false,false,false,false,false,false,false,false] rfl rfl (any_of HT_.out (by kernel_rfl)) (fun _ _ _ h => h) (Or.inr ⟨by rfl,rfl⟩) ?_ ?_; rotate_left
       ·simp only [Act.put,s1_,s2_,s3_,i64_w,i32_w]; rfl
       refine pure_ (i:=12) (N:=some 30) (v:=undef) (a':=?_) #[true,true,true,true,true,true,true,true,true,true,true,true,true,false,false,false,false,false,false,false,false,false,false,false,false,false,false,false,false,false,false,false,false,false,false,false,false] rfl rfl (any_of HT_.out (by kernel_rfl)) (fun _ _ _ h => h) (Or.inr ⟨by rfl,rfl⟩) ?_ ?_; rotate_left
       ·simp only [Act.put,s1_,s2_,s3_,i64_w,i32_w]; rfl
       refine pure_ (i:=13) (N:=some 31) (v:=undef) (a':=?_) #[true,true,true,true,true,true,true,true,true,true,true,true,true,true,false,false,false,false,false,false,false,false,false,false,false,false,false,false,false,false,false,false,false,false,false,false,false] rfl rfl (any_of HT_.out (by kernel_rfl)) (fun _ _ _ h => h) (Or.inr ⟨by rfl,rfl⟩) ?_ ?_; rotate_left
       ·simp only [Act.put,s1_,s2_,s3_,i64_w,i32_w]; rfl
       refine pure_ (i:=14) (N:=some 32) (v:=undef) (a':=?_) #[true,true,true,true,true,true,true,true,true,true,true,true,true,true,true,false,false,false,false,false,false,false,false,false,false,false,false,false,false,false,false,false,false,false,false,false,false] rfl rfl (any_of HT_.out (by kernel_rfl)) (fun _ _ _ h => h) (Or.inr ⟨by rfl,rfl⟩) ?_ ?_; rotate_left
       ·simp only [Act.put,s1_,s2_,s3_,i64_w,i32_w]; rfl
       refine pure_ (i:=15) (N:=some 33) (v:=undef) (a':=?_) #[true,true,true,true,true,true,true,true,true,true,true,true,true,true,true,true,false,false,false,false,false,false,false,false,false,false,false,false,false,false,false,false,false,false,false,false,false] rfl rfl (any_of HT_.out (by kernel_rfl)) (fun _ _ _ h => h) (Or.inr ⟨by rfl,rfl⟩) ?_ ?_; rotate_left
       ·simp only [Act.put,s1_,s2_,s3_,i64_w,i32_w]; rfl
       refine pure_ (i:=16) (N:=some 34) (v:=undef) (a':=?_) #[true,true,true,true,true,true,true,true,true,true,true,true,true,true,true,true,true,false,false,false,false,false,false,false,false,false,false,false,false,false,false,false,false,false,false,false,false] rfl rfl (any_of HT_.out (by kernel_rfl)) (fun _ _ _ h => h) (Or.inr ⟨by rfl,rfl⟩) ?_ ?_; rotate_left
       ·simp only [Act.put,s1_,s2_,s3_,i64_w,i32_w]; rfl
       refine pure_ (i:=17) (N:=some 35) (v:=undef) (a':=?_) #[true,true,true,true,true,true,true,true,true,true,true,true,true,true,true,true,true,true,false,false,false,false,false,false,false,false,false,false,false,false,false,false,false,false,false,false,false] rfl rfl (any_of HT_.out (by kernel_rfl)) (fun _ _ _ h => h) (Or.inr ⟨by rfl,rfl⟩) ?_ ?_; rotate_left
       ·simp only [Act.put,s1_,s2_,s3_,i64_w,i32_w]; rfl
       refine pure_ (i:=18) (N:=some 36) (v:=?_) (a':=?_) #[true,true,true,true,true,true,true,true,true,true,true,true,true,true,true,true,true,true,true,false,false,false,false,false,false,false,false,false,false,false,false,false,false,false,false,false,false] rfl rfl (any_of HT_.out (by kernel_rfl)) (fun _ _ _ h => h) (Or.inl ⟨by rfl,?_⟩) ?_ ?_; rotate_left
       ·intro w'; go_simp; with_reducible rfl
       rotate_left
       ·simp only [Act.put,s1_,s2_,s3_,i64_w,i32_w]; rfl
       refine pure_ (i:=19) (N:=some 37) (v:=?_) (a':=?_) #[true,true,true,true,true,true,true,true,true,true,true,true,true,true,true,true,true,true,true,true,false,false,false,false,false,false,false,false,false,false,false,false,false,false,false,false,false] rfl rfl (any_of HT_.out (by kernel_rfl)) (fun _ _ _ h => h) (Or.inl ⟨by rfl,?_⟩) ?_ ?_; rotate_left
       ·intro w'; go_simp; with_reducible rfl
       rotate_left
       ·simp only [Act.put,s1_,s2_,s3_,i64_w,i32_w]; rfl
       refine pure_ (i:=20) (N:=some 38) (v:=undef) (a':=?_) #[true,true,true,true,true,true,true,true,true,true,true,true,true,true,true,true,true,true,true,true,true,false,false,false,false,false,false,false,false,false,false,false,false,false,false,false,false] rfl rfl (any_of HT_.out (by kernel_rfl)) (fun _ _ _ h => h) (Or.inr ⟨by rfl,rfl⟩) ?_ ?_; rotate_left
       ·simp only [Act.put,s1_,s2_,s3_,i64_w,i32_w]; rfl
       refine pure_ (i:=21) (N:=some 39) (v:=undef) (a':=?_) #[true,true,true,true,true,true,true,true,true,true,true,true,true,true,true,true,true,true,true,true,true,true,false,false,false,false,false,false,false,false,false,false,false,false,false,false,false] rfl rfl (any_of HT_.out (by kernel_rfl)) (fun _ _ _ h => h) (Or.inr ⟨by rfl,rfl⟩) ?_ ?_; rotate_left
       ·simp only [Act.put,s1_,s2_,s3_,i64_w,i32_w]; rfl
       refine pure_ (i:=22) (N:=some 40) (v:=undef) (a':=?_) #[true,true,true,true,true,true,true,true,true,true,true,true,true,true,true,true,true,true,true,true,true,true,true,false,false,false,false,false,false,false,false,false,false,false,false,false,false] rfl rfl (any_of HT_.out (by kernel_rfl)) (fun _ _ _ h => h) (Or.inr ⟨by rfl,rfl⟩) ?_ ?_; rotate_left
       ·simp only [Act.put,s1_,s2_,s3_,i64_w,i32_w]; rfl
       refine pure_ (i:=23) (N:=some 41) (v:=undef) (a':=?_) #[true,true,true,true,true,true,true,true,true,true,true,true,true,true,true,true,true,true,true,true,true,true,true,true,false,false,false,false,false,false,false,false,false,false,false,false,false] rfl rfl (any_of HT_.out (by kernel_rfl)) (fun _ _ _ h => h) (Or.inr ⟨by rfl,rfl⟩) ?_ ?_; rotate_left
       ·simp only [Act.put,s1_,s2_,s3_,i64_w,i32_w]; rfl
       refine pure_ (i:=24) (N:=some 42) (v:=?_) (a':=?_) #[true,true,true,true,true,true,true,true,true,true,true,true,true,true,true,true,true,true,true,true,true,true,true,true,true,false,false,false,false,false,false,false,false,false,false,false,false] rfl rfl (any_of HT_.out (by kernel_rfl)) (fun _ _ _ h => h) (Or.inl ⟨by rfl,?_⟩) ?_ ?_; rotate_left
       ·intro w'; go_simp; with_reducible rfl
       rotate_left
       ·simp only [Act.put,s1_,s2_,s3_,i64_w,i32_w]; rfl
       refine pure_ (i:=25) (N:=some 43) (v:=?_) (a':=?_) #[true,true,true,true,true,true,true,true,true,true,true,true,true,true,true,true,true,true,true,true,true,true,true,true,true,true,false,false,false,false,false,false,false,false,false,false,false] rfl rfl (any_of HT_.out (by kernel_rfl)) (fun _ _ _ h => h) (Or.inl ⟨by rfl,?_⟩) ?_ ?_; rotate_left
       ·intro w'; go_simp; with_reducible rfl
       rotate_left
       ·simp only [Act.put,s1_,s2_,s3_,i64_w,i32_w]; rfl
       refine pure_ (i:=26) (N:=some 44) (v:=undef) (a':=?_) #[true,true,true,true,true,true,true,true,true,true,true,true,true,true,true,true,true,true,true,true,true,true,true,true,true,true,true,false,false,false,false,false,false,false,false,false,false] rfl rfl (any_of HT_.out (by kernel_rfl)) (fun _ _ _ h => h) (Or.inr ⟨by rfl,rfl⟩) ?_ ?_; rotate_left
       ·simp only [Act.put,s1_,s2_,s3_,i64_w,i32_w]; rfl
       refine pure_ (i:=27) (N:=some 45) (v:=undef) (a':=?_) #[true,true,true,true,true,true,true,true,true,true,true,true,true,true,true,true,true,true,true,true,true,true,true,true,true,true,true,true,false,false,false,false,false,false,false,false,false] rfl rfl (any_of HT_.out (by kernel_rfl)) (fun _ _ _ h => h) (Or.inr ⟨by rfl,rfl⟩) ?_ ?_; rotate_left
       ·simp only [Act.put,s1_,s2_,s3_,i64_w,i32_w]; rfl
       refine pure_ (i:=28) (N:=some 46) (v:=undef) (a':=?_) #[true,true,true,true,true,true,true,true,true,true,true,true,true,true,true,true,true,true,true,true,true,true,true,true,true,true,true,true,true,false,false,false,false,false,false,false,false] rfl rfl (any_of HT_.out (by kernel_rfl)) (fun _ _ _ h => h) (Or.inr ⟨by rfl,rfl⟩) ?_ ?_; rotate_left
       ·simp only [Act.put,s1_,s2_,s3_,i64_w,i32_w]; rfl
       refine pure_ (i:=29) (N:=some 47) (v:=undef) (a':=?_) #[true,true,true,true,true,true,true,true,true,true,true,true,true,true,true,true,true,true,true,true,true,true,true,true,true,true,true,true,true,true,false,false,false,false,false,false,false] rfl rfl (any_of HT_.out (by kernel_rfl)) (fun _ _ _ h => h) (Or.inr ⟨by rfl,rfl⟩) ?_ ?_; rotate_left
       ·simp only [Act.put,s1_,s2_,s3_,i64_w,i32_w]; rfl
       refine pure_ (i:=30) (N:=some 48) (v:=?_) (a':=?_) #[true,true,true,true,true,true,true,true,true,true,true,true,true,true,true,true,true,true,true,true,true,true,true,true,true,true,true,true,true,true,true,false,false,false,false,false,false] rfl rfl (any_of HT_.out (by kernel_rfl)) (fun _ _ _ h => h) (Or.inl ⟨by rfl,?_⟩) ?_ ?_; rotate_left
       ·intro w'; go_simp; with_reducible rfl
       rotate_left
       ·simp only [Act.put,s1_,s2_,s3_,i64_w,i32_w]; rfl
       refine pure_ (i:=31) (N:=some 49) (v:=?_) (a':=?_) #[true,true,true,true,true,true,true,true,true,true,true,true,true,true,true,true,true,true,true,true,true,true,true,true,true,true,true,true,true,true,true,true,false,false,false,false,false] rfl rfl (any_of HT_.out (by kernel_rfl)) (fun _ _ _ h => h) (Or.inl ⟨by rfl,?_⟩) ?_ ?_; rotate_left
       ·intro w'; go_simp; with_reducible rfl
       rotate_left
       ·simp only [Act.put,s1_,s2_,s3_,i64_w,i32_w]; rfl
       refine pure_ (i:=32) (N:=some 50) (v:=undef) (a':=?_) #[true,true,true,true,true,true,true,true,true,true,true,true,true,true,true,true,true,true,true,true,true,true,true,true,true,true,true,true,true,true,true,true,true,false,false,false,false] rfl rfl (any_of HT_.out (by kernel_rfl)) (fun _ _ _ h => h) (Or.inr ⟨by rfl,rfl⟩) ?_ ?_; rotate_left
       ·simp only [Act.put,s1_,s2_,s3_,i64_w,i32_w]; rfl
       refine pure_ (i:=33) (N:=some 51) (v:=undef) (a':=?_) #[true,true,true,true,true,true,true,true,true,true,true,true,true,true,true,true,true,true,true,true,true,true,true,true,true,true,true,true,true,true,true,true,true,true,false,false,false] rfl rfl (any_of HT_.out (by kernel_rfl)) (fun _ _ _ h => h) (Or.inr ⟨by rfl,rfl⟩) ?_ ?_; rotate_left
       ·simp only [Act.put,s1_,s2_,s3_,i64_w,i32_w]; rfl
       refine pure_ (i:=34) (N:=some 52) (v:=undef) (a':=?_) #[true,true,true,true,true,true,true,true,true,true,true,true,true,true,true,true,true,true,true,true,true,true,true,true,true,true,true,true,true,true,true,true,true,true,true,false,false] rfl rfl (any_of HT_.out (by kernel_rfl)) (fun _ _ _ h => h) (Or.inr ⟨by rfl,rfl⟩) ?_ ?_; rotate_left
       ·simp only [Act.put,s1_,s2_,s3_,i64_w,i32_w]; rfl
       refine pure_ (i:=35) (N:=some 53) (v:=undef) (a':=?_) #[true,true,true,true,true,true,true,true,true,true,true,true,true,true,true,true,true,true,true,true,true,true,true,true,true,true,true,true,true,true,true,true,true,true,true,true,false] rfl rfl (any_of HT_.out (by kernel_rfl)) (fun _ _ _ h => h) (Or.inr ⟨by rfl,rfl⟩) ?_ ?_; rotate_left
       ·simp only [Act.put,s1_,s2_,s3_,i64_w,i32_w]; rfl
       refine pure_ (i:=36) (N:=some 54) (v:=?_) (a':=?_) #[true,true,true,true,true,true,true,true,true,true,true,true,true,true,true,true,true,true,true,true,true,true,true,true,true,true,true,true,true,true,true,true,true,true,true,true,true] rfl rfl (any_of HT_.out (by kernel_rfl)) (fun _ _ _ h => h) (Or.inl ⟨by rfl,?_⟩) ?_ ?_; rotate_left
       ·intro w'; go_simp; with_reducible rfl
       rotate_left
       ·simp only [Act.put,s1_,s2_,s3_,i64_w,i32_w]; rfl
       refine done_ (done_of HT_.out (by kernel_rfl)) ?_
       try go_wp2
       go_ret; exact ⟨by first | rfl | (simp [errW_none,errW_some] <;> rfl) | (simp [*,errW_none,errW_some] <;> rfl),by repeat (first | (with_reducible first | exact HB.out | apply below_alloc | apply pw_below_drewN | apply below_drew1 | refine below_set ?_ GE116.out) | exact HB.out)⟩
     ·rw [if_neg c4] at H; exact absurd H (by simp)
    ·rw [if_neg c3] at H; have c3b0 : decide (x3_1 < (l0.length : Int)) = false := decide_eq_false c3; clear c3; obtain rfl := Option.some.inj H; go_wp2; go_ret; exact ⟨by first | rfl | (simp [errW_none,errW_some] <;> rfl) | (simp [*,errW_none,errW_some] <;> rfl),by repeat (first | (with_reducible first | exact HB.out | apply below_alloc | apply pw_below_drewN | apply below_drew1) | exact HB.out)⟩
end Go.Proofs.Ythgmanojhicchaa.PFnExactHintText
