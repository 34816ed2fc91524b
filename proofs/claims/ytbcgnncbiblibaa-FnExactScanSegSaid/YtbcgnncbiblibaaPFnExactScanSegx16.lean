/- The contracts of the Go functions that this law reaches: what each call returns, by a plain Lean function of its arguments. No conditions but those each contract names. By the kit's print.py, run by this session's wip/gen/pp.py with facts and hand proofs beside it: not to the letter what print.sh prints. -/
import Derived.Test.YtbcgnncbiblibaaPFnExactScanSegx0
import Derived.Test.YtbcgnncbiblibaaPFnExactScanSegx15
namespace Go.Proofs.Ytbcgnncbiblibaa.PFnExactScanSeg
open Go.RowKit Go.Proofs.YtbcgnncbiblibaaW.PrintWords Go.Proofs.YtbcgnncbiblibaaW.PrintLast Go.Proofs.YtbcgnncbiblibaaW.PrintMore
attribute [local go_sem] max2_int min2_int max_two min_two max_three min_three max_four min_four
set_option linter.unusedVariables false
set_option linter.unusedSimpArgs false
def laws_heldSpotS.l0 : Nat → List (S88) → Int → Int → Option (Int)
 | 0,_,_,_ => none
 | k + 1,x0,x1,x5 => if x5 < (x0.length : Int) then (if 0 ≤ x5 then ((laws_markText.f k x1).bind fun t363 => (if ((rd_T88 x0 x5).f0).toList = t363.toList then (if ((rd_T88 x0 x5).f1) = (wrap64 (x1 + 1)) then (if ((rd_T88 x0 x5).f2) = (wrap64 ((wrap64 (x1 + 1)) + 1)) then (if ((rd_T88 x0 x5).f3) = (wrap64 ((wrap64 ((wrap64 (x1 + 1)) + 1)) + 1)) then (laws_heldSpotS.l0 k x0 (wrap64 ((wrap64 ((wrap64 ((wrap64 (x1 + 1)) + 1)) + 1)) + 1)) (wrap64 (x5 + 1))) else (some (-1))) else (some (-1))) else (some (-1))) else (some (-1)))) else (none)) else (some x1)
def laws_heldSpotS.f (k : Nat) (l0 : List (S88)) (a1 : Int) : Option (Int) := laws_heldSpotS.l0 k l0 a1 0
theorem laws_heldSpotS.mono_l : ∀ k, (∀ y0 y1 y2, LeO (laws_heldSpotS.l0 k y0 y1 y2) (laws_heldSpotS.l0 (k + 1) y0 y1 y2))
 | 0 => fun _ _ _ r h => by simp [laws_heldSpotS.l0] at h
 | k + 1 => by
  have ih0:=laws_heldSpotS.mono_l k
  ·intro y0 y1 y2
   unfold laws_heldSpotS.l0
   repeat' first
   | (with_reducible exact ih0 _ _ _)
   | (with_reducible exact laws_markText.mono _ _)
   | (with_reducible exact LeO.refl _)
   | (with_reducible exact LeO.none _)
   | (with_reducible refine LeO.ite ?_ ?_)
   | (with_reducible refine LeO.bind ?_ (fun _ => ?_))
theorem laws_heldSpotS.mono : ∀ a0 a1 k, LeO (laws_heldSpotS.f k a0 a1) (laws_heldSpotS.f (k + 1) a0 a1) := by
 intro a0 a1 k;have ih0:=laws_heldSpotS.mono_l k
 unfold laws_heldSpotS.f
 repeat' first
   | (with_reducible exact ih0 _ _ _)
   | (with_reducible exact laws_markText.mono _ _)
   | (with_reducible exact LeO.refl _)
   | (with_reducible exact LeO.none _)
   | (with_reducible refine LeO.ite ?_ ?_)
   | (with_reducible refine LeO.bind ?_ (fun _ => ?_))
def laws_heldSpotS.T4 : Bool × List (List Nat × List Nat) := (true, [([], []), ([], []), ([0, 1], [0, 1]), ([2], [2]), ([3], [3]), ([], []), ([5], [5]), ([4, 6], [4, 6])])
def laws_heldSpotS.B4 : List Nat := [0, 0, 3, 7, 15, 0, 32, 127]
theorem laws_heldSpotS.tab4 : rtab .any (opsOf Try.f19 4) = laws_heldSpotS.T4 := by kernel_rfl
theorem laws_heldSpotS.bits4 : waitsOk laws_heldSpotS.T4.2 laws_heldSpotS.B4 = true := by kernel_rfl
set_option maxHeartbeats 8000000 in
set_option maxRecDepth 100000 in
theorem laws_heldSpotS.calls (k : Nat) (A0 : Option Addr) (c0 : Nat) (l0 : List (S88)) (a1 : Int) (r : Int) (w : World) (hr0 : Kd.C k88 w A0 l0.length l0) (hc0 : l0.length ≤ c0) (h : laws_heldSpotS.f k l0 a1 = some r) :
  Calls Try.prog 19 #[.slice A0 l0.length c0,.int .i64 a1] w fun e w' => e = .returned (.int .i64 r) ∧ Below w.heap.size w w':=by
 have HR0:=A_ hr0;have HC0:=A_ hc0;clear hr0 hc0;have HB:=A_ (Below.refl w.heap.size w);unfold laws_heldSpotS.f at h;have H:=h;clear h;have H':=A_ H;clear H;go_enter Try.func19,Try.ntmps19;go_wp2
 go_loopg [1,5] k (fun kq v1 v5 w' => ∃ (x1_1 : Int) (x5_1 : Int),v1 = .int .i64 x1_1 ∧ v5 = .int .i64 x5_1 ∧ Aside0 (laws_heldSpotS.l0 kq l0 x1_1 x5_1 = some r) ∧ Aside0 (kq ≤ k) ∧ Aside0 (Below w.heap.size w w'))
 case atStart => exact ⟨(a1),(0),(by first|rfl|(simp;done)|(simp [*];done)),(by first|rfl|(simp;done)|(simp [*];done)),H',⟨Nat.le_refl _⟩,⟨bq_ HB⟩⟩
 case round =>
  clear H'
  try clear c1
  try clear p2
  obtain ⟨x1_1,x5_1,rfl,rfl,HA,HK1,HB⟩:=hrel
  cases gk with
  | zero => exact absurd HA.out (by simp [laws_heldSpotS.l0])
  | succ k1 =>
   have H:=HA.out;clear HA;simp only [laws_heldSpotS.l0] at H
   by_cases c3 : x5_1 < (l0.length : Int)
   ·rw [if_pos c3] at H;have c3b0 : decide (x5_1 < (l0.length : Int)) = true:=de_ c3;clear c3
    by_cases c4 : 0 ≤ x5_1
    ·rw [if_pos c4] at H;have c4b0 : decide (0 ≤ x5_1) = true:=de_ c4;clear c4;replace H:=ob_.mp H;obtain ⟨t363,A50,H⟩:=H;(try dsimp only at H);have A5:=A_ A50;clear A50
     by_cases c6 : ((rd_T88 l0 x5_1).f0).toList = t363.toList
     ·rw [if_pos c6] at H;have c6b0 : (((rd_T88 l0 x5_1).f0).toList == t363.toList) = true:=beq_iff_eq.mpr c6;have c6b1 : (((rd_T88 l0 x5_1).f0).toList != t363.toList) = false:=bne_eq_false_iff_eq.mpr c6;clear c6
      by_cases c7 : ((rd_T88 l0 x5_1).f1) = (wrap64 (x1_1 + 1))
      ·rw [if_pos c7] at H;have c7b0 : (((rd_T88 l0 x5_1).f1) == (wrap64 (x1_1 + 1))) = true:=beq_iff_eq.mpr c7;have c7b1 : (((rd_T88 l0 x5_1).f1) != (wrap64 (x1_1 + 1))) = false:=bne_eq_false_iff_eq.mpr c7;clear c7
       by_cases c8 : ((rd_T88 l0 x5_1).f2) = (wrap64 ((wrap64 (x1_1 + 1)) + 1))
       ·rw [if_pos c8] at H;have c8b0 : (((rd_T88 l0 x5_1).f2) == (wrap64 ((wrap64 (x1_1 + 1)) + 1))) = true:=beq_iff_eq.mpr c8;have c8b1 : (((rd_T88 l0 x5_1).f2) != (wrap64 ((wrap64 (x1_1 + 1)) + 1))) = false:=bne_eq_false_iff_eq.mpr c8;clear c8
        by_cases c9 : ((rd_T88 l0 x5_1).f3) = (wrap64 ((wrap64 ((wrap64 (x1_1 + 1)) + 1)) + 1))
        ·rw [if_pos c9] at H;have c9b0 : (((rd_T88 l0 x5_1).f3) == (wrap64 ((wrap64 ((wrap64 (x1_1 + 1)) + 1)) + 1))) = true:=beq_iff_eq.mpr c9;have c9b1 : (((rd_T88 l0 x5_1).f3) != (wrap64 ((wrap64 ((wrap64 (x1_1 + 1)) + 1)) + 1))) = false:=bne_eq_false_iff_eq.mpr c9;clear c9;have H':=A_ H;clear H
         try go_wp2
         replace HB:=A_ (pd_ HB.out);have p362 : 0 ≤ (x5_1 : Int):=oda_;have q362 : x5_1 < (l0.length : Int):=oda_;obtain ⟨ad362,e362,hx362_0,hx362_1,hx362_2,hx362_3⟩:=at_T88 HR0.out x5_1 p362 q362;have hw362_3:=hx362_3;have hw362_2:=hx362_2;have hw362_1:=hx362_1;have hw362_0:=hx362_0
         cases e362
         replace hx362_0:=(HB.out.cell (wb_ w _ hx362_0)).trans hx362_0;replace hx362_1:=(HB.out.cell (wb_ w _ hx362_1)).trans hx362_1;replace hx362_2:=(HB.out.cell (wb_ w _ hx362_2)).trans hx362_2;replace hx362_3:=(HB.out.cell (wb_ w _ hx362_3)).trans hx362_3;replace p362:=eq_true p362;replace q362:=eq_true q362;refine start_ (n:=8) (S:=fun w' => w'.cell? (ad362.add ((x5_1).toNat * 4)) = some (.string ((rd_T88 l0 x5_1).f0)) ∧ w'.cell? ⟨(ad362.add ((x5_1).toNat * 4)).block,(ad362.add ((x5_1).toNat * 4)).off + 1,none⟩ = some (.int .i64 ((rd_T88 l0 x5_1).f1)) ∧ w'.cell? ⟨(ad362.add ((x5_1).toNat * 4)).block,(ad362.add ((x5_1).toNat * 4)).off + 2,none⟩ = some (.int .i64 ((rd_T88 l0 x5_1).f2)) ∧ w'.cell? ⟨(ad362.add ((x5_1).toNat * 4)).block,(ad362.add ((x5_1).toNat * 4)).off + 3,none⟩ = some (.int .i64 ((rd_T88 l0 x5_1).f3))) (ds:=[]) #[false,false,false,false,false,false,false,false] (by kernel_rfl) rfl rfl ⟨((HB.out.cell (wb_ w _ hw362_0)).trans hw362_0),((HB.out.cell (wb_ w _ hw362_1)).trans hw362_1),((HB.out.cell (wb_ w _ hw362_2)).trans hw362_2),((HB.out.cell (wb_ w _ hw362_3)).trans hw362_3)⟩ (fun hHeld => ?_);refine with_tabW laws_heldSpotS.tab4 laws_heldSpotS.bits4 (fun HT_ HW_ => ?_);generalize wr.drew = w10 at HB hx362_0 hx362_1 hx362_2 hx362_3 hHeld ⊢;refine pU_ 0 (some 12) ?_
         refine pU_ 1 (some 13) ?_
         refine pU_ 2 (some 14) ?_
         refine pU_ 3 (some 15) ?_
         refine pU_ 5 (some 17) ?_
         refine tK_ 4 (some 16) hHeld ?_
         refine oN_ 6 (some 18) (fun K hK => ?_);refine gs_ Try.func59 #[.int .i64 x1_1] ?_;with_reducible refine (laws_markText.calls k1 x1_1 t363 _ A5.out).mono ?_;rintro e w11 ⟨rfl,hb⟩;refine ⟨_,rfl,?_⟩;replace HB:=bS_ HB hb
         (try clear hb)
         refine hK.out _ _ ⟨((HB.out.cell (wb_ w _ hw362_0)).trans hw362_0),((HB.out.cell (wb_ w _ hw362_1)).trans hw362_1),((HB.out.cell (wb_ w _ hw362_2)).trans hw362_2),((HB.out.cell (wb_ w _ hw362_3)).trans hw362_3)⟩ (fun hHeld => ?_);clear hK K;refine nX_ (some 18) ?_
         refine pU_ 7 (some 19) ?_
         refine done_ (done_of HT_.out (by kernel_rfl)) ?_;have p364 : 0 ≤ (x5_1 : Int):=oda_;have q364 : x5_1 < (l0.length : Int):=oda_;obtain ⟨ad364,e364,hx364_0,hx364_1,hx364_2,hx364_3⟩:=at_T88 HR0.out x5_1 p364 q364;obtain rfl : ad362 = ad364:=(by injection e364);replace hx364_0:=(HB.out.cell (wb_ w _ hx364_0)).trans hx364_0;replace hx364_1:=(HB.out.cell (wb_ w _ hx364_1)).trans hx364_1;replace hx364_2:=(HB.out.cell (wb_ w _ hx364_2)).trans hx364_2;replace hx364_3:=(HB.out.cell (wb_ w _ hx364_3)).trans hx364_3;replace p364:=eq_true p364;replace q364:=eq_true q364;have p365 : 0 ≤ (x5_1 : Int):=oda_;have q365 : x5_1 < (l0.length : Int):=oda_;obtain ⟨ad365,e365,hx365_0,hx365_1,hx365_2,hx365_3⟩:=at_T88 HR0.out x5_1 p365 q365;obtain rfl : ad362 = ad365:=(by injection e365);replace hx365_0:=(HB.out.cell (wb_ w _ hx365_0)).trans hx365_0;replace hx365_1:=(HB.out.cell (wb_ w _ hx365_1)).trans hx365_1;replace hx365_2:=(HB.out.cell (wb_ w _ hx365_2)).trans hx365_2;replace hx365_3:=(HB.out.cell (wb_ w _ hx365_3)).trans hx365_3;replace p365:=eq_true p365;replace q365:=eq_true q365;have p366 : 0 ≤ (x5_1 : Int):=oda_;have q366 : x5_1 < (l0.length : Int):=oda_;obtain ⟨ad366,e366,hx366_0,hx366_1,hx366_2,hx366_3⟩:=at_T88 HR0.out x5_1 p366 q366;obtain rfl : ad362 = ad366:=(by injection e366);replace hx366_0:=(HB.out.cell (wb_ w _ hx366_0)).trans hx366_0;replace hx366_1:=(HB.out.cell (wb_ w _ hx366_1)).trans hx366_1;replace hx366_2:=(HB.out.cell (wb_ w _ hx366_2)).trans hx366_2;replace hx366_3:=(HB.out.cell (wb_ w _ hx366_3)).trans hx366_3;replace p366:=eq_true p366;replace q366:=eq_true q366
         try go_wp2
         go_roundg k1
         case measure => have:=HK1.out;omega
         case rel => exact ⟨(wrap64 ((wrap64 ((wrap64 ((wrap64 (x1_1 + 1)) + 1)) + 1)) + 1)),(wrap64 (x5_1 + 1)),(by first|rfl|(simp;done)|(simp [*];done)),(by first|rfl|(simp;done)|(simp [*];done)),H',⟨by have:=HK1.out;omega⟩,⟨bq_ HB⟩⟩
        ·rw [if_neg c9] at H;have c9b0 : (((rd_T88 l0 x5_1).f3) == (wrap64 ((wrap64 ((wrap64 (x1_1 + 1)) + 1)) + 1))) = false:=beq_eq_false_iff_ne.mpr c9;have c9b1 : (((rd_T88 l0 x5_1).f3) != (wrap64 ((wrap64 ((wrap64 (x1_1 + 1)) + 1)) + 1))) = true:=bne_iff_ne.mpr c9;obtain rfl:=Option.some.inj H
         try go_wp2
         replace HB:=A_ (pd_ HB.out);have p362 : 0 ≤ (x5_1 : Int):=oda_;have q362 : x5_1 < (l0.length : Int):=oda_;obtain ⟨ad362,e362,hx362_0,hx362_1,hx362_2,hx362_3⟩:=at_T88 HR0.out x5_1 p362 q362;have hw362_3:=hx362_3;have hw362_2:=hx362_2;have hw362_1:=hx362_1;have hw362_0:=hx362_0
         cases e362
         replace hx362_0:=(HB.out.cell (wb_ w _ hx362_0)).trans hx362_0;replace hx362_1:=(HB.out.cell (wb_ w _ hx362_1)).trans hx362_1;replace hx362_2:=(HB.out.cell (wb_ w _ hx362_2)).trans hx362_2;replace hx362_3:=(HB.out.cell (wb_ w _ hx362_3)).trans hx362_3;replace p362:=eq_true p362;replace q362:=eq_true q362;refine start_ (n:=8) (S:=fun w' => w'.cell? (ad362.add ((x5_1).toNat * 4)) = some (.string ((rd_T88 l0 x5_1).f0)) ∧ w'.cell? ⟨(ad362.add ((x5_1).toNat * 4)).block,(ad362.add ((x5_1).toNat * 4)).off + 1,none⟩ = some (.int .i64 ((rd_T88 l0 x5_1).f1)) ∧ w'.cell? ⟨(ad362.add ((x5_1).toNat * 4)).block,(ad362.add ((x5_1).toNat * 4)).off + 2,none⟩ = some (.int .i64 ((rd_T88 l0 x5_1).f2)) ∧ w'.cell? ⟨(ad362.add ((x5_1).toNat * 4)).block,(ad362.add ((x5_1).toNat * 4)).off + 3,none⟩ = some (.int .i64 ((rd_T88 l0 x5_1).f3))) (ds:=[]) #[false,false,false,false,false,false,false,false] (by kernel_rfl) rfl rfl ⟨((HB.out.cell (wb_ w _ hw362_0)).trans hw362_0),((HB.out.cell (wb_ w _ hw362_1)).trans hw362_1),((HB.out.cell (wb_ w _ hw362_2)).trans hw362_2),((HB.out.cell (wb_ w _ hw362_3)).trans hw362_3)⟩ (fun hHeld => ?_);refine with_tabW laws_heldSpotS.tab4 laws_heldSpotS.bits4 (fun HT_ HW_ => ?_);generalize wr.drew = w12 at HB hx362_0 hx362_1 hx362_2 hx362_3 hHeld ⊢;refine pU_ 0 (some 12) ?_
         refine pU_ 1 (some 13) ?_
         refine pU_ 2 (some 14) ?_
         refine pU_ 3 (some 15) ?_
         refine pU_ 5 (some 17) ?_
         refine tK_ 4 (some 16) hHeld ?_
         refine oN_ 6 (some 18) (fun K hK => ?_);refine gs_ Try.func59 #[.int .i64 x1_1] ?_;with_reducible refine (laws_markText.calls k1 x1_1 t363 _ A5.out).mono ?_;rintro e w13 ⟨rfl,hb⟩;refine ⟨_,rfl,?_⟩;replace HB:=bS_ HB hb
         (try clear hb)
         refine hK.out _ _ ⟨((HB.out.cell (wb_ w _ hw362_0)).trans hw362_0),((HB.out.cell (wb_ w _ hw362_1)).trans hw362_1),((HB.out.cell (wb_ w _ hw362_2)).trans hw362_2),((HB.out.cell (wb_ w _ hw362_3)).trans hw362_3)⟩ (fun hHeld => ?_);clear hK K;refine nX_ (some 18) ?_
         refine pU_ 7 (some 19) ?_
         refine done_ (done_of HT_.out (by kernel_rfl)) ?_;have p364 : 0 ≤ (x5_1 : Int):=oda_;have q364 : x5_1 < (l0.length : Int):=oda_;obtain ⟨ad364,e364,hx364_0,hx364_1,hx364_2,hx364_3⟩:=at_T88 HR0.out x5_1 p364 q364;obtain rfl : ad362 = ad364:=(by injection e364);replace hx364_0:=(HB.out.cell (wb_ w _ hx364_0)).trans hx364_0;replace hx364_1:=(HB.out.cell (wb_ w _ hx364_1)).trans hx364_1;replace hx364_2:=(HB.out.cell (wb_ w _ hx364_2)).trans hx364_2;replace hx364_3:=(HB.out.cell (wb_ w _ hx364_3)).trans hx364_3;replace p364:=eq_true p364;replace q364:=eq_true q364;have p365 : 0 ≤ (x5_1 : Int):=oda_;have q365 : x5_1 < (l0.length : Int):=oda_;obtain ⟨ad365,e365,hx365_0,hx365_1,hx365_2,hx365_3⟩:=at_T88 HR0.out x5_1 p365 q365;obtain rfl : ad362 = ad365:=(by injection e365);replace hx365_0:=(HB.out.cell (wb_ w _ hx365_0)).trans hx365_0;replace hx365_1:=(HB.out.cell (wb_ w _ hx365_1)).trans hx365_1;replace hx365_2:=(HB.out.cell (wb_ w _ hx365_2)).trans hx365_2;replace hx365_3:=(HB.out.cell (wb_ w _ hx365_3)).trans hx365_3;replace p365:=eq_true p365;replace q365:=eq_true q365;have p366 : 0 ≤ (x5_1 : Int):=oda_;have q366 : x5_1 < (l0.length : Int):=oda_;obtain ⟨ad366,e366,hx366_0,hx366_1,hx366_2,hx366_3⟩:=at_T88 HR0.out x5_1 p366 q366;obtain rfl : ad362 = ad366:=(by injection e366);replace hx366_0:=(HB.out.cell (wb_ w _ hx366_0)).trans hx366_0;replace hx366_1:=(HB.out.cell (wb_ w _ hx366_1)).trans hx366_1;replace hx366_2:=(HB.out.cell (wb_ w _ hx366_2)).trans hx366_2;replace hx366_3:=(HB.out.cell (wb_ w _ hx366_3)).trans hx366_3;replace p366:=eq_true p366;replace q366:=eq_true q366
         try go_wp2
         go_ret;exact ⟨ex_,bq_ HB⟩
       ·rw [if_neg c8] at H;have c8b0 : (((rd_T88 l0 x5_1).f2) == (wrap64 ((wrap64 (x1_1 + 1)) + 1))) = false:=beq_eq_false_iff_ne.mpr c8;have c8b1 : (((rd_T88 l0 x5_1).f2) != (wrap64 ((wrap64 (x1_1 + 1)) + 1))) = true:=bne_iff_ne.mpr c8;obtain rfl:=Option.some.inj H
        try go_wp2
        replace HB:=A_ (pd_ HB.out);have p362 : 0 ≤ (x5_1 : Int):=oda_;have q362 : x5_1 < (l0.length : Int):=oda_;obtain ⟨ad362,e362,hx362_0,hx362_1,hx362_2,hx362_3⟩:=at_T88 HR0.out x5_1 p362 q362;have hw362_3:=hx362_3;have hw362_2:=hx362_2;have hw362_1:=hx362_1;have hw362_0:=hx362_0
        cases e362
        replace hx362_0:=(HB.out.cell (wb_ w _ hx362_0)).trans hx362_0;replace hx362_1:=(HB.out.cell (wb_ w _ hx362_1)).trans hx362_1;replace hx362_2:=(HB.out.cell (wb_ w _ hx362_2)).trans hx362_2;replace hx362_3:=(HB.out.cell (wb_ w _ hx362_3)).trans hx362_3;replace p362:=eq_true p362;replace q362:=eq_true q362;refine start_ (n:=8) (S:=fun w' => w'.cell? (ad362.add ((x5_1).toNat * 4)) = some (.string ((rd_T88 l0 x5_1).f0)) ∧ w'.cell? ⟨(ad362.add ((x5_1).toNat * 4)).block,(ad362.add ((x5_1).toNat * 4)).off + 1,none⟩ = some (.int .i64 ((rd_T88 l0 x5_1).f1)) ∧ w'.cell? ⟨(ad362.add ((x5_1).toNat * 4)).block,(ad362.add ((x5_1).toNat * 4)).off + 2,none⟩ = some (.int .i64 ((rd_T88 l0 x5_1).f2)) ∧ w'.cell? ⟨(ad362.add ((x5_1).toNat * 4)).block,(ad362.add ((x5_1).toNat * 4)).off + 3,none⟩ = some (.int .i64 ((rd_T88 l0 x5_1).f3))) (ds:=[]) #[false,false,false,false,false,false,false,false] (by kernel_rfl) rfl rfl ⟨((HB.out.cell (wb_ w _ hw362_0)).trans hw362_0),((HB.out.cell (wb_ w _ hw362_1)).trans hw362_1),((HB.out.cell (wb_ w _ hw362_2)).trans hw362_2),((HB.out.cell (wb_ w _ hw362_3)).trans hw362_3)⟩ (fun hHeld => ?_);refine with_tabW laws_heldSpotS.tab4 laws_heldSpotS.bits4 (fun HT_ HW_ => ?_);generalize wr.drew = w14 at HB hx362_0 hx362_1 hx362_2 hx362_3 hHeld ⊢;refine pU_ 0 (some 12) ?_
        refine pU_ 1 (some 13) ?_
        refine pU_ 2 (some 14) ?_
        refine pU_ 3 (some 15) ?_
        refine pU_ 5 (some 17) ?_
        refine tK_ 4 (some 16) hHeld ?_
        refine oN_ 6 (some 18) (fun K hK => ?_);refine gs_ Try.func59 #[.int .i64 x1_1] ?_;with_reducible refine (laws_markText.calls k1 x1_1 t363 _ A5.out).mono ?_;rintro e w15 ⟨rfl,hb⟩;refine ⟨_,rfl,?_⟩;replace HB:=bS_ HB hb
        (try clear hb)
        refine hK.out _ _ ⟨((HB.out.cell (wb_ w _ hw362_0)).trans hw362_0),((HB.out.cell (wb_ w _ hw362_1)).trans hw362_1),((HB.out.cell (wb_ w _ hw362_2)).trans hw362_2),((HB.out.cell (wb_ w _ hw362_3)).trans hw362_3)⟩ (fun hHeld => ?_);clear hK K;refine nX_ (some 18) ?_
        refine pU_ 7 (some 19) ?_
        refine done_ (done_of HT_.out (by kernel_rfl)) ?_;have p364 : 0 ≤ (x5_1 : Int):=oda_;have q364 : x5_1 < (l0.length : Int):=oda_;obtain ⟨ad364,e364,hx364_0,hx364_1,hx364_2,hx364_3⟩:=at_T88 HR0.out x5_1 p364 q364;obtain rfl : ad362 = ad364:=(by injection e364);replace hx364_0:=(HB.out.cell (wb_ w _ hx364_0)).trans hx364_0;replace hx364_1:=(HB.out.cell (wb_ w _ hx364_1)).trans hx364_1;replace hx364_2:=(HB.out.cell (wb_ w _ hx364_2)).trans hx364_2;replace hx364_3:=(HB.out.cell (wb_ w _ hx364_3)).trans hx364_3;replace p364:=eq_true p364;replace q364:=eq_true q364;have p365 : 0 ≤ (x5_1 : Int):=oda_;have q365 : x5_1 < (l0.length : Int):=oda_;obtain ⟨ad365,e365,hx365_0,hx365_1,hx365_2,hx365_3⟩:=at_T88 HR0.out x5_1 p365 q365;obtain rfl : ad362 = ad365:=(by injection e365);replace hx365_0:=(HB.out.cell (wb_ w _ hx365_0)).trans hx365_0;replace hx365_1:=(HB.out.cell (wb_ w _ hx365_1)).trans hx365_1;replace hx365_2:=(HB.out.cell (wb_ w _ hx365_2)).trans hx365_2;replace hx365_3:=(HB.out.cell (wb_ w _ hx365_3)).trans hx365_3;replace p365:=eq_true p365;replace q365:=eq_true q365
        try go_wp2
        go_ret;exact ⟨ex_,bq_ HB⟩
      ·rw [if_neg c7] at H;have c7b0 : (((rd_T88 l0 x5_1).f1) == (wrap64 (x1_1 + 1))) = false:=beq_eq_false_iff_ne.mpr c7;have c7b1 : (((rd_T88 l0 x5_1).f1) != (wrap64 (x1_1 + 1))) = true:=bne_iff_ne.mpr c7;obtain rfl:=Option.some.inj H
       try go_wp2
       replace HB:=A_ (pd_ HB.out);have p362 : 0 ≤ (x5_1 : Int):=oda_;have q362 : x5_1 < (l0.length : Int):=oda_;obtain ⟨ad362,e362,hx362_0,hx362_1,hx362_2,hx362_3⟩:=at_T88 HR0.out x5_1 p362 q362;have hw362_3:=hx362_3;have hw362_2:=hx362_2;have hw362_1:=hx362_1;have hw362_0:=hx362_0
       cases e362
       replace hx362_0:=(HB.out.cell (wb_ w _ hx362_0)).trans hx362_0;replace hx362_1:=(HB.out.cell (wb_ w _ hx362_1)).trans hx362_1;replace hx362_2:=(HB.out.cell (wb_ w _ hx362_2)).trans hx362_2;replace hx362_3:=(HB.out.cell (wb_ w _ hx362_3)).trans hx362_3;replace p362:=eq_true p362;replace q362:=eq_true q362;refine start_ (n:=8) (S:=fun w' => w'.cell? (ad362.add ((x5_1).toNat * 4)) = some (.string ((rd_T88 l0 x5_1).f0)) ∧ w'.cell? ⟨(ad362.add ((x5_1).toNat * 4)).block,(ad362.add ((x5_1).toNat * 4)).off + 1,none⟩ = some (.int .i64 ((rd_T88 l0 x5_1).f1)) ∧ w'.cell? ⟨(ad362.add ((x5_1).toNat * 4)).block,(ad362.add ((x5_1).toNat * 4)).off + 2,none⟩ = some (.int .i64 ((rd_T88 l0 x5_1).f2)) ∧ w'.cell? ⟨(ad362.add ((x5_1).toNat * 4)).block,(ad362.add ((x5_1).toNat * 4)).off + 3,none⟩ = some (.int .i64 ((rd_T88 l0 x5_1).f3))) (ds:=[]) #[false,false,false,false,false,false,false,false] (by kernel_rfl) rfl rfl ⟨((HB.out.cell (wb_ w _ hw362_0)).trans hw362_0),((HB.out.cell (wb_ w _ hw362_1)).trans hw362_1),((HB.out.cell (wb_ w _ hw362_2)).trans hw362_2),((HB.out.cell (wb_ w _ hw362_3)).trans hw362_3)⟩ (fun hHeld => ?_);refine with_tabW laws_heldSpotS.tab4 laws_heldSpotS.bits4 (fun HT_ HW_ => ?_);generalize wr.drew = w16 at HB hx362_0 hx362_1 hx362_2 hx362_3 hHeld ⊢;refine pU_ 0 (some 12) ?_
       refine pU_ 1 (some 13) ?_
       refine pU_ 2 (some 14) ?_
       refine pU_ 3 (some 15) ?_
       refine pU_ 5 (some 17) ?_
       refine tK_ 4 (some 16) hHeld ?_
       refine oN_ 6 (some 18) (fun K hK => ?_);refine gs_ Try.func59 #[.int .i64 x1_1] ?_;with_reducible refine (laws_markText.calls k1 x1_1 t363 _ A5.out).mono ?_;rintro e w17 ⟨rfl,hb⟩;refine ⟨_,rfl,?_⟩;replace HB:=bS_ HB hb
       (try clear hb)
       refine hK.out _ _ ⟨((HB.out.cell (wb_ w _ hw362_0)).trans hw362_0),((HB.out.cell (wb_ w _ hw362_1)).trans hw362_1),((HB.out.cell (wb_ w _ hw362_2)).trans hw362_2),((HB.out.cell (wb_ w _ hw362_3)).trans hw362_3)⟩ (fun hHeld => ?_);clear hK K;refine nX_ (some 18) ?_
       refine pU_ 7 (some 19) ?_
       refine done_ (done_of HT_.out (by kernel_rfl)) ?_;have p364 : 0 ≤ (x5_1 : Int):=oda_;have q364 : x5_1 < (l0.length : Int):=oda_;obtain ⟨ad364,e364,hx364_0,hx364_1,hx364_2,hx364_3⟩:=at_T88 HR0.out x5_1 p364 q364;obtain rfl : ad362 = ad364:=(by injection e364);replace hx364_0:=(HB.out.cell (wb_ w _ hx364_0)).trans hx364_0;replace hx364_1:=(HB.out.cell (wb_ w _ hx364_1)).trans hx364_1;replace hx364_2:=(HB.out.cell (wb_ w _ hx364_2)).trans hx364_2;replace hx364_3:=(HB.out.cell (wb_ w _ hx364_3)).trans hx364_3;replace p364:=eq_true p364;replace q364:=eq_true q364
       try go_wp2
       go_ret;exact ⟨ex_,bq_ HB⟩
     ·rw [if_neg c6] at H;have c6b0 : (((rd_T88 l0 x5_1).f0).toList == t363.toList) = false:=beq_eq_false_iff_ne.mpr c6;have c6b1 : (((rd_T88 l0 x5_1).f0).toList != t363.toList) = true:=bne_iff_ne.mpr c6;obtain rfl:=Option.some.inj H
      try go_wp2
      replace HB:=A_ (pd_ HB.out);have p362 : 0 ≤ (x5_1 : Int):=oda_;have q362 : x5_1 < (l0.length : Int):=oda_;obtain ⟨ad362,e362,hx362_0,hx362_1,hx362_2,hx362_3⟩:=at_T88 HR0.out x5_1 p362 q362;have hw362_3:=hx362_3;have hw362_2:=hx362_2;have hw362_1:=hx362_1;have hw362_0:=hx362_0
      cases e362
      replace hx362_0:=(HB.out.cell (wb_ w _ hx362_0)).trans hx362_0;replace hx362_1:=(HB.out.cell (wb_ w _ hx362_1)).trans hx362_1;replace hx362_2:=(HB.out.cell (wb_ w _ hx362_2)).trans hx362_2;replace hx362_3:=(HB.out.cell (wb_ w _ hx362_3)).trans hx362_3;replace p362:=eq_true p362;replace q362:=eq_true q362;refine start_ (n:=8) (S:=fun w' => w'.cell? (ad362.add ((x5_1).toNat * 4)) = some (.string ((rd_T88 l0 x5_1).f0)) ∧ w'.cell? ⟨(ad362.add ((x5_1).toNat * 4)).block,(ad362.add ((x5_1).toNat * 4)).off + 1,none⟩ = some (.int .i64 ((rd_T88 l0 x5_1).f1)) ∧ w'.cell? ⟨(ad362.add ((x5_1).toNat * 4)).block,(ad362.add ((x5_1).toNat * 4)).off + 2,none⟩ = some (.int .i64 ((rd_T88 l0 x5_1).f2)) ∧ w'.cell? ⟨(ad362.add ((x5_1).toNat * 4)).block,(ad362.add ((x5_1).toNat * 4)).off + 3,none⟩ = some (.int .i64 ((rd_T88 l0 x5_1).f3))) (ds:=[]) #[false,false,false,false,false,false,false,false] (by kernel_rfl) rfl rfl ⟨((HB.out.cell (wb_ w _ hw362_0)).trans hw362_0),((HB.out.cell (wb_ w _ hw362_1)).trans hw362_1),((HB.out.cell (wb_ w _ hw362_2)).trans hw362_2),((HB.out.cell (wb_ w _ hw362_3)).trans hw362_3)⟩ (fun hHeld => ?_);refine with_tabW laws_heldSpotS.tab4 laws_heldSpotS.bits4 (fun HT_ HW_ => ?_);generalize wr.drew = w18 at HB hx362_0 hx362_1 hx362_2 hx362_3 hHeld ⊢;refine pU_ 0 (some 12) ?_
      refine pU_ 1 (some 13) ?_
      refine pU_ 2 (some 14) ?_
      refine pU_ 3 (some 15) ?_
      refine pU_ 5 (some 17) ?_
      refine tK_ 4 (some 16) hHeld ?_
      refine oN_ 6 (some 18) (fun K hK => ?_);refine gs_ Try.func59 #[.int .i64 x1_1] ?_;with_reducible refine (laws_markText.calls k1 x1_1 t363 _ A5.out).mono ?_;rintro e w19 ⟨rfl,hb⟩;refine ⟨_,rfl,?_⟩;replace HB:=bS_ HB hb
      (try clear hb)
      refine hK.out _ _ ⟨((HB.out.cell (wb_ w _ hw362_0)).trans hw362_0),((HB.out.cell (wb_ w _ hw362_1)).trans hw362_1),((HB.out.cell (wb_ w _ hw362_2)).trans hw362_2),((HB.out.cell (wb_ w _ hw362_3)).trans hw362_3)⟩ (fun hHeld => ?_);clear hK K;refine nX_ (some 18) ?_
      refine pU_ 7 (some 19) ?_
      refine done_ (done_of HT_.out (by kernel_rfl)) ?_
      try go_wp2
      go_ret;exact ⟨ex_,bq_ HB⟩
    ·rw [if_neg c4] at H;exact absurd H (by simp)
   ·rw [if_neg c3] at H;have c3b0 : decide (x5_1 < (l0.length : Int)) = false:=decide_eq_false c3;clear c3;obtain rfl:=Option.some.inj H;go_wp2;go_ret;exact ⟨ex_,bq_ HB⟩
end Go.Proofs.Ytbcgnncbiblibaa.PFnExactScanSeg
