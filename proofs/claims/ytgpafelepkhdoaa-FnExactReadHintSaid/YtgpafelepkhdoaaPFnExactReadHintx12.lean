/- The contracts of the Go functions that this law reaches: what each call returns, by a plain Lean function of its arguments. No conditions but those each contract names. By the kit's print.py, run by this session's wip/gen/pp.py with facts and hand proofs beside it: not to the letter what print.sh prints. -/
import Derived.Test.YtgpafelepkhdoaaPFnExactReadHintx0
import Derived.Test.YtgpafelepkhdoaaPFnExactReadHintx11
namespace Go.Proofs.Ytgpafelepkhdoaa.PFnExactReadHint
open Go.RowKit Go.Proofs.YtgpafelepkhdoaaW.PrintWords Go.Proofs.YtgpafelepkhdoaaW.PrintLast Go.Proofs.YtgpafelepkhdoaaW.PrintMore
attribute [local go_sem] max2_int min2_int max_two min_two max_three min_three max_four min_four
set_option linter.unusedVariables false
set_option linter.unusedSimpArgs false
def laws_heldSpotS.l0 : Nat → List (S127) → Int → Int → Option (Int)
 | 0,_,_,_ => none
 | k + 1,x0,x1,x5 => if x5 < (x0.length : Int) then (if 0 ≤ x5 then ((laws_markText.f k x1).bind fun t244 => (if ((rd_T127 x0 x5).f0).toList = t244.toList then (if ((rd_T127 x0 x5).f1) = (wrap64 (x1 + 1)) then (if ((rd_T127 x0 x5).f2) = (wrap64 ((wrap64 (x1 + 1)) + 1)) then (if ((rd_T127 x0 x5).f3) = (wrap64 ((wrap64 ((wrap64 (x1 + 1)) + 1)) + 1)) then (laws_heldSpotS.l0 k x0 (wrap64 ((wrap64 ((wrap64 ((wrap64 (x1 + 1)) + 1)) + 1)) + 1)) (wrap64 (x5 + 1))) else (some (-1))) else (some (-1))) else (some (-1))) else (some (-1)))) else (none)) else (some x1)
def laws_heldSpotS.f (k : Nat) (l0 : List (S127)) (a1 : Int) : Option (Int) := laws_heldSpotS.l0 k l0 a1 0
theorem laws_heldSpotS.mono_l : ∀ k, (∀ y0 y1 y2, LeO (laws_heldSpotS.l0 k y0 y1 y2) (laws_heldSpotS.l0 (k + 1) y0 y1 y2))
 | 0 => fun _ _ _ r h => by simp [laws_heldSpotS.l0] at h
 | k + 1 => by
  have ih0:=laws_heldSpotS.mono_l k
  ·intro y0 y1 y2
   unfold laws_heldSpotS.l0
   repeat' first
   | (with_reducible exact ih0 _ _ _)
   | (with_reducible exact laws_markText.mono _ _)
   | (with_reducible exact LeO.refl _)
   | (with_reducible exact LeO.none _)
   | (with_reducible refine LeO.ite ?_ ?_)
   | (with_reducible refine LeO.bind ?_ (fun _ => ?_))
theorem laws_heldSpotS.mono : ∀ a0 a1 k, LeO (laws_heldSpotS.f k a0 a1) (laws_heldSpotS.f (k + 1) a0 a1) := by
 intro a0 a1 k;have ih0:=laws_heldSpotS.mono_l k
 unfold laws_heldSpotS.f
 repeat' first
   | (with_reducible exact ih0 _ _ _)
   | (with_reducible exact laws_markText.mono _ _)
   | (with_reducible exact LeO.refl _)
   | (with_reducible exact LeO.none _)
   | (with_reducible refine LeO.ite ?_ ?_)
   | (with_reducible refine LeO.bind ?_ (fun _ => ?_))
def laws_heldSpotS.T4 : Bool × List (List Nat × List Nat) := (true, [([], []), ([], []), ([0, 1], [0, 1]), ([2], [2]), ([3], [3]), ([], []), ([5], [5]), ([4, 6], [4, 6])])
def laws_heldSpotS.B4 : List Nat := [0, 0, 3, 7, 15, 0, 32, 127]
theorem laws_heldSpotS.tab4 : rtab .any (opsOf Try.f46 4) = laws_heldSpotS.T4 := by kernel_rfl
theorem laws_heldSpotS.bits4 : waitsOk laws_heldSpotS.T4.2 laws_heldSpotS.B4 = true := by kernel_rfl
set_option maxHeartbeats 8000000 in
set_option maxRecDepth 100000 in
theorem laws_heldSpotS.calls (k : Nat) (A0 : Option Addr) (c0 : Nat) (l0 : List (S127)) (a1 : Int) (r : Int) (w : World) (hr0 : Kd.C k127 w A0 l0.length l0) (hc0 : l0.length ≤ c0) (h : laws_heldSpotS.f k l0 a1 = some r) :
  Calls Try.prog 46 #[.slice A0 l0.length c0,.int .i64 a1] w fun e w' => e = .returned (.int .i64 r) ∧ Below w.heap.size w w':=by
 have HR0:=A_ hr0;have HC0:=A_ hc0;clear hr0 hc0;have HB:=A_ (Below.refl w.heap.size w);unfold laws_heldSpotS.f at h;have H:=h;clear h;have H':=A_ H;clear H;go_enter Try.func46,Try.ntmps46;go_wp2
 go_loopg [1,5] k (fun kq v1 v5 w' => ∃ (x1_1 : Int) (x5_1 : Int),v1 = .int .i64 x1_1 ∧ v5 = .int .i64 x5_1 ∧ Aside0 (laws_heldSpotS.l0 kq l0 x1_1 x5_1 = some r) ∧ Aside0 (kq ≤ k) ∧ Aside0 (Below w.heap.size w w'))
 case atStart => exact ⟨(a1),(0),(by first|rfl|(simp;done)|(simp [*];done)),(by first|rfl|(simp;done)|(simp [*];done)),H',⟨Nat.le_refl _⟩,⟨bq_ HB⟩⟩
 case round =>
  clear H'
  try clear p2
  obtain ⟨x1_1,x5_1,rfl,rfl,HA,HK1,HB⟩:=hrel
  cases gk with
  | zero => exact absurd HA.out (by simp [laws_heldSpotS.l0])
  | succ k1 =>
   have H:=HA.out;clear HA;simp only [laws_heldSpotS.l0] at H
   by_cases c3 : x5_1 < (l0.length : Int)
   ·rw [if_pos c3] at H;have c3b0 : decide (x5_1 < (l0.length : Int)) = true:=de_ c3;clear c3
    by_cases c4 : 0 ≤ x5_1
    ·rw [if_pos c4] at H;have c4b0 : decide (0 ≤ x5_1) = true:=de_ c4;clear c4;replace H:=ob_.mp H;obtain ⟨t244,A50,H⟩:=H;(try dsimp only at H);have A5:=A_ A50;clear A50
     by_cases c6 : ((rd_T127 l0 x5_1).f0).toList = t244.toList
     ·rw [if_pos c6] at H;have c6b0 : (((rd_T127 l0 x5_1).f0).toList == t244.toList) = true:=beq_iff_eq.mpr c6;have c6b1 : (((rd_T127 l0 x5_1).f0).toList != t244.toList) = false:=bne_eq_false_iff_eq.mpr c6;clear c6
      by_cases c7 : ((rd_T127 l0 x5_1).f1) = (wrap64 (x1_1 + 1))
      ·rw [if_pos c7] at H;have c7b0 : (((rd_T127 l0 x5_1).f1) == (wrap64 (x1_1 + 1))) = true:=beq_iff_eq.mpr c7;have c7b1 : (((rd_T127 l0 x5_1).f1) != (wrap64 (x1_1 + 1))) = false:=bne_eq_false_iff_eq.mpr c7;clear c7
       by_cases c8 : ((rd_T127 l0 x5_1).f2) = (wrap64 ((wrap64 (x1_1 + 1)) + 1))
       ·rw [if_pos c8] at H;have c8b0 : (((rd_T127 l0 x5_1).f2) == (wrap64 ((wrap64 (x1_1 + 1)) + 1))) = true:=beq_iff_eq.mpr c8;have c8b1 : (((rd_T127 l0 x5_1).f2) != (wrap64 ((wrap64 (x1_1 + 1)) + 1))) = false:=bne_eq_false_iff_eq.mpr c8;clear c8
        by_cases c9 : ((rd_T127 l0 x5_1).f3) = (wrap64 ((wrap64 ((wrap64 (x1_1 + 1)) + 1)) + 1))
        ·rw [if_pos c9] at H;have c9b0 : (((rd_T127 l0 x5_1).f3) == (wrap64 ((wrap64 ((wrap64 (x1_1 + 1)) + 1)) + 1))) = true:=beq_iff_eq.mpr c9;have c9b1 : (((rd_T127 l0 x5_1).f3) != (wrap64 ((wrap64 ((wrap64 (x1_1 + 1)) + 1)) + 1))) = false:=bne_eq_false_iff_eq.mpr c9;clear c9;have H':=A_ H;clear H
         try go_wp2
         replace HB:=A_ (pd_ HB.out);have p243 : 0 ≤ (x5_1 : Int):=oda_;have q243 : x5_1 < (l0.length : Int):=oda_;obtain ⟨ad243,e243,hx243_0,hx243_1,hx243_2,hx243_3⟩:=at_T127 HR0.out x5_1 p243 q243;have hw243_3:=hx243_3;have hw243_2:=hx243_2;have hw243_1:=hx243_1;have hw243_0:=hx243_0
         cases e243
         replace hx243_0:=(HB.out.cell (wb_ w _ hx243_0)).trans hx243_0;replace hx243_1:=(HB.out.cell (wb_ w _ hx243_1)).trans hx243_1;replace hx243_2:=(HB.out.cell (wb_ w _ hx243_2)).trans hx243_2;replace hx243_3:=(HB.out.cell (wb_ w _ hx243_3)).trans hx243_3;replace p243:=eq_true p243;replace q243:=eq_true q243;refine start_ (n:=8) (S:=fun w' => w'.cell? (ad243.add ((x5_1).toNat * 4)) = some (.string ((rd_T127 l0 x5_1).f0)) ∧ w'.cell? ⟨(ad243.add ((x5_1).toNat * 4)).block,(ad243.add ((x5_1).toNat * 4)).off + 1,none⟩ = some (.int .i64 ((rd_T127 l0 x5_1).f1)) ∧ w'.cell? ⟨(ad243.add ((x5_1).toNat * 4)).block,(ad243.add ((x5_1).toNat * 4)).off + 2,none⟩ = some (.int .i64 ((rd_T127 l0 x5_1).f2)) ∧ w'.cell? ⟨(ad243.add ((x5_1).toNat * 4)).block,(ad243.add ((x5_1).toNat * 4)).off + 3,none⟩ = some (.int .i64 ((rd_T127 l0 x5_1).f3))) (ds:=[]) #[false,false,false,false,false,false,false,false] (by kernel_rfl) rfl rfl ⟨((HB.out.cell (wb_ w _ hw243_0)).trans hw243_0),((HB.out.cell (wb_ w _ hw243_1)).trans hw243_1),((HB.out.cell (wb_ w _ hw243_2)).trans hw243_2),((HB.out.cell (wb_ w _ hw243_3)).trans hw243_3)⟩ (fun hHeld => ?_);refine with_tabW laws_heldSpotS.tab4 laws_heldSpotS.bits4 (fun HT_ HW_ => ?_);generalize wr.drew = w10 at HB hx243_0 hx243_1 hx243_2 hx243_3 hHeld ⊢;refine pU_ 0 (some 12) ?_
         refine pU_ 1 (some 13) ?_
         refine pU_ 2 (some 14) ?_
         refine pU_ 3 (some 15) ?_
         refine pU_ 5 (some 17) ?_
         refine tK_ 4 (some 16) hHeld ?_
         refine oN_ 6 (some 18) (fun K hK => ?_);refine gs_ Try.func114 #[.int .i64 x1_1] ?_;with_reducible refine (laws_markText.calls k1 x1_1 t244 _ A5.out).mono ?_;rintro e w11 ⟨rfl,hb⟩;refine ⟨_,rfl,?_⟩;replace HB:=bS_ HB hb
         (try clear hb)
         refine hK.out _ _ ⟨((HB.out.cell (wb_ w _ hw243_0)).trans hw243_0),((HB.out.cell (wb_ w _ hw243_1)).trans hw243_1),((HB.out.cell (wb_ w _ hw243_2)).trans hw243_2),((HB.out.cell (wb_ w _ hw243_3)).trans hw243_3)⟩ (fun hHeld => ?_);clear hK K;refine nX_ (some 18) ?_
         refine pU_ 7 (some 19) ?_
         refine done_ (done_of HT_.out (by kernel_rfl)) ?_;have p245 : 0 ≤ (x5_1 : Int):=oda_;have q245 : x5_1 < (l0.length : Int):=oda_;obtain ⟨ad245,e245,hx245_0,hx245_1,hx245_2,hx245_3⟩:=at_T127 HR0.out x5_1 p245 q245;obtain rfl : ad243 = ad245:=(by injection e245);replace hx245_0:=(HB.out.cell (wb_ w _ hx245_0)).trans hx245_0;replace hx245_1:=(HB.out.cell (wb_ w _ hx245_1)).trans hx245_1;replace hx245_2:=(HB.out.cell (wb_ w _ hx245_2)).trans hx245_2;replace hx245_3:=(HB.out.cell (wb_ w _ hx245_3)).trans hx245_3;replace p245:=eq_true p245;replace q245:=eq_true q245;have p246 : 0 ≤ (x5_1 : Int):=oda_;have q246 : x5_1 < (l0.length : Int):=oda_;obtain ⟨ad246,e246,hx246_0,hx246_1,hx246_2,hx246_3⟩:=at_T127 HR0.out x5_1 p246 q246;obtain rfl : ad243 = ad246:=(by injection e246);replace hx246_0:=(HB.out.cell (wb_ w _ hx246_0)).trans hx246_0;replace hx246_1:=(HB.out.cell (wb_ w _ hx246_1)).trans hx246_1;replace hx246_2:=(HB.out.cell (wb_ w _ hx246_2)).trans hx246_2;replace hx246_3:=(HB.out.cell (wb_ w _ hx246_3)).trans hx246_3;replace p246:=eq_true p246;replace q246:=eq_true q246;have p247 : 0 ≤ (x5_1 : Int):=oda_;have q247 : x5_1 < (l0.length : Int):=oda_;obtain ⟨ad247,e247,hx247_0,hx247_1,hx247_2,hx247_3⟩:=at_T127 HR0.out x5_1 p247 q247;obtain rfl : ad243 = ad247:=(by injection e247);replace hx247_0:=(HB.out.cell (wb_ w _ hx247_0)).trans hx247_0;replace hx247_1:=(HB.out.cell (wb_ w _ hx247_1)).trans hx247_1;replace hx247_2:=(HB.out.cell (wb_ w _ hx247_2)).trans hx247_2;replace hx247_3:=(HB.out.cell (wb_ w _ hx247_3)).trans hx247_3;replace p247:=eq_true p247;replace q247:=eq_true q247
         try go_wp2
         go_roundg k1
         case measure => have:=HK1.out;omega
         case rel => exact ⟨(wrap64 ((wrap64 ((wrap64 ((wrap64 (x1_1 + 1)) + 1)) + 1)) + 1)),(wrap64 (x5_1 + 1)),(by first|rfl|(simp;done)|(simp [*];done)),(by first|rfl|(simp;done)|(simp [*];done)),H',⟨by have:=HK1.out;omega⟩,⟨bq_ HB⟩⟩
        ·rw [if_neg c9] at H;have c9b0 : (((rd_T127 l0 x5_1).f3) == (wrap64 ((wrap64 ((wrap64 (x1_1 + 1)) + 1)) + 1))) = false:=beq_eq_false_iff_ne.mpr c9;have c9b1 : (((rd_T127 l0 x5_1).f3) != (wrap64 ((wrap64 ((wrap64 (x1_1 + 1)) + 1)) + 1))) = true:=bne_iff_ne.mpr c9;obtain rfl:=Option.some.inj H
         try go_wp2
         replace HB:=A_ (pd_ HB.out);have p243 : 0 ≤ (x5_1 : Int):=oda_;have q243 : x5_1 < (l0.length : Int):=oda_;obtain ⟨ad243,e243,hx243_0,hx243_1,hx243_2,hx243_3⟩:=at_T127 HR0.out x5_1 p243 q243;have hw243_3:=hx243_3;have hw243_2:=hx243_2;have hw243_1:=hx243_1;have hw243_0:=hx243_0
         cases e243
         replace hx243_0:=(HB.out.cell (wb_ w _ hx243_0)).trans hx243_0;replace hx243_1:=(HB.out.cell (wb_ w _ hx243_1)).trans hx243_1;replace hx243_2:=(HB.out.cell (wb_ w _ hx243_2)).trans hx243_2;replace hx243_3:=(HB.out.cell (wb_ w _ hx243_3)).trans hx243_3;replace p243:=eq_true p243;replace q243:=eq_true q243;refine start_ (n:=8) (S:=fun w' => w'.cell? (ad243.add ((x5_1).toNat * 4)) = some (.string ((rd_T127 l0 x5_1).f0)) ∧ w'.cell? ⟨(ad243.add ((x5_1).toNat * 4)).block,(ad243.add ((x5_1).toNat * 4)).off + 1,none⟩ = some (.int .i64 ((rd_T127 l0 x5_1).f1)) ∧ w'.cell? ⟨(ad243.add ((x5_1).toNat * 4)).block,(ad243.add ((x5_1).toNat * 4)).off + 2,none⟩ = some (.int .i64 ((rd_T127 l0 x5_1).f2)) ∧ w'.cell? ⟨(ad243.add ((x5_1).toNat * 4)).block,(ad243.add ((x5_1).toNat * 4)).off + 3,none⟩ = some (.int .i64 ((rd_T127 l0 x5_1).f3))) (ds:=[]) #[false,false,false,false,false,false,false,false] (by kernel_rfl) rfl rfl ⟨((HB.out.cell (wb_ w _ hw243_0)).trans hw243_0),((HB.out.cell (wb_ w _ hw243_1)).trans hw243_1),((HB.out.cell (wb_ w _ hw243_2)).trans hw243_2),((HB.out.cell (wb_ w _ hw243_3)).trans hw243_3)⟩ (fun hHeld => ?_);refine with_tabW laws_heldSpotS.tab4 laws_heldSpotS.bits4 (fun HT_ HW_ => ?_);generalize wr.drew = w12 at HB hx243_0 hx243_1 hx243_2 hx243_3 hHeld ⊢;refine pU_ 0 (some 12) ?_
         refine pU_ 1 (some 13) ?_
         refine pU_ 2 (some 14) ?_
         refine pU_ 3 (some 15) ?_
         refine pU_ 5 (some 17) ?_
         refine tK_ 4 (some 16) hHeld ?_
         refine oN_ 6 (some 18) (fun K hK => ?_);refine gs_ Try.func114 #[.int .i64 x1_1] ?_;with_reducible refine (laws_markText.calls k1 x1_1 t244 _ A5.out).mono ?_;rintro e w13 ⟨rfl,hb⟩;refine ⟨_,rfl,?_⟩;replace HB:=bS_ HB hb
         (try clear hb)
         refine hK.out _ _ ⟨((HB.out.cell (wb_ w _ hw243_0)).trans hw243_0),((HB.out.cell (wb_ w _ hw243_1)).trans hw243_1),((HB.out.cell (wb_ w _ hw243_2)).trans hw243_2),((HB.out.cell (wb_ w _ hw243_3)).trans hw243_3)⟩ (fun hHeld => ?_);clear hK K;refine nX_ (some 18) ?_
         refine pU_ 7 (some 19) ?_
         refine done_ (done_of HT_.out (by kernel_rfl)) ?_;have p245 : 0 ≤ (x5_1 : Int):=oda_;have q245 : x5_1 < (l0.length : Int):=oda_;obtain ⟨ad245,e245,hx245_0,hx245_1,hx245_2,hx245_3⟩:=at_T127 HR0.out x5_1 p245 q245;obtain rfl : ad243 = ad245:=(by injection e245);replace hx245_0:=(HB.out.cell (wb_ w _ hx245_0)).trans hx245_0;replace hx245_1:=(HB.out.cell (wb_ w _ hx245_1)).trans hx245_1;replace hx245_2:=(HB.out.cell (wb_ w _ hx245_2)).trans hx245_2;replace hx245_3:=(HB.out.cell (wb_ w _ hx245_3)).trans hx245_3;replace p245:=eq_true p245;replace q245:=eq_true q245;have p246 : 0 ≤ (x5_1 : Int):=oda_;have q246 : x5_1 < (l0.length : Int):=oda_;obtain ⟨ad246,e246,hx246_0,hx246_1,hx246_2,hx246_3⟩:=at_T127 HR0.out x5_1 p246 q246;obtain rfl : ad243 = ad246:=(by injection e246);replace hx246_0:=(HB.out.cell (wb_ w _ hx246_0)).trans hx246_0;replace hx246_1:=(HB.out.cell (wb_ w _ hx246_1)).trans hx246_1;replace hx246_2:=(HB.out.cell (wb_ w _ hx246_2)).trans hx246_2;replace hx246_3:=(HB.out.cell (wb_ w _ hx246_3)).trans hx246_3;replace p246:=eq_true p246;replace q246:=eq_true q246;have p247 : 0 ≤ (x5_1 : Int):=oda_;have q247 : x5_1 < (l0.length : Int):=oda_;obtain ⟨ad247,e247,hx247_0,hx247_1,hx247_2,hx247_3⟩:=at_T127 HR0.out x5_1 p247 q247;obtain rfl : ad243 = ad247:=(by injection e247);replace hx247_0:=(HB.out.cell (wb_ w _ hx247_0)).trans hx247_0;replace hx247_1:=(HB.out.cell (wb_ w _ hx247_1)).trans hx247_1;replace hx247_2:=(HB.out.cell (wb_ w _ hx247_2)).trans hx247_2;replace hx247_3:=(HB.out.cell (wb_ w _ hx247_3)).trans hx247_3;replace p247:=eq_true p247;replace q247:=eq_true q247
         try go_wp2
         go_ret;exact ⟨ex_,bq_ HB⟩
       ·rw [if_neg c8] at H;have c8b0 : (((rd_T127 l0 x5_1).f2) == (wrap64 ((wrap64 (x1_1 + 1)) + 1))) = false:=beq_eq_false_iff_ne.mpr c8;have c8b1 : (((rd_T127 l0 x5_1).f2) != (wrap64 ((wrap64 (x1_1 + 1)) + 1))) = true:=bne_iff_ne.mpr c8;obtain rfl:=Option.some.inj H
        try go_wp2
        replace HB:=A_ (pd_ HB.out);have p243 : 0 ≤ (x5_1 : Int):=oda_;have q243 : x5_1 < (l0.length : Int):=oda_;obtain ⟨ad243,e243,hx243_0,hx243_1,hx243_2,hx243_3⟩:=at_T127 HR0.out x5_1 p243 q243;have hw243_3:=hx243_3;have hw243_2:=hx243_2;have hw243_1:=hx243_1;have hw243_0:=hx243_0
        cases e243
        replace hx243_0:=(HB.out.cell (wb_ w _ hx243_0)).trans hx243_0;replace hx243_1:=(HB.out.cell (wb_ w _ hx243_1)).trans hx243_1;replace hx243_2:=(HB.out.cell (wb_ w _ hx243_2)).trans hx243_2;replace hx243_3:=(HB.out.cell (wb_ w _ hx243_3)).trans hx243_3;replace p243:=eq_true p243;replace q243:=eq_true q243;refine start_ (n:=8) (S:=fun w' => w'.cell? (ad243.add ((x5_1).toNat * 4)) = some (.string ((rd_T127 l0 x5_1).f0)) ∧ w'.cell? ⟨(ad243.add ((x5_1).toNat * 4)).block,(ad243.add ((x5_1).toNat * 4)).off + 1,none⟩ = some (.int .i64 ((rd_T127 l0 x5_1).f1)) ∧ w'.cell? ⟨(ad243.add ((x5_1).toNat * 4)).block,(ad243.add ((x5_1).toNat * 4)).off + 2,none⟩ = some (.int .i64 ((rd_T127 l0 x5_1).f2)) ∧ w'.cell? ⟨(ad243.add ((x5_1).toNat * 4)).block,(ad243.add ((x5_1).toNat * 4)).off + 3,none⟩ = some (.int .i64 ((rd_T127 l0 x5_1).f3))) (ds:=[]) #[false,false,false,false,false,false,false,false] (by kernel_rfl) rfl rfl ⟨((HB.out.cell (wb_ w _ hw243_0)).trans hw243_0),((HB.out.cell (wb_ w _ hw243_1)).trans hw243_1),((HB.out.cell (wb_ w _ hw243_2)).trans hw243_2),((HB.out.cell (wb_ w _ hw243_3)).trans hw243_3)⟩ (fun hHeld => ?_);refine with_tabW laws_heldSpotS.tab4 laws_heldSpotS.bits4 (fun HT_ HW_ => ?_);generalize wr.drew = w14 at HB hx243_0 hx243_1 hx243_2 hx243_3 hHeld ⊢;refine pU_ 0 (some 12) ?_
        refine pU_ 1 (some 13) ?_
        refine pU_ 2 (some 14) ?_
        refine pU_ 3 (some 15) ?_
        refine pU_ 5 (some 17) ?_
        refine tK_ 4 (some 16) hHeld ?_
        refine oN_ 6 (some 18) (fun K hK => ?_);refine gs_ Try.func114 #[.int .i64 x1_1] ?_;with_reducible refine (laws_markText.calls k1 x1_1 t244 _ A5.out).mono ?_;rintro e w15 ⟨rfl,hb⟩;refine ⟨_,rfl,?_⟩;replace HB:=bS_ HB hb
        (try clear hb)
        refine hK.out _ _ ⟨((HB.out.cell (wb_ w _ hw243_0)).trans hw243_0),((HB.out.cell (wb_ w _ hw243_1)).trans hw243_1),((HB.out.cell (wb_ w _ hw243_2)).trans hw243_2),((HB.out.cell (wb_ w _ hw243_3)).trans hw243_3)⟩ (fun hHeld => ?_);clear hK K;refine nX_ (some 18) ?_
        refine pU_ 7 (some 19) ?_
        refine done_ (done_of HT_.out (by kernel_rfl)) ?_;have p245 : 0 ≤ (x5_1 : Int):=oda_;have q245 : x5_1 < (l0.length : Int):=oda_;obtain ⟨ad245,e245,hx245_0,hx245_1,hx245_2,hx245_3⟩:=at_T127 HR0.out x5_1 p245 q245;obtain rfl : ad243 = ad245:=(by injection e245);replace hx245_0:=(HB.out.cell (wb_ w _ hx245_0)).trans hx245_0;replace hx245_1:=(HB.out.cell (wb_ w _ hx245_1)).trans hx245_1;replace hx245_2:=(HB.out.cell (wb_ w _ hx245_2)).trans hx245_2;replace hx245_3:=(HB.out.cell (wb_ w _ hx245_3)).trans hx245_3;replace p245:=eq_true p245;replace q245:=eq_true q245;have p246 : 0 ≤ (x5_1 : Int):=oda_;have q246 : x5_1 < (l0.length : Int):=oda_;obtain ⟨ad246,e246,hx246_0,hx246_1,hx246_2,hx246_3⟩:=at_T127 HR0.out x5_1 p246 q246;obtain rfl : ad243 = ad246:=(by injection e246);replace hx246_0:=(HB.out.cell (wb_ w _ hx246_0)).trans hx246_0;replace hx246_1:=(HB.out.cell (wb_ w _ hx246_1)).trans hx246_1;replace hx246_2:=(HB.out.cell (wb_ w _ hx246_2)).trans hx246_2;replace hx246_3:=(HB.out.cell (wb_ w _ hx246_3)).trans hx246_3;replace p246:=eq_true p246;replace q246:=eq_true q246
        try go_wp2
        go_ret;exact ⟨ex_,bq_ HB⟩
      ·rw [if_neg c7] at H;have c7b0 : (((rd_T127 l0 x5_1).f1) == (wrap64 (x1_1 + 1))) = false:=beq_eq_false_iff_ne.mpr c7;have c7b1 : (((rd_T127 l0 x5_1).f1) != (wrap64 (x1_1 + 1))) = true:=bne_iff_ne.mpr c7;obtain rfl:=Option.some.inj H
       try go_wp2
       replace HB:=A_ (pd_ HB.out);have p243 : 0 ≤ (x5_1 : Int):=oda_;have q243 : x5_1 < (l0.length : Int):=oda_;obtain ⟨ad243,e243,hx243_0,hx243_1,hx243_2,hx243_3⟩:=at_T127 HR0.out x5_1 p243 q243;have hw243_3:=hx243_3;have hw243_2:=hx243_2;have hw243_1:=hx243_1;have hw243_0:=hx243_0
       cases e243
       replace hx243_0:=(HB.out.cell (wb_ w _ hx243_0)).trans hx243_0;replace hx243_1:=(HB.out.cell (wb_ w _ hx243_1)).trans hx243_1;replace hx243_2:=(HB.out.cell (wb_ w _ hx243_2)).trans hx243_2;replace hx243_3:=(HB.out.cell (wb_ w _ hx243_3)).trans hx243_3;replace p243:=eq_true p243;replace q243:=eq_true q243;refine start_ (n:=8) (S:=fun w' => w'.cell? (ad243.add ((x5_1).toNat * 4)) = some (.string ((rd_T127 l0 x5_1).f0)) ∧ w'.cell? ⟨(ad243.add ((x5_1).toNat * 4)).block,(ad243.add ((x5_1).toNat * 4)).off + 1,none⟩ = some (.int .i64 ((rd_T127 l0 x5_1).f1)) ∧ w'.cell? ⟨(ad243.add ((x5_1).toNat * 4)).block,(ad243.add ((x5_1).toNat * 4)).off + 2,none⟩ = some (.int .i64 ((rd_T127 l0 x5_1).f2)) ∧ w'.cell? ⟨(ad243.add ((x5_1).toNat * 4)).block,(ad243.add ((x5_1).toNat * 4)).off + 3,none⟩ = some (.int .i64 ((rd_T127 l0 x5_1).f3))) (ds:=[]) #[false,false,false,false,false,false,false,false] (by kernel_rfl) rfl rfl ⟨((HB.out.cell (wb_ w _ hw243_0)).trans hw243_0),((HB.out.cell (wb_ w _ hw243_1)).trans hw243_1),((HB.out.cell (wb_ w _ hw243_2)).trans hw243_2),((HB.out.cell (wb_ w _ hw243_3)).trans hw243_3)⟩ (fun hHeld => ?_);refine with_tabW laws_heldSpotS.tab4 laws_heldSpotS.bits4 (fun HT_ HW_ => ?_);generalize wr.drew = w16 at HB hx243_0 hx243_1 hx243_2 hx243_3 hHeld ⊢;refine pU_ 0 (some 12) ?_
       refine pU_ 1 (some 13) ?_
       refine pU_ 2 (some 14) ?_
       refine pU_ 3 (some 15) ?_
       refine pU_ 5 (some 17) ?_
       refine tK_ 4 (some 16) hHeld ?_
       refine oN_ 6 (some 18) (fun K hK => ?_);refine gs_ Try.func114 #[.int .i64 x1_1] ?_;with_reducible refine (laws_markText.calls k1 x1_1 t244 _ A5.out).mono ?_;rintro e w17 ⟨rfl,hb⟩;refine ⟨_,rfl,?_⟩;replace HB:=bS_ HB hb
       (try clear hb)
       refine hK.out _ _ ⟨((HB.out.cell (wb_ w _ hw243_0)).trans hw243_0),((HB.out.cell (wb_ w _ hw243_1)).trans hw243_1),((HB.out.cell (wb_ w _ hw243_2)).trans hw243_2),((HB.out.cell (wb_ w _ hw243_3)).trans hw243_3)⟩ (fun hHeld => ?_);clear hK K;refine nX_ (some 18) ?_
       refine pU_ 7 (some 19) ?_
       refine done_ (done_of HT_.out (by kernel_rfl)) ?_;have p245 : 0 ≤ (x5_1 : Int):=oda_;have q245 : x5_1 < (l0.length : Int):=oda_;obtain ⟨ad245,e245,hx245_0,hx245_1,hx245_2,hx245_3⟩:=at_T127 HR0.out x5_1 p245 q245;obtain rfl : ad243 = ad245:=(by injection e245);replace hx245_0:=(HB.out.cell (wb_ w _ hx245_0)).trans hx245_0;replace hx245_1:=(HB.out.cell (wb_ w _ hx245_1)).trans hx245_1;replace hx245_2:=(HB.out.cell (wb_ w _ hx245_2)).trans hx245_2;replace hx245_3:=(HB.out.cell (wb_ w _ hx245_3)).trans hx245_3;replace p245:=eq_true p245;replace q245:=eq_true q245
       try go_wp2
       go_ret;exact ⟨ex_,bq_ HB⟩
     ·rw [if_neg c6] at H;have c6b0 : (((rd_T127 l0 x5_1).f0).toList == t244.toList) = false:=beq_eq_false_iff_ne.mpr c6;have c6b1 : (((rd_T127 l0 x5_1).f0).toList != t244.toList) = true:=bne_iff_ne.mpr c6;obtain rfl:=Option.some.inj H
      try go_wp2
      replace HB:=A_ (pd_ HB.out);have p243 : 0 ≤ (x5_1 : Int):=oda_;have q243 : x5_1 < (l0.length : Int):=oda_;obtain ⟨ad243,e243,hx243_0,hx243_1,hx243_2,hx243_3⟩:=at_T127 HR0.out x5_1 p243 q243;have hw243_3:=hx243_3;have hw243_2:=hx243_2;have hw243_1:=hx243_1;have hw243_0:=hx243_0
      cases e243
      replace hx243_0:=(HB.out.cell (wb_ w _ hx243_0)).trans hx243_0;replace hx243_1:=(HB.out.cell (wb_ w _ hx243_1)).trans hx243_1;replace hx243_2:=(HB.out.cell (wb_ w _ hx243_2)).trans hx243_2;replace hx243_3:=(HB.out.cell (wb_ w _ hx243_3)).trans hx243_3;replace p243:=eq_true p243;replace q243:=eq_true q243;refine start_ (n:=8) (S:=fun w' => w'.cell? (ad243.add ((x5_1).toNat * 4)) = some (.string ((rd_T127 l0 x5_1).f0)) ∧ w'.cell? ⟨(ad243.add ((x5_1).toNat * 4)).block,(ad243.add ((x5_1).toNat * 4)).off + 1,none⟩ = some (.int .i64 ((rd_T127 l0 x5_1).f1)) ∧ w'.cell? ⟨(ad243.add ((x5_1).toNat * 4)).block,(ad243.add ((x5_1).toNat * 4)).off + 2,none⟩ = some (.int .i64 ((rd_T127 l0 x5_1).f2)) ∧ w'.cell? ⟨(ad243.add ((x5_1).toNat * 4)).block,(ad243.add ((x5_1).toNat * 4)).off + 3,none⟩ = some (.int .i64 ((rd_T127 l0 x5_1).f3))) (ds:=[]) #[false,false,false,false,false,false,false,false] (by kernel_rfl) rfl rfl ⟨((HB.out.cell (wb_ w _ hw243_0)).trans hw243_0),((HB.out.cell (wb_ w _ hw243_1)).trans hw243_1),((HB.out.cell (wb_ w _ hw243_2)).trans hw243_2),((HB.out.cell (wb_ w _ hw243_3)).trans hw243_3)⟩ (fun hHeld => ?_);refine with_tabW laws_heldSpotS.tab4 laws_heldSpotS.bits4 (fun HT_ HW_ => ?_);generalize wr.drew = w18 at HB hx243_0 hx243_1 hx243_2 hx243_3 hHeld ⊢;refine pU_ 0 (some 12) ?_
      refine pU_ 1 (some 13) ?_
      refine pU_ 2 (some 14) ?_
      refine pU_ 3 (some 15) ?_
      refine pU_ 5 (some 17) ?_
      refine tK_ 4 (some 16) hHeld ?_
      refine oN_ 6 (some 18) (fun K hK => ?_);refine gs_ Try.func114 #[.int .i64 x1_1] ?_;with_reducible refine (laws_markText.calls k1 x1_1 t244 _ A5.out).mono ?_;rintro e w19 ⟨rfl,hb⟩;refine ⟨_,rfl,?_⟩;replace HB:=bS_ HB hb
      (try clear hb)
      refine hK.out _ _ ⟨((HB.out.cell (wb_ w _ hw243_0)).trans hw243_0),((HB.out.cell (wb_ w _ hw243_1)).trans hw243_1),((HB.out.cell (wb_ w _ hw243_2)).trans hw243_2),((HB.out.cell (wb_ w _ hw243_3)).trans hw243_3)⟩ (fun hHeld => ?_);clear hK K;refine nX_ (some 18) ?_
      refine pU_ 7 (some 19) ?_
      refine done_ (done_of HT_.out (by kernel_rfl)) ?_
      try go_wp2
      go_ret;exact ⟨ex_,bq_ HB⟩
    ·rw [if_neg c4] at H;exact absurd H (by simp)
   ·rw [if_neg c3] at H;have c3b0 : decide (x5_1 < (l0.length : Int)) = false:=decide_eq_false c3;clear c3;obtain rfl:=Option.some.inj H;go_wp2;go_ret;exact ⟨ex_,bq_ HB⟩
end Go.Proofs.Ytgpafelepkhdoaa.PFnExactReadHint
