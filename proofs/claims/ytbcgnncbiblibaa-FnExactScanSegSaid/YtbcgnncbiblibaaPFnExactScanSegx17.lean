/- The contracts of the Go functions that this law reaches: what each call returns, by a plain Lean function of its arguments. No conditions but those each contract names. By the kit's print.py, run by this session's wip/gen/pp.py with facts and hand proofs beside it: not to the letter what print.sh prints. -/
import Derived.Test.YtbcgnncbiblibaaPFnExactScanSegx0
import Derived.Test.YtbcgnncbiblibaaPFnExactScanSegx7
import Derived.Test.YtbcgnncbiblibaaPFnExactScanSegx14
import Derived.Test.YtbcgnncbiblibaaPFnExactScanSegx15
import Derived.Test.YtbcgnncbiblibaaPFnExactScanSegx16
namespace Go.Proofs.Ytbcgnncbiblibaa.PFnExactScanSeg
open Go.RowKit Go.Proofs.YtbcgnncbiblibaaW.PrintWords Go.Proofs.YtbcgnncbiblibaaW.PrintLast Go.Proofs.YtbcgnncbiblibaaW.PrintMore
attribute [local go_sem] max2_int min2_int max_two min_two max_three min_three max_four min_four
set_option linter.unusedVariables false
set_option linter.unusedSimpArgs false
def laws_heldStringS.l0 : Nat → List ByteArray → Int → Int → Option (Int)
 | 0,_,_,_ => none
 | k + 1,x0,x1,x5 => if x5 < (x0.length : Int) then (if 0 ≤ x5 then ((laws_markText.f k x1).bind fun t368 => (if (rdOf ByteArray.empty x0 x5).toList = t368.toList then (laws_heldStringS.l0 k x0 (wrap64 (x1 + 1)) (wrap64 (x5 + 1))) else (some (-1)))) else (none)) else (some x1)
def laws_heldStringS.f (k : Nat) (l0 : List ByteArray) (a1 : Int) : Option (Int) := laws_heldStringS.l0 k l0 a1 0
theorem laws_heldStringS.mono_l : ∀ k, (∀ y0 y1 y2, LeO (laws_heldStringS.l0 k y0 y1 y2) (laws_heldStringS.l0 (k + 1) y0 y1 y2))
 | 0 => fun _ _ _ r h => by simp [laws_heldStringS.l0] at h
 | k + 1 => by
  have ih0:=laws_heldStringS.mono_l k
  ·intro y0 y1 y2
   unfold laws_heldStringS.l0
   repeat' first
   | (with_reducible exact ih0 _ _ _)
   | (with_reducible exact laws_markText.mono _ _)
   | (with_reducible exact LeO.refl _)
   | (with_reducible exact LeO.none _)
   | (with_reducible refine LeO.ite ?_ ?_)
   | (with_reducible refine LeO.bind ?_ (fun _ => ?_))
theorem laws_heldStringS.mono : ∀ a0 a1 k, LeO (laws_heldStringS.f k a0 a1) (laws_heldStringS.f (k + 1) a0 a1) := by
 intro a0 a1 k;have ih0:=laws_heldStringS.mono_l k
 unfold laws_heldStringS.f
 repeat' first
   | (with_reducible exact ih0 _ _ _)
   | (with_reducible exact laws_markText.mono _ _)
   | (with_reducible exact LeO.refl _)
   | (with_reducible exact LeO.none _)
   | (with_reducible refine LeO.ite ?_ ?_)
   | (with_reducible refine LeO.bind ?_ (fun _ => ?_))
set_option maxHeartbeats 8000000 in
set_option maxRecDepth 100000 in
theorem laws_heldStringS.calls (k : Nat) (A0 : Option Addr) (c0 : Nat) (l0 : List ByteArray) (a1 : Int) (r : Int) (w : World) (hr0 : Kd.C Kd.string w A0 l0.length l0) (hc0 : l0.length ≤ c0) (h : laws_heldStringS.f k l0 a1 = some r) :
  Calls Try.prog 20 #[.slice A0 l0.length c0,.int .i64 a1] w fun e w' => e = .returned (.int .i64 r) ∧ Below w.heap.size w w':=by
 have HR0:=A_ hr0;have HC0:=A_ hc0;clear hr0 hc0;have HB:=A_ (Below.refl w.heap.size w);unfold laws_heldStringS.f at h;have H:=h;clear h;have H':=A_ H;clear H;go_enter Try.func20,Try.ntmps20;go_wp2
 go_loopg [1,5] k (fun kq v1 v5 w' => ∃ (x1_1 : Int) (x5_1 : Int),v1 = .int .i64 x1_1 ∧ v5 = .int .i64 x5_1 ∧ Aside0 (laws_heldStringS.l0 kq l0 x1_1 x5_1 = some r) ∧ Aside0 (kq ≤ k) ∧ Aside0 (Below w.heap.size w w'))
 case atStart => exact ⟨(a1),(0),(by first|rfl|(simp;done)|(simp [*];done)),(by first|rfl|(simp;done)|(simp [*];done)),H',⟨Nat.le_refl _⟩,⟨bq_ HB⟩⟩
 case round =>
  clear H'
  try clear c2
  try clear p2
  obtain ⟨x1_1,x5_1,rfl,rfl,HA,HK1,HB⟩:=hrel
  cases gk with
  | zero => exact absurd HA.out (by simp [laws_heldStringS.l0])
  | succ k1 =>
   have H:=HA.out;clear HA;simp only [laws_heldStringS.l0] at H
   by_cases c3 : x5_1 < (l0.length : Int)
   ·rw [if_pos c3] at H;have c3b0 : decide (x5_1 < (l0.length : Int)) = true:=de_ c3;clear c3
    by_cases c4 : 0 ≤ x5_1
    ·rw [if_pos c4] at H;have c4b0 : decide (0 ≤ x5_1) = true:=de_ c4;clear c4;replace H:=ob_.mp H;obtain ⟨t368,A50,H⟩:=H;(try dsimp only at H);have A5:=A_ A50;clear A50
     by_cases c6 : (rdOf ByteArray.empty l0 x5_1).toList = t368.toList
     ·rw [if_pos c6] at H;have c6b0 : ((rdOf ByteArray.empty l0 x5_1).toList == t368.toList) = true:=beq_iff_eq.mpr c6;have c6b1 : ((rdOf ByteArray.empty l0 x5_1).toList != t368.toList) = false:=bne_eq_false_iff_eq.mpr c6;clear c6;have H':=A_ H;clear H
      try go_wp2
      replace HB:=A_ (pd_ HB.out);have p367 : 0 ≤ (x5_1 : Int):=oda_;have q367 : x5_1 < (l0.length : Int):=oda_;obtain ⟨ad367,e367,hx367_0⟩:=Kd.at_string HR0.out x5_1 p367 q367;have hw367_0:=hx367_0
      cases e367
      replace hx367_0:=(HB.out.cell (wb_ w _ hx367_0)).trans hx367_0;replace p367:=eq_true p367;replace q367:=eq_true q367;refine start_ (n:=7) (S:=fun w' => w'.cell? (ad367.add (x5_1).toNat) = some (.string (rdOf ByteArray.empty l0 x5_1))) (ds:=[]) #[false,false,false,false,false,false,false] (by kernel_rfl) rfl rfl (((HB.out.cell (wb_ w _ hw367_0)).trans hw367_0)) (fun hHeld => ?_);generalize wr.drew = w7 at HB hx367_0 hHeld ⊢;refine pure_ (i:=0) (N:=some 12) (v:=?_) (a':=?_) #[true,false,false,false,false,false,false] rfl rfl (by kernel_rfl) (fun _ _ _ h => h) (Or.inl ⟨by rfl,?_⟩) ?_ ?_;rotate_left
      ·intro w';go_simp;with_reducible rfl
      rotate_left
      ·exact ux_
      refine pure_ (i:=1) (N:=some 13) (v:=?_) (a':=?_) #[true,true,false,false,false,false,false] rfl rfl (by kernel_rfl) (fun _ _ _ h => h) (Or.inl ⟨by rfl,?_⟩) ?_ ?_;rotate_left
      ·intro w';go_simp;with_reducible rfl
      rotate_left
      ·exact ux_
      refine pure_ (i:=2) (N:=some 14) (v:=?_) (a':=?_) #[true,true,true,false,false,false,false] rfl rfl (by kernel_rfl) (fun _ _ _ h => h) (Or.inl ⟨by rfl,?_⟩) ?_ ?_;rotate_left
      ·intro w';go_simp;with_reducible rfl
      rotate_left
      ·exact ux_
      refine pure_ (i:=4) (N:=some 16) (v:=?_) (a':=?_) #[true,true,true,false,true,false,false] rfl rfl (by kernel_rfl) (fun _ _ _ h => h) (Or.inl ⟨by rfl,?_⟩) ?_ ?_;rotate_left
      ·intro w';go_simp;with_reducible rfl
      rotate_left
      ·exact ux_
      refine take_ (i:=3) (N:=some 15) (v:=?_) (a':=?_) #[true,true,true,true,true,false,false] rfl rfl (by kernel_rfl) (fun _ _ _ h => h) (Or.inl ⟨by rfl,?_⟩) hHeld ?_ ?_;rotate_left
      ·intro w' s0;go_simp;with_reducible rfl
      rotate_left
      ·exact ux_
      refine one_ (i:=5) (N:=some 17) #[true,true,true,true,true,true,false] rfl rfl (by kernel_rfl) (by decide) (fun K hK => ?_);refine gs_ Try.func59 #[.int .i64 x1_1] ?_;with_reducible refine (laws_markText.calls k1 x1_1 t368 _ A5.out).mono ?_;rintro e w8 ⟨rfl,hb⟩;refine ⟨_,rfl,?_⟩;replace HB:=bS_ HB hb
      (try clear hb)
      refine hK.out _ _ (((HB.out.cell (wb_ w _ hw367_0)).trans hw367_0)) (fun hHeld => ?_);clear hK K;refine nX_ (some 17) ?_
      refine pure_ (i:=6) (N:=some 18) (v:=?_) (a':=?_) #[true,true,true,true,true,true,true] rfl rfl (by kernel_rfl) (fun _ _ _ h => h) (Or.inl ⟨by rfl,?_⟩) ?_ ?_;rotate_left
      ·intro w';go_simp;with_reducible rfl
      rotate_left
      ·exact ux_
      refine done_ (by kernel_rfl) ?_
      try go_wp2
      go_roundg k1
      case measure => have:=HK1.out;omega
      case rel => exact ⟨(wrap64 (x1_1 + 1)),(wrap64 (x5_1 + 1)),(by first|rfl|(simp;done)|(simp [*];done)),(by first|rfl|(simp;done)|(simp [*];done)),H',⟨by have:=HK1.out;omega⟩,⟨bq_ HB⟩⟩
     ·rw [if_neg c6] at H;have c6b0 : ((rdOf ByteArray.empty l0 x5_1).toList == t368.toList) = false:=beq_eq_false_iff_ne.mpr c6;have c6b1 : ((rdOf ByteArray.empty l0 x5_1).toList != t368.toList) = true:=bne_iff_ne.mpr c6;obtain rfl:=Option.some.inj H
      try go_wp2
      replace HB:=A_ (pd_ HB.out);have p367 : 0 ≤ (x5_1 : Int):=oda_;have q367 : x5_1 < (l0.length : Int):=oda_;obtain ⟨ad367,e367,hx367_0⟩:=Kd.at_string HR0.out x5_1 p367 q367;have hw367_0:=hx367_0
      cases e367
      replace hx367_0:=(HB.out.cell (wb_ w _ hx367_0)).trans hx367_0;replace p367:=eq_true p367;replace q367:=eq_true q367;refine start_ (n:=7) (S:=fun w' => w'.cell? (ad367.add (x5_1).toNat) = some (.string (rdOf ByteArray.empty l0 x5_1))) (ds:=[]) #[false,false,false,false,false,false,false] (by kernel_rfl) rfl rfl (((HB.out.cell (wb_ w _ hw367_0)).trans hw367_0)) (fun hHeld => ?_);generalize wr.drew = w9 at HB hx367_0 hHeld ⊢;refine pure_ (i:=0) (N:=some 12) (v:=?_) (a':=?_) #[true,false,false,false,false,false,false] rfl rfl (by kernel_rfl) (fun _ _ _ h => h) (Or.inl ⟨by rfl,?_⟩) ?_ ?_;rotate_left
      ·intro w';go_simp;with_reducible rfl
      rotate_left
      ·exact ux_
      refine pure_ (i:=1) (N:=some 13) (v:=?_) (a':=?_) #[true,true,false,false,false,false,false] rfl rfl (by kernel_rfl) (fun _ _ _ h => h) (Or.inl ⟨by rfl,?_⟩) ?_ ?_;rotate_left
      ·intro w';go_simp;with_reducible rfl
      rotate_left
      ·exact ux_
      refine pure_ (i:=2) (N:=some 14) (v:=?_) (a':=?_) #[true,true,true,false,false,false,false] rfl rfl (by kernel_rfl) (fun _ _ _ h => h) (Or.inl ⟨by rfl,?_⟩) ?_ ?_;rotate_left
      ·intro w';go_simp;with_reducible rfl
      rotate_left
      ·exact ux_
      refine pure_ (i:=4) (N:=some 16) (v:=?_) (a':=?_) #[true,true,true,false,true,false,false] rfl rfl (by kernel_rfl) (fun _ _ _ h => h) (Or.inl ⟨by rfl,?_⟩) ?_ ?_;rotate_left
      ·intro w';go_simp;with_reducible rfl
      rotate_left
      ·exact ux_
      refine take_ (i:=3) (N:=some 15) (v:=?_) (a':=?_) #[true,true,true,true,true,false,false] rfl rfl (by kernel_rfl) (fun _ _ _ h => h) (Or.inl ⟨by rfl,?_⟩) hHeld ?_ ?_;rotate_left
      ·intro w' s0;go_simp;with_reducible rfl
      rotate_left
      ·exact ux_
      refine one_ (i:=5) (N:=some 17) #[true,true,true,true,true,true,false] rfl rfl (by kernel_rfl) (by decide) (fun K hK => ?_);refine gs_ Try.func59 #[.int .i64 x1_1] ?_;with_reducible refine (laws_markText.calls k1 x1_1 t368 _ A5.out).mono ?_;rintro e w10 ⟨rfl,hb⟩;refine ⟨_,rfl,?_⟩;replace HB:=bS_ HB hb
      (try clear hb)
      refine hK.out _ _ (((HB.out.cell (wb_ w _ hw367_0)).trans hw367_0)) (fun hHeld => ?_);clear hK K;refine nX_ (some 17) ?_
      refine pure_ (i:=6) (N:=some 18) (v:=?_) (a':=?_) #[true,true,true,true,true,true,true] rfl rfl (by kernel_rfl) (fun _ _ _ h => h) (Or.inl ⟨by rfl,?_⟩) ?_ ?_;rotate_left
      ·intro w';go_simp;with_reducible rfl
      rotate_left
      ·exact ux_
      refine done_ (by kernel_rfl) ?_
      try go_wp2
      go_ret;exact ⟨ex_,bq_ HB⟩
    ·rw [if_neg c4] at H;exact absurd H (by simp)
   ·rw [if_neg c3] at H;have c3b0 : decide (x5_1 < (l0.length : Int)) = false:=decide_eq_false c3;clear c3;obtain rfl:=Option.some.inj H;go_wp2;go_ret;exact ⟨ex_,bq_ HB⟩
mutual
def laws_FnExactScanSeg.j0 : Nat → ByteArray → Int → List (S88) → List ByteArray → Int → List (S88) → List ByteArray → Bool → Option (Bool)
 | 0,_,_,_,_,_,_,_,_ => none
 | k + 1,x0,x1,x5,x6,x7,x8,x9,x47 => if x47 = true then (some false) else ((laws_markSpotS.f k x8 1).bind fun bt385 => ((laws_markStringS.f k x9 bt385.1).bind fun bt387 => ((laws_heldSpotS.f k bt385.2 1).bind fun t389 => (if t389 < 0 then (some false) else ((laws_heldStringS.f k bt387.2 t389).bind fun t390 => (if t390 < 0 then (some false) else (if t390 = bt387.1 then ((impl_ScanSeg.f k x0 x1).bind fun bt391 => ((laws_eqSpotS.f k bt391.1 x5).bind fun t398 => (if t398 = true then ((laws_eqStringS.f k bt391.2.1 x6).bind fun t399 => (if t399 = true then (laws_FnExactScanSeg.j1 k bt385.2 bt387.2 bt387.1 (bt391.2.2 != x7)) else (laws_FnExactScanSeg.j1 k bt385.2 bt387.2 bt387.1 true))) else (laws_FnExactScanSeg.j1 k bt385.2 bt387.2 bt387.1 true)))) else (some false))))))))
def laws_FnExactScanSeg.j1 : Nat → List (S88) → List ByteArray → Int → Bool → Option (Bool)
 | 0,_,_,_,_ => none
 | k + 1,x8,x9,x11,x88 => if x88 = true then (some false) else ((laws_heldSpotS.f k x8 1).bind fun t400 => (if t400 < 0 then (some false) else ((laws_heldStringS.f k x9 t400).bind fun t401 => (if t401 < 0 then (some false) else (if t401 = x11 then (some true) else (some false))))))
end
def laws_FnExactScanSeg.f (k : Nat) (a0 : ByteArray) (a1 : Int) : Option (Bool) := if (a0.size : Int) > 1048576 then (some true) else ((spec_ScanSeg.f k a0 a1).bind fun bt369 => ((impl_ScanSeg.f k a0 a1).bind fun bt376 => ((laws_eqSpotS.f k bt376.1 bt369.1).bind fun t383 => (if t383 = true then ((laws_eqStringS.f k bt376.2.1 bt369.2.1).bind fun t384 => (if t384 = true then (laws_FnExactScanSeg.j0 k a0 a1 bt369.1 bt369.2.1 bt369.2.2 bt376.1 bt376.2.1 (bt376.2.2 != bt369.2.2)) else (laws_FnExactScanSeg.j0 k a0 a1 bt369.1 bt369.2.1 bt369.2.2 bt376.1 bt376.2.1 true))) else (laws_FnExactScanSeg.j0 k a0 a1 bt369.1 bt369.2.1 bt369.2.2 bt376.1 bt376.2.1 true)))))
theorem laws_FnExactScanSeg.mono_l : ∀ k, (∀ y0 y1 y2 y3 y4 y5 y6 y7, LeO (laws_FnExactScanSeg.j0 k y0 y1 y2 y3 y4 y5 y6 y7) (laws_FnExactScanSeg.j0 (k + 1) y0 y1 y2 y3 y4 y5 y6 y7)) ∧ (∀ y0 y1 y2 y3, LeO (laws_FnExactScanSeg.j1 k y0 y1 y2 y3) (laws_FnExactScanSeg.j1 (k + 1) y0 y1 y2 y3))
 | 0 => ⟨fun _ _ _ _ _ _ _ _ r h => by simp [laws_FnExactScanSeg.j0] at h,fun _ _ _ _ r h => by simp [laws_FnExactScanSeg.j1] at h⟩
 | k + 1 => by
  obtain ⟨ih0,ih1⟩:=laws_FnExactScanSeg.mono_l k;refine ⟨?_,?_⟩
  ·intro y0 y1 y2 y3 y4 y5 y6 y7
   unfold laws_FnExactScanSeg.j0
   repeat' first
   | (with_reducible exact ih0 _ _ _ _ _ _ _ _)
   | (with_reducible exact ih1 _ _ _ _)
   | (with_reducible exact impl_ScanSeg.mono _ _ _)
   | (with_reducible exact laws_eqSpotS.mono _ _ _)
   | (with_reducible exact laws_eqStringS.mono _ _ _)
   | (with_reducible exact laws_heldSpotS.mono _ _ _)
   | (with_reducible exact laws_heldStringS.mono _ _ _)
   | (with_reducible exact laws_markSpotS.mono _ _ _)
   | (with_reducible exact laws_markStringS.mono _ _ _)
   | (with_reducible exact spec_ScanSeg.mono _ _ _)
   | (with_reducible exact LeO.refl _)
   | (with_reducible exact LeO.none _)
   | (with_reducible refine LeO.ite ?_ ?_)
   | (with_reducible refine LeO.bind ?_ (fun _ => ?_))
  ·intro y0 y1 y2 y3
   unfold laws_FnExactScanSeg.j1
   repeat' first
   | (with_reducible exact ih0 _ _ _ _ _ _ _ _)
   | (with_reducible exact ih1 _ _ _ _)
   | (with_reducible exact impl_ScanSeg.mono _ _ _)
   | (with_reducible exact laws_eqSpotS.mono _ _ _)
   | (with_reducible exact laws_eqStringS.mono _ _ _)
   | (with_reducible exact laws_heldSpotS.mono _ _ _)
   | (with_reducible exact laws_heldStringS.mono _ _ _)
   | (with_reducible exact laws_markSpotS.mono _ _ _)
   | (with_reducible exact laws_markStringS.mono _ _ _)
   | (with_reducible exact spec_ScanSeg.mono _ _ _)
   | (with_reducible exact LeO.refl _)
   | (with_reducible exact LeO.none _)
   | (with_reducible refine LeO.ite ?_ ?_)
   | (with_reducible refine LeO.bind ?_ (fun _ => ?_))
theorem laws_FnExactScanSeg.mono : ∀ a0 a1 k, LeO (laws_FnExactScanSeg.f k a0 a1) (laws_FnExactScanSeg.f (k + 1) a0 a1) := by
 intro a0 a1 k;obtain ⟨ih0,ih1⟩:=laws_FnExactScanSeg.mono_l k
 unfold laws_FnExactScanSeg.f
 repeat' first
   | (with_reducible exact ih0 _ _ _ _ _ _ _ _)
   | (with_reducible exact ih1 _ _ _ _)
   | (with_reducible exact impl_ScanSeg.mono _ _ _)
   | (with_reducible exact laws_eqSpotS.mono _ _ _)
   | (with_reducible exact laws_eqStringS.mono _ _ _)
   | (with_reducible exact laws_heldSpotS.mono _ _ _)
   | (with_reducible exact laws_heldStringS.mono _ _ _)
   | (with_reducible exact laws_markSpotS.mono _ _ _)
   | (with_reducible exact laws_markStringS.mono _ _ _)
   | (with_reducible exact spec_ScanSeg.mono _ _ _)
   | (with_reducible exact LeO.refl _)
   | (with_reducible exact LeO.none _)
   | (with_reducible refine LeO.ite ?_ ?_)
   | (with_reducible refine LeO.bind ?_ (fun _ => ?_))
set_option maxHeartbeats 8000000 in
set_option maxRecDepth 100000 in
theorem laws_FnExactScanSeg.calls (k : Nat) (a0 : ByteArray) (a1 : Int) (r : Bool) (w : World) (h : laws_FnExactScanSeg.f k a0 a1 = some r) (hr1_ : r = true) :
  Calls Try.prog 4 #[.string a0,.int .i64 a1] w fun e w' => e = .returned (.bool r) ∧ Below w.heap.size w w':=by
 have HB:=A_ (Below.refl w.heap.size w);unfold laws_FnExactScanSeg.f at h;have H:=h;clear h
 by_cases c3 : (a0.size : Int) > 1048576
 ·rw [if_pos c3] at H;have c3b0 : decide (1048576 < (a0.size : Int)) = true:=de_ c3;have c3b1 : decide (1048576 < a0.size) = true:=de_ (by omega);clear c3;obtain rfl:=Option.some.inj H;go_enter Try.func4,Try.ntmps4;go_wp2;go_ret;exact ⟨ex_,bq_ HB⟩
 ·rw [if_neg c3] at H;have c3b0 : decide (1048576 < (a0.size : Int)) = false:=decide_eq_false c3;have c3b1 : decide (1048576 < a0.size) = false:=decide_eq_false (by omega);clear c3;replace H:=ob_.mp H;obtain ⟨⟨t369,t370,t371⟩,A40,H⟩:=H;(try dsimp only at H);have A4:=A_ A40;clear A40;replace H:=ob_.mp H;obtain ⟨⟨t376,t377,t378⟩,A50,H⟩:=H;(try dsimp only at H);have A5:=A_ A50;clear A50;have HC6:=A_ H;clear H;go_enter Try.func4,Try.ntmps4
  go_upto_region 5 with (first|((with_reducible refine gate_callee (f:=13) rfl ?_);refine gL_ (some 22) Try.func13 #[.string a0,.int .i64 a1] ?_;(with_reducible refine (spec_ScanSeg.calls k a0 a1 t369 t370 t371 _ A4.out).mono ?_);rintro e w7 ⟨v372,v374,rfl,ho0,ho1,hb⟩;refine ⟨_,rfl,?_⟩;have HO373:=A_ (rw_ ho0 (bz_ (bq_ HB)));have HO375:=A_ (rw_ ho1 (bz_ (bq_ HB)));replace HB:=bS_ HB hb;(try clear hb);(try clear ho0);(try clear ho1))|((with_reducible refine gate_callee (f:=14) rfl ?_);refine gL_ (some 29) Try.func14 #[.string a0,.int .i64 a1] ?_;(with_reducible refine (impl_ScanSeg.calls k a0 a1 t376 t377 t378 _ A5.out).mono ?_);rintro e w8 ⟨v379,v381,rfl,ho0,ho1,hb⟩;refine ⟨_,rfl,?_⟩;have HO380:=A_ (rw_ (Kd.R_new' ho0 (Kd.R_lt (rq_ HO373))) (bz_ (bq_ HB)));replace HO373:=A_ (Kd.R_elder' (rq_ HO373) (Kd.R_base ho0) hb);have HO382:=A_ (rw_ (Kd.R_new' ho1 (Kd.R_lt (rq_ HO375))) (bz_ (bq_ HB)));replace HO375:=A_ (Kd.R_elder' (rq_ HO375) (Kd.R_base ho1) hb);replace HB:=bS_ HB hb;(try clear hb);(try clear ho0);(try clear ho1)))
  (try simp only [Act.put,s1_,s2_,s3_])
  go_cut [47] (fun v47 wc => ∃ (kq : Nat) (x47_5 : Bool),v47 = .bool x47_5 ∧ Aside0 (laws_FnExactScanSeg.j0 kq a0 a1 t369 t370 t371 t376 t377 x47_5 = some r) ∧ Aside0 (kq ≤ k) ∧ Aside0 (Kd.R k88 88 wc w.heap.size (fun k_ => some k_ ≠ (v379 : Value).ownBlock) v372 t369) ∧ Aside0 (Kd.R Kd.string 9 wc w.heap.size (fun k_ => some k_ ≠ (v381 : Value).ownBlock) v374 t370) ∧ Aside0 (Kd.R k88 88 wc w.heap.size (fun k_ => some k_ ≠ (v372 : Value).ownBlock) v379 t376) ∧ Aside0 (Kd.R Kd.string 9 wc w.heap.size (fun k_ => some k_ ≠ (v374 : Value).ownBlock) v381 t377) ∧ Aside0 (Below w.heap.size w wc))
  case first =>
   have H:=HC6.out;clear HC6;replace H:=ob_.mp H;obtain ⟨t383,A90,H⟩:=H;(try dsimp only at H);have A9:=A_ A90;clear A90
   by_cases c10 : t383 = true
   ·subst c10
    rw [if_pos rfl] at H;replace H:=ob_.mp H;obtain ⟨t384,A110,H⟩:=H;(try dsimp only at H);have A11:=A_ A110;clear A110
    by_cases c12 : t384 = true
    ·subst c12
     rw [if_pos rfl] at H;have H':=A_ H;clear H;obtain ⟨Ao13,co13,eo13⟩:=Kd.R_slice HO380.out;subst eo13;obtain ⟨Ao14,co14,eo14⟩:=Kd.R_slice HO373.out;subst eo14
     go_wp2_with (first|((with_reducible refine gate_callee (f:=15) rfl ?_);refine gL_ (some 35) Try.func15 #[.slice Ao13 t376.length co13,.slice Ao14 t369.length co14] ?_;(with_reducible refine (laws_eqSpotS.calls k _ _ t376 _ _ t369 true _ ?side1 ?side2 ?side3 ?side4 A9.out).mono ?_);(case side1 => repeat (first|exact (Kd.R_reads' HO380.out).2.2|(with_reducible refine Kd.C_alloc ?_ _)|(with_reducible refine Kd.C_drewN ?_ _)|(with_reducible refine Kd.C_drew ?_)));(case side2 => exact (Kd.R_reads' HO380.out).2.1);(case side3 => repeat (first|exact (Kd.R_reads' HO373.out).2.2|(with_reducible refine Kd.C_alloc ?_ _)|(with_reducible refine Kd.C_drewN ?_ _)|(with_reducible refine Kd.C_drew ?_)));(case side4 => exact (Kd.R_reads' HO373.out).2.1);rintro e w15 ⟨rfl,hb⟩;refine ⟨_,rfl,?_⟩;replace HO373:=rB_ HO373 hb;replace HO375:=rB_ HO375 hb;replace HO380:=rB_ HO380 hb;replace HO382:=rB_ HO382 hb;replace HB:=bS_ HB hb;(try clear hb);obtain ⟨Ao16,co16,eo16⟩:=Kd.R_slice HO382.out;subst eo16;obtain ⟨Ao17,co17,eo17⟩:=Kd.R_slice HO375.out;subst eo17)|(go_at_call 16;(with_reducible refine (laws_eqStringS.calls k _ _ t377 _ _ t370 true _ ?side1 ?side2 ?side3 ?side4 A11.out).mono ?_);(case side1 => repeat (first|exact (Kd.R_reads' HO382.out).2.2|(with_reducible refine Kd.C_alloc ?_ _)|(with_reducible refine Kd.C_drewN ?_ _)|(with_reducible refine Kd.C_drew ?_)));(case side2 => exact (Kd.R_reads' HO382.out).2.1);(case side3 => repeat (first|exact (Kd.R_reads' HO375.out).2.2|(with_reducible refine Kd.C_alloc ?_ _)|(with_reducible refine Kd.C_drewN ?_ _)|(with_reducible refine Kd.C_drew ?_)));(case side4 => exact (Kd.R_reads' HO375.out).2.1);rintro e w' ⟨rfl,⟨nd,rfl⟩⟩))
     go_meet
     case rel => exact ⟨_,((t378 != t371)),(by first|rfl|(simp;done)|(simp [*];done)),H',⟨by first|omega|exact Nat.le_refl _⟩,⟨by (with_reducible repeat (first|apply ra_|apply rn_|apply Rd_));exact rm_ HO373.out (fun _ hk => hk.2)⟩,⟨by (with_reducible repeat (first|apply ra_|apply rn_|apply Rd_));exact rm_ HO375.out (fun _ hk => hk.2)⟩,⟨by (with_reducible repeat (first|apply ra_|apply rn_|apply Rd_));exact rm_ HO380.out (fun _ hk => hk.2)⟩,⟨by (with_reducible repeat (first|apply ra_|apply rn_|apply Rd_));exact rm_ HO382.out (fun _ hk => hk.2)⟩,⟨bq_ HB⟩⟩
    ·replace c12:=Bool.eq_false_iff.mpr c12;subst c12
     have H1 : (laws_FnExactScanSeg.j0 k a0 a1 t369 t370 t371 t376 t377 true) = some r:=by rw [if_neg (show ¬ (false = true) by decide)] at H;exact H
     clear H;have H:=H1;clear H1;have H':=A_ H;clear H;obtain ⟨Ao18,co18,eo18⟩:=Kd.R_slice HO380.out;subst eo18;obtain ⟨Ao19,co19,eo19⟩:=Kd.R_slice HO373.out;subst eo19
     go_wp2_with (first|((with_reducible refine gate_callee (f:=15) rfl ?_);refine gL_ (some 35) Try.func15 #[.slice Ao18 t376.length co18,.slice Ao19 t369.length co19] ?_;(with_reducible refine (laws_eqSpotS.calls k _ _ t376 _ _ t369 true _ ?side1 ?side2 ?side3 ?side4 A9.out).mono ?_);(case side1 => repeat (first|exact (Kd.R_reads' HO380.out).2.2|(with_reducible refine Kd.C_alloc ?_ _)|(with_reducible refine Kd.C_drewN ?_ _)|(with_reducible refine Kd.C_drew ?_)));(case side2 => exact (Kd.R_reads' HO380.out).2.1);(case side3 => repeat (first|exact (Kd.R_reads' HO373.out).2.2|(with_reducible refine Kd.C_alloc ?_ _)|(with_reducible refine Kd.C_drewN ?_ _)|(with_reducible refine Kd.C_drew ?_)));(case side4 => exact (Kd.R_reads' HO373.out).2.1);rintro e w20 ⟨rfl,hb⟩;refine ⟨_,rfl,?_⟩;replace HO373:=rB_ HO373 hb;replace HO375:=rB_ HO375 hb;replace HO380:=rB_ HO380 hb;replace HO382:=rB_ HO382 hb;replace HB:=bS_ HB hb;(try clear hb);obtain ⟨Ao21,co21,eo21⟩:=Kd.R_slice HO382.out;subst eo21;obtain ⟨Ao22,co22,eo22⟩:=Kd.R_slice HO375.out;subst eo22)|(go_at_call 16;(with_reducible refine (laws_eqStringS.calls k _ _ t377 _ _ t370 false _ ?side1 ?side2 ?side3 ?side4 A11.out).mono ?_);(case side1 => repeat (first|exact (Kd.R_reads' HO382.out).2.2|(with_reducible refine Kd.C_alloc ?_ _)|(with_reducible refine Kd.C_drewN ?_ _)|(with_reducible refine Kd.C_drew ?_)));(case side2 => exact (Kd.R_reads' HO382.out).2.1);(case side3 => repeat (first|exact (Kd.R_reads' HO375.out).2.2|(with_reducible refine Kd.C_alloc ?_ _)|(with_reducible refine Kd.C_drewN ?_ _)|(with_reducible refine Kd.C_drew ?_)));(case side4 => exact (Kd.R_reads' HO375.out).2.1);rintro e w' ⟨rfl,⟨nd,rfl⟩⟩))
     go_meet
     case rel => exact ⟨_,(true),(by first|rfl|(simp;done)|(simp [*];done)),H',⟨by first|omega|exact Nat.le_refl _⟩,⟨by (with_reducible repeat (first|apply ra_|apply rn_|apply Rd_));exact rm_ HO373.out (fun _ hk => hk.2)⟩,⟨by (with_reducible repeat (first|apply ra_|apply rn_|apply Rd_));exact rm_ HO375.out (fun _ hk => hk.2)⟩,⟨by (with_reducible repeat (first|apply ra_|apply rn_|apply Rd_));exact rm_ HO380.out (fun _ hk => hk.2)⟩,⟨by (with_reducible repeat (first|apply ra_|apply rn_|apply Rd_));exact rm_ HO382.out (fun _ hk => hk.2)⟩,⟨bq_ HB⟩⟩
   ·replace c10:=Bool.eq_false_iff.mpr c10;subst c10
    have H1 : (laws_FnExactScanSeg.j0 k a0 a1 t369 t370 t371 t376 t377 true) = some r:=by rw [if_neg (show ¬ (false = true) by decide)] at H;exact H
    clear H;have H:=H1;clear H1;have H':=A_ H;clear H;obtain ⟨Ao23,co23,eo23⟩:=Kd.R_slice HO380.out;subst eo23;obtain ⟨Ao24,co24,eo24⟩:=Kd.R_slice HO373.out;subst eo24
    go_wp2_with (first|((with_reducible refine gate_callee (f:=15) rfl ?_);refine gL_ (some 35) Try.func15 #[.slice Ao23 t376.length co23,.slice Ao24 t369.length co24] ?_;(with_reducible refine (laws_eqSpotS.calls k _ _ t376 _ _ t369 false _ ?side1 ?side2 ?side3 ?side4 A9.out).mono ?_);(case side1 => repeat (first|exact (Kd.R_reads' HO380.out).2.2|(with_reducible refine Kd.C_alloc ?_ _)|(with_reducible refine Kd.C_drewN ?_ _)|(with_reducible refine Kd.C_drew ?_)));(case side2 => exact (Kd.R_reads' HO380.out).2.1);(case side3 => repeat (first|exact (Kd.R_reads' HO373.out).2.2|(with_reducible refine Kd.C_alloc ?_ _)|(with_reducible refine Kd.C_drewN ?_ _)|(with_reducible refine Kd.C_drew ?_)));(case side4 => exact (Kd.R_reads' HO373.out).2.1);rintro e w25 ⟨rfl,hb⟩;refine ⟨_,rfl,?_⟩;replace HO373:=rB_ HO373 hb;replace HO375:=rB_ HO375 hb;replace HO380:=rB_ HO380 hb;replace HO382:=rB_ HO382 hb;replace HB:=bS_ HB hb;(try clear hb)))
    go_meet
    case rel => exact ⟨_,(true),(by first|rfl|(simp;done)|(simp [*];done)),H',⟨by first|omega|exact Nat.le_refl _⟩,⟨by (with_reducible repeat (first|apply ra_|apply rn_|apply Rd_));exact rm_ HO373.out (fun _ hk => hk.2)⟩,⟨by (with_reducible repeat (first|apply ra_|apply rn_|apply Rd_));exact rm_ HO375.out (fun _ hk => hk.2)⟩,⟨by (with_reducible repeat (first|apply ra_|apply rn_|apply Rd_));exact rm_ HO380.out (fun _ hk => hk.2)⟩,⟨by (with_reducible repeat (first|apply ra_|apply rn_|apply Rd_));exact rm_ HO382.out (fun _ hk => hk.2)⟩,⟨bq_ HB⟩⟩
  case rest =>
   clear HC6
   try clear c1
   try clear p2
   try clear c3
   try clear c3b0
   try clear c3b1
   try clear c4
   try clear c10
   try clear c12
   try clear c13
   try clear c14
   try clear c15
   obtain ⟨kq,x47_5,rfl,HA,HJ5,HO_5,HO_6,HO_8,HO_9,HB⟩:=hcut
   cases kq with
   | zero => exact absurd HA.out (by simp [laws_FnExactScanSeg.j0])
   | succ kj5 =>
    have H:=HA.out;clear HA;simp only [laws_FnExactScanSeg.j0] at H
    by_cases c26 : x47_5 = true
    ·subst c26
     rw [if_pos rfl] at H;obtain rfl:=Option.some.inj H
     cases hr1_
    ·replace c26:=Bool.eq_false_iff.mpr c26;subst c26
     have H1 : ((laws_markSpotS.f kj5 t376 1).bind fun bt385 => ((laws_markStringS.f kj5 t377 bt385.1).bind fun bt387 => ((laws_heldSpotS.f kj5 bt385.2 1).bind fun t389 => (if t389 < 0 then (some false) else ((laws_heldStringS.f kj5 bt387.2 t389).bind fun t390 => (if t390 < 0 then (some false) else (if t390 = bt387.1 then ((impl_ScanSeg.f kj5 a0 a1).bind fun bt391 => ((laws_eqSpotS.f kj5 bt391.1 t369).bind fun t398 => (if t398 = true then ((laws_eqStringS.f kj5 bt391.2.1 t370).bind fun t399 => (if t399 = true then (laws_FnExactScanSeg.j1 kj5 bt385.2 bt387.2 bt387.1 (bt391.2.2 != t371)) else (laws_FnExactScanSeg.j1 kj5 bt385.2 bt387.2 bt387.1 true))) else (laws_FnExactScanSeg.j1 kj5 bt385.2 bt387.2 bt387.1 true)))) else (some false)))))))) = some r:=by rw [if_neg (show ¬ (false = true) by decide)] at H;exact H
     clear H;have H:=H1;clear H1;replace H:=ob_.mp H;obtain ⟨⟨t385,t386⟩,A270,H⟩:=H;(try dsimp only at H);have A27:=A_ A270;clear A270;replace H:=ob_.mp H;obtain ⟨⟨t387,t388⟩,A280,H⟩:=H;(try dsimp only at H);have A28:=A_ A280;clear A280;replace H:=ob_.mp H;obtain ⟨t389,A290,H⟩:=H;(try dsimp only at H);have A29:=A_ A290;clear A290
     by_cases c30 : t389 < 0
     ·rw [if_pos c30] at H;have c30b0 : decide (t389 < 0) = true:=de_ c30;clear c30;obtain rfl:=Option.some.inj H
      cases hr1_
     ·rw [if_neg c30] at H;have c30b0 : decide (t389 < 0) = false:=decide_eq_false c30;clear c30;replace H:=ob_.mp H;obtain ⟨t390,A360,H⟩:=H;(try dsimp only at H);have A36:=A_ A360;clear A360
      by_cases c37 : t390 < 0
      ·rw [if_pos c37] at H;have c37b0 : decide (t390 < 0) = true:=de_ c37;clear c37;obtain rfl:=Option.some.inj H
       cases hr1_
      ·rw [if_neg c37] at H;have c37b0 : decide (t390 < 0) = false:=decide_eq_false c37;clear c37
       by_cases c44 : t390 = t387
       ·rw [if_pos c44] at H;have c44b0 : (t390 == t387) = true:=beq_iff_eq.mpr c44;have c44b1 : (t390 != t387) = false:=bne_eq_false_iff_eq.mpr c44;clear c44;replace H:=ob_.mp H;obtain ⟨⟨t391,t392,t393⟩,A450,H⟩:=H;(try dsimp only at H);have A45:=A_ A450;clear A450;have HC46:=A_ H;clear H;obtain ⟨Ao47,co47,eo47⟩:=Kd.R_slice HO_8.out;subst eo47
        go_upto_region 20 with (first|((with_reducible refine gate_callee (f:=17) rfl ?_);refine gL_ (some 50) Try.func17 #[.slice Ao47 t376.length co47,.int .i64 1] ?_;(with_reducible refine (laws_markSpotS.calls kj5 (fun k_ => some k_ = (.slice Ao47 t376.length co47 : Value).ownBlock) (.slice Ao47 t376.length co47) t376 1 t385 t386 w _ ?side1 ?side2 A27.out).mono ?_);(case side1 => exact bq_ HB);(case side2 => exact Kd.R_tight rfl HO_8.out);rintro e w48 ⟨rfl,hy0,hb,hkp⟩;refine ⟨_,rfl,?_⟩;replace HO_5:=A_ (rm_ (ok':=fun k_ => some k_ ≠ (.slice Ao47 t376.length co47 : Value).ownBlock) (Kd.R_keptB (HO_5.out) hkp (fun k_ hk_ hs_ => (hk_) hs_)) (fun k_ hk_ => hk_.1));replace HO_6:=A_ (rm_ (ok':=fun k_ => some k_ ≠ (v381 : Value).ownBlock) (Kd.R_keptB ((Kd.R_apart' HO_6.out (ry_ HO_8.out) (by decide))) hkp (fun k_ hk_ hs_ => (hk_.2) hs_)) (fun k_ hk_ => hk_.1.1));replace HO_9:=A_ (rm_ (ok':=fun k_ => some k_ ≠ (v374 : Value).ownBlock) (Kd.R_keptB ((Kd.R_apart' HO_9.out (ry_ HO_8.out) (by decide))) hkp (fun k_ hk_ hs_ => (hk_.2) hs_)) (fun k_ hk_ => hk_.1.1));replace HO_8:=A_ (Kd.R_reok rfl hy0 (fun k_ e_ => HO_8.out.1 k_ e_));replace HB:=A_ (hb);(try clear hb);(try clear hkp);(try clear hy0);obtain ⟨Ao49,co49,eo49⟩:=Kd.R_slice HO_9.out;subst eo49)|((with_reducible refine gate_callee (f:=18) rfl ?_);refine gL_ (some 53) Try.func18 #[.slice Ao49 t377.length co49,.int .i64 t385] ?_;(with_reducible refine (laws_markStringS.calls kj5 (fun k_ => some k_ = (.slice Ao49 t377.length co49 : Value).ownBlock) (.slice Ao49 t377.length co49) t377 t385 t387 t388 w _ ?side1 ?side2 A28.out).mono ?_);(case side1 => exact bq_ HB);(case side2 => exact Kd.R_tight rfl HO_9.out);rintro e w50 ⟨rfl,hy0,hb,hkp⟩;refine ⟨_,rfl,?_⟩;replace HO_5:=A_ (rm_ (ok':=fun k_ => some k_ ≠ (.slice Ao47 t376.length co47 : Value).ownBlock) (Kd.R_keptB ((Kd.R_apart' HO_5.out (ry_ HO_9.out) (by decide))) hkp (fun k_ hk_ hs_ => (hk_.2) hs_)) (fun k_ hk_ => hk_.1.1));replace HO_6:=A_ (rm_ (ok':=fun k_ => some k_ ≠ (.slice Ao49 t377.length co49 : Value).ownBlock) (Kd.R_keptB (HO_6.out) hkp (fun k_ hk_ hs_ => (hk_) hs_)) (fun k_ hk_ => hk_.1));replace HO_8:=A_ (rm_ (ok':=fun k_ => some k_ ≠ (v372 : Value).ownBlock) (Kd.R_keptB ((Kd.R_apart' HO_8.out (ry_ HO_9.out) (by decide))) hkp (fun k_ hk_ hs_ => (hk_.2) hs_)) (fun k_ hk_ => hk_.1.1));replace HO_9:=A_ (Kd.R_reok rfl hy0 (fun k_ e_ => HO_9.out.1 k_ e_));replace HB:=A_ (hb);(try clear hb);(try clear hkp);(try clear hy0))|((with_reducible refine gate_callee (f:=19) rfl ?_);refine goesL_ (some 56) rfl rfl Try.func19 (by kernel_rfl) rfl #[.slice Ao47 t386.length co47,.int .i64 1] rfl (by (try simp only [s4_,s5_,s6_]);first|done|(rw [show t386.length = t376.length from (Kd.R_reads' HO_8.out).1.symm] <;> rfl)|rfl|(simp only [List.length_drop,List.length_take];rfl)) ?_;(with_reducible refine (laws_heldSpotS.calls kj5 _ _ t386 1 t389 _ ?side1 ?side2 A29.out).mono ?_);(case side1 => repeat (first|exact (Kd.R_reads' HO_8.out).2.2|(with_reducible refine Kd.C_alloc ?_ _)|(with_reducible refine Kd.C_drewN ?_ _)|(with_reducible refine Kd.C_drew ?_)));(case side2 => rw [show t386.length = t376.length from (Kd.R_reads' HO_8.out).1.symm];exact (Kd.R_reads' HO_8.out).2.1);rintro e w51 ⟨rfl,hb⟩;refine ⟨_,rfl,?_⟩;replace HO_5:=rB_ HO_5 hb;replace HO_6:=rB_ HO_6 hb;replace HO_8:=rB_ HO_8 hb;replace HO_9:=rB_ HO_9 hb;replace HB:=bS_ HB hb;(try clear hb))|((with_reducible refine gate_callee (f:=20) rfl ?_);refine goesL_ (some 61) rfl rfl Try.func20 (by kernel_rfl) rfl #[.slice Ao49 t388.length co49,.int .i64 t389] rfl (by (try simp only [s4_,s5_,s6_]);first|done|(rw [show t388.length = t377.length from (Kd.R_reads' HO_9.out).1.symm] <;> rfl)|rfl|(simp only [List.length_drop,List.length_take];rfl)) ?_;(with_reducible refine (laws_heldStringS.calls kj5 _ _ t388 t389 t390 _ ?side1 ?side2 A36.out).mono ?_);(case side1 => repeat (first|exact (Kd.R_reads' HO_9.out).2.2|(with_reducible refine Kd.C_alloc ?_ _)|(with_reducible refine Kd.C_drewN ?_ _)|(with_reducible refine Kd.C_drew ?_)));(case side2 => rw [show t388.length = t377.length from (Kd.R_reads' HO_9.out).1.symm];exact (Kd.R_reads' HO_9.out).2.1);rintro e w52 ⟨rfl,hb⟩;refine ⟨_,rfl,?_⟩;replace HO_5:=rB_ HO_5 hb;replace HO_6:=rB_ HO_6 hb;replace HO_8:=rB_ HO_8 hb;replace HO_9:=rB_ HO_9 hb;replace HB:=bS_ HB hb;(try clear hb))|((with_reducible refine gate_callee (f:=14) rfl ?_);refine gL_ (some 70) Try.func14 #[.string a0,.int .i64 a1] ?_;(with_reducible refine (impl_ScanSeg.calls kj5 a0 a1 t391 t392 t393 _ A45.out).mono ?_);rintro e w53 ⟨v394,v396,rfl,ho0,ho1,hb⟩;refine ⟨_,rfl,?_⟩;have HO395:=A_ (rw_ (Kd.R_new' (Kd.R_new' ho0 (Kd.R_lt (rq_ HO_5))) (Kd.R_lt (rq_ HO_8))) (bz_ (bq_ HB)));replace HO_5:=A_ (Kd.R_elder' (rq_ HO_5) (Kd.R_base ho0) hb);replace HO_8:=A_ (Kd.R_elder' (rq_ HO_8) (Kd.R_base ho0) hb);have HO397:=A_ (rw_ (Kd.R_new' (Kd.R_new' ho1 (Kd.R_lt (rq_ HO_6))) (Kd.R_lt (rq_ HO_9))) (bz_ (bq_ HB)));replace HO_6:=A_ (Kd.R_elder' (rq_ HO_6) (Kd.R_base ho1) hb);replace HO_9:=A_ (Kd.R_elder' (rq_ HO_9) (Kd.R_base ho1) hb);replace HB:=bS_ HB hb;(try clear hb);(try clear ho0);(try clear ho1)))
        (try simp only [Act.put,s1_,s2_,s3_])
        go_cut [88] (fun v88 wc => ∃ (kq : Nat) (x88_45 : Bool),v88 = .bool x88_45 ∧ Aside0 (laws_FnExactScanSeg.j1 kq t386 t388 t387 x88_45 = some r) ∧ Aside0 (kq ≤ kj5) ∧ Aside0 (Kd.R k88 88 wc w.heap.size (fun _ => True) (.slice Ao47 t376.length co47) t386) ∧ Aside0 (Kd.R Kd.string 9 wc w.heap.size (fun _ => True) (.slice Ao49 t377.length co49) t388) ∧ Aside0 (Below w.heap.size w wc))
        case first =>
         have H:=HC46.out;clear HC46;replace H:=ob_.mp H;obtain ⟨t398,A540,H⟩:=H;(try dsimp only at H);have A54:=A_ A540;clear A540
         by_cases c55 : t398 = true
         ·subst c55
          rw [if_pos rfl] at H;replace H:=ob_.mp H;obtain ⟨t399,A560,H⟩:=H;(try dsimp only at H);have A56:=A_ A560;clear A560
          by_cases c57 : t399 = true
          ·subst c57
           rw [if_pos rfl] at H;have H':=A_ H;clear H;obtain ⟨Ao58,co58,eo58⟩:=Kd.R_slice HO395.out;subst eo58;obtain ⟨Ao59,co59,eo59⟩:=Kd.R_slice HO_5.out;subst eo59
           go_wp2_with (first|((with_reducible refine gate_callee (f:=15) rfl ?_);refine gL_ (some 76) Try.func15 #[.slice Ao58 t391.length co58,.slice Ao59 t369.length co59] ?_;(with_reducible refine (laws_eqSpotS.calls kj5 _ _ t391 _ _ t369 true _ ?side1 ?side2 ?side3 ?side4 A54.out).mono ?_);(case side1 => repeat (first|exact (Kd.R_reads' HO395.out).2.2|(with_reducible refine Kd.C_alloc ?_ _)|(with_reducible refine Kd.C_drewN ?_ _)|(with_reducible refine Kd.C_drew ?_)));(case side2 => exact (Kd.R_reads' HO395.out).2.1);(case side3 => repeat (first|exact (Kd.R_reads' HO_5.out).2.2|(with_reducible refine Kd.C_alloc ?_ _)|(with_reducible refine Kd.C_drewN ?_ _)|(with_reducible refine Kd.C_drew ?_)));(case side4 => exact (Kd.R_reads' HO_5.out).2.1);rintro e w60 ⟨rfl,hb⟩;refine ⟨_,rfl,?_⟩;replace HO_5:=rB_ HO_5 hb;replace HO_6:=rB_ HO_6 hb;replace HO_8:=rB_ HO_8 hb;replace HO_9:=rB_ HO_9 hb;replace HO395:=rB_ HO395 hb;replace HO397:=rB_ HO397 hb;replace HB:=bS_ HB hb;(try clear hb);obtain ⟨Ao61,co61,eo61⟩:=Kd.R_slice HO397.out;subst eo61;obtain ⟨Ao62,co62,eo62⟩:=Kd.R_slice HO_6.out;subst eo62)|(go_at_call 16;(with_reducible refine (laws_eqStringS.calls kj5 _ _ t392 _ _ t370 true _ ?side1 ?side2 ?side3 ?side4 A56.out).mono ?_);(case side1 => repeat (first|exact (Kd.R_reads' HO397.out).2.2|(with_reducible refine Kd.C_alloc ?_ _)|(with_reducible refine Kd.C_drewN ?_ _)|(with_reducible refine Kd.C_drew ?_)));(case side2 => exact (Kd.R_reads' HO397.out).2.1);(case side3 => repeat (first|exact (Kd.R_reads' HO_6.out).2.2|(with_reducible refine Kd.C_alloc ?_ _)|(with_reducible refine Kd.C_drewN ?_ _)|(with_reducible refine Kd.C_drew ?_)));(case side4 => exact (Kd.R_reads' HO_6.out).2.1);rintro e w' ⟨rfl,⟨nd,rfl⟩⟩))
           go_meet
           case rel => exact ⟨_,((t393 != t371)),(by first|rfl|(simp;done)|(simp [*];done)),H',⟨by have:=HJ5.out;first|omega|exact Nat.le_refl _⟩,⟨by (with_reducible repeat (first|apply ra_|apply rn_|apply Rd_));exact rm_ HO_8.out (fun _ hk => trivial)⟩,⟨by (with_reducible repeat (first|apply ra_|apply rn_|apply Rd_));exact rm_ HO_9.out (fun _ hk => trivial)⟩,⟨bq_ HB⟩⟩
          ·replace c57:=Bool.eq_false_iff.mpr c57;subst c57
           have H1 : (laws_FnExactScanSeg.j1 kj5 t386 t388 t387 true) = some r:=by rw [if_neg (show ¬ (false = true) by decide)] at H;exact H
           clear H;have H:=H1;clear H1;have H':=A_ H;clear H;obtain ⟨Ao63,co63,eo63⟩:=Kd.R_slice HO395.out;subst eo63;obtain ⟨Ao64,co64,eo64⟩:=Kd.R_slice HO_5.out;subst eo64
           go_wp2_with (first|((with_reducible refine gate_callee (f:=15) rfl ?_);refine gL_ (some 76) Try.func15 #[.slice Ao63 t391.length co63,.slice Ao64 t369.length co64] ?_;(with_reducible refine (laws_eqSpotS.calls kj5 _ _ t391 _ _ t369 true _ ?side1 ?side2 ?side3 ?side4 A54.out).mono ?_);(case side1 => repeat (first|exact (Kd.R_reads' HO395.out).2.2|(with_reducible refine Kd.C_alloc ?_ _)|(with_reducible refine Kd.C_drewN ?_ _)|(with_reducible refine Kd.C_drew ?_)));(case side2 => exact (Kd.R_reads' HO395.out).2.1);(case side3 => repeat (first|exact (Kd.R_reads' HO_5.out).2.2|(with_reducible refine Kd.C_alloc ?_ _)|(with_reducible refine Kd.C_drewN ?_ _)|(with_reducible refine Kd.C_drew ?_)));(case side4 => exact (Kd.R_reads' HO_5.out).2.1);rintro e w65 ⟨rfl,hb⟩;refine ⟨_,rfl,?_⟩;replace HO_5:=rB_ HO_5 hb;replace HO_6:=rB_ HO_6 hb;replace HO_8:=rB_ HO_8 hb;replace HO_9:=rB_ HO_9 hb;replace HO395:=rB_ HO395 hb;replace HO397:=rB_ HO397 hb;replace HB:=bS_ HB hb;(try clear hb);obtain ⟨Ao66,co66,eo66⟩:=Kd.R_slice HO397.out;subst eo66;obtain ⟨Ao67,co67,eo67⟩:=Kd.R_slice HO_6.out;subst eo67)|(go_at_call 16;(with_reducible refine (laws_eqStringS.calls kj5 _ _ t392 _ _ t370 false _ ?side1 ?side2 ?side3 ?side4 A56.out).mono ?_);(case side1 => repeat (first|exact (Kd.R_reads' HO397.out).2.2|(with_reducible refine Kd.C_alloc ?_ _)|(with_reducible refine Kd.C_drewN ?_ _)|(with_reducible refine Kd.C_drew ?_)));(case side2 => exact (Kd.R_reads' HO397.out).2.1);(case side3 => repeat (first|exact (Kd.R_reads' HO_6.out).2.2|(with_reducible refine Kd.C_alloc ?_ _)|(with_reducible refine Kd.C_drewN ?_ _)|(with_reducible refine Kd.C_drew ?_)));(case side4 => exact (Kd.R_reads' HO_6.out).2.1);rintro e w' ⟨rfl,⟨nd,rfl⟩⟩))
           go_meet
           case rel => exact ⟨_,(true),(by first|rfl|(simp;done)|(simp [*];done)),H',⟨by have:=HJ5.out;first|omega|exact Nat.le_refl _⟩,⟨by (with_reducible repeat (first|apply ra_|apply rn_|apply Rd_));exact rm_ HO_8.out (fun _ hk => trivial)⟩,⟨by (with_reducible repeat (first|apply ra_|apply rn_|apply Rd_));exact rm_ HO_9.out (fun _ hk => trivial)⟩,⟨bq_ HB⟩⟩
         ·replace c55:=Bool.eq_false_iff.mpr c55;subst c55
          have H1 : (laws_FnExactScanSeg.j1 kj5 t386 t388 t387 true) = some r:=by rw [if_neg (show ¬ (false = true) by decide)] at H;exact H
          clear H;have H:=H1;clear H1;have H':=A_ H;clear H;obtain ⟨Ao68,co68,eo68⟩:=Kd.R_slice HO395.out;subst eo68;obtain ⟨Ao69,co69,eo69⟩:=Kd.R_slice HO_5.out;subst eo69
          go_wp2_with (first|((with_reducible refine gate_callee (f:=15) rfl ?_);refine gL_ (some 76) Try.func15 #[.slice Ao68 t391.length co68,.slice Ao69 t369.length co69] ?_;(with_reducible refine (laws_eqSpotS.calls kj5 _ _ t391 _ _ t369 false _ ?side1 ?side2 ?side3 ?side4 A54.out).mono ?_);(case side1 => repeat (first|exact (Kd.R_reads' HO395.out).2.2|(with_reducible refine Kd.C_alloc ?_ _)|(with_reducible refine Kd.C_drewN ?_ _)|(with_reducible refine Kd.C_drew ?_)));(case side2 => exact (Kd.R_reads' HO395.out).2.1);(case side3 => repeat (first|exact (Kd.R_reads' HO_5.out).2.2|(with_reducible refine Kd.C_alloc ?_ _)|(with_reducible refine Kd.C_drewN ?_ _)|(with_reducible refine Kd.C_drew ?_)));(case side4 => exact (Kd.R_reads' HO_5.out).2.1);rintro e w70 ⟨rfl,hb⟩;refine ⟨_,rfl,?_⟩;replace HO_5:=rB_ HO_5 hb;replace HO_6:=rB_ HO_6 hb;replace HO_8:=rB_ HO_8 hb;replace HO_9:=rB_ HO_9 hb;replace HO395:=rB_ HO395 hb;replace HO397:=rB_ HO397 hb;replace HB:=bS_ HB hb;(try clear hb)))
          go_meet
          case rel => exact ⟨_,(true),(by first|rfl|(simp;done)|(simp [*];done)),H',⟨by have:=HJ5.out;first|omega|exact Nat.le_refl _⟩,⟨by (with_reducible repeat (first|apply ra_|apply rn_|apply Rd_));exact rm_ HO_8.out (fun _ hk => trivial)⟩,⟨by (with_reducible repeat (first|apply ra_|apply rn_|apply Rd_));exact rm_ HO_9.out (fun _ hk => trivial)⟩,⟨bq_ HB⟩⟩
        case rest =>
         clear HC46
         try clear c1
         try clear c2
         try clear p2
         try clear c3
         try clear c3b0
         try clear c3b1
         try clear c4
         try clear c5
         try clear c10
         try clear c12
         try clear c13
         try clear c14
         try clear c15
         try clear c17
         try clear c18
         try clear c19
         try clear c20
         try clear c26
         try clear c30
         try clear c30b0
         try clear c37
         try clear c37b0
         try clear c44
         try clear c44b0
         try clear c44b1
         try clear c55
         try clear c57
         try clear p2
         obtain ⟨kq,x88_45,rfl,HA,HJ45,HO_8,HO_9,HB⟩:=hcut;have hl8_45:=(Kd.R_reads' HO_8.out).1;rw [hl8_45] at HO_8
         (try simp only [hl8_45])
         (try simp only [hl8_45] at HO_9)
         have hl9_45:=(Kd.R_reads' HO_9.out).1;rw [hl9_45] at HO_9
         (try simp only [hl9_45])
         (try simp only [hl9_45] at HO_8)
         cases kq with
         | zero => exact absurd HA.out (by simp [laws_FnExactScanSeg.j1])
         | succ kj45 =>
          have H:=HA.out;clear HA;simp only [laws_FnExactScanSeg.j1] at H
          by_cases c71 : x88_45 = true
          ·subst c71
           rw [if_pos rfl] at H;obtain rfl:=Option.some.inj H
           cases hr1_
          ·replace c71:=Bool.eq_false_iff.mpr c71;subst c71
           have H1 : ((laws_heldSpotS.f kj45 t386 1).bind fun t400 => (if t400 < 0 then (some false) else ((laws_heldStringS.f kj45 t388 t400).bind fun t401 => (if t401 < 0 then (some false) else (if t401 = t387 then (some true) else (some false)))))) = some r:=by rw [if_neg (show ¬ (false = true) by decide)] at H;exact H
           clear H;have H:=H1;clear H1;replace H:=ob_.mp H;obtain ⟨t400,A720,H⟩:=H;(try dsimp only at H);have A72:=A_ A720;clear A720
           by_cases c73 : t400 < 0
           ·rw [if_pos c73] at H;have c73b0 : decide (t400 < 0) = true:=de_ c73;clear c73;obtain rfl:=Option.some.inj H
            cases hr1_
           ·rw [if_neg c73] at H;have c73b0 : decide (t400 < 0) = false:=decide_eq_false c73;clear c73;replace H:=ob_.mp H;obtain ⟨t401,A750,H⟩:=H;(try dsimp only at H);have A75:=A_ A750;clear A750
            by_cases c76 : t401 < 0
            ·rw [if_pos c76] at H;have c76b0 : decide (t401 < 0) = true:=de_ c76;clear c76;obtain rfl:=Option.some.inj H
             cases hr1_
            ·rw [if_neg c76] at H;have c76b0 : decide (t401 < 0) = false:=decide_eq_false c76;clear c76
             by_cases c79 : t401 = t387
             ·rw [if_pos c79] at H;have c79b0 : (t401 == t387) = true:=beq_iff_eq.mpr c79;have c79b1 : (t401 != t387) = false:=bne_eq_false_iff_eq.mpr c79;clear c79;obtain rfl:=Option.some.inj H
              go_wp2_with (first|((with_reducible refine gate_callee (f:=19) rfl ?_);refine gL_ (some 91) Try.func19 #[.slice Ao47 t386.length co47,.int .i64 1] ?_;(with_reducible refine (laws_heldSpotS.calls kj45 _ _ t386 1 t400 _ ?side1 ?side2 A72.out).mono ?_);(case side1 => repeat (first|exact (Kd.R_reads' HO_8.out).2.2|(with_reducible refine Kd.C_alloc ?_ _)|(with_reducible refine Kd.C_drewN ?_ _)|(with_reducible refine Kd.C_drew ?_)));(case side2 => exact (Kd.R_reads' HO_8.out).2.1);rintro e w80 ⟨rfl,hb⟩;refine ⟨_,rfl,?_⟩;replace HO_8:=rB_ HO_8 hb;replace HO_9:=rB_ HO_9 hb;replace HB:=bS_ HB hb;(try clear hb))|((with_reducible refine gate_callee (f:=20) rfl ?_);refine gL_ (some 96) Try.func20 #[.slice Ao49 t388.length co49,.int .i64 t400] ?_;(with_reducible refine (laws_heldStringS.calls kj45 _ _ t388 t400 t401 _ ?side1 ?side2 A75.out).mono ?_);(case side1 => repeat (first|exact (Kd.R_reads' HO_9.out).2.2|(with_reducible refine Kd.C_alloc ?_ _)|(with_reducible refine Kd.C_drewN ?_ _)|(with_reducible refine Kd.C_drew ?_)));(case side2 => exact (Kd.R_reads' HO_9.out).2.1);rintro e w81 ⟨rfl,hb⟩;refine ⟨_,rfl,?_⟩;replace HO_8:=rB_ HO_8 hb;replace HO_9:=rB_ HO_9 hb;replace HB:=bS_ HB hb;(try clear hb)))
              go_ret;exact ⟨ex_,bq_ HB⟩
             ·rw [if_neg c79] at H;have c79b0 : (t401 == t387) = false:=beq_eq_false_iff_ne.mpr c79;have c79b1 : (t401 != t387) = true:=bne_iff_ne.mpr c79;obtain rfl:=Option.some.inj H
              cases hr1_
       ·rw [if_neg c44] at H;have c44b0 : (t390 == t387) = false:=beq_eq_false_iff_ne.mpr c44;have c44b1 : (t390 != t387) = true:=bne_iff_ne.mpr c44;obtain rfl:=Option.some.inj H
        cases hr1_
def laws_FnExactScanSeg.Pure : Prop := ∀ (a0 : ByteArray) (a1 : Int), a0.size ≤ 140737488351232 → (Lit.int .i64 a1).wf = true → ∃ k, laws_FnExactScanSeg.f k a0 a1 = some true
theorem laws_FnExactScanSeg.walk (P : laws_FnExactScanSeg.Pure) (a0 : ByteArray) (a1 : Int) (w : World) (w0 : a0.size ≤ 140737488351232) (w1 : (Lit.int .i64 a1).wf = true) :
  Calls Try.prog 4 #[.string a0,.int .i64 a1] w fun e w' => e = .returned (.bool true) ∧ Below w.heap.size w w':=by
 obtain ⟨k,h⟩:=P a0 a1 w0 w1;refine (laws_FnExactScanSeg.calls k a0 a1 true w h rfl).mono ?_;rintro e w' ⟨rfl,hd⟩;exact ⟨rfl,hd⟩
end Go.Proofs.Ytbcgnncbiblibaa.PFnExactScanSeg
