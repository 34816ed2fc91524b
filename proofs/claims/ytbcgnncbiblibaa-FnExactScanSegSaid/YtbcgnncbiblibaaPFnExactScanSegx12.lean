/- The contracts of the Go functions that this law reaches: what each call returns, by a plain Lean function of its arguments. No conditions but those each contract names. By the kit's print.py, run by this session's wip/gen/pp.py with facts and hand proofs beside it: not to the letter what print.sh prints. -/
import Derived.Test.YtbcgnncbiblibaaPFnExactScanSegx0
import Derived.Test.YtbcgnncbiblibaaPFnExactScanSegx8
import Derived.Test.YtbcgnncbiblibaaPFnExactScanSegx11
namespace Go.Proofs.Ytbcgnncbiblibaa.PFnExactScanSeg
open Go.RowKit Go.Proofs.YtbcgnncbiblibaaW.PrintWords Go.Proofs.YtbcgnncbiblibaaW.PrintLast Go.Proofs.YtbcgnncbiblibaaW.PrintMore
attribute [local go_sem] max2_int min2_int max_two min_two max_three min_three max_four min_four
set_option linter.unusedVariables false
set_option linter.unusedSimpArgs false
def impl_BatchOk.l0 : Nat → List (S85) → Int → Int → Int → List (S85) → Option (Bool)
 | 0,_,_,_,_,_ => none
 | k + 1,x6,x7,x8,x280000,x280001 => if x8 < x7 then (if 0 ≤ x8 then (if x8 < (x6.length : Int) then ((impl_keyOk.f ((rd_T85 x6 x8).f0)).bind fun t282 => (if t282 = true then (if (((rd_T85 x6 x8).f1).size : Int) > 40 then (some false) else (if (rd_T85 x6 x8).f2 = true then (if ((rd_T85 x6 x8).f1).toList = ([] : List UInt8) then (if x8 > 0 then (if 0 ≤ (wrap64 (x8 - 1)) then (if (wrap64 (x8 - 1)) < (x280001.length : Int) then (if ((Op.bytesLess (((rd_T85 x280001 (wrap64 (x8 - 1))).f0).toList) (((rd_T85 x6 x8).f0).toList)) = true) then (impl_BatchOk.l0 k x6 x7 (wrap64 (x8 + 1)) x280000 x280001) else (some false)) else (none)) else (none)) else (impl_BatchOk.l0 k x6 x7 (wrap64 (x8 + 1)) x280000 x280001)) else (some false)) else (if x8 > 0 then (if 0 ≤ (wrap64 (x8 - 1)) then (if (wrap64 (x8 - 1)) < (x280001.length : Int) then (if ((Op.bytesLess (((rd_T85 x280001 (wrap64 (x8 - 1))).f0).toList) (((rd_T85 x6 x8).f0).toList)) = true) then (impl_BatchOk.l0 k x6 x7 (wrap64 (x8 + 1)) x280000 x280001) else (some false)) else (none)) else (none)) else (impl_BatchOk.l0 k x6 x7 (wrap64 (x8 + 1)) x280000 x280001)))) else (some false))) else (none)) else (none)) else ((impl_within.f x280000 0 100000).bind fun t285 => (if t285 = true then (some (decide ((x280001.length : Int) ≤ 60))) else (some false)))
def impl_BatchOk.f (k : Nat) (a0_0 : Int) (l0_1 : List (S85)) : Option (Bool) := impl_BatchOk.l0 k l0_1 (l0_1.length : Int) 0 a0_0 l0_1
theorem impl_BatchOk.mono_l : ∀ k, (∀ y0 y1 y2 y3 y4, LeO (impl_BatchOk.l0 k y0 y1 y2 y3 y4) (impl_BatchOk.l0 (k + 1) y0 y1 y2 y3 y4))
 | 0 => fun _ _ _ _ _ r h => by simp [impl_BatchOk.l0] at h
 | k + 1 => by
  have ih0:=impl_BatchOk.mono_l k
  ·intro y0 y1 y2 y3 y4
   unfold impl_BatchOk.l0
   repeat' first
   | (with_reducible exact ih0 _ _ _ _ _)
   | (with_reducible exact LeO.refl _)
   | (with_reducible exact LeO.none _)
   | (with_reducible refine LeO.ite ?_ ?_)
   | (with_reducible refine LeO.bind ?_ (fun _ => ?_))
theorem impl_BatchOk.mono : ∀ a0 a1 k, LeO (impl_BatchOk.f k a0 a1) (impl_BatchOk.f (k + 1) a0 a1) := by
 intro a0 a1 k;have ih0:=impl_BatchOk.mono_l k
 unfold impl_BatchOk.f
 repeat' first
   | (with_reducible exact ih0 _ _ _ _ _)
   | (with_reducible exact LeO.refl _)
   | (with_reducible exact LeO.none _)
   | (with_reducible refine LeO.ite ?_ ?_)
   | (with_reducible refine LeO.bind ?_ (fun _ => ?_))
def impl_BatchOk.T4 : Bool × List (List Nat × List Nat) := (true, [([], []), ([0], [0]), ([1], [1]), ([2], [2]), ([3, 2], [3]), ([4], [4]), ([5, 4], [4, 5]), ([6, 4], [4, 6]), ([7, 4], [4, 7]), ([4, 8], [4, 8]), ([9, 4], [9]), ([10], [10]), ([11, 10], [10, 11]), ([12, 10, 10], [10, 12]), ([13], [13]), ([14, 13], [13, 14]), ([15, 13], [13, 15]), ([13, 16, 10], [10, 13, 16]), ([10, 17], [10, 17]), ([18, 13], [18]), ([19], [19]), ([20, 19], [19, 20]), ([21, 19, 19], [19, 21]), ([22], [22]), ([23, 22], [22, 23]), ([22], [22]), ([25, 22], [22, 25]), ([24, 26, 22], [22, 24, 26]), ([27, 22], [22, 27]), ([28, 22], [22, 28]), ([22], [22]), ([30, 22], [22, 30]), ([29, 31, 22], [22, 29, 31]), ([22, 32, 19], [19, 22, 32]), ([19, 33], [19, 33])])
def impl_BatchOk.B4 : List Nat := [0, 1, 3, 7, 15, 31, 63, 127, 255, 511, 1023, 2047, 4095, 8191, 16383, 32767, 65535, 131071, 262143, 524287, 1048575, 2097151, 4194303, 8388607, 16777215, 8388607, 41943039, 134217727, 268435455, 536870911, 8388607, 1082130431, 4294967295, 8589934591, 17179869183]
theorem impl_BatchOk.tab4 : rtab .any (opsOf Try.f136 4) = impl_BatchOk.T4 := by kernel_rfl
theorem impl_BatchOk.bits4 : waitsOk impl_BatchOk.T4.2 impl_BatchOk.B4 = true := by kernel_rfl
set_option maxHeartbeats 8000000 in
set_option maxRecDepth 100000 in
theorem impl_BatchOk.calls (k : Nat) (a0_0 : Int) (A0_1 : Option Addr) (c0_1 : Nat) (l0_1 : List (S85)) (r : Bool) (w : World) (hr0_1 : Kd.C k85 w A0_1 l0_1.length l0_1) (hc0_1 : l0_1.length ≤ c0_1) (h : impl_BatchOk.f k a0_0 l0_1 = some r) :
  Calls Try.prog 136 #[.agg #[.int .i64 a0_0,.slice A0_1 l0_1.length c0_1]] w fun e w' => e = .returned (.bool r) ∧ Below w.heap.size w w':=by
 have hu79:=Try.underlying79;have hu85:=Try.underlying85;have HR0_1:=A_ hr0_1;have HC0_1:=A_ hc0_1;clear hr0_1 hc0_1;have HB:=A_ (Below.refl w.heap.size w);unfold impl_BatchOk.f at h;have H:=h;clear h;have H':=A_ H;clear H;go_enter Try.func136,Try.ntmps136
 go_wp2_with (first|((with_reducible refine gate_dst (N:=1) rfl ?_);(try (refine gate_guard (by rfl) ?_;dsimp only));refine bE_ 1 #[.int .i64 a0_0,.slice A0_1 l0_1.length c0_1] 79 ?_;intro gb279 hg w2 hbox hb;have BK279:=A_ (hbox);have GW279:=gE_ hg HB;have GE279:=gE_ hg HB;replace HB:=bS_ HB hb;clear hb hbox hg;obtain ⟨hcz3_0,hcz3_1,hfz3_0,hfz3_1⟩:=k2f_ BK279))
 go_loopg [8] k (fun kq v8 w' => ∃ (x8_1 : Int),v8 = .int .i64 x8_1 ∧ Aside0 (impl_BatchOk.l0 kq l0_1 (l0_1.length : Int) x8_1 a0_0 l0_1 = some r) ∧ Aside0 (kq ≤ k) ∧ Aside0 (w'.heap[gb279]? = some (.cells #[.int .i64 a0_0,(.slice A0_1 l0_1.length c0_1)] 79 (0,0))) ∧ Aside0 (Below w.heap.size w w'))
 case atStart => exact ⟨(0),(by first|rfl|(simp;done)|(simp [*];done)),H',⟨Nat.le_refl _⟩,⟨kq_ BK279⟩,⟨bq_ HB⟩⟩
 case round =>
  clear H'
  try clear c1
  try clear p2
  try clear hcz3_0
  try clear hcz3_1
  try clear hfz3_0
  try clear hfz3_1
  obtain ⟨x8_1,rfl,HA,HK1,BK279,HB⟩:=hrel
  cases gk with
  | zero => exact absurd HA.out (by simp [impl_BatchOk.l0])
  | succ k1 =>
   have H:=HA.out;clear HA;simp only [impl_BatchOk.l0] at H
   by_cases c4 : x8_1 < (l0_1.length : Int)
   ·rw [if_pos c4] at H;have c4b0 : decide (x8_1 < (l0_1.length : Int)) = true:=de_ c4;clear c4
    by_cases c5 : 0 ≤ x8_1
    ·rw [if_pos c5] at H;have c5b0 : decide (0 ≤ x8_1) = true:=de_ c5;clear c5
     by_cases c6 : x8_1 < (l0_1.length : Int)
     ·rw [if_pos c6] at H;have c6b0 : decide (x8_1 < (l0_1.length : Int)) = true:=de_ c6;clear c6;replace H:=ob_.mp H;obtain ⟨t282,A70,H⟩:=H;(try dsimp only at H);have A7:=A_ A70;clear A70
      by_cases c8 : t282 = true
      ·subst c8
       rw [if_pos rfl] at H
       by_cases c9 : (((rd_T85 l0_1 x8_1).f1).size : Int) > 40
       ·rw [if_pos c9] at H;have c9b0 : decide (40 < (((rd_T85 l0_1 x8_1).f1).size : Int)) = true:=de_ c9;have c9b1 : decide (40 < ((rd_T85 l0_1 x8_1).f1).size) = true:=de_ (by omega);clear c9;obtain rfl:=Option.some.inj H;have p280 : 0 ≤ (x8_1 : Int):=oda_;have q280 : x8_1 < (l0_1.length : Int):=oda_;obtain ⟨ad280,e280,hx280_0,hx280_1,hx280_2⟩:=at_T85 HR0_1.out x8_1 p280 q280
        cases e280
        replace hx280_0:=(HB.out.cell (wb_ w _ hx280_0)).trans hx280_0;replace hx280_1:=(HB.out.cell (wb_ w _ hx280_1)).trans hx280_1;replace hx280_2:=(HB.out.cell (wb_ w _ hx280_2)).trans hx280_2;replace p280:=eq_true p280;replace q280:=eq_true q280
        try go_wp2_with (first|((with_reducible refine gate_dst (N:=4) rfl ?_);(try (refine gate_guard (by rfl) ?_;dsimp only));refine bE_ 4 #[.string (⟨#[]⟩ : ByteArray),.string (⟨#[]⟩ : ByteArray),.bool false] 85 ?_;intro gb281 hg w10 hbox hb;have BK281:=A_ (hbox);have GW281:=gE_ hg HB;have GE281:=gE_ hg HB;replace HB:=bS_ HB hb;have NB279_281:=nB_ hg BK279;have NB281_279:=nC_ hg BK279;replace BK279:=kB_ BK279 hb;clear hb hbox hg;have hnb11:=NB281_279.out;have hnc11:=NB279_281.out;obtain ⟨hcz12_0,hcz12_1,hcz12_2,hfz12_0,hfz12_1,hfz12_2⟩:=k3f_ BK281))
        have n0_ : Aside0 ((((w10.setCell ⟨gb281,0,none⟩ (.string ((rd_T85 l0_1 x8_1).f0))).setCell ⟨gb281,1,none⟩ (.string ((rd_T85 l0_1 x8_1).f1))).setCell ⟨gb281,2,none⟩ (.bool ((rd_T85 l0_1 x8_1).f2))).heap[gb279]? = some (.cells #[.int .i64 a0_0,.slice (some ad280) l0_1.length c0_1] 79 (0,0))):=⟨kz_ BK279⟩;have n1_ : Aside0 ((((w10.setCell ⟨gb281,0,none⟩ (.string ((rd_T85 l0_1 x8_1).f0))).setCell ⟨gb281,1,none⟩ (.string ((rd_T85 l0_1 x8_1).f1))).setCell ⟨gb281,2,none⟩ (.bool ((rd_T85 l0_1 x8_1).f2))).heap[gb281]? = some (.cells #[.string ((rd_T85 l0_1 x8_1).f0),.string ((rd_T85 l0_1 x8_1).f1),.bool ((rd_T85 l0_1 x8_1).f2)] 85 (0,0))):=⟨kz_ BK281⟩;have n2_ : Aside0 (Below w.heap.size w (((w10.setCell ⟨gb281,0,none⟩ (.string ((rd_T85 l0_1 x8_1).f0))).setCell ⟨gb281,1,none⟩ (.string ((rd_T85 l0_1 x8_1).f1))).setCell ⟨gb281,2,none⟩ (.bool ((rd_T85 l0_1 x8_1).f2)))):=⟨bq_ HB⟩
        (try clear BK279)
        (try clear BK281)
        (try clear HB)
        generalize (((w10.setCell ⟨gb281,0,none⟩ (.string ((rd_T85 l0_1 x8_1).f0))).setCell ⟨gb281,1,none⟩ (.string ((rd_T85 l0_1 x8_1).f1))).setCell ⟨gb281,2,none⟩ (.bool ((rd_T85 l0_1 x8_1).f2))) = w13 at n0_ n1_ n2_ ⊢;have BK279:=n0_;have BK281:=n1_;have HB:=n2_;clear n0_ n1_ n2_;replace BK279:=A_ (kd_ BK279.out);replace BK281:=A_ (kd_ BK281.out);replace HB:=A_ (pd_ HB.out);refine start_ (n:=35) (S:=fun w' => w'.cell? ⟨gb281,0,none⟩ = some (.string ((rd_T85 l0_1 x8_1).f0)) ∧ w'.cell? ⟨gb281,1,none⟩ = some (.string ((rd_T85 l0_1 x8_1).f1)) ∧ w'.cell? ⟨gb281,2,none⟩ = some (.bool ((rd_T85 l0_1 x8_1).f2))) (ds:=[]) #[false,false,false,false,false,false,false,false,false,false,false,false,false,false,false,false,false,false,false,false,false,false,false,false,false,false,false,false,false,false,false,false,false,false,false] (by kernel_rfl) rfl rfl ⟨kC_ BK281 0,kC_ BK281 1,kC_ BK281 2⟩ (fun hHeld => ?_);refine with_tabW impl_BatchOk.tab4 impl_BatchOk.bits4 (fun HT_ HW_ => ?_);generalize w13.drew = w14 at BK279 BK281 HB hHeld ⊢;refine pU_ 0 (some 13) ?_
        refine tK_ 1 (some 14) hHeld ?_
        refine oN_ 2 (some 15) (fun K hK => ?_);refine gs_ Try.func139 #[.string ((rd_T85 l0_1 x8_1).f0)] ?_;with_reducible refine (impl_keyOk.calls ((rd_T85 l0_1 x8_1).f0) true _ A7.out).mono ?_;rintro e w' ⟨rfl,⟨nd,rfl⟩⟩;refine ⟨_,rfl,?_⟩;have BK281d_:=A_ (kn_ BK281.out nd);have HBd_:=A_ (pn_ HB.out nd);refine hK.out _ _ ⟨kC_ BK281d_ 0,kC_ BK281d_ 1,kC_ BK281d_ 2⟩ (fun hHeld => ?_);clear hK K;refine nX_ (some 15) ?_
        refine pU_ 3 (some 16) ?_
        refine pU_ 4 (some 17) ?_
        refine pU_ 5 (some 18) ?_
        refine tK_ 6 (some 19) hHeld ?_
        refine pU_ 7 (some 20) ?_
        refine pU_ 8 (some 21) ?_
        refine pU_ 9 (some 22) ?_
        refine pU_ 10 (some 23) ?_
        refine pure_ (i:=11) (N:=some 24) (v:=undef) (a':=?_) #[true,true,true,true,true,true,true,true,true,true,true,true,false,false,false,false,false,false,false,false,false,false,false,false,false,false,false,false,false,false,false,false,false,false,false] rfl rfl (any_of HT_.out (by kernel_rfl)) (fun _ _ _ h => h) (Or.inr ⟨by rfl,rfl⟩) ?_ ?_;rotate_left
        ·exact ux_
        refine pure_ (i:=12) (N:=some 25) (v:=undef) (a':=?_) #[true,true,true,true,true,true,true,true,true,true,true,true,true,false,false,false,false,false,false,false,false,false,false,false,false,false,false,false,false,false,false,false,false,false,false] rfl rfl (any_of HT_.out (by kernel_rfl)) (fun _ _ _ h => h) (Or.inr ⟨by rfl,rfl⟩) ?_ ?_;rotate_left
        ·exact ux_
        refine pure_ (i:=13) (N:=some 26) (v:=undef) (a':=?_) #[true,true,true,true,true,true,true,true,true,true,true,true,true,true,false,false,false,false,false,false,false,false,false,false,false,false,false,false,false,false,false,false,false,false,false] rfl rfl (any_of HT_.out (by kernel_rfl)) (fun _ _ _ h => h) (Or.inr ⟨by rfl,rfl⟩) ?_ ?_;rotate_left
        ·exact ux_
        refine pure_ (i:=14) (N:=some 27) (v:=undef) (a':=?_) #[true,true,true,true,true,true,true,true,true,true,true,true,true,true,true,false,false,false,false,false,false,false,false,false,false,false,false,false,false,false,false,false,false,false,false] rfl rfl (any_of HT_.out (by kernel_rfl)) (fun _ _ _ h => h) (Or.inr ⟨by rfl,rfl⟩) ?_ ?_;rotate_left
        ·exact ux_
        refine pure_ (i:=15) (N:=some 28) (v:=undef) (a':=?_) #[true,true,true,true,true,true,true,true,true,true,true,true,true,true,true,true,false,false,false,false,false,false,false,false,false,false,false,false,false,false,false,false,false,false,false] rfl rfl (any_of HT_.out (by kernel_rfl)) (fun _ _ _ h => h) (Or.inr ⟨by rfl,rfl⟩) ?_ ?_;rotate_left
        ·exact ux_
        refine pure_ (i:=16) (N:=some 29) (v:=undef) (a':=?_) #[true,true,true,true,true,true,true,true,true,true,true,true,true,true,true,true,true,false,false,false,false,false,false,false,false,false,false,false,false,false,false,false,false,false,false] rfl rfl (any_of HT_.out (by kernel_rfl)) (fun _ _ _ h => h) (Or.inr ⟨by rfl,rfl⟩) ?_ ?_;rotate_left
        ·exact ux_
        refine pure_ (i:=17) (N:=some 30) (v:=undef) (a':=?_) #[true,true,true,true,true,true,true,true,true,true,true,true,true,true,true,true,true,true,false,false,false,false,false,false,false,false,false,false,false,false,false,false,false,false,false] rfl rfl (any_of HT_.out (by kernel_rfl)) (fun _ _ _ h => h) (Or.inr ⟨by rfl,rfl⟩) ?_ ?_;rotate_left
        ·exact ux_
        refine pU_ 18 (some 31) ?_
        refine pU_ 19 (some 32) ?_
        refine pure_ (i:=20) (N:=some 33) (v:=undef) (a':=?_) #[true,true,true,true,true,true,true,true,true,true,true,true,true,true,true,true,true,true,true,true,true,false,false,false,false,false,false,false,false,false,false,false,false,false,false] rfl rfl (any_of HT_.out (by kernel_rfl)) (fun _ _ _ h => h) (Or.inr ⟨by rfl,rfl⟩) ?_ ?_;rotate_left
        ·exact ux_
        refine pure_ (i:=21) (N:=some 34) (v:=undef) (a':=?_) #[true,true,true,true,true,true,true,true,true,true,true,true,true,true,true,true,true,true,true,true,true,true,false,false,false,false,false,false,false,false,false,false,false,false,false] rfl rfl (any_of HT_.out (by kernel_rfl)) (fun _ _ _ h => h) (Or.inr ⟨by rfl,rfl⟩) ?_ ?_;rotate_left
        ·exact ux_
        refine pure_ (i:=22) (N:=some 35) (v:=undef) (a':=?_) #[true,true,true,true,true,true,true,true,true,true,true,true,true,true,true,true,true,true,true,true,true,true,true,false,false,false,false,false,false,false,false,false,false,false,false] rfl rfl (any_of HT_.out (by kernel_rfl)) (fun _ _ _ h => h) (Or.inr ⟨by rfl,rfl⟩) ?_ ?_;rotate_left
        ·exact ux_
        refine pure_ (i:=23) (N:=some 36) (v:=undef) (a':=?_) #[true,true,true,true,true,true,true,true,true,true,true,true,true,true,true,true,true,true,true,true,true,true,true,true,false,false,false,false,false,false,false,false,false,false,false] rfl rfl (any_of HT_.out (by kernel_rfl)) (fun _ _ _ h => h) (Or.inr ⟨by rfl,rfl⟩) ?_ ?_;rotate_left
        ·exact ux_
        refine pure_ (i:=24) (N:=some 37) (v:=undef) (a':=?_) #[true,true,true,true,true,true,true,true,true,true,true,true,true,true,true,true,true,true,true,true,true,true,true,true,true,false,false,false,false,false,false,false,false,false,false] rfl rfl (any_of HT_.out (by kernel_rfl)) (fun _ _ _ h => h) (Or.inr ⟨by rfl,rfl⟩) ?_ ?_;rotate_left
        ·exact ux_
        refine pure_ (i:=25) (N:=some 38) (v:=undef) (a':=?_) #[true,true,true,true,true,true,true,true,true,true,true,true,true,true,true,true,true,true,true,true,true,true,true,true,true,true,false,false,false,false,false,false,false,false,false] rfl rfl (any_of HT_.out (by kernel_rfl)) (fun _ _ _ h => h) (Or.inr ⟨by rfl,rfl⟩) ?_ ?_;rotate_left
        ·exact ux_
        refine pure_ (i:=26) (N:=some 39) (v:=undef) (a':=?_) #[true,true,true,true,true,true,true,true,true,true,true,true,true,true,true,true,true,true,true,true,true,true,true,true,true,true,true,false,false,false,false,false,false,false,false] rfl rfl (any_of HT_.out (by kernel_rfl)) (fun _ _ _ h => h) (Or.inr ⟨by rfl,rfl⟩) ?_ ?_;rotate_left
        ·exact ux_
        refine pure_ (i:=27) (N:=some 40) (v:=undef) (a':=?_) #[true,true,true,true,true,true,true,true,true,true,true,true,true,true,true,true,true,true,true,true,true,true,true,true,true,true,true,true,false,false,false,false,false,false,false] rfl rfl (any_of HT_.out (by kernel_rfl)) (fun _ _ _ h => h) (Or.inr ⟨by rfl,rfl⟩) ?_ ?_;rotate_left
        ·exact ux_
        refine pure_ (i:=28) (N:=some 41) (v:=undef) (a':=?_) #[true,true,true,true,true,true,true,true,true,true,true,true,true,true,true,true,true,true,true,true,true,true,true,true,true,true,true,true,true,false,false,false,false,false,false] rfl rfl (any_of HT_.out (by kernel_rfl)) (fun _ _ _ h => h) (Or.inr ⟨by rfl,rfl⟩) ?_ ?_;rotate_left
        ·exact ux_
        refine pure_ (i:=29) (N:=some 42) (v:=undef) (a':=?_) #[true,true,true,true,true,true,true,true,true,true,true,true,true,true,true,true,true,true,true,true,true,true,true,true,true,true,true,true,true,true,false,false,false,false,false] rfl rfl (any_of HT_.out (by kernel_rfl)) (fun _ _ _ h => h) (Or.inr ⟨by rfl,rfl⟩) ?_ ?_;rotate_left
        ·exact ux_
        refine pure_ (i:=30) (N:=some 43) (v:=undef) (a':=?_) #[true,true,true,true,true,true,true,true,true,true,true,true,true,true,true,true,true,true,true,true,true,true,true,true,true,true,true,true,true,true,true,false,false,false,false] rfl rfl (any_of HT_.out (by kernel_rfl)) (fun _ _ _ h => h) (Or.inr ⟨by rfl,rfl⟩) ?_ ?_;rotate_left
        ·exact ux_
        refine pure_ (i:=31) (N:=some 44) (v:=undef) (a':=?_) #[true,true,true,true,true,true,true,true,true,true,true,true,true,true,true,true,true,true,true,true,true,true,true,true,true,true,true,true,true,true,true,true,false,false,false] rfl rfl (any_of HT_.out (by kernel_rfl)) (fun _ _ _ h => h) (Or.inr ⟨by rfl,rfl⟩) ?_ ?_;rotate_left
        ·exact ux_
        refine pure_ (i:=32) (N:=some 45) (v:=undef) (a':=?_) #[true,true,true,true,true,true,true,true,true,true,true,true,true,true,true,true,true,true,true,true,true,true,true,true,true,true,true,true,true,true,true,true,true,false,false] rfl rfl (any_of HT_.out (by kernel_rfl)) (fun _ _ _ h => h) (Or.inr ⟨by rfl,rfl⟩) ?_ ?_;rotate_left
        ·exact ux_
        refine pure_ (i:=33) (N:=some 46) (v:=undef) (a':=?_) #[true,true,true,true,true,true,true,true,true,true,true,true,true,true,true,true,true,true,true,true,true,true,true,true,true,true,true,true,true,true,true,true,true,true,false] rfl rfl (any_of HT_.out (by kernel_rfl)) (fun _ _ _ h => h) (Or.inr ⟨by rfl,rfl⟩) ?_ ?_;rotate_left
        ·exact ux_
        refine pU_ 34 (some 47) ?_
        refine done_ (done_of HT_.out (by kernel_rfl)) ?_
        try go_wp2
        go_ret;exact ⟨ex_,bq_ HB⟩
       ·rw [if_neg c9] at H;have c9b0 : decide (40 < (((rd_T85 l0_1 x8_1).f1).size : Int)) = false:=decide_eq_false c9;have c9b1 : decide (40 < ((rd_T85 l0_1 x8_1).f1).size) = false:=decide_eq_false (by omega);clear c9;obtain ⟨bq15,hbq15⟩ : ∃ b_ : Bool,b_ = ((rd_T85 l0_1 x8_1).f2):=⟨_,rfl⟩
        replace H : (if bq15 = true then (if ((rd_T85 l0_1 x8_1).f1).toList = ([] : List UInt8) then (if x8_1 > 0 then (if 0 ≤ (wrap64 (x8_1 - 1)) then (if (wrap64 (x8_1 - 1)) < (l0_1.length : Int) then (if ((Op.bytesLess (((rd_T85 l0_1 (wrap64 (x8_1 - 1))).f0).toList) (((rd_T85 l0_1 x8_1).f0).toList)) = true) then (impl_BatchOk.l0 k1 l0_1 (l0_1.length : Int) (wrap64 (x8_1 + 1)) a0_0 l0_1) else (some false)) else (none)) else (none)) else (impl_BatchOk.l0 k1 l0_1 (l0_1.length : Int) (wrap64 (x8_1 + 1)) a0_0 l0_1)) else (some false)) else (if x8_1 > 0 then (if 0 ≤ (wrap64 (x8_1 - 1)) then (if (wrap64 (x8_1 - 1)) < (l0_1.length : Int) then (if ((Op.bytesLess (((rd_T85 l0_1 (wrap64 (x8_1 - 1))).f0).toList) (((rd_T85 l0_1 x8_1).f0).toList)) = true) then (impl_BatchOk.l0 k1 l0_1 (l0_1.length : Int) (wrap64 (x8_1 + 1)) a0_0 l0_1) else (some false)) else (none)) else (none)) else (impl_BatchOk.l0 k1 l0_1 (l0_1.length : Int) (wrap64 (x8_1 + 1)) a0_0 l0_1))) = some r:=by rw [← hbq15] at H;exact H
        have Nbq15:=A_ hbq15;clear hbq15
        by_cases c16 : bq15 = true
        ·subst c16
         rw [if_pos rfl] at H
         by_cases c17 : ((rd_T85 l0_1 x8_1).f1).toList = ([] : List UInt8)
         ·rw [if_pos c17] at H;have c17b0 : (((rd_T85 l0_1 x8_1).f1).toList == ([] : List UInt8)) = true:=beq_iff_eq.mpr c17;have c17b1 : (((rd_T85 l0_1 x8_1).f1).toList != ([] : List UInt8)) = false:=bne_eq_false_iff_eq.mpr c17;clear c17
          by_cases c18 : x8_1 > 0
          ·rw [if_pos c18] at H;have c18b0 : decide (0 < x8_1) = true:=de_ c18;clear c18;obtain ⟨ji19,hji19⟩ : ∃ j_ : Int,(wrap64 (x8_1 - 1)) = j_:=⟨_,rfl⟩
           replace H : (if 0 ≤ (ji19) then (if (ji19) < (l0_1.length : Int) then (if ((Op.bytesLess (((rd_T85 l0_1 (ji19)).f0).toList) (((rd_T85 l0_1 x8_1).f0).toList)) = true) then (impl_BatchOk.l0 k1 l0_1 (l0_1.length : Int) (wrap64 (x8_1 + 1)) a0_0 l0_1) else (some false)) else (none)) else (none)) = some r:=by first|(rw [hji19] at H;exact H)|(simp only [hji19] at H ⊢;exact H)
           (try rw [hji19] at A7)
           have hji19w : (IntKind.i64.wrap (x8_1 - 1)) = ji19:=(i64_w _).trans hji19
           by_cases c20 : 0 ≤ (ji19)
           ·rw [if_pos c20] at H;have c20b0 : decide (0 ≤ (ji19)) = true:=de_ c20;clear c20
            by_cases c21 : (ji19) < (l0_1.length : Int)
            ·rw [if_pos c21] at H;have c21b0 : decide ((ji19) < (l0_1.length : Int)) = true:=de_ c21;clear c21
             by_cases c22 : ((Op.bytesLess (((rd_T85 l0_1 (ji19)).f0).toList) (((rd_T85 l0_1 x8_1).f0).toList)) = true)
             ·rw [if_pos c22] at H;have c22b0 : (Op.bytesLess (((rd_T85 l0_1 (ji19)).f0).toList) (((rd_T85 l0_1 x8_1).f0).toList)) = true:=c22;clear c22;have H':=A_ H;clear H;have p280 : 0 ≤ (x8_1 : Int):=oda_;have q280 : x8_1 < (l0_1.length : Int):=oda_;obtain ⟨ad280,e280,hx280_0,hx280_1,hx280_2⟩:=at_T85 HR0_1.out x8_1 p280 q280
              (try rw [← Nbq15.out] at hx280_2)
              cases e280
              replace hx280_0:=(HB.out.cell (wb_ w _ hx280_0)).trans hx280_0;replace hx280_1:=(HB.out.cell (wb_ w _ hx280_1)).trans hx280_1;replace hx280_2:=(HB.out.cell (wb_ w _ hx280_2)).trans hx280_2;replace p280:=eq_true p280;replace q280:=eq_true q280
              try go_wp2_with (first|((with_reducible refine gate_dst (N:=4) rfl ?_);(try (refine gate_guard (by rfl) ?_;dsimp only));refine bE_ 4 #[.string (⟨#[]⟩ : ByteArray),.string (⟨#[]⟩ : ByteArray),.bool false] 85 ?_;intro gb281 hg w23 hbox hb;have BK281:=A_ (hbox);have GW281:=gE_ hg HB;have GE281:=gE_ hg HB;replace HB:=bS_ HB hb;have NB279_281:=nB_ hg BK279;have NB281_279:=nC_ hg BK279;replace BK279:=kB_ BK279 hb;clear hb hbox hg;have hnb24:=NB281_279.out;have hnc24:=NB279_281.out;obtain ⟨hcz25_0,hcz25_1,hcz25_2,hfz25_0,hfz25_1,hfz25_2⟩:=k3f_ BK281))
              have n0_ : Aside0 ((((w23.setCell ⟨gb281,0,none⟩ (.string ((rd_T85 l0_1 x8_1).f0))).setCell ⟨gb281,1,none⟩ (.string ((rd_T85 l0_1 x8_1).f1))).setCell ⟨gb281,2,none⟩ (.bool true)).heap[gb279]? = some (.cells #[.int .i64 a0_0,.slice (some ad280) l0_1.length c0_1] 79 (0,0))):=⟨kz_ BK279⟩;have n1_ : Aside0 ((((w23.setCell ⟨gb281,0,none⟩ (.string ((rd_T85 l0_1 x8_1).f0))).setCell ⟨gb281,1,none⟩ (.string ((rd_T85 l0_1 x8_1).f1))).setCell ⟨gb281,2,none⟩ (.bool true)).heap[gb281]? = some (.cells #[.string ((rd_T85 l0_1 x8_1).f0),.string ((rd_T85 l0_1 x8_1).f1),.bool true] 85 (0,0))):=⟨kz_ BK281⟩;have n2_ : Aside0 (Below w.heap.size w (((w23.setCell ⟨gb281,0,none⟩ (.string ((rd_T85 l0_1 x8_1).f0))).setCell ⟨gb281,1,none⟩ (.string ((rd_T85 l0_1 x8_1).f1))).setCell ⟨gb281,2,none⟩ (.bool true))):=⟨bq_ HB⟩
              (try clear BK279)
              (try clear BK281)
              (try clear HB)
              generalize (((w23.setCell ⟨gb281,0,none⟩ (.string ((rd_T85 l0_1 x8_1).f0))).setCell ⟨gb281,1,none⟩ (.string ((rd_T85 l0_1 x8_1).f1))).setCell ⟨gb281,2,none⟩ (.bool true)) = w26 at n0_ n1_ n2_ ⊢;have BK279:=n0_;have BK281:=n1_;have HB:=n2_;clear n0_ n1_ n2_;replace BK279:=A_ (kd_ BK279.out);replace BK281:=A_ (kd_ BK281.out);replace HB:=A_ (pd_ HB.out);have p283 : 0 ≤ ((ji19) : Int):=oda_;have q283 : (ji19) < (l0_1.length : Int):=oda_;obtain ⟨ad283,e283,hx283_0,hx283_1,hx283_2⟩:=at_T85 HR0_1.out (ji19) p283 q283;have hw283_2:=hx283_2;have hw283_1:=hx283_1;have hw283_0:=hx283_0
              (try rw [← Nbq15.out] at hx283_2)
              obtain rfl : ad280 = ad283:=(by injection e283);replace hx283_0:=(HB.out.cell (wb_ w _ hx283_0)).trans hx283_0;replace hx283_1:=(HB.out.cell (wb_ w _ hx283_1)).trans hx283_1;replace hx283_2:=(HB.out.cell (wb_ w _ hx283_2)).trans hx283_2;replace p283:=eq_true p283;replace q283:=eq_true q283;refine start_ (n:=35) (S:=fun w' => w'.cell? ⟨gb281,0,none⟩ = some (.string ((rd_T85 l0_1 x8_1).f0)) ∧ w'.cell? ⟨gb281,1,none⟩ = some (.string ((rd_T85 l0_1 x8_1).f1)) ∧ w'.cell? ⟨gb281,2,none⟩ = some (.bool true) ∧ w'.cell? ⟨gb279,0,none⟩ = some (.int .i64 a0_0) ∧ w'.cell? ⟨gb279,1,none⟩ = some (.slice (some ad280) l0_1.length c0_1) ∧ w'.cell? (ad280.add (((ji19)).toNat * 3)) = some (.string ((rd_T85 l0_1 (ji19)).f0)) ∧ w'.cell? ⟨(ad280.add (((ji19)).toNat * 3)).block,(ad280.add (((ji19)).toNat * 3)).off + 1,none⟩ = some (.string ((rd_T85 l0_1 (ji19)).f1)) ∧ w'.cell? ⟨(ad280.add (((ji19)).toNat * 3)).block,(ad280.add (((ji19)).toNat * 3)).off + 2,none⟩ = some (.bool ((rd_T85 l0_1 (ji19)).f2))) (ds:=[]) #[false,false,false,false,false,false,false,false,false,false,false,false,false,false,false,false,false,false,false,false,false,false,false,false,false,false,false,false,false,false,false,false,false,false,false] (by kernel_rfl) rfl rfl ⟨kC_ BK281 0,kC_ BK281 1,kC_ BK281 2,kC_ BK279 0,kC_ BK279 1,((HB.out.cell (wb_ w _ hw283_0)).trans hw283_0),((HB.out.cell (wb_ w _ hw283_1)).trans hw283_1),((HB.out.cell (wb_ w _ hw283_2)).trans hw283_2)⟩ (fun hHeld => ?_);refine with_tabW impl_BatchOk.tab4 impl_BatchOk.bits4 (fun HT_ HW_ => ?_);generalize w26.drew = w27 at BK279 BK281 HB hx283_0 hx283_1 hx283_2 hHeld ⊢;refine pU_ 0 (some 13) ?_
              refine tK_ 1 (some 14) hHeld ?_
              refine oN_ 2 (some 15) (fun K hK => ?_);refine gs_ Try.func139 #[.string ((rd_T85 l0_1 x8_1).f0)] ?_;with_reducible refine (impl_keyOk.calls ((rd_T85 l0_1 x8_1).f0) true _ A7.out).mono ?_;rintro e w' ⟨rfl,⟨nd,rfl⟩⟩;refine ⟨_,rfl,?_⟩;have BK281d_:=A_ (kn_ BK281.out nd);have BK279d_:=A_ (kn_ BK279.out nd);have HBd_:=A_ (pn_ HB.out nd);refine hK.out _ _ ⟨kC_ BK281d_ 0,kC_ BK281d_ 1,kC_ BK281d_ 2,kC_ BK279d_ 0,kC_ BK279d_ 1,((HBd_.out.cell (wb_ w _ hw283_0)).trans hw283_0),((HBd_.out.cell (wb_ w _ hw283_1)).trans hw283_1),((HBd_.out.cell (wb_ w _ hw283_2)).trans hw283_2)⟩ (fun hHeld => ?_);clear hK K;refine nX_ (some 15) ?_
              refine pU_ 3 (some 16) ?_
              refine pU_ 4 (some 17) ?_
              refine pU_ 5 (some 18) ?_
              refine tK_ 6 (some 19) hHeld ?_
              refine pU_ 7 (some 20) ?_
              refine pU_ 8 (some 21) ?_
              refine pU_ 9 (some 22) ?_
              refine pU_ 10 (some 23) ?_
              refine pU_ 11 (some 24) ?_
              refine tK_ 12 (some 25) hHeld ?_
              refine pU_ 13 (some 26) ?_
              refine pU_ 14 (some 27) ?_
              refine tK_ 15 (some 28) hHeld ?_
              refine pU_ 16 (some 29) ?_
              refine pU_ 17 (some 30) ?_
              refine pU_ 18 (some 31) ?_
              refine pU_ 19 (some 32) ?_
              refine pU_ 20 (some 33) ?_
              refine pU_ 21 (some 34) ?_
              refine pU_ 22 (some 35) ?_
              refine pU_ 23 (some 36) ?_
              refine pU_ 25 (some 38) ?_
              refine pU_ 26 (some 39) ?_
              refine pU_ 30 (some 43) ?_
              refine tK_ 24 (some 37) hHeld ?_
              refine pU_ 27 (some 40) ?_
              refine pU_ 28 (some 41) ?_
              refine tK_ 29 (some 42) hHeld ?_
              refine tK_ 31 (some 44) hHeld ?_
              refine pU_ 32 (some 45) ?_
              refine pU_ 33 (some 46) ?_
              refine pU_ 34 (some 47) ?_
              refine done_ (done_of HT_.out (by kernel_rfl)) ?_
              try go_wp2
              go_roundg k1
              case measure => have:=HK1.out;omega
              case rel => exact ⟨(wrap64 (x8_1 + 1)),(by first|rfl|(simp;done)|(simp [*];done)),H',⟨by have:=HK1.out;omega⟩,⟨kq_ BK279⟩,⟨bq_ HB⟩⟩
             ·rw [if_neg c22] at H
              have c22b0 : (Op.bytesLess (((rd_T85 l0_1 (ji19)).f0).toList) (((rd_T85 l0_1 x8_1).f0).toList)) = false:=by simpa using c22
              clear c22;obtain rfl:=Option.some.inj H;have p280 : 0 ≤ (x8_1 : Int):=oda_;have q280 : x8_1 < (l0_1.length : Int):=oda_;obtain ⟨ad280,e280,hx280_0,hx280_1,hx280_2⟩:=at_T85 HR0_1.out x8_1 p280 q280
              (try rw [← Nbq15.out] at hx280_2)
              cases e280
              replace hx280_0:=(HB.out.cell (wb_ w _ hx280_0)).trans hx280_0;replace hx280_1:=(HB.out.cell (wb_ w _ hx280_1)).trans hx280_1;replace hx280_2:=(HB.out.cell (wb_ w _ hx280_2)).trans hx280_2;replace p280:=eq_true p280;replace q280:=eq_true q280
              try go_wp2_with (first|((with_reducible refine gate_dst (N:=4) rfl ?_);(try (refine gate_guard (by rfl) ?_;dsimp only));refine bE_ 4 #[.string (⟨#[]⟩ : ByteArray),.string (⟨#[]⟩ : ByteArray),.bool false] 85 ?_;intro gb281 hg w28 hbox hb;have BK281:=A_ (hbox);have GW281:=gE_ hg HB;have GE281:=gE_ hg HB;replace HB:=bS_ HB hb;have NB279_281:=nB_ hg BK279;have NB281_279:=nC_ hg BK279;replace BK279:=kB_ BK279 hb;clear hb hbox hg;have hnb29:=NB281_279.out;have hnc29:=NB279_281.out;obtain ⟨hcz30_0,hcz30_1,hcz30_2,hfz30_0,hfz30_1,hfz30_2⟩:=k3f_ BK281))
              have n0_ : Aside0 ((((w28.setCell ⟨gb281,0,none⟩ (.string ((rd_T85 l0_1 x8_1).f0))).setCell ⟨gb281,1,none⟩ (.string ((rd_T85 l0_1 x8_1).f1))).setCell ⟨gb281,2,none⟩ (.bool true)).heap[gb279]? = some (.cells #[.int .i64 a0_0,.slice (some ad280) l0_1.length c0_1] 79 (0,0))):=⟨kz_ BK279⟩;have n1_ : Aside0 ((((w28.setCell ⟨gb281,0,none⟩ (.string ((rd_T85 l0_1 x8_1).f0))).setCell ⟨gb281,1,none⟩ (.string ((rd_T85 l0_1 x8_1).f1))).setCell ⟨gb281,2,none⟩ (.bool true)).heap[gb281]? = some (.cells #[.string ((rd_T85 l0_1 x8_1).f0),.string ((rd_T85 l0_1 x8_1).f1),.bool true] 85 (0,0))):=⟨kz_ BK281⟩;have n2_ : Aside0 (Below w.heap.size w (((w28.setCell ⟨gb281,0,none⟩ (.string ((rd_T85 l0_1 x8_1).f0))).setCell ⟨gb281,1,none⟩ (.string ((rd_T85 l0_1 x8_1).f1))).setCell ⟨gb281,2,none⟩ (.bool true))):=⟨bq_ HB⟩
              (try clear BK279)
              (try clear BK281)
              (try clear HB)
              generalize (((w28.setCell ⟨gb281,0,none⟩ (.string ((rd_T85 l0_1 x8_1).f0))).setCell ⟨gb281,1,none⟩ (.string ((rd_T85 l0_1 x8_1).f1))).setCell ⟨gb281,2,none⟩ (.bool true)) = w31 at n0_ n1_ n2_ ⊢;have BK279:=n0_;have BK281:=n1_;have HB:=n2_;clear n0_ n1_ n2_;replace BK279:=A_ (kd_ BK279.out);replace BK281:=A_ (kd_ BK281.out);replace HB:=A_ (pd_ HB.out);have p283 : 0 ≤ ((ji19) : Int):=oda_;have q283 : (ji19) < (l0_1.length : Int):=oda_;obtain ⟨ad283,e283,hx283_0,hx283_1,hx283_2⟩:=at_T85 HR0_1.out (ji19) p283 q283;have hw283_2:=hx283_2;have hw283_1:=hx283_1;have hw283_0:=hx283_0
              (try rw [← Nbq15.out] at hx283_2)
              obtain rfl : ad280 = ad283:=(by injection e283);replace hx283_0:=(HB.out.cell (wb_ w _ hx283_0)).trans hx283_0;replace hx283_1:=(HB.out.cell (wb_ w _ hx283_1)).trans hx283_1;replace hx283_2:=(HB.out.cell (wb_ w _ hx283_2)).trans hx283_2;replace p283:=eq_true p283;replace q283:=eq_true q283;refine start_ (n:=35) (S:=fun w' => w'.cell? ⟨gb281,0,none⟩ = some (.string ((rd_T85 l0_1 x8_1).f0)) ∧ w'.cell? ⟨gb281,1,none⟩ = some (.string ((rd_T85 l0_1 x8_1).f1)) ∧ w'.cell? ⟨gb281,2,none⟩ = some (.bool true) ∧ w'.cell? ⟨gb279,0,none⟩ = some (.int .i64 a0_0) ∧ w'.cell? ⟨gb279,1,none⟩ = some (.slice (some ad280) l0_1.length c0_1) ∧ w'.cell? (ad280.add (((ji19)).toNat * 3)) = some (.string ((rd_T85 l0_1 (ji19)).f0)) ∧ w'.cell? ⟨(ad280.add (((ji19)).toNat * 3)).block,(ad280.add (((ji19)).toNat * 3)).off + 1,none⟩ = some (.string ((rd_T85 l0_1 (ji19)).f1)) ∧ w'.cell? ⟨(ad280.add (((ji19)).toNat * 3)).block,(ad280.add (((ji19)).toNat * 3)).off + 2,none⟩ = some (.bool ((rd_T85 l0_1 (ji19)).f2))) (ds:=[]) #[false,false,false,false,false,false,false,false,false,false,false,false,false,false,false,false,false,false,false,false,false,false,false,false,false,false,false,false,false,false,false,false,false,false,false] (by kernel_rfl) rfl rfl ⟨kC_ BK281 0,kC_ BK281 1,kC_ BK281 2,kC_ BK279 0,kC_ BK279 1,((HB.out.cell (wb_ w _ hw283_0)).trans hw283_0),((HB.out.cell (wb_ w _ hw283_1)).trans hw283_1),((HB.out.cell (wb_ w _ hw283_2)).trans hw283_2)⟩ (fun hHeld => ?_);refine with_tabW impl_BatchOk.tab4 impl_BatchOk.bits4 (fun HT_ HW_ => ?_);generalize w31.drew = w32 at BK279 BK281 HB hx283_0 hx283_1 hx283_2 hHeld ⊢;refine pU_ 0 (some 13) ?_
              refine tK_ 1 (some 14) hHeld ?_
              refine oN_ 2 (some 15) (fun K hK => ?_);refine gs_ Try.func139 #[.string ((rd_T85 l0_1 x8_1).f0)] ?_;with_reducible refine (impl_keyOk.calls ((rd_T85 l0_1 x8_1).f0) true _ A7.out).mono ?_;rintro e w' ⟨rfl,⟨nd,rfl⟩⟩;refine ⟨_,rfl,?_⟩;have BK281d_:=A_ (kn_ BK281.out nd);have BK279d_:=A_ (kn_ BK279.out nd);have HBd_:=A_ (pn_ HB.out nd);refine hK.out _ _ ⟨kC_ BK281d_ 0,kC_ BK281d_ 1,kC_ BK281d_ 2,kC_ BK279d_ 0,kC_ BK279d_ 1,((HBd_.out.cell (wb_ w _ hw283_0)).trans hw283_0),((HBd_.out.cell (wb_ w _ hw283_1)).trans hw283_1),((HBd_.out.cell (wb_ w _ hw283_2)).trans hw283_2)⟩ (fun hHeld => ?_);clear hK K;refine nX_ (some 15) ?_
              refine pU_ 3 (some 16) ?_
              refine pU_ 4 (some 17) ?_
              refine pU_ 5 (some 18) ?_
              refine tK_ 6 (some 19) hHeld ?_
              refine pU_ 7 (some 20) ?_
              refine pU_ 8 (some 21) ?_
              refine pU_ 9 (some 22) ?_
              refine pU_ 10 (some 23) ?_
              refine pU_ 11 (some 24) ?_
              refine tK_ 12 (some 25) hHeld ?_
              refine pU_ 13 (some 26) ?_
              refine pU_ 14 (some 27) ?_
              refine tK_ 15 (some 28) hHeld ?_
              refine pU_ 16 (some 29) ?_
              refine pU_ 17 (some 30) ?_
              refine pU_ 18 (some 31) ?_
              refine pU_ 19 (some 32) ?_
              refine pU_ 20 (some 33) ?_
              refine pU_ 21 (some 34) ?_
              refine pU_ 22 (some 35) ?_
              refine pU_ 23 (some 36) ?_
              refine pU_ 25 (some 38) ?_
              refine pU_ 26 (some 39) ?_
              refine pU_ 30 (some 43) ?_
              refine tK_ 24 (some 37) hHeld ?_
              refine pU_ 27 (some 40) ?_
              refine pU_ 28 (some 41) ?_
              refine tK_ 29 (some 42) hHeld ?_
              refine tK_ 31 (some 44) hHeld ?_
              refine pU_ 32 (some 45) ?_
              refine pU_ 33 (some 46) ?_
              refine pU_ 34 (some 47) ?_
              refine done_ (done_of HT_.out (by kernel_rfl)) ?_
              try go_wp2
              go_ret;exact ⟨by first|rfl|(simp [errW_none,errW_some] <;> rfl)|(simp only [← hji19];first|rfl|(simp [errW_none,errW_some] <;> rfl))|(simp [*,errW_none,errW_some] <;> rfl),bq_ HB⟩
            ·rw [if_neg c21] at H;exact absurd H (by simp)
           ·rw [if_neg c20] at H;exact absurd H (by simp)
          ·rw [if_neg c18] at H;have c18b0 : decide (0 < x8_1) = false:=decide_eq_false c18;clear c18;have H':=A_ H;clear H;have p280 : 0 ≤ (x8_1 : Int):=oda_;have q280 : x8_1 < (l0_1.length : Int):=oda_;obtain ⟨ad280,e280,hx280_0,hx280_1,hx280_2⟩:=at_T85 HR0_1.out x8_1 p280 q280
           (try rw [← Nbq15.out] at hx280_2)
           cases e280
           replace hx280_0:=(HB.out.cell (wb_ w _ hx280_0)).trans hx280_0;replace hx280_1:=(HB.out.cell (wb_ w _ hx280_1)).trans hx280_1;replace hx280_2:=(HB.out.cell (wb_ w _ hx280_2)).trans hx280_2;replace p280:=eq_true p280;replace q280:=eq_true q280
           try go_wp2_with (first|((with_reducible refine gate_dst (N:=4) rfl ?_);(try (refine gate_guard (by rfl) ?_;dsimp only));refine bE_ 4 #[.string (⟨#[]⟩ : ByteArray),.string (⟨#[]⟩ : ByteArray),.bool false] 85 ?_;intro gb281 hg w33 hbox hb;have BK281:=A_ (hbox);have GW281:=gE_ hg HB;have GE281:=gE_ hg HB;replace HB:=bS_ HB hb;have NB279_281:=nB_ hg BK279;have NB281_279:=nC_ hg BK279;replace BK279:=kB_ BK279 hb;clear hb hbox hg;have hnb34:=NB281_279.out;have hnc34:=NB279_281.out;obtain ⟨hcz35_0,hcz35_1,hcz35_2,hfz35_0,hfz35_1,hfz35_2⟩:=k3f_ BK281))
           have n0_ : Aside0 ((((w33.setCell ⟨gb281,0,none⟩ (.string ((rd_T85 l0_1 x8_1).f0))).setCell ⟨gb281,1,none⟩ (.string ((rd_T85 l0_1 x8_1).f1))).setCell ⟨gb281,2,none⟩ (.bool true)).heap[gb279]? = some (.cells #[.int .i64 a0_0,.slice (some ad280) l0_1.length c0_1] 79 (0,0))):=⟨kz_ BK279⟩;have n1_ : Aside0 ((((w33.setCell ⟨gb281,0,none⟩ (.string ((rd_T85 l0_1 x8_1).f0))).setCell ⟨gb281,1,none⟩ (.string ((rd_T85 l0_1 x8_1).f1))).setCell ⟨gb281,2,none⟩ (.bool true)).heap[gb281]? = some (.cells #[.string ((rd_T85 l0_1 x8_1).f0),.string ((rd_T85 l0_1 x8_1).f1),.bool true] 85 (0,0))):=⟨kz_ BK281⟩;have n2_ : Aside0 (Below w.heap.size w (((w33.setCell ⟨gb281,0,none⟩ (.string ((rd_T85 l0_1 x8_1).f0))).setCell ⟨gb281,1,none⟩ (.string ((rd_T85 l0_1 x8_1).f1))).setCell ⟨gb281,2,none⟩ (.bool true))):=⟨bq_ HB⟩
           (try clear BK279)
           (try clear BK281)
           (try clear HB)
           generalize (((w33.setCell ⟨gb281,0,none⟩ (.string ((rd_T85 l0_1 x8_1).f0))).setCell ⟨gb281,1,none⟩ (.string ((rd_T85 l0_1 x8_1).f1))).setCell ⟨gb281,2,none⟩ (.bool true)) = w36 at n0_ n1_ n2_ ⊢;have BK279:=n0_;have BK281:=n1_;have HB:=n2_;clear n0_ n1_ n2_;replace BK279:=A_ (kd_ BK279.out);replace BK281:=A_ (kd_ BK281.out);replace HB:=A_ (pd_ HB.out);refine start_ (n:=35) (S:=fun w' => w'.cell? ⟨gb281,0,none⟩ = some (.string ((rd_T85 l0_1 x8_1).f0)) ∧ w'.cell? ⟨gb281,1,none⟩ = some (.string ((rd_T85 l0_1 x8_1).f1)) ∧ w'.cell? ⟨gb281,2,none⟩ = some (.bool true)) (ds:=[]) #[false,false,false,false,false,false,false,false,false,false,false,false,false,false,false,false,false,false,false,false,false,false,false,false,false,false,false,false,false,false,false,false,false,false,false] (by kernel_rfl) rfl rfl ⟨kC_ BK281 0,kC_ BK281 1,kC_ BK281 2⟩ (fun hHeld => ?_);refine with_tabW impl_BatchOk.tab4 impl_BatchOk.bits4 (fun HT_ HW_ => ?_);generalize w36.drew = w37 at BK279 BK281 HB hHeld ⊢;refine pU_ 0 (some 13) ?_
           refine tK_ 1 (some 14) hHeld ?_
           refine oN_ 2 (some 15) (fun K hK => ?_);refine gs_ Try.func139 #[.string ((rd_T85 l0_1 x8_1).f0)] ?_;with_reducible refine (impl_keyOk.calls ((rd_T85 l0_1 x8_1).f0) true _ A7.out).mono ?_;rintro e w' ⟨rfl,⟨nd,rfl⟩⟩;refine ⟨_,rfl,?_⟩;have BK281d_:=A_ (kn_ BK281.out nd);have HBd_:=A_ (pn_ HB.out nd);refine hK.out _ _ ⟨kC_ BK281d_ 0,kC_ BK281d_ 1,kC_ BK281d_ 2⟩ (fun hHeld => ?_);clear hK K;refine nX_ (some 15) ?_
           refine pU_ 3 (some 16) ?_
           refine pU_ 4 (some 17) ?_
           refine pU_ 5 (some 18) ?_
           refine tK_ 6 (some 19) hHeld ?_
           refine pU_ 7 (some 20) ?_
           refine pU_ 8 (some 21) ?_
           refine pU_ 9 (some 22) ?_
           refine pU_ 10 (some 23) ?_
           refine pU_ 11 (some 24) ?_
           refine tK_ 12 (some 25) hHeld ?_
           refine pU_ 13 (some 26) ?_
           refine pU_ 14 (some 27) ?_
           refine tK_ 15 (some 28) hHeld ?_
           refine pU_ 16 (some 29) ?_
           refine pU_ 17 (some 30) ?_
           refine pU_ 18 (some 31) ?_
           refine pU_ 19 (some 32) ?_
           refine pU_ 20 (some 33) ?_
           refine pU_ 21 (some 34) ?_
           refine pU_ 22 (some 35) ?_
           refine pure_ (i:=23) (N:=some 36) (v:=undef) (a':=?_) #[true,true,true,true,true,true,true,true,true,true,true,true,true,true,true,true,true,true,true,true,true,true,true,true,false,false,false,false,false,false,false,false,false,false,false] rfl rfl (any_of HT_.out (by kernel_rfl)) (fun _ _ _ h => h) (Or.inr ⟨by rfl,rfl⟩) ?_ ?_;rotate_left
           ·exact ux_
           refine pure_ (i:=24) (N:=some 37) (v:=undef) (a':=?_) #[true,true,true,true,true,true,true,true,true,true,true,true,true,true,true,true,true,true,true,true,true,true,true,true,true,false,false,false,false,false,false,false,false,false,false] rfl rfl (any_of HT_.out (by kernel_rfl)) (fun _ _ _ h => h) (Or.inr ⟨by rfl,rfl⟩) ?_ ?_;rotate_left
           ·exact ux_
           refine pure_ (i:=25) (N:=some 38) (v:=undef) (a':=?_) #[true,true,true,true,true,true,true,true,true,true,true,true,true,true,true,true,true,true,true,true,true,true,true,true,true,true,false,false,false,false,false,false,false,false,false] rfl rfl (any_of HT_.out (by kernel_rfl)) (fun _ _ _ h => h) (Or.inr ⟨by rfl,rfl⟩) ?_ ?_;rotate_left
           ·exact ux_
           refine pure_ (i:=26) (N:=some 39) (v:=undef) (a':=?_) #[true,true,true,true,true,true,true,true,true,true,true,true,true,true,true,true,true,true,true,true,true,true,true,true,true,true,true,false,false,false,false,false,false,false,false] rfl rfl (any_of HT_.out (by kernel_rfl)) (fun _ _ _ h => h) (Or.inr ⟨by rfl,rfl⟩) ?_ ?_;rotate_left
           ·exact ux_
           refine pure_ (i:=27) (N:=some 40) (v:=undef) (a':=?_) #[true,true,true,true,true,true,true,true,true,true,true,true,true,true,true,true,true,true,true,true,true,true,true,true,true,true,true,true,false,false,false,false,false,false,false] rfl rfl (any_of HT_.out (by kernel_rfl)) (fun _ _ _ h => h) (Or.inr ⟨by rfl,rfl⟩) ?_ ?_;rotate_left
           ·exact ux_
           refine pure_ (i:=28) (N:=some 41) (v:=undef) (a':=?_) #[true,true,true,true,true,true,true,true,true,true,true,true,true,true,true,true,true,true,true,true,true,true,true,true,true,true,true,true,true,false,false,false,false,false,false] rfl rfl (any_of HT_.out (by kernel_rfl)) (fun _ _ _ h => h) (Or.inr ⟨by rfl,rfl⟩) ?_ ?_;rotate_left
           ·exact ux_
           refine pure_ (i:=29) (N:=some 42) (v:=undef) (a':=?_) #[true,true,true,true,true,true,true,true,true,true,true,true,true,true,true,true,true,true,true,true,true,true,true,true,true,true,true,true,true,true,false,false,false,false,false] rfl rfl (any_of HT_.out (by kernel_rfl)) (fun _ _ _ h => h) (Or.inr ⟨by rfl,rfl⟩) ?_ ?_;rotate_left
           ·exact ux_
           refine pure_ (i:=30) (N:=some 43) (v:=undef) (a':=?_) #[true,true,true,true,true,true,true,true,true,true,true,true,true,true,true,true,true,true,true,true,true,true,true,true,true,true,true,true,true,true,true,false,false,false,false] rfl rfl (any_of HT_.out (by kernel_rfl)) (fun _ _ _ h => h) (Or.inr ⟨by rfl,rfl⟩) ?_ ?_;rotate_left
           ·exact ux_
           refine pure_ (i:=31) (N:=some 44) (v:=undef) (a':=?_) #[true,true,true,true,true,true,true,true,true,true,true,true,true,true,true,true,true,true,true,true,true,true,true,true,true,true,true,true,true,true,true,true,false,false,false] rfl rfl (any_of HT_.out (by kernel_rfl)) (fun _ _ _ h => h) (Or.inr ⟨by rfl,rfl⟩) ?_ ?_;rotate_left
           ·exact ux_
           refine pure_ (i:=32) (N:=some 45) (v:=undef) (a':=?_) #[true,true,true,true,true,true,true,true,true,true,true,true,true,true,true,true,true,true,true,true,true,true,true,true,true,true,true,true,true,true,true,true,true,false,false] rfl rfl (any_of HT_.out (by kernel_rfl)) (fun _ _ _ h => h) (Or.inr ⟨by rfl,rfl⟩) ?_ ?_;rotate_left
           ·exact ux_
           refine pU_ 33 (some 46) ?_
           refine pU_ 34 (some 47) ?_
           refine done_ (done_of HT_.out (by kernel_rfl)) ?_
           try go_wp2
           go_roundg k1
           case measure => have:=HK1.out;omega
           case rel => exact ⟨(wrap64 (x8_1 + 1)),(by first|rfl|(simp;done)|(simp [*];done)),H',⟨by have:=HK1.out;omega⟩,⟨kq_ BK279⟩,⟨bq_ HB⟩⟩
         ·rw [if_neg c17] at H;have c17b0 : (((rd_T85 l0_1 x8_1).f1).toList == ([] : List UInt8)) = false:=beq_eq_false_iff_ne.mpr c17;have c17b1 : (((rd_T85 l0_1 x8_1).f1).toList != ([] : List UInt8)) = true:=bne_iff_ne.mpr c17;obtain rfl:=Option.some.inj H;have p280 : 0 ≤ (x8_1 : Int):=oda_;have q280 : x8_1 < (l0_1.length : Int):=oda_;obtain ⟨ad280,e280,hx280_0,hx280_1,hx280_2⟩:=at_T85 HR0_1.out x8_1 p280 q280
          (try rw [← Nbq15.out] at hx280_2)
          cases e280
          replace hx280_0:=(HB.out.cell (wb_ w _ hx280_0)).trans hx280_0;replace hx280_1:=(HB.out.cell (wb_ w _ hx280_1)).trans hx280_1;replace hx280_2:=(HB.out.cell (wb_ w _ hx280_2)).trans hx280_2;replace p280:=eq_true p280;replace q280:=eq_true q280
          try go_wp2_with (first|((with_reducible refine gate_dst (N:=4) rfl ?_);(try (refine gate_guard (by rfl) ?_;dsimp only));refine bE_ 4 #[.string (⟨#[]⟩ : ByteArray),.string (⟨#[]⟩ : ByteArray),.bool false] 85 ?_;intro gb281 hg w38 hbox hb;have BK281:=A_ (hbox);have GW281:=gE_ hg HB;have GE281:=gE_ hg HB;replace HB:=bS_ HB hb;have NB279_281:=nB_ hg BK279;have NB281_279:=nC_ hg BK279;replace BK279:=kB_ BK279 hb;clear hb hbox hg;have hnb39:=NB281_279.out;have hnc39:=NB279_281.out;obtain ⟨hcz40_0,hcz40_1,hcz40_2,hfz40_0,hfz40_1,hfz40_2⟩:=k3f_ BK281))
          have n0_ : Aside0 ((((w38.setCell ⟨gb281,0,none⟩ (.string ((rd_T85 l0_1 x8_1).f0))).setCell ⟨gb281,1,none⟩ (.string ((rd_T85 l0_1 x8_1).f1))).setCell ⟨gb281,2,none⟩ (.bool true)).heap[gb279]? = some (.cells #[.int .i64 a0_0,.slice (some ad280) l0_1.length c0_1] 79 (0,0))):=⟨kz_ BK279⟩;have n1_ : Aside0 ((((w38.setCell ⟨gb281,0,none⟩ (.string ((rd_T85 l0_1 x8_1).f0))).setCell ⟨gb281,1,none⟩ (.string ((rd_T85 l0_1 x8_1).f1))).setCell ⟨gb281,2,none⟩ (.bool true)).heap[gb281]? = some (.cells #[.string ((rd_T85 l0_1 x8_1).f0),.string ((rd_T85 l0_1 x8_1).f1),.bool true] 85 (0,0))):=⟨kz_ BK281⟩;have n2_ : Aside0 (Below w.heap.size w (((w38.setCell ⟨gb281,0,none⟩ (.string ((rd_T85 l0_1 x8_1).f0))).setCell ⟨gb281,1,none⟩ (.string ((rd_T85 l0_1 x8_1).f1))).setCell ⟨gb281,2,none⟩ (.bool true))):=⟨bq_ HB⟩
          (try clear BK279)
          (try clear BK281)
          (try clear HB)
          generalize (((w38.setCell ⟨gb281,0,none⟩ (.string ((rd_T85 l0_1 x8_1).f0))).setCell ⟨gb281,1,none⟩ (.string ((rd_T85 l0_1 x8_1).f1))).setCell ⟨gb281,2,none⟩ (.bool true)) = w41 at n0_ n1_ n2_ ⊢;have BK279:=n0_;have BK281:=n1_;have HB:=n2_;clear n0_ n1_ n2_;replace BK279:=A_ (kd_ BK279.out);replace BK281:=A_ (kd_ BK281.out);replace HB:=A_ (pd_ HB.out);refine start_ (n:=35) (S:=fun w' => w'.cell? ⟨gb281,0,none⟩ = some (.string ((rd_T85 l0_1 x8_1).f0)) ∧ w'.cell? ⟨gb281,1,none⟩ = some (.string ((rd_T85 l0_1 x8_1).f1)) ∧ w'.cell? ⟨gb281,2,none⟩ = some (.bool true)) (ds:=[]) #[false,false,false,false,false,false,false,false,false,false,false,false,false,false,false,false,false,false,false,false,false,false,false,false,false,false,false,false,false,false,false,false,false,false,false] (by kernel_rfl) rfl rfl ⟨kC_ BK281 0,kC_ BK281 1,kC_ BK281 2⟩ (fun hHeld => ?_);refine with_tabW impl_BatchOk.tab4 impl_BatchOk.bits4 (fun HT_ HW_ => ?_);generalize w41.drew = w42 at BK279 BK281 HB hHeld ⊢;refine pU_ 0 (some 13) ?_
          refine tK_ 1 (some 14) hHeld ?_
          refine oN_ 2 (some 15) (fun K hK => ?_);refine gs_ Try.func139 #[.string ((rd_T85 l0_1 x8_1).f0)] ?_;with_reducible refine (impl_keyOk.calls ((rd_T85 l0_1 x8_1).f0) true _ A7.out).mono ?_;rintro e w' ⟨rfl,⟨nd,rfl⟩⟩;refine ⟨_,rfl,?_⟩;have BK281d_:=A_ (kn_ BK281.out nd);have HBd_:=A_ (pn_ HB.out nd);refine hK.out _ _ ⟨kC_ BK281d_ 0,kC_ BK281d_ 1,kC_ BK281d_ 2⟩ (fun hHeld => ?_);clear hK K;refine nX_ (some 15) ?_
          refine pU_ 3 (some 16) ?_
          refine pU_ 4 (some 17) ?_
          refine pU_ 5 (some 18) ?_
          refine tK_ 6 (some 19) hHeld ?_
          refine pU_ 7 (some 20) ?_
          refine pU_ 8 (some 21) ?_
          refine pU_ 9 (some 22) ?_
          refine pU_ 10 (some 23) ?_
          refine pU_ 11 (some 24) ?_
          refine tK_ 12 (some 25) hHeld ?_
          refine pU_ 13 (some 26) ?_
          refine pU_ 14 (some 27) ?_
          refine tK_ 15 (some 28) hHeld ?_
          refine pU_ 16 (some 29) ?_
          refine pU_ 17 (some 30) ?_
          refine pU_ 18 (some 31) ?_
          refine pU_ 19 (some 32) ?_
          refine pure_ (i:=20) (N:=some 33) (v:=undef) (a':=?_) #[true,true,true,true,true,true,true,true,true,true,true,true,true,true,true,true,true,true,true,true,true,false,false,false,false,false,false,false,false,false,false,false,false,false,false] rfl rfl (any_of HT_.out (by kernel_rfl)) (fun _ _ _ h => h) (Or.inr ⟨by rfl,rfl⟩) ?_ ?_;rotate_left
          ·exact ux_
          refine pure_ (i:=21) (N:=some 34) (v:=undef) (a':=?_) #[true,true,true,true,true,true,true,true,true,true,true,true,true,true,true,true,true,true,true,true,true,true,false,false,false,false,false,false,false,false,false,false,false,false,false] rfl rfl (any_of HT_.out (by kernel_rfl)) (fun _ _ _ h => h) (Or.inr ⟨by rfl,rfl⟩) ?_ ?_;rotate_left
          ·exact ux_
          refine pure_ (i:=22) (N:=some 35) (v:=undef) (a':=?_) #[true,true,true,true,true,true,true,true,true,true,true,true,true,true,true,true,true,true,true,true,true,true,true,false,false,false,false,false,false,false,false,false,false,false,false] rfl rfl (any_of HT_.out (by kernel_rfl)) (fun _ _ _ h => h) (Or.inr ⟨by rfl,rfl⟩) ?_ ?_;rotate_left
          ·exact ux_
          refine pure_ (i:=23) (N:=some 36) (v:=undef) (a':=?_) #[true,true,true,true,true,true,true,true,true,true,true,true,true,true,true,true,true,true,true,true,true,true,true,true,false,false,false,false,false,false,false,false,false,false,false] rfl rfl (any_of HT_.out (by kernel_rfl)) (fun _ _ _ h => h) (Or.inr ⟨by rfl,rfl⟩) ?_ ?_;rotate_left
          ·exact ux_
          refine pure_ (i:=24) (N:=some 37) (v:=undef) (a':=?_) #[true,true,true,true,true,true,true,true,true,true,true,true,true,true,true,true,true,true,true,true,true,true,true,true,true,false,false,false,false,false,false,false,false,false,false] rfl rfl (any_of HT_.out (by kernel_rfl)) (fun _ _ _ h => h) (Or.inr ⟨by rfl,rfl⟩) ?_ ?_;rotate_left
          ·exact ux_
          refine pure_ (i:=25) (N:=some 38) (v:=undef) (a':=?_) #[true,true,true,true,true,true,true,true,true,true,true,true,true,true,true,true,true,true,true,true,true,true,true,true,true,true,false,false,false,false,false,false,false,false,false] rfl rfl (any_of HT_.out (by kernel_rfl)) (fun _ _ _ h => h) (Or.inr ⟨by rfl,rfl⟩) ?_ ?_;rotate_left
          ·exact ux_
          refine pure_ (i:=26) (N:=some 39) (v:=undef) (a':=?_) #[true,true,true,true,true,true,true,true,true,true,true,true,true,true,true,true,true,true,true,true,true,true,true,true,true,true,true,false,false,false,false,false,false,false,false] rfl rfl (any_of HT_.out (by kernel_rfl)) (fun _ _ _ h => h) (Or.inr ⟨by rfl,rfl⟩) ?_ ?_;rotate_left
          ·exact ux_
          refine pure_ (i:=27) (N:=some 40) (v:=undef) (a':=?_) #[true,true,true,true,true,true,true,true,true,true,true,true,true,true,true,true,true,true,true,true,true,true,true,true,true,true,true,true,false,false,false,false,false,false,false] rfl rfl (any_of HT_.out (by kernel_rfl)) (fun _ _ _ h => h) (Or.inr ⟨by rfl,rfl⟩) ?_ ?_;rotate_left
          ·exact ux_
          refine pure_ (i:=28) (N:=some 41) (v:=undef) (a':=?_) #[true,true,true,true,true,true,true,true,true,true,true,true,true,true,true,true,true,true,true,true,true,true,true,true,true,true,true,true,true,false,false,false,false,false,false] rfl rfl (any_of HT_.out (by kernel_rfl)) (fun _ _ _ h => h) (Or.inr ⟨by rfl,rfl⟩) ?_ ?_;rotate_left
          ·exact ux_
          refine pure_ (i:=29) (N:=some 42) (v:=undef) (a':=?_) #[true,true,true,true,true,true,true,true,true,true,true,true,true,true,true,true,true,true,true,true,true,true,true,true,true,true,true,true,true,true,false,false,false,false,false] rfl rfl (any_of HT_.out (by kernel_rfl)) (fun _ _ _ h => h) (Or.inr ⟨by rfl,rfl⟩) ?_ ?_;rotate_left
          ·exact ux_
          refine pure_ (i:=30) (N:=some 43) (v:=undef) (a':=?_) #[true,true,true,true,true,true,true,true,true,true,true,true,true,true,true,true,true,true,true,true,true,true,true,true,true,true,true,true,true,true,true,false,false,false,false] rfl rfl (any_of HT_.out (by kernel_rfl)) (fun _ _ _ h => h) (Or.inr ⟨by rfl,rfl⟩) ?_ ?_;rotate_left
          ·exact ux_
          refine pure_ (i:=31) (N:=some 44) (v:=undef) (a':=?_) #[true,true,true,true,true,true,true,true,true,true,true,true,true,true,true,true,true,true,true,true,true,true,true,true,true,true,true,true,true,true,true,true,false,false,false] rfl rfl (any_of HT_.out (by kernel_rfl)) (fun _ _ _ h => h) (Or.inr ⟨by rfl,rfl⟩) ?_ ?_;rotate_left
          ·exact ux_
          refine pure_ (i:=32) (N:=some 45) (v:=undef) (a':=?_) #[true,true,true,true,true,true,true,true,true,true,true,true,true,true,true,true,true,true,true,true,true,true,true,true,true,true,true,true,true,true,true,true,true,false,false] rfl rfl (any_of HT_.out (by kernel_rfl)) (fun _ _ _ h => h) (Or.inr ⟨by rfl,rfl⟩) ?_ ?_;rotate_left
          ·exact ux_
          refine pure_ (i:=33) (N:=some 46) (v:=undef) (a':=?_) #[true,true,true,true,true,true,true,true,true,true,true,true,true,true,true,true,true,true,true,true,true,true,true,true,true,true,true,true,true,true,true,true,true,true,false] rfl rfl (any_of HT_.out (by kernel_rfl)) (fun _ _ _ h => h) (Or.inr ⟨by rfl,rfl⟩) ?_ ?_;rotate_left
          ·exact ux_
          refine pU_ 34 (some 47) ?_
          refine done_ (done_of HT_.out (by kernel_rfl)) ?_
          try go_wp2
          go_ret;exact ⟨ex_,bq_ HB⟩
        ·replace c16:=Bool.eq_false_iff.mpr c16;subst c16
         have H1 : (if x8_1 > 0 then (if 0 ≤ (wrap64 (x8_1 - 1)) then (if (wrap64 (x8_1 - 1)) < (l0_1.length : Int) then (if ((Op.bytesLess (((rd_T85 l0_1 (wrap64 (x8_1 - 1))).f0).toList) (((rd_T85 l0_1 x8_1).f0).toList)) = true) then (impl_BatchOk.l0 k1 l0_1 (l0_1.length : Int) (wrap64 (x8_1 + 1)) a0_0 l0_1) else (some false)) else (none)) else (none)) else (impl_BatchOk.l0 k1 l0_1 (l0_1.length : Int) (wrap64 (x8_1 + 1)) a0_0 l0_1)) = some r:=by rw [if_neg (show ¬ (false = true) by decide)] at H;exact H
         clear H;have H:=H1;clear H1
         by_cases c43 : x8_1 > 0
         ·rw [if_pos c43] at H;have c43b0 : decide (0 < x8_1) = true:=de_ c43;clear c43;obtain ⟨ji44,hji44⟩ : ∃ j_ : Int,(wrap64 (x8_1 - 1)) = j_:=⟨_,rfl⟩
          replace H : (if 0 ≤ (ji44) then (if (ji44) < (l0_1.length : Int) then (if ((Op.bytesLess (((rd_T85 l0_1 (ji44)).f0).toList) (((rd_T85 l0_1 x8_1).f0).toList)) = true) then (impl_BatchOk.l0 k1 l0_1 (l0_1.length : Int) (wrap64 (x8_1 + 1)) a0_0 l0_1) else (some false)) else (none)) else (none)) = some r:=by first|(rw [hji44] at H;exact H)|(simp only [hji44] at H ⊢;exact H)
          (try rw [hji44] at A7)
          have hji44w : (IntKind.i64.wrap (x8_1 - 1)) = ji44:=(i64_w _).trans hji44
          by_cases c45 : 0 ≤ (ji44)
          ·rw [if_pos c45] at H;have c45b0 : decide (0 ≤ (ji44)) = true:=de_ c45;clear c45
           by_cases c46 : (ji44) < (l0_1.length : Int)
           ·rw [if_pos c46] at H;have c46b0 : decide ((ji44) < (l0_1.length : Int)) = true:=de_ c46;clear c46
            by_cases c47 : ((Op.bytesLess (((rd_T85 l0_1 (ji44)).f0).toList) (((rd_T85 l0_1 x8_1).f0).toList)) = true)
            ·rw [if_pos c47] at H;have c47b0 : (Op.bytesLess (((rd_T85 l0_1 (ji44)).f0).toList) (((rd_T85 l0_1 x8_1).f0).toList)) = true:=c47;clear c47;have H':=A_ H;clear H;have p280 : 0 ≤ (x8_1 : Int):=oda_;have q280 : x8_1 < (l0_1.length : Int):=oda_;obtain ⟨ad280,e280,hx280_0,hx280_1,hx280_2⟩:=at_T85 HR0_1.out x8_1 p280 q280
             (try rw [← Nbq15.out] at hx280_2)
             cases e280
             replace hx280_0:=(HB.out.cell (wb_ w _ hx280_0)).trans hx280_0;replace hx280_1:=(HB.out.cell (wb_ w _ hx280_1)).trans hx280_1;replace hx280_2:=(HB.out.cell (wb_ w _ hx280_2)).trans hx280_2;replace p280:=eq_true p280;replace q280:=eq_true q280
             try go_wp2_with (first|((with_reducible refine gate_dst (N:=4) rfl ?_);(try (refine gate_guard (by rfl) ?_;dsimp only));refine bE_ 4 #[.string (⟨#[]⟩ : ByteArray),.string (⟨#[]⟩ : ByteArray),.bool false] 85 ?_;intro gb281 hg w48 hbox hb;have BK281:=A_ (hbox);have GW281:=gE_ hg HB;have GE281:=gE_ hg HB;replace HB:=bS_ HB hb;have NB279_281:=nB_ hg BK279;have NB281_279:=nC_ hg BK279;replace BK279:=kB_ BK279 hb;clear hb hbox hg;have hnb49:=NB281_279.out;have hnc49:=NB279_281.out;obtain ⟨hcz50_0,hcz50_1,hcz50_2,hfz50_0,hfz50_1,hfz50_2⟩:=k3f_ BK281))
             have n0_ : Aside0 ((((w48.setCell ⟨gb281,0,none⟩ (.string ((rd_T85 l0_1 x8_1).f0))).setCell ⟨gb281,1,none⟩ (.string ((rd_T85 l0_1 x8_1).f1))).setCell ⟨gb281,2,none⟩ (.bool false)).heap[gb279]? = some (.cells #[.int .i64 a0_0,.slice (some ad280) l0_1.length c0_1] 79 (0,0))):=⟨kz_ BK279⟩;have n1_ : Aside0 ((((w48.setCell ⟨gb281,0,none⟩ (.string ((rd_T85 l0_1 x8_1).f0))).setCell ⟨gb281,1,none⟩ (.string ((rd_T85 l0_1 x8_1).f1))).setCell ⟨gb281,2,none⟩ (.bool false)).heap[gb281]? = some (.cells #[.string ((rd_T85 l0_1 x8_1).f0),.string ((rd_T85 l0_1 x8_1).f1),.bool false] 85 (0,0))):=⟨kz_ BK281⟩;have n2_ : Aside0 (Below w.heap.size w (((w48.setCell ⟨gb281,0,none⟩ (.string ((rd_T85 l0_1 x8_1).f0))).setCell ⟨gb281,1,none⟩ (.string ((rd_T85 l0_1 x8_1).f1))).setCell ⟨gb281,2,none⟩ (.bool false))):=⟨bq_ HB⟩
             (try clear BK279)
             (try clear BK281)
             (try clear HB)
             generalize (((w48.setCell ⟨gb281,0,none⟩ (.string ((rd_T85 l0_1 x8_1).f0))).setCell ⟨gb281,1,none⟩ (.string ((rd_T85 l0_1 x8_1).f1))).setCell ⟨gb281,2,none⟩ (.bool false)) = w51 at n0_ n1_ n2_ ⊢;have BK279:=n0_;have BK281:=n1_;have HB:=n2_;clear n0_ n1_ n2_;replace BK279:=A_ (kd_ BK279.out);replace BK281:=A_ (kd_ BK281.out);replace HB:=A_ (pd_ HB.out);have p284 : 0 ≤ ((ji44) : Int):=oda_;have q284 : (ji44) < (l0_1.length : Int):=oda_;obtain ⟨ad284,e284,hx284_0,hx284_1,hx284_2⟩:=at_T85 HR0_1.out (ji44) p284 q284;have hw284_2:=hx284_2;have hw284_1:=hx284_1;have hw284_0:=hx284_0
             (try rw [← Nbq15.out] at hx284_2)
             obtain rfl : ad280 = ad284:=(by injection e284);replace hx284_0:=(HB.out.cell (wb_ w _ hx284_0)).trans hx284_0;replace hx284_1:=(HB.out.cell (wb_ w _ hx284_1)).trans hx284_1;replace hx284_2:=(HB.out.cell (wb_ w _ hx284_2)).trans hx284_2;replace p284:=eq_true p284;replace q284:=eq_true q284;refine start_ (n:=35) (S:=fun w' => w'.cell? ⟨gb281,0,none⟩ = some (.string ((rd_T85 l0_1 x8_1).f0)) ∧ w'.cell? ⟨gb281,1,none⟩ = some (.string ((rd_T85 l0_1 x8_1).f1)) ∧ w'.cell? ⟨gb281,2,none⟩ = some (.bool false) ∧ w'.cell? ⟨gb279,0,none⟩ = some (.int .i64 a0_0) ∧ w'.cell? ⟨gb279,1,none⟩ = some (.slice (some ad280) l0_1.length c0_1) ∧ w'.cell? (ad280.add (((ji44)).toNat * 3)) = some (.string ((rd_T85 l0_1 (ji44)).f0)) ∧ w'.cell? ⟨(ad280.add (((ji44)).toNat * 3)).block,(ad280.add (((ji44)).toNat * 3)).off + 1,none⟩ = some (.string ((rd_T85 l0_1 (ji44)).f1)) ∧ w'.cell? ⟨(ad280.add (((ji44)).toNat * 3)).block,(ad280.add (((ji44)).toNat * 3)).off + 2,none⟩ = some (.bool ((rd_T85 l0_1 (ji44)).f2))) (ds:=[]) #[false,false,false,false,false,false,false,false,false,false,false,false,false,false,false,false,false,false,false,false,false,false,false,false,false,false,false,false,false,false,false,false,false,false,false] (by kernel_rfl) rfl rfl ⟨kC_ BK281 0,kC_ BK281 1,kC_ BK281 2,kC_ BK279 0,kC_ BK279 1,((HB.out.cell (wb_ w _ hw284_0)).trans hw284_0),((HB.out.cell (wb_ w _ hw284_1)).trans hw284_1),((HB.out.cell (wb_ w _ hw284_2)).trans hw284_2)⟩ (fun hHeld => ?_);refine with_tabW impl_BatchOk.tab4 impl_BatchOk.bits4 (fun HT_ HW_ => ?_);generalize w51.drew = w52 at BK279 BK281 HB hx284_0 hx284_1 hx284_2 hHeld ⊢;refine pU_ 0 (some 13) ?_
             refine tK_ 1 (some 14) hHeld ?_
             refine oN_ 2 (some 15) (fun K hK => ?_);refine gs_ Try.func139 #[.string ((rd_T85 l0_1 x8_1).f0)] ?_;with_reducible refine (impl_keyOk.calls ((rd_T85 l0_1 x8_1).f0) true _ A7.out).mono ?_;rintro e w' ⟨rfl,⟨nd,rfl⟩⟩;refine ⟨_,rfl,?_⟩;have BK281d_:=A_ (kn_ BK281.out nd);have BK279d_:=A_ (kn_ BK279.out nd);have HBd_:=A_ (pn_ HB.out nd);refine hK.out _ _ ⟨kC_ BK281d_ 0,kC_ BK281d_ 1,kC_ BK281d_ 2,kC_ BK279d_ 0,kC_ BK279d_ 1,((HBd_.out.cell (wb_ w _ hw284_0)).trans hw284_0),((HBd_.out.cell (wb_ w _ hw284_1)).trans hw284_1),((HBd_.out.cell (wb_ w _ hw284_2)).trans hw284_2)⟩ (fun hHeld => ?_);clear hK K;refine nX_ (some 15) ?_
             refine pU_ 3 (some 16) ?_
             refine pU_ 4 (some 17) ?_
             refine pU_ 5 (some 18) ?_
             refine tK_ 6 (some 19) hHeld ?_
             refine pU_ 7 (some 20) ?_
             refine pU_ 8 (some 21) ?_
             refine pU_ 9 (some 22) ?_
             refine pU_ 10 (some 23) ?_
             refine pU_ 11 (some 24) ?_
             refine tK_ 12 (some 25) hHeld ?_
             refine pU_ 13 (some 26) ?_
             refine pure_ (i:=14) (N:=some 27) (v:=undef) (a':=?_) #[true,true,true,true,true,true,true,true,true,true,true,true,true,true,true,false,false,false,false,false,false,false,false,false,false,false,false,false,false,false,false,false,false,false,false] rfl rfl (any_of HT_.out (by kernel_rfl)) (fun _ _ _ h => h) (Or.inr ⟨by rfl,rfl⟩) ?_ ?_;rotate_left
             ·exact ux_
             refine pure_ (i:=15) (N:=some 28) (v:=undef) (a':=?_) #[true,true,true,true,true,true,true,true,true,true,true,true,true,true,true,true,false,false,false,false,false,false,false,false,false,false,false,false,false,false,false,false,false,false,false] rfl rfl (any_of HT_.out (by kernel_rfl)) (fun _ _ _ h => h) (Or.inr ⟨by rfl,rfl⟩) ?_ ?_;rotate_left
             ·exact ux_
             refine pure_ (i:=16) (N:=some 29) (v:=undef) (a':=?_) #[true,true,true,true,true,true,true,true,true,true,true,true,true,true,true,true,true,false,false,false,false,false,false,false,false,false,false,false,false,false,false,false,false,false,false] rfl rfl (any_of HT_.out (by kernel_rfl)) (fun _ _ _ h => h) (Or.inr ⟨by rfl,rfl⟩) ?_ ?_;rotate_left
             ·exact ux_
             refine pU_ 17 (some 30) ?_
             refine pU_ 18 (some 31) ?_
             refine pU_ 19 (some 32) ?_
             refine pU_ 20 (some 33) ?_
             refine pU_ 21 (some 34) ?_
             refine pU_ 22 (some 35) ?_
             refine pU_ 23 (some 36) ?_
             refine pU_ 25 (some 38) ?_
             refine pU_ 26 (some 39) ?_
             refine pU_ 30 (some 43) ?_
             refine tK_ 24 (some 37) hHeld ?_
             refine pU_ 27 (some 40) ?_
             refine pU_ 28 (some 41) ?_
             refine tK_ 29 (some 42) hHeld ?_
             refine tK_ 31 (some 44) hHeld ?_
             refine pU_ 32 (some 45) ?_
             refine pU_ 33 (some 46) ?_
             refine pU_ 34 (some 47) ?_
             refine done_ (done_of HT_.out (by kernel_rfl)) ?_
             try go_wp2
             go_roundg k1
             case measure => have:=HK1.out;omega
             case rel => exact ⟨(wrap64 (x8_1 + 1)),(by first|rfl|(simp;done)|(simp [*];done)),H',⟨by have:=HK1.out;omega⟩,⟨kq_ BK279⟩,⟨bq_ HB⟩⟩
            ·rw [if_neg c47] at H
             have c47b0 : (Op.bytesLess (((rd_T85 l0_1 (ji44)).f0).toList) (((rd_T85 l0_1 x8_1).f0).toList)) = false:=by simpa using c47
             clear c47;obtain rfl:=Option.some.inj H;have p280 : 0 ≤ (x8_1 : Int):=oda_;have q280 : x8_1 < (l0_1.length : Int):=oda_;obtain ⟨ad280,e280,hx280_0,hx280_1,hx280_2⟩:=at_T85 HR0_1.out x8_1 p280 q280
             (try rw [← Nbq15.out] at hx280_2)
             cases e280
             replace hx280_0:=(HB.out.cell (wb_ w _ hx280_0)).trans hx280_0;replace hx280_1:=(HB.out.cell (wb_ w _ hx280_1)).trans hx280_1;replace hx280_2:=(HB.out.cell (wb_ w _ hx280_2)).trans hx280_2;replace p280:=eq_true p280;replace q280:=eq_true q280
             try go_wp2_with (first|((with_reducible refine gate_dst (N:=4) rfl ?_);(try (refine gate_guard (by rfl) ?_;dsimp only));refine bE_ 4 #[.string (⟨#[]⟩ : ByteArray),.string (⟨#[]⟩ : ByteArray),.bool false] 85 ?_;intro gb281 hg w53 hbox hb;have BK281:=A_ (hbox);have GW281:=gE_ hg HB;have GE281:=gE_ hg HB;replace HB:=bS_ HB hb;have NB279_281:=nB_ hg BK279;have NB281_279:=nC_ hg BK279;replace BK279:=kB_ BK279 hb;clear hb hbox hg;have hnb54:=NB281_279.out;have hnc54:=NB279_281.out;obtain ⟨hcz55_0,hcz55_1,hcz55_2,hfz55_0,hfz55_1,hfz55_2⟩:=k3f_ BK281))
             have n0_ : Aside0 ((((w53.setCell ⟨gb281,0,none⟩ (.string ((rd_T85 l0_1 x8_1).f0))).setCell ⟨gb281,1,none⟩ (.string ((rd_T85 l0_1 x8_1).f1))).setCell ⟨gb281,2,none⟩ (.bool false)).heap[gb279]? = some (.cells #[.int .i64 a0_0,.slice (some ad280) l0_1.length c0_1] 79 (0,0))):=⟨kz_ BK279⟩;have n1_ : Aside0 ((((w53.setCell ⟨gb281,0,none⟩ (.string ((rd_T85 l0_1 x8_1).f0))).setCell ⟨gb281,1,none⟩ (.string ((rd_T85 l0_1 x8_1).f1))).setCell ⟨gb281,2,none⟩ (.bool false)).heap[gb281]? = some (.cells #[.string ((rd_T85 l0_1 x8_1).f0),.string ((rd_T85 l0_1 x8_1).f1),.bool false] 85 (0,0))):=⟨kz_ BK281⟩;have n2_ : Aside0 (Below w.heap.size w (((w53.setCell ⟨gb281,0,none⟩ (.string ((rd_T85 l0_1 x8_1).f0))).setCell ⟨gb281,1,none⟩ (.string ((rd_T85 l0_1 x8_1).f1))).setCell ⟨gb281,2,none⟩ (.bool false))):=⟨bq_ HB⟩
             (try clear BK279)
             (try clear BK281)
             (try clear HB)
             generalize (((w53.setCell ⟨gb281,0,none⟩ (.string ((rd_T85 l0_1 x8_1).f0))).setCell ⟨gb281,1,none⟩ (.string ((rd_T85 l0_1 x8_1).f1))).setCell ⟨gb281,2,none⟩ (.bool false)) = w56 at n0_ n1_ n2_ ⊢;have BK279:=n0_;have BK281:=n1_;have HB:=n2_;clear n0_ n1_ n2_;replace BK279:=A_ (kd_ BK279.out);replace BK281:=A_ (kd_ BK281.out);replace HB:=A_ (pd_ HB.out);have p284 : 0 ≤ ((ji44) : Int):=oda_;have q284 : (ji44) < (l0_1.length : Int):=oda_;obtain ⟨ad284,e284,hx284_0,hx284_1,hx284_2⟩:=at_T85 HR0_1.out (ji44) p284 q284;have hw284_2:=hx284_2;have hw284_1:=hx284_1;have hw284_0:=hx284_0
             (try rw [← Nbq15.out] at hx284_2)
             obtain rfl : ad280 = ad284:=(by injection e284);replace hx284_0:=(HB.out.cell (wb_ w _ hx284_0)).trans hx284_0;replace hx284_1:=(HB.out.cell (wb_ w _ hx284_1)).trans hx284_1;replace hx284_2:=(HB.out.cell (wb_ w _ hx284_2)).trans hx284_2;replace p284:=eq_true p284;replace q284:=eq_true q284;refine start_ (n:=35) (S:=fun w' => w'.cell? ⟨gb281,0,none⟩ = some (.string ((rd_T85 l0_1 x8_1).f0)) ∧ w'.cell? ⟨gb281,1,none⟩ = some (.string ((rd_T85 l0_1 x8_1).f1)) ∧ w'.cell? ⟨gb281,2,none⟩ = some (.bool false) ∧ w'.cell? ⟨gb279,0,none⟩ = some (.int .i64 a0_0) ∧ w'.cell? ⟨gb279,1,none⟩ = some (.slice (some ad280) l0_1.length c0_1) ∧ w'.cell? (ad280.add (((ji44)).toNat * 3)) = some (.string ((rd_T85 l0_1 (ji44)).f0)) ∧ w'.cell? ⟨(ad280.add (((ji44)).toNat * 3)).block,(ad280.add (((ji44)).toNat * 3)).off + 1,none⟩ = some (.string ((rd_T85 l0_1 (ji44)).f1)) ∧ w'.cell? ⟨(ad280.add (((ji44)).toNat * 3)).block,(ad280.add (((ji44)).toNat * 3)).off + 2,none⟩ = some (.bool ((rd_T85 l0_1 (ji44)).f2))) (ds:=[]) #[false,false,false,false,false,false,false,false,false,false,false,false,false,false,false,false,false,false,false,false,false,false,false,false,false,false,false,false,false,false,false,false,false,false,false] (by kernel_rfl) rfl rfl ⟨kC_ BK281 0,kC_ BK281 1,kC_ BK281 2,kC_ BK279 0,kC_ BK279 1,((HB.out.cell (wb_ w _ hw284_0)).trans hw284_0),((HB.out.cell (wb_ w _ hw284_1)).trans hw284_1),((HB.out.cell (wb_ w _ hw284_2)).trans hw284_2)⟩ (fun hHeld => ?_);refine with_tabW impl_BatchOk.tab4 impl_BatchOk.bits4 (fun HT_ HW_ => ?_);generalize w56.drew = w57 at BK279 BK281 HB hx284_0 hx284_1 hx284_2 hHeld ⊢;refine pU_ 0 (some 13) ?_
             refine tK_ 1 (some 14) hHeld ?_
             refine oN_ 2 (some 15) (fun K hK => ?_);refine gs_ Try.func139 #[.string ((rd_T85 l0_1 x8_1).f0)] ?_;with_reducible refine (impl_keyOk.calls ((rd_T85 l0_1 x8_1).f0) true _ A7.out).mono ?_;rintro e w' ⟨rfl,⟨nd,rfl⟩⟩;refine ⟨_,rfl,?_⟩;have BK281d_:=A_ (kn_ BK281.out nd);have BK279d_:=A_ (kn_ BK279.out nd);have HBd_:=A_ (pn_ HB.out nd);refine hK.out _ _ ⟨kC_ BK281d_ 0,kC_ BK281d_ 1,kC_ BK281d_ 2,kC_ BK279d_ 0,kC_ BK279d_ 1,((HBd_.out.cell (wb_ w _ hw284_0)).trans hw284_0),((HBd_.out.cell (wb_ w _ hw284_1)).trans hw284_1),((HBd_.out.cell (wb_ w _ hw284_2)).trans hw284_2)⟩ (fun hHeld => ?_);clear hK K;refine nX_ (some 15) ?_
             refine pU_ 3 (some 16) ?_
             refine pU_ 4 (some 17) ?_
             refine pU_ 5 (some 18) ?_
             refine tK_ 6 (some 19) hHeld ?_
             refine pU_ 7 (some 20) ?_
             refine pU_ 8 (some 21) ?_
             refine pU_ 9 (some 22) ?_
             refine pU_ 10 (some 23) ?_
             refine pU_ 11 (some 24) ?_
             refine tK_ 12 (some 25) hHeld ?_
             refine pU_ 13 (some 26) ?_
             refine pure_ (i:=14) (N:=some 27) (v:=undef) (a':=?_) #[true,true,true,true,true,true,true,true,true,true,true,true,true,true,true,false,false,false,false,false,false,false,false,false,false,false,false,false,false,false,false,false,false,false,false] rfl rfl (any_of HT_.out (by kernel_rfl)) (fun _ _ _ h => h) (Or.inr ⟨by rfl,rfl⟩) ?_ ?_;rotate_left
             ·exact ux_
             refine pure_ (i:=15) (N:=some 28) (v:=undef) (a':=?_) #[true,true,true,true,true,true,true,true,true,true,true,true,true,true,true,true,false,false,false,false,false,false,false,false,false,false,false,false,false,false,false,false,false,false,false] rfl rfl (any_of HT_.out (by kernel_rfl)) (fun _ _ _ h => h) (Or.inr ⟨by rfl,rfl⟩) ?_ ?_;rotate_left
             ·exact ux_
             refine pure_ (i:=16) (N:=some 29) (v:=undef) (a':=?_) #[true,true,true,true,true,true,true,true,true,true,true,true,true,true,true,true,true,false,false,false,false,false,false,false,false,false,false,false,false,false,false,false,false,false,false] rfl rfl (any_of HT_.out (by kernel_rfl)) (fun _ _ _ h => h) (Or.inr ⟨by rfl,rfl⟩) ?_ ?_;rotate_left
             ·exact ux_
             refine pU_ 17 (some 30) ?_
             refine pU_ 18 (some 31) ?_
             refine pU_ 19 (some 32) ?_
             refine pU_ 20 (some 33) ?_
             refine pU_ 21 (some 34) ?_
             refine pU_ 22 (some 35) ?_
             refine pU_ 23 (some 36) ?_
             refine pU_ 25 (some 38) ?_
             refine pU_ 26 (some 39) ?_
             refine pU_ 30 (some 43) ?_
             refine tK_ 24 (some 37) hHeld ?_
             refine pU_ 27 (some 40) ?_
             refine pU_ 28 (some 41) ?_
             refine tK_ 29 (some 42) hHeld ?_
             refine tK_ 31 (some 44) hHeld ?_
             refine pU_ 32 (some 45) ?_
             refine pU_ 33 (some 46) ?_
             refine pU_ 34 (some 47) ?_
             refine done_ (done_of HT_.out (by kernel_rfl)) ?_
             try go_wp2
             go_ret;exact ⟨by first|rfl|(simp [errW_none,errW_some] <;> rfl)|(simp only [← hji44];first|rfl|(simp [errW_none,errW_some] <;> rfl))|(simp [*,errW_none,errW_some] <;> rfl),bq_ HB⟩
           ·rw [if_neg c46] at H;exact absurd H (by simp)
          ·rw [if_neg c45] at H;exact absurd H (by simp)
         ·rw [if_neg c43] at H;have c43b0 : decide (0 < x8_1) = false:=decide_eq_false c43;clear c43;have H':=A_ H;clear H;have p280 : 0 ≤ (x8_1 : Int):=oda_;have q280 : x8_1 < (l0_1.length : Int):=oda_;obtain ⟨ad280,e280,hx280_0,hx280_1,hx280_2⟩:=at_T85 HR0_1.out x8_1 p280 q280
          (try rw [← Nbq15.out] at hx280_2)
          cases e280
          replace hx280_0:=(HB.out.cell (wb_ w _ hx280_0)).trans hx280_0;replace hx280_1:=(HB.out.cell (wb_ w _ hx280_1)).trans hx280_1;replace hx280_2:=(HB.out.cell (wb_ w _ hx280_2)).trans hx280_2;replace p280:=eq_true p280;replace q280:=eq_true q280
          try go_wp2_with (first|((with_reducible refine gate_dst (N:=4) rfl ?_);(try (refine gate_guard (by rfl) ?_;dsimp only));refine bE_ 4 #[.string (⟨#[]⟩ : ByteArray),.string (⟨#[]⟩ : ByteArray),.bool false] 85 ?_;intro gb281 hg w58 hbox hb;have BK281:=A_ (hbox);have GW281:=gE_ hg HB;have GE281:=gE_ hg HB;replace HB:=bS_ HB hb;have NB279_281:=nB_ hg BK279;have NB281_279:=nC_ hg BK279;replace BK279:=kB_ BK279 hb;clear hb hbox hg;have hnb59:=NB281_279.out;have hnc59:=NB279_281.out;obtain ⟨hcz60_0,hcz60_1,hcz60_2,hfz60_0,hfz60_1,hfz60_2⟩:=k3f_ BK281))
          have n0_ : Aside0 ((((w58.setCell ⟨gb281,0,none⟩ (.string ((rd_T85 l0_1 x8_1).f0))).setCell ⟨gb281,1,none⟩ (.string ((rd_T85 l0_1 x8_1).f1))).setCell ⟨gb281,2,none⟩ (.bool false)).heap[gb279]? = some (.cells #[.int .i64 a0_0,.slice (some ad280) l0_1.length c0_1] 79 (0,0))):=⟨kz_ BK279⟩;have n1_ : Aside0 ((((w58.setCell ⟨gb281,0,none⟩ (.string ((rd_T85 l0_1 x8_1).f0))).setCell ⟨gb281,1,none⟩ (.string ((rd_T85 l0_1 x8_1).f1))).setCell ⟨gb281,2,none⟩ (.bool false)).heap[gb281]? = some (.cells #[.string ((rd_T85 l0_1 x8_1).f0),.string ((rd_T85 l0_1 x8_1).f1),.bool false] 85 (0,0))):=⟨kz_ BK281⟩;have n2_ : Aside0 (Below w.heap.size w (((w58.setCell ⟨gb281,0,none⟩ (.string ((rd_T85 l0_1 x8_1).f0))).setCell ⟨gb281,1,none⟩ (.string ((rd_T85 l0_1 x8_1).f1))).setCell ⟨gb281,2,none⟩ (.bool false))):=⟨bq_ HB⟩
          (try clear BK279)
          (try clear BK281)
          (try clear HB)
          generalize (((w58.setCell ⟨gb281,0,none⟩ (.string ((rd_T85 l0_1 x8_1).f0))).setCell ⟨gb281,1,none⟩ (.string ((rd_T85 l0_1 x8_1).f1))).setCell ⟨gb281,2,none⟩ (.bool false)) = w61 at n0_ n1_ n2_ ⊢;have BK279:=n0_;have BK281:=n1_;have HB:=n2_;clear n0_ n1_ n2_;replace BK279:=A_ (kd_ BK279.out);replace BK281:=A_ (kd_ BK281.out);replace HB:=A_ (pd_ HB.out);refine start_ (n:=35) (S:=fun w' => w'.cell? ⟨gb281,0,none⟩ = some (.string ((rd_T85 l0_1 x8_1).f0)) ∧ w'.cell? ⟨gb281,1,none⟩ = some (.string ((rd_T85 l0_1 x8_1).f1)) ∧ w'.cell? ⟨gb281,2,none⟩ = some (.bool false)) (ds:=[]) #[false,false,false,false,false,false,false,false,false,false,false,false,false,false,false,false,false,false,false,false,false,false,false,false,false,false,false,false,false,false,false,false,false,false,false] (by kernel_rfl) rfl rfl ⟨kC_ BK281 0,kC_ BK281 1,kC_ BK281 2⟩ (fun hHeld => ?_);refine with_tabW impl_BatchOk.tab4 impl_BatchOk.bits4 (fun HT_ HW_ => ?_);generalize w61.drew = w62 at BK279 BK281 HB hHeld ⊢;refine pU_ 0 (some 13) ?_
          refine tK_ 1 (some 14) hHeld ?_
          refine oN_ 2 (some 15) (fun K hK => ?_);refine gs_ Try.func139 #[.string ((rd_T85 l0_1 x8_1).f0)] ?_;with_reducible refine (impl_keyOk.calls ((rd_T85 l0_1 x8_1).f0) true _ A7.out).mono ?_;rintro e w' ⟨rfl,⟨nd,rfl⟩⟩;refine ⟨_,rfl,?_⟩;have BK281d_:=A_ (kn_ BK281.out nd);have HBd_:=A_ (pn_ HB.out nd);refine hK.out _ _ ⟨kC_ BK281d_ 0,kC_ BK281d_ 1,kC_ BK281d_ 2⟩ (fun hHeld => ?_);clear hK K;refine nX_ (some 15) ?_
          refine pU_ 3 (some 16) ?_
          refine pU_ 4 (some 17) ?_
          refine pU_ 5 (some 18) ?_
          refine tK_ 6 (some 19) hHeld ?_
          refine pU_ 7 (some 20) ?_
          refine pU_ 8 (some 21) ?_
          refine pU_ 9 (some 22) ?_
          refine pU_ 10 (some 23) ?_
          refine pU_ 11 (some 24) ?_
          refine tK_ 12 (some 25) hHeld ?_
          refine pU_ 13 (some 26) ?_
          refine pure_ (i:=14) (N:=some 27) (v:=undef) (a':=?_) #[true,true,true,true,true,true,true,true,true,true,true,true,true,true,true,false,false,false,false,false,false,false,false,false,false,false,false,false,false,false,false,false,false,false,false] rfl rfl (any_of HT_.out (by kernel_rfl)) (fun _ _ _ h => h) (Or.inr ⟨by rfl,rfl⟩) ?_ ?_;rotate_left
          ·exact ux_
          refine pure_ (i:=15) (N:=some 28) (v:=undef) (a':=?_) #[true,true,true,true,true,true,true,true,true,true,true,true,true,true,true,true,false,false,false,false,false,false,false,false,false,false,false,false,false,false,false,false,false,false,false] rfl rfl (any_of HT_.out (by kernel_rfl)) (fun _ _ _ h => h) (Or.inr ⟨by rfl,rfl⟩) ?_ ?_;rotate_left
          ·exact ux_
          refine pure_ (i:=16) (N:=some 29) (v:=undef) (a':=?_) #[true,true,true,true,true,true,true,true,true,true,true,true,true,true,true,true,true,false,false,false,false,false,false,false,false,false,false,false,false,false,false,false,false,false,false] rfl rfl (any_of HT_.out (by kernel_rfl)) (fun _ _ _ h => h) (Or.inr ⟨by rfl,rfl⟩) ?_ ?_;rotate_left
          ·exact ux_
          refine pU_ 17 (some 30) ?_
          refine pU_ 18 (some 31) ?_
          refine pU_ 19 (some 32) ?_
          refine pU_ 20 (some 33) ?_
          refine pU_ 21 (some 34) ?_
          refine pU_ 22 (some 35) ?_
          refine pure_ (i:=23) (N:=some 36) (v:=undef) (a':=?_) #[true,true,true,true,true,true,true,true,true,true,true,true,true,true,true,true,true,true,true,true,true,true,true,true,false,false,false,false,false,false,false,false,false,false,false] rfl rfl (any_of HT_.out (by kernel_rfl)) (fun _ _ _ h => h) (Or.inr ⟨by rfl,rfl⟩) ?_ ?_;rotate_left
          ·exact ux_
          refine pure_ (i:=24) (N:=some 37) (v:=undef) (a':=?_) #[true,true,true,true,true,true,true,true,true,true,true,true,true,true,true,true,true,true,true,true,true,true,true,true,true,false,false,false,false,false,false,false,false,false,false] rfl rfl (any_of HT_.out (by kernel_rfl)) (fun _ _ _ h => h) (Or.inr ⟨by rfl,rfl⟩) ?_ ?_;rotate_left
          ·exact ux_
          refine pure_ (i:=25) (N:=some 38) (v:=undef) (a':=?_) #[true,true,true,true,true,true,true,true,true,true,true,true,true,true,true,true,true,true,true,true,true,true,true,true,true,true,false,false,false,false,false,false,false,false,false] rfl rfl (any_of HT_.out (by kernel_rfl)) (fun _ _ _ h => h) (Or.inr ⟨by rfl,rfl⟩) ?_ ?_;rotate_left
          ·exact ux_
          refine pure_ (i:=26) (N:=some 39) (v:=undef) (a':=?_) #[true,true,true,true,true,true,true,true,true,true,true,true,true,true,true,true,true,true,true,true,true,true,true,true,true,true,true,false,false,false,false,false,false,false,false] rfl rfl (any_of HT_.out (by kernel_rfl)) (fun _ _ _ h => h) (Or.inr ⟨by rfl,rfl⟩) ?_ ?_;rotate_left
          ·exact ux_
          refine pure_ (i:=27) (N:=some 40) (v:=undef) (a':=?_) #[true,true,true,true,true,true,true,true,true,true,true,true,true,true,true,true,true,true,true,true,true,true,true,true,true,true,true,true,false,false,false,false,false,false,false] rfl rfl (any_of HT_.out (by kernel_rfl)) (fun _ _ _ h => h) (Or.inr ⟨by rfl,rfl⟩) ?_ ?_;rotate_left
          ·exact ux_
          refine pure_ (i:=28) (N:=some 41) (v:=undef) (a':=?_) #[true,true,true,true,true,true,true,true,true,true,true,true,true,true,true,true,true,true,true,true,true,true,true,true,true,true,true,true,true,false,false,false,false,false,false] rfl rfl (any_of HT_.out (by kernel_rfl)) (fun _ _ _ h => h) (Or.inr ⟨by rfl,rfl⟩) ?_ ?_;rotate_left
          ·exact ux_
          refine pure_ (i:=29) (N:=some 42) (v:=undef) (a':=?_) #[true,true,true,true,true,true,true,true,true,true,true,true,true,true,true,true,true,true,true,true,true,true,true,true,true,true,true,true,true,true,false,false,false,false,false] rfl rfl (any_of HT_.out (by kernel_rfl)) (fun _ _ _ h => h) (Or.inr ⟨by rfl,rfl⟩) ?_ ?_;rotate_left
          ·exact ux_
          refine pure_ (i:=30) (N:=some 43) (v:=undef) (a':=?_) #[true,true,true,true,true,true,true,true,true,true,true,true,true,true,true,true,true,true,true,true,true,true,true,true,true,true,true,true,true,true,true,false,false,false,false] rfl rfl (any_of HT_.out (by kernel_rfl)) (fun _ _ _ h => h) (Or.inr ⟨by rfl,rfl⟩) ?_ ?_;rotate_left
          ·exact ux_
          refine pure_ (i:=31) (N:=some 44) (v:=undef) (a':=?_) #[true,true,true,true,true,true,true,true,true,true,true,true,true,true,true,true,true,true,true,true,true,true,true,true,true,true,true,true,true,true,true,true,false,false,false] rfl rfl (any_of HT_.out (by kernel_rfl)) (fun _ _ _ h => h) (Or.inr ⟨by rfl,rfl⟩) ?_ ?_;rotate_left
          ·exact ux_
          refine pure_ (i:=32) (N:=some 45) (v:=undef) (a':=?_) #[true,true,true,true,true,true,true,true,true,true,true,true,true,true,true,true,true,true,true,true,true,true,true,true,true,true,true,true,true,true,true,true,true,false,false] rfl rfl (any_of HT_.out (by kernel_rfl)) (fun _ _ _ h => h) (Or.inr ⟨by rfl,rfl⟩) ?_ ?_;rotate_left
          ·exact ux_
          refine pU_ 33 (some 46) ?_
          refine pU_ 34 (some 47) ?_
          refine done_ (done_of HT_.out (by kernel_rfl)) ?_
          try go_wp2
          go_roundg k1
          case measure => have:=HK1.out;omega
          case rel => exact ⟨(wrap64 (x8_1 + 1)),(by first|rfl|(simp;done)|(simp [*];done)),H',⟨by have:=HK1.out;omega⟩,⟨kq_ BK279⟩,⟨bq_ HB⟩⟩
      ·replace c8:=Bool.eq_false_iff.mpr c8;subst c8
       have H1 : (some false) = some r:=by rw [if_neg (show ¬ (false = true) by decide)] at H;exact H
       clear H;have H:=H1;clear H1;obtain rfl:=Option.some.inj H;have p280 : 0 ≤ (x8_1 : Int):=oda_;have q280 : x8_1 < (l0_1.length : Int):=oda_;obtain ⟨ad280,e280,hx280_0,hx280_1,hx280_2⟩:=at_T85 HR0_1.out x8_1 p280 q280
       cases e280
       replace hx280_0:=(HB.out.cell (wb_ w _ hx280_0)).trans hx280_0;replace hx280_1:=(HB.out.cell (wb_ w _ hx280_1)).trans hx280_1;replace hx280_2:=(HB.out.cell (wb_ w _ hx280_2)).trans hx280_2;replace p280:=eq_true p280;replace q280:=eq_true q280
       try go_wp2_with (first|((with_reducible refine gate_dst (N:=4) rfl ?_);(try (refine gate_guard (by rfl) ?_;dsimp only));refine bE_ 4 #[.string (⟨#[]⟩ : ByteArray),.string (⟨#[]⟩ : ByteArray),.bool false] 85 ?_;intro gb281 hg w63 hbox hb;have BK281:=A_ (hbox);have GW281:=gE_ hg HB;have GE281:=gE_ hg HB;replace HB:=bS_ HB hb;have NB279_281:=nB_ hg BK279;have NB281_279:=nC_ hg BK279;replace BK279:=kB_ BK279 hb;clear hb hbox hg;have hnb64:=NB281_279.out;have hnc64:=NB279_281.out;obtain ⟨hcz65_0,hcz65_1,hcz65_2,hfz65_0,hfz65_1,hfz65_2⟩:=k3f_ BK281))
       have n0_ : Aside0 ((((w63.setCell ⟨gb281,0,none⟩ (.string ((rd_T85 l0_1 x8_1).f0))).setCell ⟨gb281,1,none⟩ (.string ((rd_T85 l0_1 x8_1).f1))).setCell ⟨gb281,2,none⟩ (.bool ((rd_T85 l0_1 x8_1).f2))).heap[gb279]? = some (.cells #[.int .i64 a0_0,.slice (some ad280) l0_1.length c0_1] 79 (0,0))):=⟨kz_ BK279⟩;have n1_ : Aside0 ((((w63.setCell ⟨gb281,0,none⟩ (.string ((rd_T85 l0_1 x8_1).f0))).setCell ⟨gb281,1,none⟩ (.string ((rd_T85 l0_1 x8_1).f1))).setCell ⟨gb281,2,none⟩ (.bool ((rd_T85 l0_1 x8_1).f2))).heap[gb281]? = some (.cells #[.string ((rd_T85 l0_1 x8_1).f0),.string ((rd_T85 l0_1 x8_1).f1),.bool ((rd_T85 l0_1 x8_1).f2)] 85 (0,0))):=⟨kz_ BK281⟩;have n2_ : Aside0 (Below w.heap.size w (((w63.setCell ⟨gb281,0,none⟩ (.string ((rd_T85 l0_1 x8_1).f0))).setCell ⟨gb281,1,none⟩ (.string ((rd_T85 l0_1 x8_1).f1))).setCell ⟨gb281,2,none⟩ (.bool ((rd_T85 l0_1 x8_1).f2)))):=⟨bq_ HB⟩
       (try clear BK279)
       (try clear BK281)
       (try clear HB)
       generalize (((w63.setCell ⟨gb281,0,none⟩ (.string ((rd_T85 l0_1 x8_1).f0))).setCell ⟨gb281,1,none⟩ (.string ((rd_T85 l0_1 x8_1).f1))).setCell ⟨gb281,2,none⟩ (.bool ((rd_T85 l0_1 x8_1).f2))) = w66 at n0_ n1_ n2_ ⊢;have BK279:=n0_;have BK281:=n1_;have HB:=n2_;clear n0_ n1_ n2_;replace BK279:=A_ (kd_ BK279.out);replace BK281:=A_ (kd_ BK281.out);replace HB:=A_ (pd_ HB.out);refine start_ (n:=35) (S:=fun w' => w'.cell? ⟨gb281,0,none⟩ = some (.string ((rd_T85 l0_1 x8_1).f0)) ∧ w'.cell? ⟨gb281,1,none⟩ = some (.string ((rd_T85 l0_1 x8_1).f1)) ∧ w'.cell? ⟨gb281,2,none⟩ = some (.bool ((rd_T85 l0_1 x8_1).f2))) (ds:=[]) #[false,false,false,false,false,false,false,false,false,false,false,false,false,false,false,false,false,false,false,false,false,false,false,false,false,false,false,false,false,false,false,false,false,false,false] (by kernel_rfl) rfl rfl ⟨kC_ BK281 0,kC_ BK281 1,kC_ BK281 2⟩ (fun hHeld => ?_);refine with_tabW impl_BatchOk.tab4 impl_BatchOk.bits4 (fun HT_ HW_ => ?_);generalize w66.drew = w67 at BK279 BK281 HB hHeld ⊢;refine pU_ 0 (some 13) ?_
       refine tK_ 1 (some 14) hHeld ?_
       refine oN_ 2 (some 15) (fun K hK => ?_);refine gs_ Try.func139 #[.string ((rd_T85 l0_1 x8_1).f0)] ?_;with_reducible refine (impl_keyOk.calls ((rd_T85 l0_1 x8_1).f0) false _ A7.out).mono ?_;rintro e w' ⟨rfl,⟨nd,rfl⟩⟩;refine ⟨_,rfl,?_⟩;have BK281d_:=A_ (kn_ BK281.out nd);have HBd_:=A_ (pn_ HB.out nd);refine hK.out _ _ ⟨kC_ BK281d_ 0,kC_ BK281d_ 1,kC_ BK281d_ 2⟩ (fun hHeld => ?_);clear hK K;refine nX_ (some 15) ?_
       refine pU_ 3 (some 16) ?_
       refine pU_ 4 (some 17) ?_
       refine pure_ (i:=5) (N:=some 18) (v:=undef) (a':=?_) #[true,true,true,true,true,true,false,false,false,false,false,false,false,false,false,false,false,false,false,false,false,false,false,false,false,false,false,false,false,false,false,false,false,false,false] rfl rfl (any_of HT_.out (by kernel_rfl)) (fun _ _ _ h => h) (Or.inr ⟨by rfl,rfl⟩) ?_ ?_;rotate_left
       ·exact ux_
       refine pure_ (i:=6) (N:=some 19) (v:=undef) (a':=?_) #[true,true,true,true,true,true,true,false,false,false,false,false,false,false,false,false,false,false,false,false,false,false,false,false,false,false,false,false,false,false,false,false,false,false,false] rfl rfl (any_of HT_.out (by kernel_rfl)) (fun _ _ _ h => h) (Or.inr ⟨by rfl,rfl⟩) ?_ ?_;rotate_left
       ·exact ux_
       refine pure_ (i:=7) (N:=some 20) (v:=undef) (a':=?_) #[true,true,true,true,true,true,true,true,false,false,false,false,false,false,false,false,false,false,false,false,false,false,false,false,false,false,false,false,false,false,false,false,false,false,false] rfl rfl (any_of HT_.out (by kernel_rfl)) (fun _ _ _ h => h) (Or.inr ⟨by rfl,rfl⟩) ?_ ?_;rotate_left
       ·exact ux_
       refine pure_ (i:=8) (N:=some 21) (v:=undef) (a':=?_) #[true,true,true,true,true,true,true,true,true,false,false,false,false,false,false,false,false,false,false,false,false,false,false,false,false,false,false,false,false,false,false,false,false,false,false] rfl rfl (any_of HT_.out (by kernel_rfl)) (fun _ _ _ h => h) (Or.inr ⟨by rfl,rfl⟩) ?_ ?_;rotate_left
       ·exact ux_
       refine pU_ 9 (some 22) ?_
       refine pU_ 10 (some 23) ?_
       refine pure_ (i:=11) (N:=some 24) (v:=undef) (a':=?_) #[true,true,true,true,true,true,true,true,true,true,true,true,false,false,false,false,false,false,false,false,false,false,false,false,false,false,false,false,false,false,false,false,false,false,false] rfl rfl (any_of HT_.out (by kernel_rfl)) (fun _ _ _ h => h) (Or.inr ⟨by rfl,rfl⟩) ?_ ?_;rotate_left
       ·exact ux_
       refine pure_ (i:=12) (N:=some 25) (v:=undef) (a':=?_) #[true,true,true,true,true,true,true,true,true,true,true,true,true,false,false,false,false,false,false,false,false,false,false,false,false,false,false,false,false,false,false,false,false,false,false] rfl rfl (any_of HT_.out (by kernel_rfl)) (fun _ _ _ h => h) (Or.inr ⟨by rfl,rfl⟩) ?_ ?_;rotate_left
       ·exact ux_
       refine pure_ (i:=13) (N:=some 26) (v:=undef) (a':=?_) #[true,true,true,true,true,true,true,true,true,true,true,true,true,true,false,false,false,false,false,false,false,false,false,false,false,false,false,false,false,false,false,false,false,false,false] rfl rfl (any_of HT_.out (by kernel_rfl)) (fun _ _ _ h => h) (Or.inr ⟨by rfl,rfl⟩) ?_ ?_;rotate_left
       ·exact ux_
       refine pure_ (i:=14) (N:=some 27) (v:=undef) (a':=?_) #[true,true,true,true,true,true,true,true,true,true,true,true,true,true,true,false,false,false,false,false,false,false,false,false,false,false,false,false,false,false,false,false,false,false,false] rfl rfl (any_of HT_.out (by kernel_rfl)) (fun _ _ _ h => h) (Or.inr ⟨by rfl,rfl⟩) ?_ ?_;rotate_left
       ·exact ux_
       refine pure_ (i:=15) (N:=some 28) (v:=undef) (a':=?_) #[true,true,true,true,true,true,true,true,true,true,true,true,true,true,true,true,false,false,false,false,false,false,false,false,false,false,false,false,false,false,false,false,false,false,false] rfl rfl (any_of HT_.out (by kernel_rfl)) (fun _ _ _ h => h) (Or.inr ⟨by rfl,rfl⟩) ?_ ?_;rotate_left
       ·exact ux_
       refine pure_ (i:=16) (N:=some 29) (v:=undef) (a':=?_) #[true,true,true,true,true,true,true,true,true,true,true,true,true,true,true,true,true,false,false,false,false,false,false,false,false,false,false,false,false,false,false,false,false,false,false] rfl rfl (any_of HT_.out (by kernel_rfl)) (fun _ _ _ h => h) (Or.inr ⟨by rfl,rfl⟩) ?_ ?_;rotate_left
       ·exact ux_
       refine pure_ (i:=17) (N:=some 30) (v:=undef) (a':=?_) #[true,true,true,true,true,true,true,true,true,true,true,true,true,true,true,true,true,true,false,false,false,false,false,false,false,false,false,false,false,false,false,false,false,false,false] rfl rfl (any_of HT_.out (by kernel_rfl)) (fun _ _ _ h => h) (Or.inr ⟨by rfl,rfl⟩) ?_ ?_;rotate_left
       ·exact ux_
       refine pU_ 18 (some 31) ?_
       refine pU_ 19 (some 32) ?_
       refine pure_ (i:=20) (N:=some 33) (v:=undef) (a':=?_) #[true,true,true,true,true,true,true,true,true,true,true,true,true,true,true,true,true,true,true,true,true,false,false,false,false,false,false,false,false,false,false,false,false,false,false] rfl rfl (any_of HT_.out (by kernel_rfl)) (fun _ _ _ h => h) (Or.inr ⟨by rfl,rfl⟩) ?_ ?_;rotate_left
       ·exact ux_
       refine pure_ (i:=21) (N:=some 34) (v:=undef) (a':=?_) #[true,true,true,true,true,true,true,true,true,true,true,true,true,true,true,true,true,true,true,true,true,true,false,false,false,false,false,false,false,false,false,false,false,false,false] rfl rfl (any_of HT_.out (by kernel_rfl)) (fun _ _ _ h => h) (Or.inr ⟨by rfl,rfl⟩) ?_ ?_;rotate_left
       ·exact ux_
       refine pure_ (i:=22) (N:=some 35) (v:=undef) (a':=?_) #[true,true,true,true,true,true,true,true,true,true,true,true,true,true,true,true,true,true,true,true,true,true,true,false,false,false,false,false,false,false,false,false,false,false,false] rfl rfl (any_of HT_.out (by kernel_rfl)) (fun _ _ _ h => h) (Or.inr ⟨by rfl,rfl⟩) ?_ ?_;rotate_left
       ·exact ux_
       refine pure_ (i:=23) (N:=some 36) (v:=undef) (a':=?_) #[true,true,true,true,true,true,true,true,true,true,true,true,true,true,true,true,true,true,true,true,true,true,true,true,false,false,false,false,false,false,false,false,false,false,false] rfl rfl (any_of HT_.out (by kernel_rfl)) (fun _ _ _ h => h) (Or.inr ⟨by rfl,rfl⟩) ?_ ?_;rotate_left
       ·exact ux_
       refine pure_ (i:=24) (N:=some 37) (v:=undef) (a':=?_) #[true,true,true,true,true,true,true,true,true,true,true,true,true,true,true,true,true,true,true,true,true,true,true,true,true,false,false,false,false,false,false,false,false,false,false] rfl rfl (any_of HT_.out (by kernel_rfl)) (fun _ _ _ h => h) (Or.inr ⟨by rfl,rfl⟩) ?_ ?_;rotate_left
       ·exact ux_
       refine pure_ (i:=25) (N:=some 38) (v:=undef) (a':=?_) #[true,true,true,true,true,true,true,true,true,true,true,true,true,true,true,true,true,true,true,true,true,true,true,true,true,true,false,false,false,false,false,false,false,false,false] rfl rfl (any_of HT_.out (by kernel_rfl)) (fun _ _ _ h => h) (Or.inr ⟨by rfl,rfl⟩) ?_ ?_;rotate_left
       ·exact ux_
       refine pure_ (i:=26) (N:=some 39) (v:=undef) (a':=?_) #[true,true,true,true,true,true,true,true,true,true,true,true,true,true,true,true,true,true,true,true,true,true,true,true,true,true,true,false,false,false,false,false,false,false,false] rfl rfl (any_of HT_.out (by kernel_rfl)) (fun _ _ _ h => h) (Or.inr ⟨by rfl,rfl⟩) ?_ ?_;rotate_left
       ·exact ux_
       refine pure_ (i:=27) (N:=some 40) (v:=undef) (a':=?_) #[true,true,true,true,true,true,true,true,true,true,true,true,true,true,true,true,true,true,true,true,true,true,true,true,true,true,true,true,false,false,false,false,false,false,false] rfl rfl (any_of HT_.out (by kernel_rfl)) (fun _ _ _ h => h) (Or.inr ⟨by rfl,rfl⟩) ?_ ?_;rotate_left
       ·exact ux_
       refine pure_ (i:=28) (N:=some 41) (v:=undef) (a':=?_) #[true,true,true,true,true,true,true,true,true,true,true,true,true,true,true,true,true,true,true,true,true,true,true,true,true,true,true,true,true,false,false,false,false,false,false] rfl rfl (any_of HT_.out (by kernel_rfl)) (fun _ _ _ h => h) (Or.inr ⟨by rfl,rfl⟩) ?_ ?_;rotate_left
       ·exact ux_
       refine pure_ (i:=29) (N:=some 42) (v:=undef) (a':=?_) #[true,true,true,true,true,true,true,true,true,true,true,true,true,true,true,true,true,true,true,true,true,true,true,true,true,true,true,true,true,true,false,false,false,false,false] rfl rfl (any_of HT_.out (by kernel_rfl)) (fun _ _ _ h => h) (Or.inr ⟨by rfl,rfl⟩) ?_ ?_;rotate_left
       ·exact ux_
       refine pure_ (i:=30) (N:=some 43) (v:=undef) (a':=?_) #[true,true,true,true,true,true,true,true,true,true,true,true,true,true,true,true,true,true,true,true,true,true,true,true,true,true,true,true,true,true,true,false,false,false,false] rfl rfl (any_of HT_.out (by kernel_rfl)) (fun _ _ _ h => h) (Or.inr ⟨by rfl,rfl⟩) ?_ ?_;rotate_left
       ·exact ux_
       refine pure_ (i:=31) (N:=some 44) (v:=undef) (a':=?_) #[true,true,true,true,true,true,true,true,true,true,true,true,true,true,true,true,true,true,true,true,true,true,true,true,true,true,true,true,true,true,true,true,false,false,false] rfl rfl (any_of HT_.out (by kernel_rfl)) (fun _ _ _ h => h) (Or.inr ⟨by rfl,rfl⟩) ?_ ?_;rotate_left
       ·exact ux_
       refine pure_ (i:=32) (N:=some 45) (v:=undef) (a':=?_) #[true,true,true,true,true,true,true,true,true,true,true,true,true,true,true,true,true,true,true,true,true,true,true,true,true,true,true,true,true,true,true,true,true,false,false] rfl rfl (any_of HT_.out (by kernel_rfl)) (fun _ _ _ h => h) (Or.inr ⟨by rfl,rfl⟩) ?_ ?_;rotate_left
       ·exact ux_
       refine pure_ (i:=33) (N:=some 46) (v:=undef) (a':=?_) #[true,true,true,true,true,true,true,true,true,true,true,true,true,true,true,true,true,true,true,true,true,true,true,true,true,true,true,true,true,true,true,true,true,true,false] rfl rfl (any_of HT_.out (by kernel_rfl)) (fun _ _ _ h => h) (Or.inr ⟨by rfl,rfl⟩) ?_ ?_;rotate_left
       ·exact ux_
       refine pU_ 34 (some 47) ?_
       refine done_ (done_of HT_.out (by kernel_rfl)) ?_
       try go_wp2
       go_ret;exact ⟨ex_,bq_ HB⟩
     ·rw [if_neg c6] at H;exact absurd H (by simp)
    ·rw [if_neg c5] at H;exact absurd H (by simp)
   ·rw [if_neg c4] at H;have c4b0 : decide (x8_1 < (l0_1.length : Int)) = false:=decide_eq_false c4;clear c4;replace H:=ob_.mp H;obtain ⟨t285,A680,H⟩:=H;(try dsimp only at H);have A68:=A_ A680;clear A680
    by_cases c69 : t285 = true
    ·subst c69
     rw [if_pos rfl] at H;obtain rfl:=Option.some.inj H;obtain ⟨hcz70_0,hcz70_1,hfz70_0,hfz70_1⟩:=k2f_ BK279
     go_wp2_with (first|((with_reducible refine gate_callee (f:=47) rfl ?_);refine gL_ (some 51) Try.func47 #[.int .i64 a0_0,.int .i64 0,.int .i64 100000] ?_;(with_reducible refine (impl_within.calls a0_0 0 100000 true _ A68.out).mono ?_);rintro e w' ⟨rfl,⟨nd,rfl⟩⟩;refine ⟨_,rfl,?_⟩))
     go_ret;exact ⟨ex_,bq_ HB⟩
    ·replace c69:=Bool.eq_false_iff.mpr c69;subst c69
     have H1 : (some false) = some r:=by rw [if_neg (show ¬ (false = true) by decide)] at H;exact H
     clear H;have H:=H1;clear H1;obtain rfl:=Option.some.inj H;obtain ⟨hcz71_0,hcz71_1,hfz71_0,hfz71_1⟩:=k2f_ BK279
     go_wp2_with (first|((with_reducible refine gate_callee (f:=47) rfl ?_);refine gL_ (some 51) Try.func47 #[.int .i64 a0_0,.int .i64 0,.int .i64 100000] ?_;(with_reducible refine (impl_within.calls a0_0 0 100000 false _ A68.out).mono ?_);rintro e w' ⟨rfl,⟨nd,rfl⟩⟩;refine ⟨_,rfl,?_⟩))
     go_ret;exact ⟨ex_,bq_ HB⟩
end Go.Proofs.Ytbcgnncbiblibaa.PFnExactScanSeg
