/- The contracts of the Go functions that this law reaches: what each call returns, by a plain Lean function of its arguments. No conditions but those each contract names. By the kit's print.py, run by this session's wip/gen/pp.py with facts and hand proofs beside it: not to the letter what print.sh prints. -/
import Derived.Test.YtgpafelepkhdoaaPFnExactReadHintx0
import Derived.Test.YtgpafelepkhdoaaPFnExactReadHintx6
import Derived.Test.YtgpafelepkhdoaaPFnExactReadHintx9
namespace Go.Proofs.Ytgpafelepkhdoaa.PFnExactReadHint
open Go.RowKit Go.Proofs.YtgpafelepkhdoaaW.PrintWords Go.Proofs.YtgpafelepkhdoaaW.PrintLast Go.Proofs.YtgpafelepkhdoaaW.PrintMore
attribute [local go_sem] max2_int min2_int max_two min_two max_three min_three max_four min_four
set_option linter.unusedVariables false
set_option linter.unusedSimpArgs false
def impl_DirOk.l0 : Nat → List (S127) → List (S127) → Int → Int → Option (Bool)
 | 0,_,_,_,_ => none
 | k + 1,x0,x5,x6,x7 => if x7 < x6 then (if 0 ≤ x7 then (if x7 < (x5.length : Int) then ((impl_keyOk.f ((rd_T127 x5 x7).f0)).bind fun t225 => (if t225 = true then ((impl_within.f ((rd_T127 x5 x7).f1) 0 999).bind fun t226 => (if t226 = true then ((impl_within.f ((rd_T127 x5 x7).f2) 0 20000).bind fun t227 => (if t227 = true then ((impl_within.f ((rd_T127 x5 x7).f3) 0 40).bind fun t228 => (if t228 = true then (if x7 > 0 then (if 0 ≤ (wrap64 (x7 - 1)) then (if (wrap64 (x7 - 1)) < (x0.length : Int) then (if ((Op.bytesLess (((rd_T127 x0 (wrap64 (x7 - 1))).f0).toList) (((rd_T127 x5 x7).f0).toList)) = true) then (impl_DirOk.l0 k x0 x5 x6 (wrap64 (x7 + 1))) else (some false)) else (none)) else (none)) else (impl_DirOk.l0 k x0 x5 x6 (wrap64 (x7 + 1)))) else (some false))) else (some false))) else (some false))) else (some false))) else (none)) else (none)) else (some (decide ((x0.length : Int) ≤ 60)))
def impl_DirOk.f (k : Nat) (l0 : List (S127)) : Option (Bool) := impl_DirOk.l0 k l0 l0 (l0.length : Int) 0
theorem impl_DirOk.mono_l : ∀ k, (∀ y0 y1 y2 y3, LeO (impl_DirOk.l0 k y0 y1 y2 y3) (impl_DirOk.l0 (k + 1) y0 y1 y2 y3))
 | 0 => fun _ _ _ _ r h => by simp [impl_DirOk.l0] at h
 | k + 1 => by
  have ih0:=impl_DirOk.mono_l k
  ·intro y0 y1 y2 y3
   unfold impl_DirOk.l0
   repeat' first
   | (with_reducible exact ih0 _ _ _ _)
   | (with_reducible exact LeO.refl _)
   | (with_reducible exact LeO.none _)
   | (with_reducible refine LeO.ite ?_ ?_)
   | (with_reducible refine LeO.bind ?_ (fun _ => ?_))
theorem impl_DirOk.mono : ∀ a0 k, LeO (impl_DirOk.f k a0) (impl_DirOk.f (k + 1) a0) := by
 intro a0 k;have ih0:=impl_DirOk.mono_l k
 unfold impl_DirOk.f
 repeat' first
   | (with_reducible exact ih0 _ _ _ _)
   | (with_reducible exact LeO.refl _)
   | (with_reducible exact LeO.none _)
   | (with_reducible refine LeO.ite ?_ ?_)
   | (with_reducible refine LeO.bind ?_ (fun _ => ?_))
def impl_DirOk.T4 : Bool × List (List Nat × List Nat) := (true, [([], []), ([0], [0]), ([1], [1]), ([2], [2]), ([3, 2], [3]), ([4], [4]), ([5, 4], [4, 5]), ([6, 4, 4], [4, 6]), ([7, 4], [4, 7]), ([4, 8], [4, 8]), ([9, 7], [9]), ([10], [10]), ([11, 10], [10, 11]), ([12, 10, 10], [10, 12]), ([13, 10], [10, 13]), ([10, 14], [10, 14]), ([15, 13], [15]), ([16], [16]), ([17, 16], [16, 17]), ([18, 16, 16], [16, 18]), ([19, 16], [16, 19]), ([16, 20], [16, 20]), ([21, 19], [21]), ([22], [22]), ([23, 22], [22, 23]), ([24, 22, 22], [22, 24]), ([25], [25]), ([25], [25]), ([27, 25], [25, 27]), ([26, 28, 25], [25, 26, 28]), ([29, 25], [25, 29]), ([30, 25], [25, 30]), ([25], [25]), ([32, 25], [25, 32]), ([31, 33, 25], [25, 31, 33]), ([25, 34, 22], [22, 25, 34]), ([22, 35], [22, 35])])
def impl_DirOk.B4 : List Nat := [0, 1, 3, 7, 15, 31, 63, 127, 255, 511, 1023, 2047, 4095, 8191, 16383, 32767, 65535, 131071, 262143, 524287, 1048575, 2097151, 4194303, 8388607, 16777215, 33554431, 67108863, 67108863, 201326591, 536870911, 1073741823, 2147483647, 67108863, 4362076159, 17179869183, 34359738367, 68719476735]
theorem impl_DirOk.tab4 : rtab .any (opsOf Try.f112 4) = impl_DirOk.T4 := by kernel_rfl
theorem impl_DirOk.bits4 : waitsOk impl_DirOk.T4.2 impl_DirOk.B4 = true := by kernel_rfl
set_option maxHeartbeats 8000000 in
set_option maxRecDepth 100000 in
theorem impl_DirOk.calls (k : Nat) (A0 : Option Addr) (c0 : Nat) (l0 : List (S127)) (r : Bool) (w : World) (hr0 : Kd.C k127 w A0 l0.length l0) (hc0 : l0.length ≤ c0) (h : impl_DirOk.f k l0 = some r) :
  Calls Try.prog 112 #[.slice A0 l0.length c0] w fun e w' => e = .returned (.bool r) ∧ Below w.heap.size w w':=by
 have hu127:=Try.underlying127;have HR0:=A_ hr0;have HC0:=A_ hc0;clear hr0 hc0;have HB:=A_ (Below.refl w.heap.size w);unfold impl_DirOk.f at h;have H:=h;clear h;have H':=A_ H;clear H;go_enter Try.func112,Try.ntmps112;go_wp2
 go_loopg [7] k (fun kq v7 w' => ∃ (x7_1 : Int),v7 = .int .i64 x7_1 ∧ Aside0 (impl_DirOk.l0 kq l0 l0 (l0.length : Int) x7_1 = some r) ∧ Aside0 (kq ≤ k) ∧ Aside0 (Below w.heap.size w w'))
 case atStart => exact ⟨(0),(by first|rfl|(simp;done)|(simp [*];done)),H',⟨Nat.le_refl _⟩,⟨bq_ HB⟩⟩
 case round =>
  clear H'
  try clear c1
  obtain ⟨x7_1,rfl,HA,HK1,HB⟩:=hrel
  cases gk with
  | zero => exact absurd HA.out (by simp [impl_DirOk.l0])
  | succ k1 =>
   have H:=HA.out;clear HA;simp only [impl_DirOk.l0] at H
   by_cases c2 : x7_1 < (l0.length : Int)
   ·rw [if_pos c2] at H;have c2b0 : decide (x7_1 < (l0.length : Int)) = true:=de_ c2;clear c2
    by_cases c3 : 0 ≤ x7_1
    ·rw [if_pos c3] at H;have c3b0 : decide (0 ≤ x7_1) = true:=de_ c3;clear c3
     by_cases c4 : x7_1 < (l0.length : Int)
     ·rw [if_pos c4] at H;have c4b0 : decide (x7_1 < (l0.length : Int)) = true:=de_ c4;clear c4;replace H:=ob_.mp H;obtain ⟨t225,A50,H⟩:=H;(try dsimp only at H);have A5:=A_ A50;clear A50
      by_cases c6 : t225 = true
      ·subst c6
       rw [if_pos rfl] at H;replace H:=ob_.mp H;obtain ⟨t226,A70,H⟩:=H;(try dsimp only at H);have A7:=A_ A70;clear A70
       by_cases c8 : t226 = true
       ·subst c8
        rw [if_pos rfl] at H;replace H:=ob_.mp H;obtain ⟨t227,A90,H⟩:=H;(try dsimp only at H);have A9:=A_ A90;clear A90
        by_cases c10 : t227 = true
        ·subst c10
         rw [if_pos rfl] at H;replace H:=ob_.mp H;obtain ⟨t228,A110,H⟩:=H;(try dsimp only at H);have A11:=A_ A110;clear A110
         by_cases c12 : t228 = true
         ·subst c12
          rw [if_pos rfl] at H
          by_cases c13 : x7_1 > 0
          ·rw [if_pos c13] at H;have c13b0 : decide (0 < x7_1) = true:=de_ c13;clear c13;obtain ⟨ji14,hji14⟩ : ∃ j_ : Int,(wrap64 (x7_1 - 1)) = j_:=⟨_,rfl⟩
           replace H : (if 0 ≤ (ji14) then (if (ji14) < (l0.length : Int) then (if ((Op.bytesLess (((rd_T127 l0 (ji14)).f0).toList) (((rd_T127 l0 x7_1).f0).toList)) = true) then (impl_DirOk.l0 k1 l0 l0 (l0.length : Int) (wrap64 (x7_1 + 1))) else (some false)) else (none)) else (none)) = some r:=by first|(rw [hji14] at H;exact H)|(simp only [hji14] at H ⊢;exact H)
           (try rw [hji14] at A5)
           (try rw [hji14] at A7)
           (try rw [hji14] at A9)
           (try rw [hji14] at A11)
           have hji14w : (IntKind.i64.wrap (x7_1 - 1)) = ji14:=(i64_w _).trans hji14
           by_cases c15 : 0 ≤ (ji14)
           ·rw [if_pos c15] at H;have c15b0 : decide (0 ≤ (ji14)) = true:=de_ c15;clear c15
            by_cases c16 : (ji14) < (l0.length : Int)
            ·rw [if_pos c16] at H;have c16b0 : decide ((ji14) < (l0.length : Int)) = true:=de_ c16;clear c16
             by_cases c17 : ((Op.bytesLess (((rd_T127 l0 (ji14)).f0).toList) (((rd_T127 l0 x7_1).f0).toList)) = true)
             ·rw [if_pos c17] at H;have c17b0 : (Op.bytesLess (((rd_T127 l0 (ji14)).f0).toList) (((rd_T127 l0 x7_1).f0).toList)) = true:=c17;clear c17;have H':=A_ H;clear H;have p223 : 0 ≤ (x7_1 : Int):=oda_;have q223 : x7_1 < (l0.length : Int):=oda_;obtain ⟨ad223,e223,hx223_0,hx223_1,hx223_2,hx223_3⟩:=at_T127 HR0.out x7_1 p223 q223
              cases e223
              replace hx223_0:=(HB.out.cell (wb_ w _ hx223_0)).trans hx223_0;replace hx223_1:=(HB.out.cell (wb_ w _ hx223_1)).trans hx223_1;replace hx223_2:=(HB.out.cell (wb_ w _ hx223_2)).trans hx223_2;replace hx223_3:=(HB.out.cell (wb_ w _ hx223_3)).trans hx223_3;replace p223:=eq_true p223;replace q223:=eq_true q223
              try go_wp2_with (first|((with_reducible refine gate_dst (N:=4) rfl ?_);refine bE_ 4 #[.string (⟨#[]⟩ : ByteArray),.int .i64 0,.int .i64 0,.int .i64 0] 127 ?_;intro gb224 hg w18 hbox hb;have BK224:=A_ (hbox);have GW224:=gE_ hg HB;have GE224:=gE_ hg HB;replace HB:=bS_ HB hb;clear hb hbox hg;obtain ⟨hcz19_0,hcz19_1,hcz19_2,hcz19_3,hfz19_0,hfz19_1,hfz19_2,hfz19_3⟩:=k4f_ BK224))
              have n0_ : Aside0 (((((w18.setCell ⟨gb224,0,none⟩ (.string ((rd_T127 l0 x7_1).f0))).setCell ⟨gb224,1,none⟩ (.int .i64 ((rd_T127 l0 x7_1).f1))).setCell ⟨gb224,2,none⟩ (.int .i64 ((rd_T127 l0 x7_1).f2))).setCell ⟨gb224,3,none⟩ (.int .i64 ((rd_T127 l0 x7_1).f3))).heap[gb224]? = some (.cells #[.string ((rd_T127 l0 x7_1).f0),.int .i64 ((rd_T127 l0 x7_1).f1),.int .i64 ((rd_T127 l0 x7_1).f2),.int .i64 ((rd_T127 l0 x7_1).f3)] 127 (0,0))):=⟨kz_ BK224⟩;have n1_ : Aside0 (Below w.heap.size w ((((w18.setCell ⟨gb224,0,none⟩ (.string ((rd_T127 l0 x7_1).f0))).setCell ⟨gb224,1,none⟩ (.int .i64 ((rd_T127 l0 x7_1).f1))).setCell ⟨gb224,2,none⟩ (.int .i64 ((rd_T127 l0 x7_1).f2))).setCell ⟨gb224,3,none⟩ (.int .i64 ((rd_T127 l0 x7_1).f3)))):=⟨bq_ HB⟩
              (try clear BK224)
              (try clear HB)
              generalize ((((w18.setCell ⟨gb224,0,none⟩ (.string ((rd_T127 l0 x7_1).f0))).setCell ⟨gb224,1,none⟩ (.int .i64 ((rd_T127 l0 x7_1).f1))).setCell ⟨gb224,2,none⟩ (.int .i64 ((rd_T127 l0 x7_1).f2))).setCell ⟨gb224,3,none⟩ (.int .i64 ((rd_T127 l0 x7_1).f3))) = w20 at n0_ n1_ ⊢;have BK224:=n0_;have HB:=n1_;clear n0_ n1_;replace BK224:=A_ (kd_ BK224.out);replace HB:=A_ (pd_ HB.out);have p229 : 0 ≤ ((ji14) : Int):=oda_;have q229 : (ji14) < (l0.length : Int):=oda_;obtain ⟨ad229,e229,hx229_0,hx229_1,hx229_2,hx229_3⟩:=at_T127 HR0.out (ji14) p229 q229;have hw229_3:=hx229_3;have hw229_2:=hx229_2;have hw229_1:=hx229_1;have hw229_0:=hx229_0;obtain rfl : ad223 = ad229:=(by injection e229);replace hx229_0:=(HB.out.cell (wb_ w _ hx229_0)).trans hx229_0;replace hx229_1:=(HB.out.cell (wb_ w _ hx229_1)).trans hx229_1;replace hx229_2:=(HB.out.cell (wb_ w _ hx229_2)).trans hx229_2;replace hx229_3:=(HB.out.cell (wb_ w _ hx229_3)).trans hx229_3;replace p229:=eq_true p229;replace q229:=eq_true q229;refine start_ (n:=37) (S:=fun w' => w'.cell? ⟨gb224,0,none⟩ = some (.string ((rd_T127 l0 x7_1).f0)) ∧ w'.cell? ⟨gb224,1,none⟩ = some (.int .i64 ((rd_T127 l0 x7_1).f1)) ∧ w'.cell? ⟨gb224,2,none⟩ = some (.int .i64 ((rd_T127 l0 x7_1).f2)) ∧ w'.cell? ⟨gb224,3,none⟩ = some (.int .i64 ((rd_T127 l0 x7_1).f3)) ∧ w'.cell? (ad223.add (((ji14)).toNat * 4)) = some (.string ((rd_T127 l0 (ji14)).f0)) ∧ w'.cell? ⟨(ad223.add (((ji14)).toNat * 4)).block,(ad223.add (((ji14)).toNat * 4)).off + 1,none⟩ = some (.int .i64 ((rd_T127 l0 (ji14)).f1)) ∧ w'.cell? ⟨(ad223.add (((ji14)).toNat * 4)).block,(ad223.add (((ji14)).toNat * 4)).off + 2,none⟩ = some (.int .i64 ((rd_T127 l0 (ji14)).f2)) ∧ w'.cell? ⟨(ad223.add (((ji14)).toNat * 4)).block,(ad223.add (((ji14)).toNat * 4)).off + 3,none⟩ = some (.int .i64 ((rd_T127 l0 (ji14)).f3))) (ds:=[]) #[false,false,false,false,false,false,false,false,false,false,false,false,false,false,false,false,false,false,false,false,false,false,false,false,false,false,false,false,false,false,false,false,false,false,false,false,false] (by kernel_rfl) rfl rfl ⟨kC_ BK224 0,kC_ BK224 1,kC_ BK224 2,kC_ BK224 3,((HB.out.cell (wb_ w _ hw229_0)).trans hw229_0),((HB.out.cell (wb_ w _ hw229_1)).trans hw229_1),((HB.out.cell (wb_ w _ hw229_2)).trans hw229_2),((HB.out.cell (wb_ w _ hw229_3)).trans hw229_3)⟩ (fun hHeld => ?_);refine with_tabW impl_DirOk.tab4 impl_DirOk.bits4 (fun HT_ HW_ => ?_);generalize w20.drew = w21 at BK224 HB hx229_0 hx229_1 hx229_2 hx229_3 hHeld ⊢;refine pU_ 0 (some 12) ?_
              refine tK_ 1 (some 13) hHeld ?_
              refine oN_ 2 (some 14) (fun K hK => ?_);refine gs_ Try.func157 #[.string ((rd_T127 l0 x7_1).f0)] ?_;with_reducible refine (impl_keyOk.calls ((rd_T127 l0 x7_1).f0) true _ A5.out).mono ?_;rintro e w' ⟨rfl,⟨nd,rfl⟩⟩;refine ⟨_,rfl,?_⟩;have BK224d_:=A_ (kn_ BK224.out nd);have HBd_:=A_ (pn_ HB.out nd);refine hK.out _ _ ⟨kC_ BK224d_ 0,kC_ BK224d_ 1,kC_ BK224d_ 2,kC_ BK224d_ 3,((HBd_.out.cell (wb_ w _ hw229_0)).trans hw229_0),((HBd_.out.cell (wb_ w _ hw229_1)).trans hw229_1),((HBd_.out.cell (wb_ w _ hw229_2)).trans hw229_2),((HBd_.out.cell (wb_ w _ hw229_3)).trans hw229_3)⟩ (fun hHeld => ?_);clear hK K;refine nX_ (some 14) ?_
              refine pU_ 3 (some 15) ?_
              refine pU_ 4 (some 16) ?_
              refine pU_ 5 (some 17) ?_
              refine tK_ 6 (some 18) hHeld ?_
              refine oN_ 7 (some 19) (fun K hK => ?_);refine gs_ Try.func75 #[.int .i64 ((rd_T127 l0 x7_1).f1),.int .i64 0,.int .i64 999] ?_;with_reducible refine (impl_within.calls ((rd_T127 l0 x7_1).f1) 0 999 true _ A7.out).mono ?_;rintro e w' ⟨rfl,⟨nd,rfl⟩⟩;refine ⟨_,rfl,?_⟩;replace BK224d_:=A_ (kn_ BK224d_.out nd);replace HBd_:=A_ (pn_ HBd_.out nd);refine hK.out _ _ ⟨kC_ BK224d_ 0,kC_ BK224d_ 1,kC_ BK224d_ 2,kC_ BK224d_ 3,((HBd_.out.cell (wb_ w _ hw229_0)).trans hw229_0),((HBd_.out.cell (wb_ w _ hw229_1)).trans hw229_1),((HBd_.out.cell (wb_ w _ hw229_2)).trans hw229_2),((HBd_.out.cell (wb_ w _ hw229_3)).trans hw229_3)⟩ (fun hHeld => ?_);clear hK K;refine nX_ (some 19) ?_
              refine pU_ 8 (some 20) ?_
              refine pU_ 9 (some 21) ?_
              refine pU_ 10 (some 22) ?_
              refine pU_ 11 (some 23) ?_
              refine tK_ 12 (some 24) hHeld ?_
              refine oN_ 13 (some 25) (fun K hK => ?_);refine gs_ Try.func75 #[.int .i64 ((rd_T127 l0 x7_1).f2),.int .i64 0,.int .i64 20000] ?_;with_reducible refine (impl_within.calls ((rd_T127 l0 x7_1).f2) 0 20000 true _ A9.out).mono ?_;rintro e w' ⟨rfl,⟨nd,rfl⟩⟩;refine ⟨_,rfl,?_⟩;replace BK224d_:=A_ (kn_ BK224d_.out nd);replace HBd_:=A_ (pn_ HBd_.out nd);refine hK.out _ _ ⟨kC_ BK224d_ 0,kC_ BK224d_ 1,kC_ BK224d_ 2,kC_ BK224d_ 3,((HBd_.out.cell (wb_ w _ hw229_0)).trans hw229_0),((HBd_.out.cell (wb_ w _ hw229_1)).trans hw229_1),((HBd_.out.cell (wb_ w _ hw229_2)).trans hw229_2),((HBd_.out.cell (wb_ w _ hw229_3)).trans hw229_3)⟩ (fun hHeld => ?_);clear hK K;refine nX_ (some 25) ?_
              refine pU_ 14 (some 26) ?_
              refine pU_ 15 (some 27) ?_
              refine pU_ 16 (some 28) ?_
              refine pU_ 17 (some 29) ?_
              refine tK_ 18 (some 30) hHeld ?_
              refine oN_ 19 (some 31) (fun K hK => ?_);refine gs_ Try.func75 #[.int .i64 ((rd_T127 l0 x7_1).f3),.int .i64 0,.int .i64 40] ?_;with_reducible refine (impl_within.calls ((rd_T127 l0 x7_1).f3) 0 40 true _ A11.out).mono ?_;rintro e w' ⟨rfl,⟨nd,rfl⟩⟩;refine ⟨_,rfl,?_⟩;replace BK224d_:=A_ (kn_ BK224d_.out nd);replace HBd_:=A_ (pn_ HBd_.out nd);refine hK.out _ _ ⟨kC_ BK224d_ 0,kC_ BK224d_ 1,kC_ BK224d_ 2,kC_ BK224d_ 3,((HBd_.out.cell (wb_ w _ hw229_0)).trans hw229_0),((HBd_.out.cell (wb_ w _ hw229_1)).trans hw229_1),((HBd_.out.cell (wb_ w _ hw229_2)).trans hw229_2),((HBd_.out.cell (wb_ w _ hw229_3)).trans hw229_3)⟩ (fun hHeld => ?_);clear hK K;refine nX_ (some 31) ?_
              refine pU_ 20 (some 32) ?_
              refine pU_ 21 (some 33) ?_
              refine pU_ 22 (some 34) ?_
              refine pU_ 23 (some 35) ?_
              refine pU_ 24 (some 36) ?_
              refine pU_ 25 (some 37) ?_
              refine pU_ 26 (some 38) ?_
              refine pU_ 27 (some 39) ?_
              refine pU_ 28 (some 40) ?_
              refine pU_ 29 (some 41) ?_
              refine pU_ 30 (some 42) ?_
              refine pU_ 32 (some 44) ?_
              refine tK_ 31 (some 43) hHeld ?_
              refine tK_ 33 (some 45) hHeld ?_
              refine pU_ 34 (some 46) ?_
              refine pU_ 35 (some 47) ?_
              refine pU_ 36 (some 48) ?_
              refine done_ (done_of HT_.out (by kernel_rfl)) ?_
              try go_wp2
              go_roundg k1
              case measure => have:=HK1.out;omega
              case rel => exact ⟨(wrap64 (x7_1 + 1)),(by first|rfl|(simp;done)|(simp [*];done)),H',⟨by have:=HK1.out;omega⟩,⟨bq_ HB⟩⟩
             ·rw [if_neg c17] at H
              have c17b0 : (Op.bytesLess (((rd_T127 l0 (ji14)).f0).toList) (((rd_T127 l0 x7_1).f0).toList)) = false:=by simpa using c17
              clear c17;obtain rfl:=Option.some.inj H;have p223 : 0 ≤ (x7_1 : Int):=oda_;have q223 : x7_1 < (l0.length : Int):=oda_;obtain ⟨ad223,e223,hx223_0,hx223_1,hx223_2,hx223_3⟩:=at_T127 HR0.out x7_1 p223 q223
              cases e223
              replace hx223_0:=(HB.out.cell (wb_ w _ hx223_0)).trans hx223_0;replace hx223_1:=(HB.out.cell (wb_ w _ hx223_1)).trans hx223_1;replace hx223_2:=(HB.out.cell (wb_ w _ hx223_2)).trans hx223_2;replace hx223_3:=(HB.out.cell (wb_ w _ hx223_3)).trans hx223_3;replace p223:=eq_true p223;replace q223:=eq_true q223
              try go_wp2_with (first|((with_reducible refine gate_dst (N:=4) rfl ?_);refine bE_ 4 #[.string (⟨#[]⟩ : ByteArray),.int .i64 0,.int .i64 0,.int .i64 0] 127 ?_;intro gb224 hg w22 hbox hb;have BK224:=A_ (hbox);have GW224:=gE_ hg HB;have GE224:=gE_ hg HB;replace HB:=bS_ HB hb;clear hb hbox hg;obtain ⟨hcz23_0,hcz23_1,hcz23_2,hcz23_3,hfz23_0,hfz23_1,hfz23_2,hfz23_3⟩:=k4f_ BK224))
              have n0_ : Aside0 (((((w22.setCell ⟨gb224,0,none⟩ (.string ((rd_T127 l0 x7_1).f0))).setCell ⟨gb224,1,none⟩ (.int .i64 ((rd_T127 l0 x7_1).f1))).setCell ⟨gb224,2,none⟩ (.int .i64 ((rd_T127 l0 x7_1).f2))).setCell ⟨gb224,3,none⟩ (.int .i64 ((rd_T127 l0 x7_1).f3))).heap[gb224]? = some (.cells #[.string ((rd_T127 l0 x7_1).f0),.int .i64 ((rd_T127 l0 x7_1).f1),.int .i64 ((rd_T127 l0 x7_1).f2),.int .i64 ((rd_T127 l0 x7_1).f3)] 127 (0,0))):=⟨kz_ BK224⟩;have n1_ : Aside0 (Below w.heap.size w ((((w22.setCell ⟨gb224,0,none⟩ (.string ((rd_T127 l0 x7_1).f0))).setCell ⟨gb224,1,none⟩ (.int .i64 ((rd_T127 l0 x7_1).f1))).setCell ⟨gb224,2,none⟩ (.int .i64 ((rd_T127 l0 x7_1).f2))).setCell ⟨gb224,3,none⟩ (.int .i64 ((rd_T127 l0 x7_1).f3)))):=⟨bq_ HB⟩
              (try clear BK224)
              (try clear HB)
              generalize ((((w22.setCell ⟨gb224,0,none⟩ (.string ((rd_T127 l0 x7_1).f0))).setCell ⟨gb224,1,none⟩ (.int .i64 ((rd_T127 l0 x7_1).f1))).setCell ⟨gb224,2,none⟩ (.int .i64 ((rd_T127 l0 x7_1).f2))).setCell ⟨gb224,3,none⟩ (.int .i64 ((rd_T127 l0 x7_1).f3))) = w24 at n0_ n1_ ⊢;have BK224:=n0_;have HB:=n1_;clear n0_ n1_;replace BK224:=A_ (kd_ BK224.out);replace HB:=A_ (pd_ HB.out);have p229 : 0 ≤ ((ji14) : Int):=oda_;have q229 : (ji14) < (l0.length : Int):=oda_;obtain ⟨ad229,e229,hx229_0,hx229_1,hx229_2,hx229_3⟩:=at_T127 HR0.out (ji14) p229 q229;have hw229_3:=hx229_3;have hw229_2:=hx229_2;have hw229_1:=hx229_1;have hw229_0:=hx229_0;obtain rfl : ad223 = ad229:=(by injection e229);replace hx229_0:=(HB.out.cell (wb_ w _ hx229_0)).trans hx229_0;replace hx229_1:=(HB.out.cell (wb_ w _ hx229_1)).trans hx229_1;replace hx229_2:=(HB.out.cell (wb_ w _ hx229_2)).trans hx229_2;replace hx229_3:=(HB.out.cell (wb_ w _ hx229_3)).trans hx229_3;replace p229:=eq_true p229;replace q229:=eq_true q229;refine start_ (n:=37) (S:=fun w' => w'.cell? ⟨gb224,0,none⟩ = some (.string ((rd_T127 l0 x7_1).f0)) ∧ w'.cell? ⟨gb224,1,none⟩ = some (.int .i64 ((rd_T127 l0 x7_1).f1)) ∧ w'.cell? ⟨gb224,2,none⟩ = some (.int .i64 ((rd_T127 l0 x7_1).f2)) ∧ w'.cell? ⟨gb224,3,none⟩ = some (.int .i64 ((rd_T127 l0 x7_1).f3)) ∧ w'.cell? (ad223.add (((ji14)).toNat * 4)) = some (.string ((rd_T127 l0 (ji14)).f0)) ∧ w'.cell? ⟨(ad223.add (((ji14)).toNat * 4)).block,(ad223.add (((ji14)).toNat * 4)).off + 1,none⟩ = some (.int .i64 ((rd_T127 l0 (ji14)).f1)) ∧ w'.cell? ⟨(ad223.add (((ji14)).toNat * 4)).block,(ad223.add (((ji14)).toNat * 4)).off + 2,none⟩ = some (.int .i64 ((rd_T127 l0 (ji14)).f2)) ∧ w'.cell? ⟨(ad223.add (((ji14)).toNat * 4)).block,(ad223.add (((ji14)).toNat * 4)).off + 3,none⟩ = some (.int .i64 ((rd_T127 l0 (ji14)).f3))) (ds:=[]) #[false,false,false,false,false,false,false,false,false,false,false,false,false,false,false,false,false,false,false,false,false,false,false,false,false,false,false,false,false,false,false,false,false,false,false,false,false] (by kernel_rfl) rfl rfl ⟨kC_ BK224 0,kC_ BK224 1,kC_ BK224 2,kC_ BK224 3,((HB.out.cell (wb_ w _ hw229_0)).trans hw229_0),((HB.out.cell (wb_ w _ hw229_1)).trans hw229_1),((HB.out.cell (wb_ w _ hw229_2)).trans hw229_2),((HB.out.cell (wb_ w _ hw229_3)).trans hw229_3)⟩ (fun hHeld => ?_);refine with_tabW impl_DirOk.tab4 impl_DirOk.bits4 (fun HT_ HW_ => ?_);generalize w24.drew = w25 at BK224 HB hx229_0 hx229_1 hx229_2 hx229_3 hHeld ⊢;refine pU_ 0 (some 12) ?_
              refine tK_ 1 (some 13) hHeld ?_
              refine oN_ 2 (some 14) (fun K hK => ?_);refine gs_ Try.func157 #[.string ((rd_T127 l0 x7_1).f0)] ?_;with_reducible refine (impl_keyOk.calls ((rd_T127 l0 x7_1).f0) true _ A5.out).mono ?_;rintro e w' ⟨rfl,⟨nd,rfl⟩⟩;refine ⟨_,rfl,?_⟩;have BK224d_:=A_ (kn_ BK224.out nd);have HBd_:=A_ (pn_ HB.out nd);refine hK.out _ _ ⟨kC_ BK224d_ 0,kC_ BK224d_ 1,kC_ BK224d_ 2,kC_ BK224d_ 3,((HBd_.out.cell (wb_ w _ hw229_0)).trans hw229_0),((HBd_.out.cell (wb_ w _ hw229_1)).trans hw229_1),((HBd_.out.cell (wb_ w _ hw229_2)).trans hw229_2),((HBd_.out.cell (wb_ w _ hw229_3)).trans hw229_3)⟩ (fun hHeld => ?_);clear hK K;refine nX_ (some 14) ?_
              refine pU_ 3 (some 15) ?_
              refine pU_ 4 (some 16) ?_
              refine pU_ 5 (some 17) ?_
              refine tK_ 6 (some 18) hHeld ?_
              refine oN_ 7 (some 19) (fun K hK => ?_);refine gs_ Try.func75 #[.int .i64 ((rd_T127 l0 x7_1).f1),.int .i64 0,.int .i64 999] ?_;with_reducible refine (impl_within.calls ((rd_T127 l0 x7_1).f1) 0 999 true _ A7.out).mono ?_;rintro e w' ⟨rfl,⟨nd,rfl⟩⟩;refine ⟨_,rfl,?_⟩;replace BK224d_:=A_ (kn_ BK224d_.out nd);replace HBd_:=A_ (pn_ HBd_.out nd);refine hK.out _ _ ⟨kC_ BK224d_ 0,kC_ BK224d_ 1,kC_ BK224d_ 2,kC_ BK224d_ 3,((HBd_.out.cell (wb_ w _ hw229_0)).trans hw229_0),((HBd_.out.cell (wb_ w _ hw229_1)).trans hw229_1),((HBd_.out.cell (wb_ w _ hw229_2)).trans hw229_2),((HBd_.out.cell (wb_ w _ hw229_3)).trans hw229_3)⟩ (fun hHeld => ?_);clear hK K;refine nX_ (some 19) ?_
              refine pU_ 8 (some 20) ?_
              refine pU_ 9 (some 21) ?_
              refine pU_ 10 (some 22) ?_
              refine pU_ 11 (some 23) ?_
              refine tK_ 12 (some 24) hHeld ?_
              refine oN_ 13 (some 25) (fun K hK => ?_);refine gs_ Try.func75 #[.int .i64 ((rd_T127 l0 x7_1).f2),.int .i64 0,.int .i64 20000] ?_;with_reducible refine (impl_within.calls ((rd_T127 l0 x7_1).f2) 0 20000 true _ A9.out).mono ?_;rintro e w' ⟨rfl,⟨nd,rfl⟩⟩;refine ⟨_,rfl,?_⟩;replace BK224d_:=A_ (kn_ BK224d_.out nd);replace HBd_:=A_ (pn_ HBd_.out nd);refine hK.out _ _ ⟨kC_ BK224d_ 0,kC_ BK224d_ 1,kC_ BK224d_ 2,kC_ BK224d_ 3,((HBd_.out.cell (wb_ w _ hw229_0)).trans hw229_0),((HBd_.out.cell (wb_ w _ hw229_1)).trans hw229_1),((HBd_.out.cell (wb_ w _ hw229_2)).trans hw229_2),((HBd_.out.cell (wb_ w _ hw229_3)).trans hw229_3)⟩ (fun hHeld => ?_);clear hK K;refine nX_ (some 25) ?_
              refine pU_ 14 (some 26) ?_
              refine pU_ 15 (some 27) ?_
              refine pU_ 16 (some 28) ?_
              refine pU_ 17 (some 29) ?_
              refine tK_ 18 (some 30) hHeld ?_
              refine oN_ 19 (some 31) (fun K hK => ?_);refine gs_ Try.func75 #[.int .i64 ((rd_T127 l0 x7_1).f3),.int .i64 0,.int .i64 40] ?_;with_reducible refine (impl_within.calls ((rd_T127 l0 x7_1).f3) 0 40 true _ A11.out).mono ?_;rintro e w' ⟨rfl,⟨nd,rfl⟩⟩;refine ⟨_,rfl,?_⟩;replace BK224d_:=A_ (kn_ BK224d_.out nd);replace HBd_:=A_ (pn_ HBd_.out nd);refine hK.out _ _ ⟨kC_ BK224d_ 0,kC_ BK224d_ 1,kC_ BK224d_ 2,kC_ BK224d_ 3,((HBd_.out.cell (wb_ w _ hw229_0)).trans hw229_0),((HBd_.out.cell (wb_ w _ hw229_1)).trans hw229_1),((HBd_.out.cell (wb_ w _ hw229_2)).trans hw229_2),((HBd_.out.cell (wb_ w _ hw229_3)).trans hw229_3)⟩ (fun hHeld => ?_);clear hK K;refine nX_ (some 31) ?_
              refine pU_ 20 (some 32) ?_
              refine pU_ 21 (some 33) ?_
              refine pU_ 22 (some 34) ?_
              refine pU_ 23 (some 35) ?_
              refine pU_ 24 (some 36) ?_
              refine pU_ 25 (some 37) ?_
              refine pU_ 26 (some 38) ?_
              refine pU_ 27 (some 39) ?_
              refine pU_ 28 (some 40) ?_
              refine pU_ 29 (some 41) ?_
              refine pU_ 30 (some 42) ?_
              refine pU_ 32 (some 44) ?_
              refine tK_ 31 (some 43) hHeld ?_
              refine tK_ 33 (some 45) hHeld ?_
              refine pU_ 34 (some 46) ?_
              refine pU_ 35 (some 47) ?_
              refine pU_ 36 (some 48) ?_
              refine done_ (done_of HT_.out (by kernel_rfl)) ?_
              try go_wp2
              go_ret;exact ⟨by first|rfl|(simp [errW_none,errW_some] <;> rfl)|(simp only [← hji14];first|rfl|(simp [errW_none,errW_some] <;> rfl))|(simp [*,errW_none,errW_some] <;> rfl),bq_ HB⟩
            ·rw [if_neg c16] at H;exact absurd H (by simp)
           ·rw [if_neg c15] at H;exact absurd H (by simp)
          ·rw [if_neg c13] at H;have c13b0 : decide (0 < x7_1) = false:=decide_eq_false c13;clear c13;have H':=A_ H;clear H;have p223 : 0 ≤ (x7_1 : Int):=oda_;have q223 : x7_1 < (l0.length : Int):=oda_;obtain ⟨ad223,e223,hx223_0,hx223_1,hx223_2,hx223_3⟩:=at_T127 HR0.out x7_1 p223 q223
           cases e223
           replace hx223_0:=(HB.out.cell (wb_ w _ hx223_0)).trans hx223_0;replace hx223_1:=(HB.out.cell (wb_ w _ hx223_1)).trans hx223_1;replace hx223_2:=(HB.out.cell (wb_ w _ hx223_2)).trans hx223_2;replace hx223_3:=(HB.out.cell (wb_ w _ hx223_3)).trans hx223_3;replace p223:=eq_true p223;replace q223:=eq_true q223
           try go_wp2_with (first|((with_reducible refine gate_dst (N:=4) rfl ?_);refine bE_ 4 #[.string (⟨#[]⟩ : ByteArray),.int .i64 0,.int .i64 0,.int .i64 0] 127 ?_;intro gb224 hg w26 hbox hb;have BK224:=A_ (hbox);have GW224:=gE_ hg HB;have GE224:=gE_ hg HB;replace HB:=bS_ HB hb;clear hb hbox hg;obtain ⟨hcz27_0,hcz27_1,hcz27_2,hcz27_3,hfz27_0,hfz27_1,hfz27_2,hfz27_3⟩:=k4f_ BK224))
           have n0_ : Aside0 (((((w26.setCell ⟨gb224,0,none⟩ (.string ((rd_T127 l0 x7_1).f0))).setCell ⟨gb224,1,none⟩ (.int .i64 ((rd_T127 l0 x7_1).f1))).setCell ⟨gb224,2,none⟩ (.int .i64 ((rd_T127 l0 x7_1).f2))).setCell ⟨gb224,3,none⟩ (.int .i64 ((rd_T127 l0 x7_1).f3))).heap[gb224]? = some (.cells #[.string ((rd_T127 l0 x7_1).f0),.int .i64 ((rd_T127 l0 x7_1).f1),.int .i64 ((rd_T127 l0 x7_1).f2),.int .i64 ((rd_T127 l0 x7_1).f3)] 127 (0,0))):=⟨kz_ BK224⟩;have n1_ : Aside0 (Below w.heap.size w ((((w26.setCell ⟨gb224,0,none⟩ (.string ((rd_T127 l0 x7_1).f0))).setCell ⟨gb224,1,none⟩ (.int .i64 ((rd_T127 l0 x7_1).f1))).setCell ⟨gb224,2,none⟩ (.int .i64 ((rd_T127 l0 x7_1).f2))).setCell ⟨gb224,3,none⟩ (.int .i64 ((rd_T127 l0 x7_1).f3)))):=⟨bq_ HB⟩
           (try clear BK224)
           (try clear HB)
           generalize ((((w26.setCell ⟨gb224,0,none⟩ (.string ((rd_T127 l0 x7_1).f0))).setCell ⟨gb224,1,none⟩ (.int .i64 ((rd_T127 l0 x7_1).f1))).setCell ⟨gb224,2,none⟩ (.int .i64 ((rd_T127 l0 x7_1).f2))).setCell ⟨gb224,3,none⟩ (.int .i64 ((rd_T127 l0 x7_1).f3))) = w28 at n0_ n1_ ⊢;have BK224:=n0_;have HB:=n1_;clear n0_ n1_;replace BK224:=A_ (kd_ BK224.out);replace HB:=A_ (pd_ HB.out);refine start_ (n:=37) (S:=fun w' => w'.cell? ⟨gb224,0,none⟩ = some (.string ((rd_T127 l0 x7_1).f0)) ∧ w'.cell? ⟨gb224,1,none⟩ = some (.int .i64 ((rd_T127 l0 x7_1).f1)) ∧ w'.cell? ⟨gb224,2,none⟩ = some (.int .i64 ((rd_T127 l0 x7_1).f2)) ∧ w'.cell? ⟨gb224,3,none⟩ = some (.int .i64 ((rd_T127 l0 x7_1).f3))) (ds:=[]) #[false,false,false,false,false,false,false,false,false,false,false,false,false,false,false,false,false,false,false,false,false,false,false,false,false,false,false,false,false,false,false,false,false,false,false,false,false] (by kernel_rfl) rfl rfl ⟨kC_ BK224 0,kC_ BK224 1,kC_ BK224 2,kC_ BK224 3⟩ (fun hHeld => ?_);refine with_tabW impl_DirOk.tab4 impl_DirOk.bits4 (fun HT_ HW_ => ?_);generalize w28.drew = w29 at BK224 HB hHeld ⊢;refine pU_ 0 (some 12) ?_
           refine tK_ 1 (some 13) hHeld ?_
           refine oN_ 2 (some 14) (fun K hK => ?_);refine gs_ Try.func157 #[.string ((rd_T127 l0 x7_1).f0)] ?_;with_reducible refine (impl_keyOk.calls ((rd_T127 l0 x7_1).f0) true _ A5.out).mono ?_;rintro e w' ⟨rfl,⟨nd,rfl⟩⟩;refine ⟨_,rfl,?_⟩;have BK224d_:=A_ (kn_ BK224.out nd);have HBd_:=A_ (pn_ HB.out nd);refine hK.out _ _ ⟨kC_ BK224d_ 0,kC_ BK224d_ 1,kC_ BK224d_ 2,kC_ BK224d_ 3⟩ (fun hHeld => ?_);clear hK K;refine nX_ (some 14) ?_
           refine pU_ 3 (some 15) ?_
           refine pU_ 4 (some 16) ?_
           refine pU_ 5 (some 17) ?_
           refine tK_ 6 (some 18) hHeld ?_
           refine oN_ 7 (some 19) (fun K hK => ?_);refine gs_ Try.func75 #[.int .i64 ((rd_T127 l0 x7_1).f1),.int .i64 0,.int .i64 999] ?_;with_reducible refine (impl_within.calls ((rd_T127 l0 x7_1).f1) 0 999 true _ A7.out).mono ?_;rintro e w' ⟨rfl,⟨nd,rfl⟩⟩;refine ⟨_,rfl,?_⟩;replace BK224d_:=A_ (kn_ BK224d_.out nd);replace HBd_:=A_ (pn_ HBd_.out nd);refine hK.out _ _ ⟨kC_ BK224d_ 0,kC_ BK224d_ 1,kC_ BK224d_ 2,kC_ BK224d_ 3⟩ (fun hHeld => ?_);clear hK K;refine nX_ (some 19) ?_
           refine pU_ 8 (some 20) ?_
           refine pU_ 9 (some 21) ?_
           refine pU_ 10 (some 22) ?_
           refine pU_ 11 (some 23) ?_
           refine tK_ 12 (some 24) hHeld ?_
           refine oN_ 13 (some 25) (fun K hK => ?_);refine gs_ Try.func75 #[.int .i64 ((rd_T127 l0 x7_1).f2),.int .i64 0,.int .i64 20000] ?_;with_reducible refine (impl_within.calls ((rd_T127 l0 x7_1).f2) 0 20000 true _ A9.out).mono ?_;rintro e w' ⟨rfl,⟨nd,rfl⟩⟩;refine ⟨_,rfl,?_⟩;replace BK224d_:=A_ (kn_ BK224d_.out nd);replace HBd_:=A_ (pn_ HBd_.out nd);refine hK.out _ _ ⟨kC_ BK224d_ 0,kC_ BK224d_ 1,kC_ BK224d_ 2,kC_ BK224d_ 3⟩ (fun hHeld => ?_);clear hK K;refine nX_ (some 25) ?_
           refine pU_ 14 (some 26) ?_
           refine pU_ 15 (some 27) ?_
           refine pU_ 16 (some 28) ?_
           refine pU_ 17 (some 29) ?_
           refine tK_ 18 (some 30) hHeld ?_
           refine oN_ 19 (some 31) (fun K hK => ?_);refine gs_ Try.func75 #[.int .i64 ((rd_T127 l0 x7_1).f3),.int .i64 0,.int .i64 40] ?_;with_reducible refine (impl_within.calls ((rd_T127 l0 x7_1).f3) 0 40 true _ A11.out).mono ?_;rintro e w' ⟨rfl,⟨nd,rfl⟩⟩;refine ⟨_,rfl,?_⟩;replace BK224d_:=A_ (kn_ BK224d_.out nd);replace HBd_:=A_ (pn_ HBd_.out nd);refine hK.out _ _ ⟨kC_ BK224d_ 0,kC_ BK224d_ 1,kC_ BK224d_ 2,kC_ BK224d_ 3⟩ (fun hHeld => ?_);clear hK K;refine nX_ (some 31) ?_
           refine pU_ 20 (some 32) ?_
           refine pU_ 21 (some 33) ?_
           refine pU_ 22 (some 34) ?_
           refine pU_ 23 (some 35) ?_
           refine pU_ 24 (some 36) ?_
           refine pU_ 25 (some 37) ?_
           refine pure_ (i:=26) (N:=some 38) (v:=undef) (a':=?_) #[true,true,true,true,true,true,true,true,true,true,true,true,true,true,true,true,true,true,true,true,true,true,true,true,true,true,true,false,false,false,false,false,false,false,false,false,false] rfl rfl (any_of HT_.out (by kernel_rfl)) (fun _ _ _ h => h) (Or.inr ⟨by rfl,rfl⟩) ?_ ?_;rotate_left
           ·exact ux_
           refine pure_ (i:=27) (N:=some 39) (v:=undef) (a':=?_) #[true,true,true,true,true,true,true,true,true,true,true,true,true,true,true,true,true,true,true,true,true,true,true,true,true,true,true,true,false,false,false,false,false,false,false,false,false] rfl rfl (any_of HT_.out (by kernel_rfl)) (fun _ _ _ h => h) (Or.inr ⟨by rfl,rfl⟩) ?_ ?_;rotate_left
           ·exact ux_
           refine pure_ (i:=28) (N:=some 40) (v:=undef) (a':=?_) #[true,true,true,true,true,true,true,true,true,true,true,true,true,true,true,true,true,true,true,true,true,true,true,true,true,true,true,true,true,false,false,false,false,false,false,false,false] rfl rfl (any_of HT_.out (by kernel_rfl)) (fun _ _ _ h => h) (Or.inr ⟨by rfl,rfl⟩) ?_ ?_;rotate_left
           ·exact ux_
           refine pure_ (i:=29) (N:=some 41) (v:=undef) (a':=?_) #[true,true,true,true,true,true,true,true,true,true,true,true,true,true,true,true,true,true,true,true,true,true,true,true,true,true,true,true,true,true,false,false,false,false,false,false,false] rfl rfl (any_of HT_.out (by kernel_rfl)) (fun _ _ _ h => h) (Or.inr ⟨by rfl,rfl⟩) ?_ ?_;rotate_left
           ·exact ux_
           refine pure_ (i:=30) (N:=some 42) (v:=undef) (a':=?_) #[true,true,true,true,true,true,true,true,true,true,true,true,true,true,true,true,true,true,true,true,true,true,true,true,true,true,true,true,true,true,true,false,false,false,false,false,false] rfl rfl (any_of HT_.out (by kernel_rfl)) (fun _ _ _ h => h) (Or.inr ⟨by rfl,rfl⟩) ?_ ?_;rotate_left
           ·exact ux_
           refine pure_ (i:=31) (N:=some 43) (v:=undef) (a':=?_) #[true,true,true,true,true,true,true,true,true,true,true,true,true,true,true,true,true,true,true,true,true,true,true,true,true,true,true,true,true,true,true,true,false,false,false,false,false] rfl rfl (any_of HT_.out (by kernel_rfl)) (fun _ _ _ h => h) (Or.inr ⟨by rfl,rfl⟩) ?_ ?_;rotate_left
           ·exact ux_
           refine pure_ (i:=32) (N:=some 44) (v:=undef) (a':=?_) #[true,true,true,true,true,true,true,true,true,true,true,true,true,true,true,true,true,true,true,true,true,true,true,true,true,true,true,true,true,true,true,true,true,false,false,false,false] rfl rfl (any_of HT_.out (by kernel_rfl)) (fun _ _ _ h => h) (Or.inr ⟨by rfl,rfl⟩) ?_ ?_;rotate_left
           ·exact ux_
           refine pure_ (i:=33) (N:=some 45) (v:=undef) (a':=?_) #[true,true,true,true,true,true,true,true,true,true,true,true,true,true,true,true,true,true,true,true,true,true,true,true,true,true,true,true,true,true,true,true,true,true,false,false,false] rfl rfl (any_of HT_.out (by kernel_rfl)) (fun _ _ _ h => h) (Or.inr ⟨by rfl,rfl⟩) ?_ ?_;rotate_left
           ·exact ux_
           refine pure_ (i:=34) (N:=some 46) (v:=undef) (a':=?_) #[true,true,true,true,true,true,true,true,true,true,true,true,true,true,true,true,true,true,true,true,true,true,true,true,true,true,true,true,true,true,true,true,true,true,true,false,false] rfl rfl (any_of HT_.out (by kernel_rfl)) (fun _ _ _ h => h) (Or.inr ⟨by rfl,rfl⟩) ?_ ?_;rotate_left
           ·exact ux_
           refine pU_ 35 (some 47) ?_
           refine pU_ 36 (some 48) ?_
           refine done_ (done_of HT_.out (by kernel_rfl)) ?_
           try go_wp2
           go_roundg k1
           case measure => have:=HK1.out;omega
           case rel => exact ⟨(wrap64 (x7_1 + 1)),(by first|rfl|(simp;done)|(simp [*];done)),H',⟨by have:=HK1.out;omega⟩,⟨bq_ HB⟩⟩
         ·replace c12:=Bool.eq_false_iff.mpr c12;subst c12
          have H1 : (some false) = some r:=by rw [if_neg (show ¬ (false = true) by decide)] at H;exact H
          clear H;have H:=H1;clear H1;obtain rfl:=Option.some.inj H;have p223 : 0 ≤ (x7_1 : Int):=oda_;have q223 : x7_1 < (l0.length : Int):=oda_;obtain ⟨ad223,e223,hx223_0,hx223_1,hx223_2,hx223_3⟩:=at_T127 HR0.out x7_1 p223 q223
          cases e223
          replace hx223_0:=(HB.out.cell (wb_ w _ hx223_0)).trans hx223_0;replace hx223_1:=(HB.out.cell (wb_ w _ hx223_1)).trans hx223_1;replace hx223_2:=(HB.out.cell (wb_ w _ hx223_2)).trans hx223_2;replace hx223_3:=(HB.out.cell (wb_ w _ hx223_3)).trans hx223_3;replace p223:=eq_true p223;replace q223:=eq_true q223
          try go_wp2_with (first|((with_reducible refine gate_dst (N:=4) rfl ?_);refine bE_ 4 #[.string (⟨#[]⟩ : ByteArray),.int .i64 0,.int .i64 0,.int .i64 0] 127 ?_;intro gb224 hg w30 hbox hb;have BK224:=A_ (hbox);have GW224:=gE_ hg HB;have GE224:=gE_ hg HB;replace HB:=bS_ HB hb;clear hb hbox hg;obtain ⟨hcz31_0,hcz31_1,hcz31_2,hcz31_3,hfz31_0,hfz31_1,hfz31_2,hfz31_3⟩:=k4f_ BK224))
          have n0_ : Aside0 (((((w30.setCell ⟨gb224,0,none⟩ (.string ((rd_T127 l0 x7_1).f0))).setCell ⟨gb224,1,none⟩ (.int .i64 ((rd_T127 l0 x7_1).f1))).setCell ⟨gb224,2,none⟩ (.int .i64 ((rd_T127 l0 x7_1).f2))).setCell ⟨gb224,3,none⟩ (.int .i64 ((rd_T127 l0 x7_1).f3))).heap[gb224]? = some (.cells #[.string ((rd_T127 l0 x7_1).f0),.int .i64 ((rd_T127 l0 x7_1).f1),.int .i64 ((rd_T127 l0 x7_1).f2),.int .i64 ((rd_T127 l0 x7_1).f3)] 127 (0,0))):=⟨kz_ BK224⟩;have n1_ : Aside0 (Below w.heap.size w ((((w30.setCell ⟨gb224,0,none⟩ (.string ((rd_T127 l0 x7_1).f0))).setCell ⟨gb224,1,none⟩ (.int .i64 ((rd_T127 l0 x7_1).f1))).setCell ⟨gb224,2,none⟩ (.int .i64 ((rd_T127 l0 x7_1).f2))).setCell ⟨gb224,3,none⟩ (.int .i64 ((rd_T127 l0 x7_1).f3)))):=⟨bq_ HB⟩
          (try clear BK224)
          (try clear HB)
          generalize ((((w30.setCell ⟨gb224,0,none⟩ (.string ((rd_T127 l0 x7_1).f0))).setCell ⟨gb224,1,none⟩ (.int .i64 ((rd_T127 l0 x7_1).f1))).setCell ⟨gb224,2,none⟩ (.int .i64 ((rd_T127 l0 x7_1).f2))).setCell ⟨gb224,3,none⟩ (.int .i64 ((rd_T127 l0 x7_1).f3))) = w32 at n0_ n1_ ⊢;have BK224:=n0_;have HB:=n1_;clear n0_ n1_;replace BK224:=A_ (kd_ BK224.out);replace HB:=A_ (pd_ HB.out);refine start_ (n:=37) (S:=fun w' => w'.cell? ⟨gb224,0,none⟩ = some (.string ((rd_T127 l0 x7_1).f0)) ∧ w'.cell? ⟨gb224,1,none⟩ = some (.int .i64 ((rd_T127 l0 x7_1).f1)) ∧ w'.cell? ⟨gb224,2,none⟩ = some (.int .i64 ((rd_T127 l0 x7_1).f2)) ∧ w'.cell? ⟨gb224,3,none⟩ = some (.int .i64 ((rd_T127 l0 x7_1).f3))) (ds:=[]) #[false,false,false,false,false,false,false,false,false,false,false,false,false,false,false,false,false,false,false,false,false,false,false,false,false,false,false,false,false,false,false,false,false,false,false,false,false] (by kernel_rfl) rfl rfl ⟨kC_ BK224 0,kC_ BK224 1,kC_ BK224 2,kC_ BK224 3⟩ (fun hHeld => ?_);refine with_tabW impl_DirOk.tab4 impl_DirOk.bits4 (fun HT_ HW_ => ?_);generalize w32.drew = w33 at BK224 HB hHeld ⊢;refine pU_ 0 (some 12) ?_
          refine tK_ 1 (some 13) hHeld ?_
          refine oN_ 2 (some 14) (fun K hK => ?_);refine gs_ Try.func157 #[.string ((rd_T127 l0 x7_1).f0)] ?_;with_reducible refine (impl_keyOk.calls ((rd_T127 l0 x7_1).f0) true _ A5.out).mono ?_;rintro e w' ⟨rfl,⟨nd,rfl⟩⟩;refine ⟨_,rfl,?_⟩;have BK224d_:=A_ (kn_ BK224.out nd);have HBd_:=A_ (pn_ HB.out nd);refine hK.out _ _ ⟨kC_ BK224d_ 0,kC_ BK224d_ 1,kC_ BK224d_ 2,kC_ BK224d_ 3⟩ (fun hHeld => ?_);clear hK K;refine nX_ (some 14) ?_
          refine pU_ 3 (some 15) ?_
          refine pU_ 4 (some 16) ?_
          refine pU_ 5 (some 17) ?_
          refine tK_ 6 (some 18) hHeld ?_
          refine oN_ 7 (some 19) (fun K hK => ?_);refine gs_ Try.func75 #[.int .i64 ((rd_T127 l0 x7_1).f1),.int .i64 0,.int .i64 999] ?_;with_reducible refine (impl_within.calls ((rd_T127 l0 x7_1).f1) 0 999 true _ A7.out).mono ?_;rintro e w' ⟨rfl,⟨nd,rfl⟩⟩;refine ⟨_,rfl,?_⟩;replace BK224d_:=A_ (kn_ BK224d_.out nd);replace HBd_:=A_ (pn_ HBd_.out nd);refine hK.out _ _ ⟨kC_ BK224d_ 0,kC_ BK224d_ 1,kC_ BK224d_ 2,kC_ BK224d_ 3⟩ (fun hHeld => ?_);clear hK K;refine nX_ (some 19) ?_
          refine pU_ 8 (some 20) ?_
          refine pU_ 9 (some 21) ?_
          refine pU_ 10 (some 22) ?_
          refine pU_ 11 (some 23) ?_
          refine tK_ 12 (some 24) hHeld ?_
          refine oN_ 13 (some 25) (fun K hK => ?_);refine gs_ Try.func75 #[.int .i64 ((rd_T127 l0 x7_1).f2),.int .i64 0,.int .i64 20000] ?_;with_reducible refine (impl_within.calls ((rd_T127 l0 x7_1).f2) 0 20000 true _ A9.out).mono ?_;rintro e w' ⟨rfl,⟨nd,rfl⟩⟩;refine ⟨_,rfl,?_⟩;replace BK224d_:=A_ (kn_ BK224d_.out nd);replace HBd_:=A_ (pn_ HBd_.out nd);refine hK.out _ _ ⟨kC_ BK224d_ 0,kC_ BK224d_ 1,kC_ BK224d_ 2,kC_ BK224d_ 3⟩ (fun hHeld => ?_);clear hK K;refine nX_ (some 25) ?_
          refine pU_ 14 (some 26) ?_
          refine pU_ 15 (some 27) ?_
          refine pU_ 16 (some 28) ?_
          refine pU_ 17 (some 29) ?_
          refine tK_ 18 (some 30) hHeld ?_
          refine oN_ 19 (some 31) (fun K hK => ?_);refine gs_ Try.func75 #[.int .i64 ((rd_T127 l0 x7_1).f3),.int .i64 0,.int .i64 40] ?_;with_reducible refine (impl_within.calls ((rd_T127 l0 x7_1).f3) 0 40 false _ A11.out).mono ?_;rintro e w' ⟨rfl,⟨nd,rfl⟩⟩;refine ⟨_,rfl,?_⟩;replace BK224d_:=A_ (kn_ BK224d_.out nd);replace HBd_:=A_ (pn_ HBd_.out nd);refine hK.out _ _ ⟨kC_ BK224d_ 0,kC_ BK224d_ 1,kC_ BK224d_ 2,kC_ BK224d_ 3⟩ (fun hHeld => ?_);clear hK K;refine nX_ (some 31) ?_
          refine pU_ 20 (some 32) ?_
          refine pU_ 21 (some 33) ?_
          refine pU_ 22 (some 34) ?_
          refine pure_ (i:=23) (N:=some 35) (v:=undef) (a':=?_) #[true,true,true,true,true,true,true,true,true,true,true,true,true,true,true,true,true,true,true,true,true,true,true,true,false,false,false,false,false,false,false,false,false,false,false,false,false] rfl rfl (any_of HT_.out (by kernel_rfl)) (fun _ _ _ h => h) (Or.inr ⟨by rfl,rfl⟩) ?_ ?_;rotate_left
          ·exact ux_
          refine pure_ (i:=24) (N:=some 36) (v:=undef) (a':=?_) #[true,true,true,true,true,true,true,true,true,true,true,true,true,true,true,true,true,true,true,true,true,true,true,true,true,false,false,false,false,false,false,false,false,false,false,false,false] rfl rfl (any_of HT_.out (by kernel_rfl)) (fun _ _ _ h => h) (Or.inr ⟨by rfl,rfl⟩) ?_ ?_;rotate_left
          ·exact ux_
          refine pure_ (i:=25) (N:=some 37) (v:=undef) (a':=?_) #[true,true,true,true,true,true,true,true,true,true,true,true,true,true,true,true,true,true,true,true,true,true,true,true,true,true,false,false,false,false,false,false,false,false,false,false,false] rfl rfl (any_of HT_.out (by kernel_rfl)) (fun _ _ _ h => h) (Or.inr ⟨by rfl,rfl⟩) ?_ ?_;rotate_left
          ·exact ux_
          refine pure_ (i:=26) (N:=some 38) (v:=undef) (a':=?_) #[true,true,true,true,true,true,true,true,true,true,true,true,true,true,true,true,true,true,true,true,true,true,true,true,true,true,true,false,false,false,false,false,false,false,false,false,false] rfl rfl (any_of HT_.out (by kernel_rfl)) (fun _ _ _ h => h) (Or.inr ⟨by rfl,rfl⟩) ?_ ?_;rotate_left
          ·exact ux_
          refine pure_ (i:=27) (N:=some 39) (v:=undef) (a':=?_) #[true,true,true,true,true,true,true,true,true,true,true,true,true,true,true,true,true,true,true,true,true,true,true,true,true,true,true,true,false,false,false,false,false,false,false,false,false] rfl rfl (any_of HT_.out (by kernel_rfl)) (fun _ _ _ h => h) (Or.inr ⟨by rfl,rfl⟩) ?_ ?_;rotate_left
          ·exact ux_
          refine pure_ (i:=28) (N:=some 40) (v:=undef) (a':=?_) #[true,true,true,true,true,true,true,true,true,true,true,true,true,true,true,true,true,true,true,true,true,true,true,true,true,true,true,true,true,false,false,false,false,false,false,false,false] rfl rfl (any_of HT_.out (by kernel_rfl)) (fun _ _ _ h => h) (Or.inr ⟨by rfl,rfl⟩) ?_ ?_;rotate_left
          ·exact ux_
          refine pure_ (i:=29) (N:=some 41) (v:=undef) (a':=?_) #[true,true,true,true,true,true,true,true,true,true,true,true,true,true,true,true,true,true,true,true,true,true,true,true,true,true,true,true,true,true,false,false,false,false,false,false,false] rfl rfl (any_of HT_.out (by kernel_rfl)) (fun _ _ _ h => h) (Or.inr ⟨by rfl,rfl⟩) ?_ ?_;rotate_left
          ·exact ux_
          refine pure_ (i:=30) (N:=some 42) (v:=undef) (a':=?_) #[true,true,true,true,true,true,true,true,true,true,true,true,true,true,true,true,true,true,true,true,true,true,true,true,true,true,true,true,true,true,true,false,false,false,false,false,false] rfl rfl (any_of HT_.out (by kernel_rfl)) (fun _ _ _ h => h) (Or.inr ⟨by rfl,rfl⟩) ?_ ?_;rotate_left
          ·exact ux_
          refine pure_ (i:=31) (N:=some 43) (v:=undef) (a':=?_) #[true,true,true,true,true,true,true,true,true,true,true,true,true,true,true,true,true,true,true,true,true,true,true,true,true,true,true,true,true,true,true,true,false,false,false,false,false] rfl rfl (any_of HT_.out (by kernel_rfl)) (fun _ _ _ h => h) (Or.inr ⟨by rfl,rfl⟩) ?_ ?_;rotate_left
          ·exact ux_
          refine pure_ (i:=32) (N:=some 44) (v:=undef) (a':=?_) #[true,true,true,true,true,true,true,true,true,true,true,true,true,true,true,true,true,true,true,true,true,true,true,true,true,true,true,true,true,true,true,true,true,false,false,false,false] rfl rfl (any_of HT_.out (by kernel_rfl)) (fun _ _ _ h => h) (Or.inr ⟨by rfl,rfl⟩) ?_ ?_;rotate_left
          ·exact ux_
          refine pure_ (i:=33) (N:=some 45) (v:=undef) (a':=?_) #[true,true,true,true,true,true,true,true,true,true,true,true,true,true,true,true,true,true,true,true,true,true,true,true,true,true,true,true,true,true,true,true,true,true,false,false,false] rfl rfl (any_of HT_.out (by kernel_rfl)) (fun _ _ _ h => h) (Or.inr ⟨by rfl,rfl⟩) ?_ ?_;rotate_left
          ·exact ux_
          refine pure_ (i:=34) (N:=some 46) (v:=undef) (a':=?_) #[true,true,true,true,true,true,true,true,true,true,true,true,true,true,true,true,true,true,true,true,true,true,true,true,true,true,true,true,true,true,true,true,true,true,true,false,false] rfl rfl (any_of HT_.out (by kernel_rfl)) (fun _ _ _ h => h) (Or.inr ⟨by rfl,rfl⟩) ?_ ?_;rotate_left
          ·exact ux_
          refine pure_ (i:=35) (N:=some 47) (v:=undef) (a':=?_) #[true,true,true,true,true,true,true,true,true,true,true,true,true,true,true,true,true,true,true,true,true,true,true,true,true,true,true,true,true,true,true,true,true,true,true,true,false] rfl rfl (any_of HT_.out (by kernel_rfl)) (fun _ _ _ h => h) (Or.inr ⟨by rfl,rfl⟩) ?_ ?_;rotate_left
          ·exact ux_
          refine pU_ 36 (some 48) ?_
          refine done_ (done_of HT_.out (by kernel_rfl)) ?_
          try go_wp2
          go_ret;exact ⟨ex_,bq_ HB⟩
        ·replace c10:=Bool.eq_false_iff.mpr c10;subst c10
         have H1 : (some false) = some r:=by rw [if_neg (show ¬ (false = true) by decide)] at H;exact H
         clear H;have H:=H1;clear H1;obtain rfl:=Option.some.inj H;have p223 : 0 ≤ (x7_1 : Int):=oda_;have q223 : x7_1 < (l0.length : Int):=oda_;obtain ⟨ad223,e223,hx223_0,hx223_1,hx223_2,hx223_3⟩:=at_T127 HR0.out x7_1 p223 q223
         cases e223
         replace hx223_0:=(HB.out.cell (wb_ w _ hx223_0)).trans hx223_0;replace hx223_1:=(HB.out.cell (wb_ w _ hx223_1)).trans hx223_1;replace hx223_2:=(HB.out.cell (wb_ w _ hx223_2)).trans hx223_2;replace hx223_3:=(HB.out.cell (wb_ w _ hx223_3)).trans hx223_3;replace p223:=eq_true p223;replace q223:=eq_true q223
         try go_wp2_with (first|((with_reducible refine gate_dst (N:=4) rfl ?_);refine bE_ 4 #[.string (⟨#[]⟩ : ByteArray),.int .i64 0,.int .i64 0,.int .i64 0] 127 ?_;intro gb224 hg w34 hbox hb;have BK224:=A_ (hbox);have GW224:=gE_ hg HB;have GE224:=gE_ hg HB;replace HB:=bS_ HB hb;clear hb hbox hg;obtain ⟨hcz35_0,hcz35_1,hcz35_2,hcz35_3,hfz35_0,hfz35_1,hfz35_2,hfz35_3⟩:=k4f_ BK224))
         have n0_ : Aside0 (((((w34.setCell ⟨gb224,0,none⟩ (.string ((rd_T127 l0 x7_1).f0))).setCell ⟨gb224,1,none⟩ (.int .i64 ((rd_T127 l0 x7_1).f1))).setCell ⟨gb224,2,none⟩ (.int .i64 ((rd_T127 l0 x7_1).f2))).setCell ⟨gb224,3,none⟩ (.int .i64 ((rd_T127 l0 x7_1).f3))).heap[gb224]? = some (.cells #[.string ((rd_T127 l0 x7_1).f0),.int .i64 ((rd_T127 l0 x7_1).f1),.int .i64 ((rd_T127 l0 x7_1).f2),.int .i64 ((rd_T127 l0 x7_1).f3)] 127 (0,0))):=⟨kz_ BK224⟩;have n1_ : Aside0 (Below w.heap.size w ((((w34.setCell ⟨gb224,0,none⟩ (.string ((rd_T127 l0 x7_1).f0))).setCell ⟨gb224,1,none⟩ (.int .i64 ((rd_T127 l0 x7_1).f1))).setCell ⟨gb224,2,none⟩ (.int .i64 ((rd_T127 l0 x7_1).f2))).setCell ⟨gb224,3,none⟩ (.int .i64 ((rd_T127 l0 x7_1).f3)))):=⟨bq_ HB⟩
         (try clear BK224)
         (try clear HB)
         generalize ((((w34.setCell ⟨gb224,0,none⟩ (.string ((rd_T127 l0 x7_1).f0))).setCell ⟨gb224,1,none⟩ (.int .i64 ((rd_T127 l0 x7_1).f1))).setCell ⟨gb224,2,none⟩ (.int .i64 ((rd_T127 l0 x7_1).f2))).setCell ⟨gb224,3,none⟩ (.int .i64 ((rd_T127 l0 x7_1).f3))) = w36 at n0_ n1_ ⊢;have BK224:=n0_;have HB:=n1_;clear n0_ n1_;replace BK224:=A_ (kd_ BK224.out);replace HB:=A_ (pd_ HB.out);refine start_ (n:=37) (S:=fun w' => w'.cell? ⟨gb224,0,none⟩ = some (.string ((rd_T127 l0 x7_1).f0)) ∧ w'.cell? ⟨gb224,1,none⟩ = some (.int .i64 ((rd_T127 l0 x7_1).f1)) ∧ w'.cell? ⟨gb224,2,none⟩ = some (.int .i64 ((rd_T127 l0 x7_1).f2)) ∧ w'.cell? ⟨gb224,3,none⟩ = some (.int .i64 ((rd_T127 l0 x7_1).f3))) (ds:=[]) #[false,false,false,false,false,false,false,false,false,false,false,false,false,false,false,false,false,false,false,false,false,false,false,false,false,false,false,false,false,false,false,false,false,false,false,false,false] (by kernel_rfl) rfl rfl ⟨kC_ BK224 0,kC_ BK224 1,kC_ BK224 2,kC_ BK224 3⟩ (fun hHeld => ?_);refine with_tabW impl_DirOk.tab4 impl_DirOk.bits4 (fun HT_ HW_ => ?_);generalize w36.drew = w37 at BK224 HB hHeld ⊢;refine pU_ 0 (some 12) ?_
         refine tK_ 1 (some 13) hHeld ?_
         refine oN_ 2 (some 14) (fun K hK => ?_);refine gs_ Try.func157 #[.string ((rd_T127 l0 x7_1).f0)] ?_;with_reducible refine (impl_keyOk.calls ((rd_T127 l0 x7_1).f0) true _ A5.out).mono ?_;rintro e w' ⟨rfl,⟨nd,rfl⟩⟩;refine ⟨_,rfl,?_⟩;have BK224d_:=A_ (kn_ BK224.out nd);have HBd_:=A_ (pn_ HB.out nd);refine hK.out _ _ ⟨kC_ BK224d_ 0,kC_ BK224d_ 1,kC_ BK224d_ 2,kC_ BK224d_ 3⟩ (fun hHeld => ?_);clear hK K;refine nX_ (some 14) ?_
         refine pU_ 3 (some 15) ?_
         refine pU_ 4 (some 16) ?_
         refine pU_ 5 (some 17) ?_
         refine tK_ 6 (some 18) hHeld ?_
         refine oN_ 7 (some 19) (fun K hK => ?_);refine gs_ Try.func75 #[.int .i64 ((rd_T127 l0 x7_1).f1),.int .i64 0,.int .i64 999] ?_;with_reducible refine (impl_within.calls ((rd_T127 l0 x7_1).f1) 0 999 true _ A7.out).mono ?_;rintro e w' ⟨rfl,⟨nd,rfl⟩⟩;refine ⟨_,rfl,?_⟩;replace BK224d_:=A_ (kn_ BK224d_.out nd);replace HBd_:=A_ (pn_ HBd_.out nd);refine hK.out _ _ ⟨kC_ BK224d_ 0,kC_ BK224d_ 1,kC_ BK224d_ 2,kC_ BK224d_ 3⟩ (fun hHeld => ?_);clear hK K;refine nX_ (some 19) ?_
         refine pU_ 8 (some 20) ?_
         refine pU_ 9 (some 21) ?_
         refine pU_ 10 (some 22) ?_
         refine pU_ 11 (some 23) ?_
         refine tK_ 12 (some 24) hHeld ?_
         refine oN_ 13 (some 25) (fun K hK => ?_);refine gs_ Try.func75 #[.int .i64 ((rd_T127 l0 x7_1).f2),.int .i64 0,.int .i64 20000] ?_;with_reducible refine (impl_within.calls ((rd_T127 l0 x7_1).f2) 0 20000 false _ A9.out).mono ?_;rintro e w' ⟨rfl,⟨nd,rfl⟩⟩;refine ⟨_,rfl,?_⟩;replace BK224d_:=A_ (kn_ BK224d_.out nd);replace HBd_:=A_ (pn_ HBd_.out nd);refine hK.out _ _ ⟨kC_ BK224d_ 0,kC_ BK224d_ 1,kC_ BK224d_ 2,kC_ BK224d_ 3⟩ (fun hHeld => ?_);clear hK K;refine nX_ (some 25) ?_
         refine pU_ 14 (some 26) ?_
         refine pU_ 15 (some 27) ?_
         refine pU_ 16 (some 28) ?_
         refine pure_ (i:=17) (N:=some 29) (v:=undef) (a':=?_) #[true,true,true,true,true,true,true,true,true,true,true,true,true,true,true,true,true,true,false,false,false,false,false,false,false,false,false,false,false,false,false,false,false,false,false,false,false] rfl rfl (any_of HT_.out (by kernel_rfl)) (fun _ _ _ h => h) (Or.inr ⟨by rfl,rfl⟩) ?_ ?_;rotate_left
         ·exact ux_
         refine pure_ (i:=18) (N:=some 30) (v:=undef) (a':=?_) #[true,true,true,true,true,true,true,true,true,true,true,true,true,true,true,true,true,true,true,false,false,false,false,false,false,false,false,false,false,false,false,false,false,false,false,false,false] rfl rfl (any_of HT_.out (by kernel_rfl)) (fun _ _ _ h => h) (Or.inr ⟨by rfl,rfl⟩) ?_ ?_;rotate_left
         ·exact ux_
         refine pure_ (i:=19) (N:=some 31) (v:=undef) (a':=?_) #[true,true,true,true,true,true,true,true,true,true,true,true,true,true,true,true,true,true,true,true,false,false,false,false,false,false,false,false,false,false,false,false,false,false,false,false,false] rfl rfl (any_of HT_.out (by kernel_rfl)) (fun _ _ _ h => h) (Or.inr ⟨by rfl,rfl⟩) ?_ ?_;rotate_left
         ·exact ux_
         refine pure_ (i:=20) (N:=some 32) (v:=undef) (a':=?_) #[true,true,true,true,true,true,true,true,true,true,true,true,true,true,true,true,true,true,true,true,true,false,false,false,false,false,false,false,false,false,false,false,false,false,false,false,false] rfl rfl (any_of HT_.out (by kernel_rfl)) (fun _ _ _ h => h) (Or.inr ⟨by rfl,rfl⟩) ?_ ?_;rotate_left
         ·exact ux_
         refine pU_ 21 (some 33) ?_
         refine pU_ 22 (some 34) ?_
         refine pure_ (i:=23) (N:=some 35) (v:=undef) (a':=?_) #[true,true,true,true,true,true,true,true,true,true,true,true,true,true,true,true,true,true,true,true,true,true,true,true,false,false,false,false,false,false,false,false,false,false,false,false,false] rfl rfl (any_of HT_.out (by kernel_rfl)) (fun _ _ _ h => h) (Or.inr ⟨by rfl,rfl⟩) ?_ ?_;rotate_left
         ·exact ux_
         refine pure_ (i:=24) (N:=some 36) (v:=undef) (a':=?_) #[true,true,true,true,true,true,true,true,true,true,true,true,true,true,true,true,true,true,true,true,true,true,true,true,true,false,false,false,false,false,false,false,false,false,false,false,false] rfl rfl (any_of HT_.out (by kernel_rfl)) (fun _ _ _ h => h) (Or.inr ⟨by rfl,rfl⟩) ?_ ?_;rotate_left
         ·exact ux_
         refine pure_ (i:=25) (N:=some 37) (v:=undef) (a':=?_) #[true,true,true,true,true,true,true,true,true,true,true,true,true,true,true,true,true,true,true,true,true,true,true,true,true,true,false,false,false,false,false,false,false,false,false,false,false] rfl rfl (any_of HT_.out (by kernel_rfl)) (fun _ _ _ h => h) (Or.inr ⟨by rfl,rfl⟩) ?_ ?_;rotate_left
         ·exact ux_
         refine pure_ (i:=26) (N:=some 38) (v:=undef) (a':=?_) #[true,true,true,true,true,true,true,true,true,true,true,true,true,true,true,true,true,true,true,true,true,true,true,true,true,true,true,false,false,false,false,false,false,false,false,false,false] rfl rfl (any_of HT_.out (by kernel_rfl)) (fun _ _ _ h => h) (Or.inr ⟨by rfl,rfl⟩) ?_ ?_;rotate_left
         ·exact ux_
         refine pure_ (i:=27) (N:=some 39) (v:=undef) (a':=?_) #[true,true,true,true,true,true,true,true,true,true,true,true,true,true,true,true,true,true,true,true,true,true,true,true,true,true,true,true,false,false,false,false,false,false,false,false,false] rfl rfl (any_of HT_.out (by kernel_rfl)) (fun _ _ _ h => h) (Or.inr ⟨by rfl,rfl⟩) ?_ ?_;rotate_left
         ·exact ux_
         refine pure_ (i:=28) (N:=some 40) (v:=undef) (a':=?_) #[true,true,true,true,true,true,true,true,true,true,true,true,true,true,true,true,true,true,true,true,true,true,true,true,true,true,true,true,true,false,false,false,false,false,false,false,false] rfl rfl (any_of HT_.out (by kernel_rfl)) (fun _ _ _ h => h) (Or.inr ⟨by rfl,rfl⟩) ?_ ?_;rotate_left
         ·exact ux_
         refine pure_ (i:=29) (N:=some 41) (v:=undef) (a':=?_) #[true,true,true,true,true,true,true,true,true,true,true,true,true,true,true,true,true,true,true,true,true,true,true,true,true,true,true,true,true,true,false,false,false,false,false,false,false] rfl rfl (any_of HT_.out (by kernel_rfl)) (fun _ _ _ h => h) (Or.inr ⟨by rfl,rfl⟩) ?_ ?_;rotate_left
         ·exact ux_
         refine pure_ (i:=30) (N:=some 42) (v:=undef) (a':=?_) #[true,true,true,true,true,true,true,true,true,true,true,true,true,true,true,true,true,true,true,true,true,true,true,true,true,true,true,true,true,true,true,false,false,false,false,false,false] rfl rfl (any_of HT_.out (by kernel_rfl)) (fun _ _ _ h => h) (Or.inr ⟨by rfl,rfl⟩) ?_ ?_;rotate_left
         ·exact ux_
         refine pure_ (i:=31) (N:=some 43) (v:=undef) (a':=?_) #[true,true,true,true,true,true,true,true,true,true,true,true,true,true,true,true,true,true,true,true,true,true,true,true,true,true,true,true,true,true,true,true,false,false,false,false,false] rfl rfl (any_of HT_.out (by kernel_rfl)) (fun _ _ _ h => h) (Or.inr ⟨by rfl,rfl⟩) ?_ ?_;rotate_left
         ·exact ux_
         refine pure_ (i:=32) (N:=some 44) (v:=undef) (a':=?_) #[true,true,true,true,true,true,true,true,true,true,true,true,true,true,true,true,true,true,true,true,true,true,true,true,true,true,true,true,true,true,true,true,true,false,false,false,false] rfl rfl (any_of HT_.out (by kernel_rfl)) (fun _ _ _ h => h) (Or.inr ⟨by rfl,rfl⟩) ?_ ?_;rotate_left
         ·exact ux_
         refine pure_ (i:=33) (N:=some 45) (v:=undef) (a':=?_) #[true,true,true,true,true,true,true,true,true,true,true,true,true,true,true,true,true,true,true,true,true,true,true,true,true,true,true,true,true,true,true,true,true,true,false,false,false] rfl rfl (any_of HT_.out (by kernel_rfl)) (fun _ _ _ h => h) (Or.inr ⟨by rfl,rfl⟩) ?_ ?_;rotate_left
         ·exact ux_
         refine pure_ (i:=34) (N:=some 46) (v:=undef) (a':=?_) #[true,true,true,true,true,true,true,true,true,true,true,true,true,true,true,true,true,true,true,true,true,true,true,true,true,true,true,true,true,true,true,true,true,true,true,false,false] rfl rfl (any_of HT_.out (by kernel_rfl)) (fun _ _ _ h => h) (Or.inr ⟨by rfl,rfl⟩) ?_ ?_;rotate_left
         ·exact ux_
         refine pure_ (i:=35) (N:=some 47) (v:=undef) (a':=?_) #[true,true,true,true,true,true,true,true,true,true,true,true,true,true,true,true,true,true,true,true,true,true,true,true,true,true,true,true,true,true,true,true,true,true,true,true,false] rfl rfl (any_of HT_.out (by kernel_rfl)) (fun _ _ _ h => h) (Or.inr ⟨by rfl,rfl⟩) ?_ ?_;rotate_left
         ·exact ux_
         refine pU_ 36 (some 48) ?_
         refine done_ (done_of HT_.out (by kernel_rfl)) ?_
         try go_wp2
         go_ret;exact ⟨ex_,bq_ HB⟩
       ·replace c8:=Bool.eq_false_iff.mpr c8;subst c8
        have H1 : (some false) = some r:=by rw [if_neg (show ¬ (false = true) by decide)] at H;exact H
        clear H;have H:=H1;clear H1;obtain rfl:=Option.some.inj H;have p223 : 0 ≤ (x7_1 : Int):=oda_;have q223 : x7_1 < (l0.length : Int):=oda_;obtain ⟨ad223,e223,hx223_0,hx223_1,hx223_2,hx223_3⟩:=at_T127 HR0.out x7_1 p223 q223
        cases e223
        replace hx223_0:=(HB.out.cell (wb_ w _ hx223_0)).trans hx223_0;replace hx223_1:=(HB.out.cell (wb_ w _ hx223_1)).trans hx223_1;replace hx223_2:=(HB.out.cell (wb_ w _ hx223_2)).trans hx223_2;replace hx223_3:=(HB.out.cell (wb_ w _ hx223_3)).trans hx223_3;replace p223:=eq_true p223;replace q223:=eq_true q223
        try go_wp2_with (first|((with_reducible refine gate_dst (N:=4) rfl ?_);refine bE_ 4 #[.string (⟨#[]⟩ : ByteArray),.int .i64 0,.int .i64 0,.int .i64 0] 127 ?_;intro gb224 hg w38 hbox hb;have BK224:=A_ (hbox);have GW224:=gE_ hg HB;have GE224:=gE_ hg HB;replace HB:=bS_ HB hb;clear hb hbox hg;obtain ⟨hcz39_0,hcz39_1,hcz39_2,hcz39_3,hfz39_0,hfz39_1,hfz39_2,hfz39_3⟩:=k4f_ BK224))
        have n0_ : Aside0 (((((w38.setCell ⟨gb224,0,none⟩ (.string ((rd_T127 l0 x7_1).f0))).setCell ⟨gb224,1,none⟩ (.int .i64 ((rd_T127 l0 x7_1).f1))).setCell ⟨gb224,2,none⟩ (.int .i64 ((rd_T127 l0 x7_1).f2))).setCell ⟨gb224,3,none⟩ (.int .i64 ((rd_T127 l0 x7_1).f3))).heap[gb224]? = some (.cells #[.string ((rd_T127 l0 x7_1).f0),.int .i64 ((rd_T127 l0 x7_1).f1),.int .i64 ((rd_T127 l0 x7_1).f2),.int .i64 ((rd_T127 l0 x7_1).f3)] 127 (0,0))):=⟨kz_ BK224⟩;have n1_ : Aside0 (Below w.heap.size w ((((w38.setCell ⟨gb224,0,none⟩ (.string ((rd_T127 l0 x7_1).f0))).setCell ⟨gb224,1,none⟩ (.int .i64 ((rd_T127 l0 x7_1).f1))).setCell ⟨gb224,2,none⟩ (.int .i64 ((rd_T127 l0 x7_1).f2))).setCell ⟨gb224,3,none⟩ (.int .i64 ((rd_T127 l0 x7_1).f3)))):=⟨bq_ HB⟩
        (try clear BK224)
        (try clear HB)
        generalize ((((w38.setCell ⟨gb224,0,none⟩ (.string ((rd_T127 l0 x7_1).f0))).setCell ⟨gb224,1,none⟩ (.int .i64 ((rd_T127 l0 x7_1).f1))).setCell ⟨gb224,2,none⟩ (.int .i64 ((rd_T127 l0 x7_1).f2))).setCell ⟨gb224,3,none⟩ (.int .i64 ((rd_T127 l0 x7_1).f3))) = w40 at n0_ n1_ ⊢;have BK224:=n0_;have HB:=n1_;clear n0_ n1_;replace BK224:=A_ (kd_ BK224.out);replace HB:=A_ (pd_ HB.out);refine start_ (n:=37) (S:=fun w' => w'.cell? ⟨gb224,0,none⟩ = some (.string ((rd_T127 l0 x7_1).f0)) ∧ w'.cell? ⟨gb224,1,none⟩ = some (.int .i64 ((rd_T127 l0 x7_1).f1)) ∧ w'.cell? ⟨gb224,2,none⟩ = some (.int .i64 ((rd_T127 l0 x7_1).f2)) ∧ w'.cell? ⟨gb224,3,none⟩ = some (.int .i64 ((rd_T127 l0 x7_1).f3))) (ds:=[]) #[false,false,false,false,false,false,false,false,false,false,false,false,false,false,false,false,false,false,false,false,false,false,false,false,false,false,false,false,false,false,false,false,false,false,false,false,false] (by kernel_rfl) rfl rfl ⟨kC_ BK224 0,kC_ BK224 1,kC_ BK224 2,kC_ BK224 3⟩ (fun hHeld => ?_);refine with_tabW impl_DirOk.tab4 impl_DirOk.bits4 (fun HT_ HW_ => ?_);generalize w40.drew = w41 at BK224 HB hHeld ⊢;refine pU_ 0 (some 12) ?_
        refine tK_ 1 (some 13) hHeld ?_
        refine oN_ 2 (some 14) (fun K hK => ?_);refine gs_ Try.func157 #[.string ((rd_T127 l0 x7_1).f0)] ?_;with_reducible refine (impl_keyOk.calls ((rd_T127 l0 x7_1).f0) true _ A5.out).mono ?_;rintro e w' ⟨rfl,⟨nd,rfl⟩⟩;refine ⟨_,rfl,?_⟩;have BK224d_:=A_ (kn_ BK224.out nd);have HBd_:=A_ (pn_ HB.out nd);refine hK.out _ _ ⟨kC_ BK224d_ 0,kC_ BK224d_ 1,kC_ BK224d_ 2,kC_ BK224d_ 3⟩ (fun hHeld => ?_);clear hK K;refine nX_ (some 14) ?_
        refine pU_ 3 (some 15) ?_
        refine pU_ 4 (some 16) ?_
        refine pU_ 5 (some 17) ?_
        refine tK_ 6 (some 18) hHeld ?_
        refine oN_ 7 (some 19) (fun K hK => ?_);refine gs_ Try.func75 #[.int .i64 ((rd_T127 l0 x7_1).f1),.int .i64 0,.int .i64 999] ?_;with_reducible refine (impl_within.calls ((rd_T127 l0 x7_1).f1) 0 999 false _ A7.out).mono ?_;rintro e w' ⟨rfl,⟨nd,rfl⟩⟩;refine ⟨_,rfl,?_⟩;replace BK224d_:=A_ (kn_ BK224d_.out nd);replace HBd_:=A_ (pn_ HBd_.out nd);refine hK.out _ _ ⟨kC_ BK224d_ 0,kC_ BK224d_ 1,kC_ BK224d_ 2,kC_ BK224d_ 3⟩ (fun hHeld => ?_);clear hK K;refine nX_ (some 19) ?_
        refine pU_ 8 (some 20) ?_
        refine pU_ 9 (some 21) ?_
        refine pU_ 10 (some 22) ?_
        refine pure_ (i:=11) (N:=some 23) (v:=undef) (a':=?_) #[true,true,true,true,true,true,true,true,true,true,true,true,false,false,false,false,false,false,false,false,false,false,false,false,false,false,false,false,false,false,false,false,false,false,false,false,false] rfl rfl (any_of HT_.out (by kernel_rfl)) (fun _ _ _ h => h) (Or.inr ⟨by rfl,rfl⟩) ?_ ?_;rotate_left
        ·exact ux_
        refine pure_ (i:=12) (N:=some 24) (v:=undef) (a':=?_) #[true,true,true,true,true,true,true,true,true,true,true,true,true,false,false,false,false,false,false,false,false,false,false,false,false,false,false,false,false,false,false,false,false,false,false,false,false] rfl rfl (any_of HT_.out (by kernel_rfl)) (fun _ _ _ h => h) (Or.inr ⟨by rfl,rfl⟩) ?_ ?_;rotate_left
        ·exact ux_
        refine pure_ (i:=13) (N:=some 25) (v:=undef) (a':=?_) #[true,true,true,true,true,true,true,true,true,true,true,true,true,true,false,false,false,false,false,false,false,false,false,false,false,false,false,false,false,false,false,false,false,false,false,false,false] rfl rfl (any_of HT_.out (by kernel_rfl)) (fun _ _ _ h => h) (Or.inr ⟨by rfl,rfl⟩) ?_ ?_;rotate_left
        ·exact ux_
        refine pure_ (i:=14) (N:=some 26) (v:=undef) (a':=?_) #[true,true,true,true,true,true,true,true,true,true,true,true,true,true,true,false,false,false,false,false,false,false,false,false,false,false,false,false,false,false,false,false,false,false,false,false,false] rfl rfl (any_of HT_.out (by kernel_rfl)) (fun _ _ _ h => h) (Or.inr ⟨by rfl,rfl⟩) ?_ ?_;rotate_left
        ·exact ux_
        refine pU_ 15 (some 27) ?_
        refine pU_ 16 (some 28) ?_
        refine pure_ (i:=17) (N:=some 29) (v:=undef) (a':=?_) #[true,true,true,true,true,true,true,true,true,true,true,true,true,true,true,true,true,true,false,false,false,false,false,false,false,false,false,false,false,false,false,false,false,false,false,false,false] rfl rfl (any_of HT_.out (by kernel_rfl)) (fun _ _ _ h => h) (Or.inr ⟨by rfl,rfl⟩) ?_ ?_;rotate_left
        ·exact ux_
        refine pure_ (i:=18) (N:=some 30) (v:=undef) (a':=?_) #[true,true,true,true,true,true,true,true,true,true,true,true,true,true,true,true,true,true,true,false,false,false,false,false,false,false,false,false,false,false,false,false,false,false,false,false,false] rfl rfl (any_of HT_.out (by kernel_rfl)) (fun _ _ _ h => h) (Or.inr ⟨by rfl,rfl⟩) ?_ ?_;rotate_left
        ·exact ux_
        refine pure_ (i:=19) (N:=some 31) (v:=undef) (a':=?_) #[true,true,true,true,true,true,true,true,true,true,true,true,true,true,true,true,true,true,true,true,false,false,false,false,false,false,false,false,false,false,false,false,false,false,false,false,false] rfl rfl (any_of HT_.out (by kernel_rfl)) (fun _ _ _ h => h) (Or.inr ⟨by rfl,rfl⟩) ?_ ?_;rotate_left
        ·exact ux_
        refine pure_ (i:=20) (N:=some 32) (v:=undef) (a':=?_) #[true,true,true,true,true,true,true,true,true,true,true,true,true,true,true,true,true,true,true,true,true,false,false,false,false,false,false,false,false,false,false,false,false,false,false,false,false] rfl rfl (any_of HT_.out (by kernel_rfl)) (fun _ _ _ h => h) (Or.inr ⟨by rfl,rfl⟩) ?_ ?_;rotate_left
        ·exact ux_
        refine pU_ 21 (some 33) ?_
        refine pU_ 22 (some 34) ?_
        refine pure_ (i:=23) (N:=some 35) (v:=undef) (a':=?_) #[true,true,true,true,true,true,true,true,true,true,true,true,true,true,true,true,true,true,true,true,true,true,true,true,false,false,false,false,false,false,false,false,false,false,false,false,false] rfl rfl (any_of HT_.out (by kernel_rfl)) (fun _ _ _ h => h) (Or.inr ⟨by rfl,rfl⟩) ?_ ?_;rotate_left
        ·exact ux_
        refine pure_ (i:=24) (N:=some 36) (v:=undef) (a':=?_) #[true,true,true,true,true,true,true,true,true,true,true,true,true,true,true,true,true,true,true,true,true,true,true,true,true,false,false,false,false,false,false,false,false,false,false,false,false] rfl rfl (any_of HT_.out (by kernel_rfl)) (fun _ _ _ h => h) (Or.inr ⟨by rfl,rfl⟩) ?_ ?_;rotate_left
        ·exact ux_
        refine pure_ (i:=25) (N:=some 37) (v:=undef) (a':=?_) #[true,true,true,true,true,true,true,true,true,true,true,true,true,true,true,true,true,true,true,true,true,true,true,true,true,true,false,false,false,false,false,false,false,false,false,false,false] rfl rfl (any_of HT_.out (by kernel_rfl)) (fun _ _ _ h => h) (Or.inr ⟨by rfl,rfl⟩) ?_ ?_;rotate_left
        ·exact ux_
        refine pure_ (i:=26) (N:=some 38) (v:=undef) (a':=?_) #[true,true,true,true,true,true,true,true,true,true,true,true,true,true,true,true,true,true,true,true,true,true,true,true,true,true,true,false,false,false,false,false,false,false,false,false,false] rfl rfl (any_of HT_.out (by kernel_rfl)) (fun _ _ _ h => h) (Or.inr ⟨by rfl,rfl⟩) ?_ ?_;rotate_left
        ·exact ux_
        refine pure_ (i:=27) (N:=some 39) (v:=undef) (a':=?_) #[true,true,true,true,true,true,true,true,true,true,true,true,true,true,true,true,true,true,true,true,true,true,true,true,true,true,true,true,false,false,false,false,false,false,false,false,false] rfl rfl (any_of HT_.out (by kernel_rfl)) (fun _ _ _ h => h) (Or.inr ⟨by rfl,rfl⟩) ?_ ?_;rotate_left
        ·exact ux_
        refine pure_ (i:=28) (N:=some 40) (v:=undef) (a':=?_) #[true,true,true,true,true,true,true,true,true,true,true,true,true,true,true,true,true,true,true,true,true,true,true,true,true,true,true,true,true,false,false,false,false,false,false,false,false] rfl rfl (any_of HT_.out (by kernel_rfl)) (fun _ _ _ h => h) (Or.inr ⟨by rfl,rfl⟩) ?_ ?_;rotate_left
        ·exact ux_
        refine pure_ (i:=29) (N:=some 41) (v:=undef) (a':=?_) #[true,true,true,true,true,true,true,true,true,true,true,true,true,true,true,true,true,true,true,true,true,true,true,true,true,true,true,true,true,true,false,false,false,false,false,false,false] rfl rfl (any_of HT_.out (by kernel_rfl)) (fun _ _ _ h => h) (Or.inr ⟨by rfl,rfl⟩) ?_ ?_;rotate_left
        ·exact ux_
        refine pure_ (i:=30) (N:=some 42) (v:=undef) (a':=?_) #[true,true,true,true,true,true,true,true,true,true,true,true,true,true,true,true,true,true,true,true,true,true,true,true,true,true,true,true,true,true,true,false,false,false,false,false,false] rfl rfl (any_of HT_.out (by kernel_rfl)) (fun _ _ _ h => h) (Or.inr ⟨by rfl,rfl⟩) ?_ ?_;rotate_left
        ·exact ux_
        refine pure_ (i:=31) (N:=some 43) (v:=undef) (a':=?_) #[true,true,true,true,true,true,true,true,true,true,true,true,true,true,true,true,true,true,true,true,true,true,true,true,true,true,true,true,true,true,true,true,false,false,false,false,false] rfl rfl (any_of HT_.out (by kernel_rfl)) (fun _ _ _ h => h) (Or.inr ⟨by rfl,rfl⟩) ?_ ?_;rotate_left
        ·exact ux_
        refine pure_ (i:=32) (N:=some 44) (v:=undef) (a':=?_) #[true,true,true,true,true,true,true,true,true,true,true,true,true,true,true,true,true,true,true,true,true,true,true,true,true,true,true,true,true,true,true,true,true,false,false,false,false] rfl rfl (any_of HT_.out (by kernel_rfl)) (fun _ _ _ h => h) (Or.inr ⟨by rfl,rfl⟩) ?_ ?_;rotate_left
        ·exact ux_
        refine pure_ (i:=33) (N:=some 45) (v:=undef) (a':=?_) #[true,true,true,true,true,true,true,true,true,true,true,true,true,true,true,true,true,true,true,true,true,true,true,true,true,true,true,true,true,true,true,true,true,true,false,false,false] rfl rfl (any_of HT_.out (by kernel_rfl)) (fun _ _ _ h => h) (Or.inr ⟨by rfl,rfl⟩) ?_ ?_;rotate_left
        ·exact ux_
        refine pure_ (i:=34) (N:=some 46) (v:=undef) (a':=?_) #[true,true,true,true,true,true,true,true,true,true,true,true,true,true,true,true,true,true,true,true,true,true,true,true,true,true,true,true,true,true,true,true,true,true,true,false,false] rfl rfl (any_of HT_.out (by kernel_rfl)) (fun _ _ _ h => h) (Or.inr ⟨by rfl,rfl⟩) ?_ ?_;rotate_left
        ·exact ux_
        refine pure_ (i:=35) (N:=some 47) (v:=undef) (a':=?_) #[true,true,true,true,true,true,true,true,true,true,true,true,true,true,true,true,true,true,true,true,true,true,true,true,true,true,true,true,true,true,true,true,true,true,true,true,false] rfl rfl (any_of HT_.out (by kernel_rfl)) (fun _ _ _ h => h) (Or.inr ⟨by rfl,rfl⟩) ?_ ?_;rotate_left
        ·exact ux_
        refine pU_ 36 (some 48) ?_
        refine done_ (done_of HT_.out (by kernel_rfl)) ?_
        try go_wp2
        go_ret;exact ⟨ex_,bq_ HB⟩
      ·replace c6:=Bool.eq_false_iff.mpr c6;subst c6
       have H1 : (some false) = some r:=by rw [if_neg (show ¬ (false = true) by decide)] at H;exact H
       clear H;have H:=H1;clear H1;obtain rfl:=Option.some.inj H;have p223 : 0 ≤ (x7_1 : Int):=oda_;have q223 : x7_1 < (l0.length : Int):=oda_;obtain ⟨ad223,e223,hx223_0,hx223_1,hx223_2,hx223_3⟩:=at_T127 HR0.out x7_1 p223 q223
       cases e223
       replace hx223_0:=(HB.out.cell (wb_ w _ hx223_0)).trans hx223_0;replace hx223_1:=(HB.out.cell (wb_ w _ hx223_1)).trans hx223_1;replace hx223_2:=(HB.out.cell (wb_ w _ hx223_2)).trans hx223_2;replace hx223_3:=(HB.out.cell (wb_ w _ hx223_3)).trans hx223_3;replace p223:=eq_true p223;replace q223:=eq_true q223
       try go_wp2_with (first|((with_reducible refine gate_dst (N:=4) rfl ?_);refine bE_ 4 #[.string (⟨#[]⟩ : ByteArray),.int .i64 0,.int .i64 0,.int .i64 0] 127 ?_;intro gb224 hg w42 hbox hb;have BK224:=A_ (hbox);have GW224:=gE_ hg HB;have GE224:=gE_ hg HB;replace HB:=bS_ HB hb;clear hb hbox hg;obtain ⟨hcz43_0,hcz43_1,hcz43_2,hcz43_3,hfz43_0,hfz43_1,hfz43_2,hfz43_3⟩:=k4f_ BK224))
       have n0_ : Aside0 (((((w42.setCell ⟨gb224,0,none⟩ (.string ((rd_T127 l0 x7_1).f0))).setCell ⟨gb224,1,none⟩ (.int .i64 ((rd_T127 l0 x7_1).f1))).setCell ⟨gb224,2,none⟩ (.int .i64 ((rd_T127 l0 x7_1).f2))).setCell ⟨gb224,3,none⟩ (.int .i64 ((rd_T127 l0 x7_1).f3))).heap[gb224]? = some (.cells #[.string ((rd_T127 l0 x7_1).f0),.int .i64 ((rd_T127 l0 x7_1).f1),.int .i64 ((rd_T127 l0 x7_1).f2),.int .i64 ((rd_T127 l0 x7_1).f3)] 127 (0,0))):=⟨kz_ BK224⟩;have n1_ : Aside0 (Below w.heap.size w ((((w42.setCell ⟨gb224,0,none⟩ (.string ((rd_T127 l0 x7_1).f0))).setCell ⟨gb224,1,none⟩ (.int .i64 ((rd_T127 l0 x7_1).f1))).setCell ⟨gb224,2,none⟩ (.int .i64 ((rd_T127 l0 x7_1).f2))).setCell ⟨gb224,3,none⟩ (.int .i64 ((rd_T127 l0 x7_1).f3)))):=⟨bq_ HB⟩
       (try clear BK224)
       (try clear HB)
       generalize ((((w42.setCell ⟨gb224,0,none⟩ (.string ((rd_T127 l0 x7_1).f0))).setCell ⟨gb224,1,none⟩ (.int .i64 ((rd_T127 l0 x7_1).f1))).setCell ⟨gb224,2,none⟩ (.int .i64 ((rd_T127 l0 x7_1).f2))).setCell ⟨gb224,3,none⟩ (.int .i64 ((rd_T127 l0 x7_1).f3))) = w44 at n0_ n1_ ⊢;have BK224:=n0_;have HB:=n1_;clear n0_ n1_;replace BK224:=A_ (kd_ BK224.out);replace HB:=A_ (pd_ HB.out);refine start_ (n:=37) (S:=fun w' => w'.cell? ⟨gb224,0,none⟩ = some (.string ((rd_T127 l0 x7_1).f0)) ∧ w'.cell? ⟨gb224,1,none⟩ = some (.int .i64 ((rd_T127 l0 x7_1).f1)) ∧ w'.cell? ⟨gb224,2,none⟩ = some (.int .i64 ((rd_T127 l0 x7_1).f2)) ∧ w'.cell? ⟨gb224,3,none⟩ = some (.int .i64 ((rd_T127 l0 x7_1).f3))) (ds:=[]) #[false,false,false,false,false,false,false,false,false,false,false,false,false,false,false,false,false,false,false,false,false,false,false,false,false,false,false,false,false,false,false,false,false,false,false,false,false] (by kernel_rfl) rfl rfl ⟨kC_ BK224 0,kC_ BK224 1,kC_ BK224 2,kC_ BK224 3⟩ (fun hHeld => ?_);refine with_tabW impl_DirOk.tab4 impl_DirOk.bits4 (fun HT_ HW_ => ?_);generalize w44.drew = w45 at BK224 HB hHeld ⊢;refine pU_ 0 (some 12) ?_
       refine tK_ 1 (some 13) hHeld ?_
       refine oN_ 2 (some 14) (fun K hK => ?_);refine gs_ Try.func157 #[.string ((rd_T127 l0 x7_1).f0)] ?_;with_reducible refine (impl_keyOk.calls ((rd_T127 l0 x7_1).f0) false _ A5.out).mono ?_;rintro e w' ⟨rfl,⟨nd,rfl⟩⟩;refine ⟨_,rfl,?_⟩;have BK224d_:=A_ (kn_ BK224.out nd);have HBd_:=A_ (pn_ HB.out nd);refine hK.out _ _ ⟨kC_ BK224d_ 0,kC_ BK224d_ 1,kC_ BK224d_ 2,kC_ BK224d_ 3⟩ (fun hHeld => ?_);clear hK K;refine nX_ (some 14) ?_
       refine pU_ 3 (some 15) ?_
       refine pU_ 4 (some 16) ?_
       refine pure_ (i:=5) (N:=some 17) (v:=undef) (a':=?_) #[true,true,true,true,true,true,false,false,false,false,false,false,false,false,false,false,false,false,false,false,false,false,false,false,false,false,false,false,false,false,false,false,false,false,false,false,false] rfl rfl (any_of HT_.out (by kernel_rfl)) (fun _ _ _ h => h) (Or.inr ⟨by rfl,rfl⟩) ?_ ?_;rotate_left
       ·exact ux_
       refine pure_ (i:=6) (N:=some 18) (v:=undef) (a':=?_) #[true,true,true,true,true,true,true,false,false,false,false,false,false,false,false,false,false,false,false,false,false,false,false,false,false,false,false,false,false,false,false,false,false,false,false,false,false] rfl rfl (any_of HT_.out (by kernel_rfl)) (fun _ _ _ h => h) (Or.inr ⟨by rfl,rfl⟩) ?_ ?_;rotate_left
       ·exact ux_
       refine pure_ (i:=7) (N:=some 19) (v:=undef) (a':=?_) #[true,true,true,true,true,true,true,true,false,false,false,false,false,false,false,false,false,false,false,false,false,false,false,false,false,false,false,false,false,false,false,false,false,false,false,false,false] rfl rfl (any_of HT_.out (by kernel_rfl)) (fun _ _ _ h => h) (Or.inr ⟨by rfl,rfl⟩) ?_ ?_;rotate_left
       ·exact ux_
       refine pure_ (i:=8) (N:=some 20) (v:=undef) (a':=?_) #[true,true,true,true,true,true,true,true,true,false,false,false,false,false,false,false,false,false,false,false,false,false,false,false,false,false,false,false,false,false,false,false,false,false,false,false,false] rfl rfl (any_of HT_.out (by kernel_rfl)) (fun _ _ _ h => h) (Or.inr ⟨by rfl,rfl⟩) ?_ ?_;rotate_left
       ·exact ux_
       refine pU_ 9 (some 21) ?_
       refine pU_ 10 (some 22) ?_
       refine pure_ (i:=11) (N:=some 23) (v:=undef) (a':=?_) #[true,true,true,true,true,true,true,true,true,true,true,true,false,false,false,false,false,false,false,false,false,false,false,false,false,false,false,false,false,false,false,false,false,false,false,false,false] rfl rfl (any_of HT_.out (by kernel_rfl)) (fun _ _ _ h => h) (Or.inr ⟨by rfl,rfl⟩) ?_ ?_;rotate_left
       ·exact ux_
       refine pure_ (i:=12) (N:=some 24) (v:=undef) (a':=?_) #[true,true,true,true,true,true,true,true,true,true,true,true,true,false,false,false,false,false,false,false,false,false,false,false,false,false,false,false,false,false,false,false,false,false,false,false,false] rfl rfl (any_of HT_.out (by kernel_rfl)) (fun _ _ _ h => h) (Or.inr ⟨by rfl,rfl⟩) ?_ ?_;rotate_left
       ·exact ux_
       refine pure_ (i:=13) (N:=some 25) (v:=undef) (a':=?_) #[true,true,true,true,true,true,true,true,true,true,true,true,true,true,false,false,false,false,false,false,false,false,false,false,false,false,false,false,false,false,false,false,false,false,false,false,false] rfl rfl (any_of HT_.out (by kernel_rfl)) (fun _ _ _ h => h) (Or.inr ⟨by rfl,rfl⟩) ?_ ?_;rotate_left
       ·exact ux_
       refine pure_ (i:=14) (N:=some 26) (v:=undef) (a':=?_) #[true,true,true,true,true,true,true,true,true,true,true,true,true,true,true,false,false,false,false,false,false,false,false,false,false,false,false,false,false,false,false,false,false,false,false,false,false] rfl rfl (any_of HT_.out (by kernel_rfl)) (fun _ _ _ h => h) (Or.inr ⟨by rfl,rfl⟩) ?_ ?_;rotate_left
       ·exact ux_
       refine pU_ 15 (some 27) ?_
       refine pU_ 16 (some 28) ?_
       refine pure_ (i:=17) (N:=some 29) (v:=undef) (a':=?_) #[true,true,true,true,true,true,true,true,true,true,true,true,true,true,true,true,true,true,false,false,false,false,false,false,false,false,false,false,false,false,false,false,false,false,false,false,false] rfl rfl (any_of HT_.out (by kernel_rfl)) (fun _ _ _ h => h) (Or.inr ⟨by rfl,rfl⟩) ?_ ?_;rotate_left
       ·exact ux_
       refine pure_ (i:=18) (N:=some 30) (v:=undef) (a':=?_) #[true,true,true,true,true,true,true,true,true,true,true,true,true,true,true,true,true,true,true,false,false,false,false,false,false,false,false,false,false,false,false,false,false,false,false,false,false] rfl rfl (any_of HT_.out (by kernel_rfl)) (fun _ _ _ h => h) (Or.inr ⟨by rfl,rfl⟩) ?_ ?_;rotate_left
       ·exact ux_
       refine pure_ (i:=19) (N:=some 31) (v:=undef) (a':=?_) #[true,true,true,true,true,true,true,true,true,true,true,true,true,true,true,true,true,true,true,true,false,false,false,false,false,false,false,false,false,false,false,false,false,false,false,false,false] rfl rfl (any_of HT_.out (by kernel_rfl)) (fun _ _ _ h => h) (Or.inr ⟨by rfl,rfl⟩) ?_ ?_;rotate_left
       ·exact ux_
       refine pure_ (i:=20) (N:=some 32) (v:=undef) (a':=?_) #[true,true,true,true,true,true,true,true,true,true,true,true,true,true,true,true,true,true,true,true,true,false,false,false,false,false,false,false,false,false,false,false,false,false,false,false,false] rfl rfl (any_of HT_.out (by kernel_rfl)) (fun _ _ _ h => h) (Or.inr ⟨by rfl,rfl⟩) ?_ ?_;rotate_left
       ·exact ux_
       refine pU_ 21 (some 33) ?_
       refine pU_ 22 (some 34) ?_
       refine pure_ (i:=23) (N:=some 35) (v:=undef) (a':=?_) #[true,true,true,true,true,true,true,true,true,true,true,true,true,true,true,true,true,true,true,true,true,true,true,true,false,false,false,false,false,false,false,false,false,false,false,false,false] rfl rfl (any_of HT_.out (by kernel_rfl)) (fun _ _ _ h => h) (Or.inr ⟨by rfl,rfl⟩) ?_ ?_;rotate_left
       ·exact ux_
       refine pure_ (i:=24) (N:=some 36) (v:=undef) (a':=?_) #[true,true,true,true,true,true,true,true,true,true,true,true,true,true,true,true,true,true,true,true,true,true,true,true,true,false,false,false,false,false,false,false,false,false,false,false,false] rfl rfl (any_of HT_.out (by kernel_rfl)) (fun _ _ _ h => h) (Or.inr ⟨by rfl,rfl⟩) ?_ ?_;rotate_left
       ·exact ux_
       refine pure_ (i:=25) (N:=some 37) (v:=undef) (a':=?_) #[true,true,true,true,true,true,true,true,true,true,true,true,true,true,true,true,true,true,true,true,true,true,true,true,true,true,false,false,false,false,false,false,false,false,false,false,false] rfl rfl (any_of HT_.out (by kernel_rfl)) (fun _ _ _ h => h) (Or.inr ⟨by rfl,rfl⟩) ?_ ?_;rotate_left
       ·exact ux_
       refine pure_ (i:=26) (N:=some 38) (v:=undef) (a':=?_) #[true,true,true,true,true,true,true,true,true,true,true,true,true,true,true,true,true,true,true,true,true,true,true,true,true,true,true,false,false,false,false,false,false,false,false,false,false] rfl rfl (any_of HT_.out (by kernel_rfl)) (fun _ _ _ h => h) (Or.inr ⟨by rfl,rfl⟩) ?_ ?_;rotate_left
       ·exact ux_
       refine pure_ (i:=27) (N:=some 39) (v:=undef) (a':=?_) #[true,true,true,true,true,true,true,true,true,true,true,true,true,true,true,true,true,true,true,true,true,true,true,true,true,true,true,true,false,false,false,false,false,false,false,false,false] rfl rfl (any_of HT_.out (by kernel_rfl)) (fun _ _ _ h => h) (Or.inr ⟨by rfl,rfl⟩) ?_ ?_;rotate_left
       ·exact ux_
       refine pure_ (i:=28) (N:=some 40) (v:=undef) (a':=?_) #[true,true,true,true,true,true,true,true,true,true,true,true,true,true,true,true,true,true,true,true,true,true,true,true,true,true,true,true,true,false,false,false,false,false,false,false,false] rfl rfl (any_of HT_.out (by kernel_rfl)) (fun _ _ _ h => h) (Or.inr ⟨by rfl,rfl⟩) ?_ ?_;rotate_left
       ·exact ux_
       refine pure_ (i:=29) (N:=some 41) (v:=undef) (a':=?_) #[true,true,true,true,true,true,true,true,true,true,true,true,true,true,true,true,true,true,true,true,true,true,true,true,true,true,true,true,true,true,false,false,false,false,false,false,false] rfl rfl (any_of HT_.out (by kernel_rfl)) (fun _ _ _ h => h) (Or.inr ⟨by rfl,rfl⟩) ?_ ?_;rotate_left
       ·exact ux_
       refine pure_ (i:=30) (N:=some 42) (v:=undef) (a':=?_) #[true,true,true,true,true,true,true,true,true,true,true,true,true,true,true,true,true,true,true,true,true,true,true,true,true,true,true,true,true,true,true,false,false,false,false,false,false] rfl rfl (any_of HT_.out (by kernel_rfl)) (fun _ _ _ h => h) (Or.inr ⟨by rfl,rfl⟩) ?_ ?_;rotate_left
       ·exact ux_
       refine pure_ (i:=31) (N:=some 43) (v:=undef) (a':=?_) #[true,true,true,true,true,true,true,true,true,true,true,true,true,true,true,true,true,true,true,true,true,true,true,true,true,true,true,true,true,true,true,true,false,false,false,false,false] rfl rfl (any_of HT_.out (by kernel_rfl)) (fun _ _ _ h => h) (Or.inr ⟨by rfl,rfl⟩) ?_ ?_;rotate_left
       ·exact ux_
       refine pure_ (i:=32) (N:=some 44) (v:=undef) (a':=?_) #[true,true,true,true,true,true,true,true,true,true,true,true,true,true,true,true,true,true,true,true,true,true,true,true,true,true,true,true,true,true,true,true,true,false,false,false,false] rfl rfl (any_of HT_.out (by kernel_rfl)) (fun _ _ _ h => h) (Or.inr ⟨by rfl,rfl⟩) ?_ ?_;rotate_left
       ·exact ux_
       refine pure_ (i:=33) (N:=some 45) (v:=undef) (a':=?_) #[true,true,true,true,true,true,true,true,true,true,true,true,true,true,true,true,true,true,true,true,true,true,true,true,true,true,true,true,true,true,true,true,true,true,false,false,false] rfl rfl (any_of HT_.out (by kernel_rfl)) (fun _ _ _ h => h) (Or.inr ⟨by rfl,rfl⟩) ?_ ?_;rotate_left
       ·exact ux_
       refine pure_ (i:=34) (N:=some 46) (v:=undef) (a':=?_) #[true,true,true,true,true,true,true,true,true,true,true,true,true,true,true,true,true,true,true,true,true,true,true,true,true,true,true,true,true,true,true,true,true,true,true,false,false] rfl rfl (any_of HT_.out (by kernel_rfl)) (fun _ _ _ h => h) (Or.inr ⟨by rfl,rfl⟩) ?_ ?_;rotate_left
       ·exact ux_
       refine pure_ (i:=35) (N:=some 47) (v:=undef) (a':=?_) #[true,true,true,true,true,true,true,true,true,true,true,true,true,true,true,true,true,true,true,true,true,true,true,true,true,true,true,true,true,true,true,true,true,true,true,true,false] rfl rfl (any_of HT_.out (by kernel_rfl)) (fun _ _ _ h => h) (Or.inr ⟨by rfl,rfl⟩) ?_ ?_;rotate_left
       ·exact ux_
       refine pU_ 36 (some 48) ?_
       refine done_ (done_of HT_.out (by kernel_rfl)) ?_
       try go_wp2
       go_ret;exact ⟨ex_,bq_ HB⟩
     ·rw [if_neg c4] at H;exact absurd H (by simp)
    ·rw [if_neg c3] at H;exact absurd H (by simp)
   ·rw [if_neg c2] at H;have c2b0 : decide (x7_1 < (l0.length : Int)) = false:=decide_eq_false c2;clear c2;obtain rfl:=Option.some.inj H;go_wp2;go_ret;exact ⟨ex_,bq_ HB⟩
end Go.Proofs.Ytgpafelepkhdoaa.PFnExactReadHint
