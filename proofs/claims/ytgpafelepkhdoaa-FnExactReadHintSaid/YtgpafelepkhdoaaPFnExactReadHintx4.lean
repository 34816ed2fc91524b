/- The contracts of the Go functions that this law reaches: what each call returns, by a plain Lean function of its arguments. No conditions but those each contract names. By the kit's print.py, run by this session's wip/gen/pp.py with facts and hand proofs beside it: not to the letter what print.sh prints. -/
import Derived.Test.YtgpafelepkhdoaaPFnExactReadHintx0
import Derived.Test.YtgpafelepkhdoaaPFnExactReadHintx1
import Derived.Test.YtgpafelepkhdoaaPFnExactReadHintx3
namespace Go.Proofs.Ytgpafelepkhdoaa.PFnExactReadHint
open Go.RowKit Go.Proofs.YtgpafelepkhdoaaW.PrintWords Go.Proofs.YtgpafelepkhdoaaW.PrintLast Go.Proofs.YtgpafelepkhdoaaW.PrintMore
attribute [local go_sem] max2_int min2_int max_two min_two max_three min_three max_four min_four
set_option linter.unusedVariables false
set_option linter.unusedSimpArgs false
def spec_DirOk.l0 : Nat → List (S127) → Int → Option (Bool)
 | 0,_,_ => none
 | k + 1,x0,x3 => if x3 < (x0.length : Int) then (if 0 ≤ x3 then ((spec_l05Key.f ((rd_T127 x0 x3).f0)).bind fun t132 => (if t132 = true then (if x3 > 0 then (if 0 ≤ (wrap64 (x3 - 1)) then (if (wrap64 (x3 - 1)) < (x0.length : Int) then (if ((Op.bytesLess (((rd_T127 x0 (wrap64 (x3 - 1))).f0).toList) (((rd_T127 x0 x3).f0).toList)) = true) then ((spec_l01In.f ((rd_T127 x0 x3).f1) 0 999).bind fun t134 => (if t134 = true then ((spec_l01In.f ((rd_T127 x0 x3).f2) 0 20000).bind fun t135 => (if t135 = true then ((spec_l01In.f ((rd_T127 x0 x3).f3) 0 40).bind fun t136 => (if t136 = true then (spec_DirOk.l0 k x0 (wrap64 (x3 + 1))) else (some false))) else (some false))) else (some false))) else (some false)) else (none)) else (none)) else ((spec_l01In.f ((rd_T127 x0 x3).f1) 0 999).bind fun t137 => (if t137 = true then ((spec_l01In.f ((rd_T127 x0 x3).f2) 0 20000).bind fun t138 => (if t138 = true then ((spec_l01In.f ((rd_T127 x0 x3).f3) 0 40).bind fun t139 => (if t139 = true then (spec_DirOk.l0 k x0 (wrap64 (x3 + 1))) else (some false))) else (some false))) else (some false)))) else (some false))) else (none)) else (some true)
def spec_DirOk.f (k : Nat) (l0 : List (S127)) : Option (Bool) := if (l0.length : Int) > 60 then (some false) else (spec_DirOk.l0 k l0 0)
theorem spec_DirOk.mono_l : ∀ k, (∀ y0 y1, LeO (spec_DirOk.l0 k y0 y1) (spec_DirOk.l0 (k + 1) y0 y1))
 | 0 => fun _ _ r h => by simp [spec_DirOk.l0] at h
 | k + 1 => by
  have ih0:=spec_DirOk.mono_l k
  ·intro y0 y1
   unfold spec_DirOk.l0
   repeat' first
   | (with_reducible exact ih0 _ _)
   | (with_reducible exact LeO.refl _)
   | (with_reducible exact LeO.none _)
   | (with_reducible refine LeO.ite ?_ ?_)
   | (with_reducible refine LeO.bind ?_ (fun _ => ?_))
theorem spec_DirOk.mono : ∀ a0 k, LeO (spec_DirOk.f k a0) (spec_DirOk.f (k + 1) a0) := by
 intro a0 k;have ih0:=spec_DirOk.mono_l k
 unfold spec_DirOk.f
 repeat' first
   | (with_reducible exact ih0 _ _)
   | (with_reducible exact LeO.refl _)
   | (with_reducible exact LeO.none _)
   | (with_reducible refine LeO.ite ?_ ?_)
   | (with_reducible refine LeO.bind ?_ (fun _ => ?_))
def spec_DirOk.T7 : Bool × List (List Nat × List Nat) := (true, [([], []), ([0], [0]), ([1], [1]), ([2], [2]), ([3, 2], [3]), ([4], [4]), ([5, 4], [4, 5]), ([6, 4, 4], [4, 6]), ([7], [7]), ([7], [7]), ([9, 7], [7, 9]), ([8, 10, 7], [7, 8, 10]), ([11, 7], [7, 11]), ([12, 7], [7, 12]), ([7], [7]), ([14, 7], [7, 14]), ([13, 15, 7], [7, 13, 15]), ([7, 16, 4], [4, 7, 16]), ([4, 17], [4, 17]), ([18, 7], [18]), ([19], [19]), ([20, 19], [19, 20]), ([21, 19, 19], [19, 21]), ([22, 19], [19, 22]), ([19, 23], [19, 23]), ([24, 22], [24]), ([25], [25]), ([26, 25], [25, 26]), ([27, 25, 25], [25, 27]), ([28, 25], [25, 28]), ([25, 29], [25, 29]), ([30, 28], [30]), ([31], [31]), ([32, 31], [31, 32]), ([33, 31, 31], [31, 33]), ([34, 31], [31, 34]), ([31, 35], [31, 35])])
def spec_DirOk.B7 : List Nat := [0, 1, 3, 7, 15, 31, 63, 127, 255, 255, 767, 2047, 4095, 8191, 255, 16639, 65535, 131071, 262143, 524287, 1048575, 2097151, 4194303, 8388607, 16777215, 33554431, 67108863, 134217727, 268435455, 536870911, 1073741823, 2147483647, 4294967295, 8589934591, 17179869183, 34359738367, 68719476735]
theorem spec_DirOk.tab7 : rtab .any (opsOf Try.f120 7) = spec_DirOk.T7 := by kernel_rfl
theorem spec_DirOk.bits7 : waitsOk spec_DirOk.T7.2 spec_DirOk.B7 = true := by kernel_rfl
set_option maxHeartbeats 8000000 in
set_option maxRecDepth 100000 in
theorem spec_DirOk.calls (k : Nat) (A0 : Option Addr) (c0 : Nat) (l0 : List (S127)) (r : Bool) (w : World) (hr0 : Kd.C k127 w A0 l0.length l0) (hc0 : l0.length ≤ c0) (h : spec_DirOk.f k l0 = some r) :
  Calls Try.prog 120 #[.slice A0 l0.length c0] w fun e w' => e = .returned (.bool r) ∧ Below w.heap.size w w':=by
 have hu127:=Try.underlying127;have HR0:=A_ hr0;have HC0:=A_ hc0;clear hr0 hc0;have HB:=A_ (Below.refl w.heap.size w);unfold spec_DirOk.f at h;have H:=h;clear h
 by_cases c2 : (l0.length : Int) > 60
 ·rw [if_pos c2] at H;have c2b0 : decide (60 < (l0.length : Int)) = true:=de_ c2;have c2b1 : decide (60 < l0.length) = true:=de_ (by omega);clear c2;obtain rfl:=Option.some.inj H;go_enter Try.func120,Try.ntmps120;go_wp2;go_ret;exact ⟨ex_,bq_ HB⟩
 ·rw [if_neg c2] at H;have c2b0 : decide (60 < (l0.length : Int)) = false:=decide_eq_false c2;have c2b1 : decide (60 < l0.length) = false:=decide_eq_false (by omega);clear c2;have H':=A_ H;clear H;go_enter Try.func120,Try.ntmps120;go_wp2
  go_loopg [3] k (fun kq v3 w' => ∃ (x3_1 : Int),v3 = .int .i64 x3_1 ∧ Aside0 (spec_DirOk.l0 kq l0 x3_1 = some r) ∧ Aside0 (kq ≤ k) ∧ Aside0 (Below w.heap.size w w'))
  case atStart => exact ⟨(0),(by first|rfl|(simp;done)|(simp [*];done)),H',⟨Nat.le_refl _⟩,⟨bq_ HB⟩⟩
  case round =>
   clear H'
   try clear c1
   try clear c2
   try clear c2b0
   try clear c2b1
   try clear p2
   obtain ⟨x3_1,rfl,HA,HK1,HB⟩:=hrel
   cases gk with
   | zero => exact absurd HA.out (by simp [spec_DirOk.l0])
   | succ k1 =>
    have H:=HA.out;clear HA;simp only [spec_DirOk.l0] at H
    by_cases c3 : x3_1 < (l0.length : Int)
    ·rw [if_pos c3] at H;have c3b0 : decide (x3_1 < (l0.length : Int)) = true:=de_ c3;clear c3
     by_cases c4 : 0 ≤ x3_1
     ·rw [if_pos c4] at H;have c4b0 : decide (0 ≤ x3_1) = true:=de_ c4;clear c4;replace H:=ob_.mp H;obtain ⟨t132,A50,H⟩:=H;(try dsimp only at H);have A5:=A_ A50;clear A50
      by_cases c6 : t132 = true
      ·subst c6
       rw [if_pos rfl] at H
       by_cases c7 : x3_1 > 0
       ·rw [if_pos c7] at H;have c7b0 : decide (0 < x3_1) = true:=de_ c7;clear c7;obtain ⟨ji8,hji8⟩ : ∃ j_ : Int,(wrap64 (x3_1 - 1)) = j_:=⟨_,rfl⟩
        replace H : (if 0 ≤ (ji8) then (if (ji8) < (l0.length : Int) then (if ((Op.bytesLess (((rd_T127 l0 (ji8)).f0).toList) (((rd_T127 l0 x3_1).f0).toList)) = true) then ((spec_l01In.f ((rd_T127 l0 x3_1).f1) 0 999).bind fun t134 => (if t134 = true then ((spec_l01In.f ((rd_T127 l0 x3_1).f2) 0 20000).bind fun t135 => (if t135 = true then ((spec_l01In.f ((rd_T127 l0 x3_1).f3) 0 40).bind fun t136 => (if t136 = true then (spec_DirOk.l0 k1 l0 (wrap64 (x3_1 + 1))) else (some false))) else (some false))) else (some false))) else (some false)) else (none)) else (none)) = some r:=by first|(rw [hji8] at H;exact H)|(simp only [hji8] at H ⊢;exact H)
        (try rw [hji8] at A5)
        have hji8w : (IntKind.i64.wrap (x3_1 - 1)) = ji8:=(i64_w _).trans hji8
        by_cases c9 : 0 ≤ (ji8)
        ·rw [if_pos c9] at H;have c9b0 : decide (0 ≤ (ji8)) = true:=de_ c9;clear c9
         by_cases c10 : (ji8) < (l0.length : Int)
         ·rw [if_pos c10] at H;have c10b0 : decide ((ji8) < (l0.length : Int)) = true:=de_ c10;clear c10
          by_cases c11 : ((Op.bytesLess (((rd_T127 l0 (ji8)).f0).toList) (((rd_T127 l0 x3_1).f0).toList)) = true)
          ·rw [if_pos c11] at H;have c11b0 : (Op.bytesLess (((rd_T127 l0 (ji8)).f0).toList) (((rd_T127 l0 x3_1).f0).toList)) = true:=c11;clear c11;replace H:=ob_.mp H;obtain ⟨t134,A120,H⟩:=H;(try dsimp only at H);have A12:=A_ A120;clear A120
           by_cases c13 : t134 = true
           ·subst c13
            rw [if_pos rfl] at H;replace H:=ob_.mp H;obtain ⟨t135,A140,H⟩:=H;(try dsimp only at H);have A14:=A_ A140;clear A140
            by_cases c15 : t135 = true
            ·subst c15
             rw [if_pos rfl] at H;replace H:=ob_.mp H;obtain ⟨t136,A160,H⟩:=H;(try dsimp only at H);have A16:=A_ A160;clear A160
             by_cases c17 : t136 = true
             ·subst c17
              rw [if_pos rfl] at H;have H':=A_ H;clear H;have p130 : 0 ≤ (x3_1 : Int):=oda_;have q130 : x3_1 < (l0.length : Int):=oda_;obtain ⟨ad130,e130,hx130_0,hx130_1,hx130_2,hx130_3⟩:=at_T127 HR0.out x3_1 p130 q130
              cases e130
              replace hx130_0:=(HB.out.cell (wb_ w _ hx130_0)).trans hx130_0;replace hx130_1:=(HB.out.cell (wb_ w _ hx130_1)).trans hx130_1;replace hx130_2:=(HB.out.cell (wb_ w _ hx130_2)).trans hx130_2;replace hx130_3:=(HB.out.cell (wb_ w _ hx130_3)).trans hx130_3;replace p130:=eq_true p130;replace q130:=eq_true q130
              try go_wp2_with (first|((with_reducible refine gate_dst (N:=4) rfl ?_);refine bE_ 4 #[.string (⟨#[]⟩ : ByteArray),.int .i64 0,.int .i64 0,.int .i64 0] 127 ?_;intro gb131 hg w18 hbox hb;have BK131:=A_ (hbox);have GW131:=gE_ hg HB;have GE131:=gE_ hg HB;replace HB:=bS_ HB hb;clear hb hbox hg;obtain ⟨hcz19_0,hcz19_1,hcz19_2,hcz19_3,hfz19_0,hfz19_1,hfz19_2,hfz19_3⟩:=k4f_ BK131))
              have n0_ : Aside0 (((((w18.setCell ⟨gb131,0,none⟩ (.string ((rd_T127 l0 x3_1).f0))).setCell ⟨gb131,1,none⟩ (.int .i64 ((rd_T127 l0 x3_1).f1))).setCell ⟨gb131,2,none⟩ (.int .i64 ((rd_T127 l0 x3_1).f2))).setCell ⟨gb131,3,none⟩ (.int .i64 ((rd_T127 l0 x3_1).f3))).heap[gb131]? = some (.cells #[.string ((rd_T127 l0 x3_1).f0),.int .i64 ((rd_T127 l0 x3_1).f1),.int .i64 ((rd_T127 l0 x3_1).f2),.int .i64 ((rd_T127 l0 x3_1).f3)] 127 (0,0))):=⟨kz_ BK131⟩;have n1_ : Aside0 (Below w.heap.size w ((((w18.setCell ⟨gb131,0,none⟩ (.string ((rd_T127 l0 x3_1).f0))).setCell ⟨gb131,1,none⟩ (.int .i64 ((rd_T127 l0 x3_1).f1))).setCell ⟨gb131,2,none⟩ (.int .i64 ((rd_T127 l0 x3_1).f2))).setCell ⟨gb131,3,none⟩ (.int .i64 ((rd_T127 l0 x3_1).f3)))):=⟨bq_ HB⟩
              (try clear BK131)
              (try clear HB)
              generalize ((((w18.setCell ⟨gb131,0,none⟩ (.string ((rd_T127 l0 x3_1).f0))).setCell ⟨gb131,1,none⟩ (.int .i64 ((rd_T127 l0 x3_1).f1))).setCell ⟨gb131,2,none⟩ (.int .i64 ((rd_T127 l0 x3_1).f2))).setCell ⟨gb131,3,none⟩ (.int .i64 ((rd_T127 l0 x3_1).f3))) = w20 at n0_ n1_ ⊢;have BK131:=n0_;have HB:=n1_;clear n0_ n1_;replace BK131:=A_ (kd_ BK131.out);replace HB:=A_ (pd_ HB.out);have p133 : 0 ≤ ((ji8) : Int):=oda_;have q133 : (ji8) < (l0.length : Int):=oda_;obtain ⟨ad133,e133,hx133_0,hx133_1,hx133_2,hx133_3⟩:=at_T127 HR0.out (ji8) p133 q133;have hw133_3:=hx133_3;have hw133_2:=hx133_2;have hw133_1:=hx133_1;have hw133_0:=hx133_0;obtain rfl : ad130 = ad133:=(by injection e133);replace hx133_0:=(HB.out.cell (wb_ w _ hx133_0)).trans hx133_0;replace hx133_1:=(HB.out.cell (wb_ w _ hx133_1)).trans hx133_1;replace hx133_2:=(HB.out.cell (wb_ w _ hx133_2)).trans hx133_2;replace hx133_3:=(HB.out.cell (wb_ w _ hx133_3)).trans hx133_3;replace p133:=eq_true p133;replace q133:=eq_true q133;refine start_ (n:=37) (S:=fun w' => w'.cell? ⟨gb131,0,none⟩ = some (.string ((rd_T127 l0 x3_1).f0)) ∧ w'.cell? ⟨gb131,1,none⟩ = some (.int .i64 ((rd_T127 l0 x3_1).f1)) ∧ w'.cell? ⟨gb131,2,none⟩ = some (.int .i64 ((rd_T127 l0 x3_1).f2)) ∧ w'.cell? ⟨gb131,3,none⟩ = some (.int .i64 ((rd_T127 l0 x3_1).f3)) ∧ w'.cell? (ad130.add (((ji8)).toNat * 4)) = some (.string ((rd_T127 l0 (ji8)).f0)) ∧ w'.cell? ⟨(ad130.add (((ji8)).toNat * 4)).block,(ad130.add (((ji8)).toNat * 4)).off + 1,none⟩ = some (.int .i64 ((rd_T127 l0 (ji8)).f1)) ∧ w'.cell? ⟨(ad130.add (((ji8)).toNat * 4)).block,(ad130.add (((ji8)).toNat * 4)).off + 2,none⟩ = some (.int .i64 ((rd_T127 l0 (ji8)).f2)) ∧ w'.cell? ⟨(ad130.add (((ji8)).toNat * 4)).block,(ad130.add (((ji8)).toNat * 4)).off + 3,none⟩ = some (.int .i64 ((rd_T127 l0 (ji8)).f3))) (ds:=[]) #[false,false,false,false,false,false,false,false,false,false,false,false,false,false,false,false,false,false,false,false,false,false,false,false,false,false,false,false,false,false,false,false,false,false,false,false,false] (by kernel_rfl) rfl rfl ⟨kC_ BK131 0,kC_ BK131 1,kC_ BK131 2,kC_ BK131 3,((HB.out.cell (wb_ w _ hw133_0)).trans hw133_0),((HB.out.cell (wb_ w _ hw133_1)).trans hw133_1),((HB.out.cell (wb_ w _ hw133_2)).trans hw133_2),((HB.out.cell (wb_ w _ hw133_3)).trans hw133_3)⟩ (fun hHeld => ?_);refine with_tabW spec_DirOk.tab7 spec_DirOk.bits7 (fun HT_ HW_ => ?_);generalize w20.drew = w21 at BK131 HB hx133_0 hx133_1 hx133_2 hx133_3 hHeld ⊢;refine pU_ 0 (some 18) ?_
              refine tK_ 1 (some 19) hHeld ?_
              refine oN_ 2 (some 20) (fun K hK => ?_);refine gs_ Try.func158 #[.string ((rd_T127 l0 x3_1).f0)] ?_;with_reducible refine (spec_l05Key.calls ((rd_T127 l0 x3_1).f0) true _ A5.out).mono ?_;rintro e w' ⟨rfl,⟨nd,rfl⟩⟩;refine ⟨_,rfl,?_⟩;have BK131d_:=A_ (kn_ BK131.out nd);have HBd_:=A_ (pn_ HB.out nd);refine hK.out _ _ ⟨kC_ BK131d_ 0,kC_ BK131d_ 1,kC_ BK131d_ 2,kC_ BK131d_ 3,((HBd_.out.cell (wb_ w _ hw133_0)).trans hw133_0),((HBd_.out.cell (wb_ w _ hw133_1)).trans hw133_1),((HBd_.out.cell (wb_ w _ hw133_2)).trans hw133_2),((HBd_.out.cell (wb_ w _ hw133_3)).trans hw133_3)⟩ (fun hHeld => ?_);clear hK K;refine nX_ (some 20) ?_
              refine pU_ 3 (some 21) ?_
              refine pU_ 4 (some 22) ?_
              refine pU_ 5 (some 23) ?_
              refine pU_ 6 (some 24) ?_
              refine pU_ 7 (some 25) ?_
              refine pU_ 8 (some 26) ?_
              refine pU_ 9 (some 27) ?_
              refine pU_ 10 (some 28) ?_
              refine pU_ 11 (some 29) ?_
              refine pU_ 12 (some 30) ?_
              refine pU_ 14 (some 32) ?_
              refine tK_ 13 (some 31) hHeld ?_
              refine tK_ 15 (some 33) hHeld ?_
              refine pU_ 16 (some 34) ?_
              refine pU_ 17 (some 35) ?_
              refine pU_ 18 (some 36) ?_
              refine pU_ 19 (some 37) ?_
              refine pU_ 20 (some 38) ?_
              refine tK_ 21 (some 39) hHeld ?_
              refine oN_ 22 (some 40) (fun K hK => ?_);refine gs_ Try.func78 #[.int .i64 ((rd_T127 l0 x3_1).f1),.int .i64 0,.int .i64 999] ?_;with_reducible refine (spec_l01In.calls ((rd_T127 l0 x3_1).f1) 0 999 true _ A12.out).mono ?_;rintro e w' ⟨rfl,⟨nd,rfl⟩⟩;refine ⟨_,rfl,?_⟩;replace BK131d_:=A_ (kn_ BK131d_.out nd);replace HBd_:=A_ (pn_ HBd_.out nd);refine hK.out _ _ ⟨kC_ BK131d_ 0,kC_ BK131d_ 1,kC_ BK131d_ 2,kC_ BK131d_ 3,((HBd_.out.cell (wb_ w _ hw133_0)).trans hw133_0),((HBd_.out.cell (wb_ w _ hw133_1)).trans hw133_1),((HBd_.out.cell (wb_ w _ hw133_2)).trans hw133_2),((HBd_.out.cell (wb_ w _ hw133_3)).trans hw133_3)⟩ (fun hHeld => ?_);clear hK K;refine nX_ (some 40) ?_
              refine pU_ 23 (some 41) ?_
              refine pU_ 24 (some 42) ?_
              refine pU_ 25 (some 43) ?_
              refine pU_ 26 (some 44) ?_
              refine tK_ 27 (some 45) hHeld ?_
              refine oN_ 28 (some 46) (fun K hK => ?_);refine gs_ Try.func78 #[.int .i64 ((rd_T127 l0 x3_1).f2),.int .i64 0,.int .i64 20000] ?_;with_reducible refine (spec_l01In.calls ((rd_T127 l0 x3_1).f2) 0 20000 true _ A14.out).mono ?_;rintro e w' ⟨rfl,⟨nd,rfl⟩⟩;refine ⟨_,rfl,?_⟩;replace BK131d_:=A_ (kn_ BK131d_.out nd);replace HBd_:=A_ (pn_ HBd_.out nd);refine hK.out _ _ ⟨kC_ BK131d_ 0,kC_ BK131d_ 1,kC_ BK131d_ 2,kC_ BK131d_ 3,((HBd_.out.cell (wb_ w _ hw133_0)).trans hw133_0),((HBd_.out.cell (wb_ w _ hw133_1)).trans hw133_1),((HBd_.out.cell (wb_ w _ hw133_2)).trans hw133_2),((HBd_.out.cell (wb_ w _ hw133_3)).trans hw133_3)⟩ (fun hHeld => ?_);clear hK K;refine nX_ (some 46) ?_
              refine pU_ 29 (some 47) ?_
              refine pU_ 30 (some 48) ?_
              refine pU_ 31 (some 49) ?_
              refine pU_ 32 (some 50) ?_
              refine tK_ 33 (some 51) hHeld ?_
              refine oN_ 34 (some 52) (fun K hK => ?_);refine gs_ Try.func78 #[.int .i64 ((rd_T127 l0 x3_1).f3),.int .i64 0,.int .i64 40] ?_;with_reducible refine (spec_l01In.calls ((rd_T127 l0 x3_1).f3) 0 40 true _ A16.out).mono ?_;rintro e w' ⟨rfl,⟨nd,rfl⟩⟩;refine ⟨_,rfl,?_⟩;replace BK131d_:=A_ (kn_ BK131d_.out nd);replace HBd_:=A_ (pn_ HBd_.out nd);refine hK.out _ _ ⟨kC_ BK131d_ 0,kC_ BK131d_ 1,kC_ BK131d_ 2,kC_ BK131d_ 3,((HBd_.out.cell (wb_ w _ hw133_0)).trans hw133_0),((HBd_.out.cell (wb_ w _ hw133_1)).trans hw133_1),((HBd_.out.cell (wb_ w _ hw133_2)).trans hw133_2),((HBd_.out.cell (wb_ w _ hw133_3)).trans hw133_3)⟩ (fun hHeld => ?_);clear hK K;refine nX_ (some 52) ?_
              refine pU_ 35 (some 53) ?_
              refine pU_ 36 (some 54) ?_
              refine done_ (done_of HT_.out (by kernel_rfl)) ?_
              try go_wp2
              go_roundg k1
              case measure => have:=HK1.out;omega
              case rel => exact ⟨(wrap64 (x3_1 + 1)),(by first|rfl|(simp;done)|(simp [*];done)),H',⟨by have:=HK1.out;omega⟩,⟨bq_ HB⟩⟩
             ·replace c17:=Bool.eq_false_iff.mpr c17;subst c17
              have H1 : (some false) = some r:=by rw [if_neg (show ¬ (false = true) by decide)] at H;exact H
              clear H;have H:=H1;clear H1;obtain rfl:=Option.some.inj H;have p130 : 0 ≤ (x3_1 : Int):=oda_;have q130 : x3_1 < (l0.length : Int):=oda_;obtain ⟨ad130,e130,hx130_0,hx130_1,hx130_2,hx130_3⟩:=at_T127 HR0.out x3_1 p130 q130
              cases e130
              replace hx130_0:=(HB.out.cell (wb_ w _ hx130_0)).trans hx130_0;replace hx130_1:=(HB.out.cell (wb_ w _ hx130_1)).trans hx130_1;replace hx130_2:=(HB.out.cell (wb_ w _ hx130_2)).trans hx130_2;replace hx130_3:=(HB.out.cell (wb_ w _ hx130_3)).trans hx130_3;replace p130:=eq_true p130;replace q130:=eq_true q130
              try go_wp2_with (first|((with_reducible refine gate_dst (N:=4) rfl ?_);refine bE_ 4 #[.string (⟨#[]⟩ : ByteArray),.int .i64 0,.int .i64 0,.int .i64 0] 127 ?_;intro gb131 hg w22 hbox hb;have BK131:=A_ (hbox);have GW131:=gE_ hg HB;have GE131:=gE_ hg HB;replace HB:=bS_ HB hb;clear hb hbox hg;obtain ⟨hcz23_0,hcz23_1,hcz23_2,hcz23_3,hfz23_0,hfz23_1,hfz23_2,hfz23_3⟩:=k4f_ BK131))
              have n0_ : Aside0 (((((w22.setCell ⟨gb131,0,none⟩ (.string ((rd_T127 l0 x3_1).f0))).setCell ⟨gb131,1,none⟩ (.int .i64 ((rd_T127 l0 x3_1).f1))).setCell ⟨gb131,2,none⟩ (.int .i64 ((rd_T127 l0 x3_1).f2))).setCell ⟨gb131,3,none⟩ (.int .i64 ((rd_T127 l0 x3_1).f3))).heap[gb131]? = some (.cells #[.string ((rd_T127 l0 x3_1).f0),.int .i64 ((rd_T127 l0 x3_1).f1),.int .i64 ((rd_T127 l0 x3_1).f2),.int .i64 ((rd_T127 l0 x3_1).f3)] 127 (0,0))):=⟨kz_ BK131⟩;have n1_ : Aside0 (Below w.heap.size w ((((w22.setCell ⟨gb131,0,none⟩ (.string ((rd_T127 l0 x3_1).f0))).setCell ⟨gb131,1,none⟩ (.int .i64 ((rd_T127 l0 x3_1).f1))).setCell ⟨gb131,2,none⟩ (.int .i64 ((rd_T127 l0 x3_1).f2))).setCell ⟨gb131,3,none⟩ (.int .i64 ((rd_T127 l0 x3_1).f3)))):=⟨bq_ HB⟩
              (try clear BK131)
              (try clear HB)
              generalize ((((w22.setCell ⟨gb131,0,none⟩ (.string ((rd_T127 l0 x3_1).f0))).setCell ⟨gb131,1,none⟩ (.int .i64 ((rd_T127 l0 x3_1).f1))).setCell ⟨gb131,2,none⟩ (.int .i64 ((rd_T127 l0 x3_1).f2))).setCell ⟨gb131,3,none⟩ (.int .i64 ((rd_T127 l0 x3_1).f3))) = w24 at n0_ n1_ ⊢;have BK131:=n0_;have HB:=n1_;clear n0_ n1_;replace BK131:=A_ (kd_ BK131.out);replace HB:=A_ (pd_ HB.out);have p133 : 0 ≤ ((ji8) : Int):=oda_;have q133 : (ji8) < (l0.length : Int):=oda_;obtain ⟨ad133,e133,hx133_0,hx133_1,hx133_2,hx133_3⟩:=at_T127 HR0.out (ji8) p133 q133;have hw133_3:=hx133_3;have hw133_2:=hx133_2;have hw133_1:=hx133_1;have hw133_0:=hx133_0;obtain rfl : ad130 = ad133:=(by injection e133);replace hx133_0:=(HB.out.cell (wb_ w _ hx133_0)).trans hx133_0;replace hx133_1:=(HB.out.cell (wb_ w _ hx133_1)).trans hx133_1;replace hx133_2:=(HB.out.cell (wb_ w _ hx133_2)).trans hx133_2;replace hx133_3:=(HB.out.cell (wb_ w _ hx133_3)).trans hx133_3;replace p133:=eq_true p133;replace q133:=eq_true q133;refine start_ (n:=37) (S:=fun w' => w'.cell? ⟨gb131,0,none⟩ = some (.string ((rd_T127 l0 x3_1).f0)) ∧ w'.cell? ⟨gb131,1,none⟩ = some (.int .i64 ((rd_T127 l0 x3_1).f1)) ∧ w'.cell? ⟨gb131,2,none⟩ = some (.int .i64 ((rd_T127 l0 x3_1).f2)) ∧ w'.cell? ⟨gb131,3,none⟩ = some (.int .i64 ((rd_T127 l0 x3_1).f3)) ∧ w'.cell? (ad130.add (((ji8)).toNat * 4)) = some (.string ((rd_T127 l0 (ji8)).f0)) ∧ w'.cell? ⟨(ad130.add (((ji8)).toNat * 4)).block,(ad130.add (((ji8)).toNat * 4)).off + 1,none⟩ = some (.int .i64 ((rd_T127 l0 (ji8)).f1)) ∧ w'.cell? ⟨(ad130.add (((ji8)).toNat * 4)).block,(ad130.add (((ji8)).toNat * 4)).off + 2,none⟩ = some (.int .i64 ((rd_T127 l0 (ji8)).f2)) ∧ w'.cell? ⟨(ad130.add (((ji8)).toNat * 4)).block,(ad130.add (((ji8)).toNat * 4)).off + 3,none⟩ = some (.int .i64 ((rd_T127 l0 (ji8)).f3))) (ds:=[]) #[false,false,false,false,false,false,false,false,false,false,false,false,false,false,false,false,false,false,false,false,false,false,false,false,false,false,false,false,false,false,false,false,false,false,false,false,false] (by kernel_rfl) rfl rfl ⟨kC_ BK131 0,kC_ BK131 1,kC_ BK131 2,kC_ BK131 3,((HB.out.cell (wb_ w _ hw133_0)).trans hw133_0),((HB.out.cell (wb_ w _ hw133_1)).trans hw133_1),((HB.out.cell (wb_ w _ hw133_2)).trans hw133_2),((HB.out.cell (wb_ w _ hw133_3)).trans hw133_3)⟩ (fun hHeld => ?_);refine with_tabW spec_DirOk.tab7 spec_DirOk.bits7 (fun HT_ HW_ => ?_);generalize w24.drew = w25 at BK131 HB hx133_0 hx133_1 hx133_2 hx133_3 hHeld ⊢;refine pU_ 0 (some 18) ?_
              refine tK_ 1 (some 19) hHeld ?_
              refine oN_ 2 (some 20) (fun K hK => ?_);refine gs_ Try.func158 #[.string ((rd_T127 l0 x3_1).f0)] ?_;with_reducible refine (spec_l05Key.calls ((rd_T127 l0 x3_1).f0) true _ A5.out).mono ?_;rintro e w' ⟨rfl,⟨nd,rfl⟩⟩;refine ⟨_,rfl,?_⟩;have BK131d_:=A_ (kn_ BK131.out nd);have HBd_:=A_ (pn_ HB.out nd);refine hK.out _ _ ⟨kC_ BK131d_ 0,kC_ BK131d_ 1,kC_ BK131d_ 2,kC_ BK131d_ 3,((HBd_.out.cell (wb_ w _ hw133_0)).trans hw133_0),((HBd_.out.cell (wb_ w _ hw133_1)).trans hw133_1),((HBd_.out.cell (wb_ w _ hw133_2)).trans hw133_2),((HBd_.out.cell (wb_ w _ hw133_3)).trans hw133_3)⟩ (fun hHeld => ?_);clear hK K;refine nX_ (some 20) ?_
              refine pU_ 3 (some 21) ?_
              refine pU_ 4 (some 22) ?_
              refine pU_ 5 (some 23) ?_
              refine pU_ 6 (some 24) ?_
              refine pU_ 7 (some 25) ?_
              refine pU_ 8 (some 26) ?_
              refine pU_ 9 (some 27) ?_
              refine pU_ 10 (some 28) ?_
              refine pU_ 11 (some 29) ?_
              refine pU_ 12 (some 30) ?_
              refine pU_ 14 (some 32) ?_
              refine tK_ 13 (some 31) hHeld ?_
              refine tK_ 15 (some 33) hHeld ?_
              refine pU_ 16 (some 34) ?_
              refine pU_ 17 (some 35) ?_
              refine pU_ 18 (some 36) ?_
              refine pU_ 19 (some 37) ?_
              refine pU_ 20 (some 38) ?_
              refine tK_ 21 (some 39) hHeld ?_
              refine oN_ 22 (some 40) (fun K hK => ?_);refine gs_ Try.func78 #[.int .i64 ((rd_T127 l0 x3_1).f1),.int .i64 0,.int .i64 999] ?_;with_reducible refine (spec_l01In.calls ((rd_T127 l0 x3_1).f1) 0 999 true _ A12.out).mono ?_;rintro e w' ⟨rfl,⟨nd,rfl⟩⟩;refine ⟨_,rfl,?_⟩;replace BK131d_:=A_ (kn_ BK131d_.out nd);replace HBd_:=A_ (pn_ HBd_.out nd);refine hK.out _ _ ⟨kC_ BK131d_ 0,kC_ BK131d_ 1,kC_ BK131d_ 2,kC_ BK131d_ 3,((HBd_.out.cell (wb_ w _ hw133_0)).trans hw133_0),((HBd_.out.cell (wb_ w _ hw133_1)).trans hw133_1),((HBd_.out.cell (wb_ w _ hw133_2)).trans hw133_2),((HBd_.out.cell (wb_ w _ hw133_3)).trans hw133_3)⟩ (fun hHeld => ?_);clear hK K;refine nX_ (some 40) ?_
              refine pU_ 23 (some 41) ?_
              refine pU_ 24 (some 42) ?_
              refine pU_ 25 (some 43) ?_
              refine pU_ 26 (some 44) ?_
              refine tK_ 27 (some 45) hHeld ?_
              refine oN_ 28 (some 46) (fun K hK => ?_);refine gs_ Try.func78 #[.int .i64 ((rd_T127 l0 x3_1).f2),.int .i64 0,.int .i64 20000] ?_;with_reducible refine (spec_l01In.calls ((rd_T127 l0 x3_1).f2) 0 20000 true _ A14.out).mono ?_;rintro e w' ⟨rfl,⟨nd,rfl⟩⟩;refine ⟨_,rfl,?_⟩;replace BK131d_:=A_ (kn_ BK131d_.out nd);replace HBd_:=A_ (pn_ HBd_.out nd);refine hK.out _ _ ⟨kC_ BK131d_ 0,kC_ BK131d_ 1,kC_ BK131d_ 2,kC_ BK131d_ 3,((HBd_.out.cell (wb_ w _ hw133_0)).trans hw133_0),((HBd_.out.cell (wb_ w _ hw133_1)).trans hw133_1),((HBd_.out.cell (wb_ w _ hw133_2)).trans hw133_2),((HBd_.out.cell (wb_ w _ hw133_3)).trans hw133_3)⟩ (fun hHeld => ?_);clear hK K;refine nX_ (some 46) ?_
              refine pU_ 29 (some 47) ?_
              refine pU_ 30 (some 48) ?_
              refine pU_ 31 (some 49) ?_
              refine pU_ 32 (some 50) ?_
              refine tK_ 33 (some 51) hHeld ?_
              refine oN_ 34 (some 52) (fun K hK => ?_);refine gs_ Try.func78 #[.int .i64 ((rd_T127 l0 x3_1).f3),.int .i64 0,.int .i64 40] ?_;with_reducible refine (spec_l01In.calls ((rd_T127 l0 x3_1).f3) 0 40 false _ A16.out).mono ?_;rintro e w' ⟨rfl,⟨nd,rfl⟩⟩;refine ⟨_,rfl,?_⟩;replace BK131d_:=A_ (kn_ BK131d_.out nd);replace HBd_:=A_ (pn_ HBd_.out nd);refine hK.out _ _ ⟨kC_ BK131d_ 0,kC_ BK131d_ 1,kC_ BK131d_ 2,kC_ BK131d_ 3,((HBd_.out.cell (wb_ w _ hw133_0)).trans hw133_0),((HBd_.out.cell (wb_ w _ hw133_1)).trans hw133_1),((HBd_.out.cell (wb_ w _ hw133_2)).trans hw133_2),((HBd_.out.cell (wb_ w _ hw133_3)).trans hw133_3)⟩ (fun hHeld => ?_);clear hK K;refine nX_ (some 52) ?_
              refine pU_ 35 (some 53) ?_
              refine pU_ 36 (some 54) ?_
              refine done_ (done_of HT_.out (by kernel_rfl)) ?_
              try go_wp2
              go_ret;exact ⟨by first|rfl|(simp [errW_none,errW_some] <;> rfl)|(simp only [← hji8];first|rfl|(simp [errW_none,errW_some] <;> rfl))|(simp [*,errW_none,errW_some] <;> rfl),bq_ HB⟩
            ·replace c15:=Bool.eq_false_iff.mpr c15;subst c15
             have H1 : (some false) = some r:=by rw [if_neg (show ¬ (false = true) by decide)] at H;exact H
             clear H;have H:=H1;clear H1;obtain rfl:=Option.some.inj H;have p130 : 0 ≤ (x3_1 : Int):=oda_;have q130 : x3_1 < (l0.length : Int):=oda_;obtain ⟨ad130,e130,hx130_0,hx130_1,hx130_2,hx130_3⟩:=at_T127 HR0.out x3_1 p130 q130
             cases e130
             replace hx130_0:=(HB.out.cell (wb_ w _ hx130_0)).trans hx130_0;replace hx130_1:=(HB.out.cell (wb_ w _ hx130_1)).trans hx130_1;replace hx130_2:=(HB.out.cell (wb_ w _ hx130_2)).trans hx130_2;replace hx130_3:=(HB.out.cell (wb_ w _ hx130_3)).trans hx130_3;replace p130:=eq_true p130;replace q130:=eq_true q130
             try go_wp2_with (first|((with_reducible refine gate_dst (N:=4) rfl ?_);refine bE_ 4 #[.string (⟨#[]⟩ : ByteArray),.int .i64 0,.int .i64 0,.int .i64 0] 127 ?_;intro gb131 hg w26 hbox hb;have BK131:=A_ (hbox);have GW131:=gE_ hg HB;have GE131:=gE_ hg HB;replace HB:=bS_ HB hb;clear hb hbox hg;obtain ⟨hcz27_0,hcz27_1,hcz27_2,hcz27_3,hfz27_0,hfz27_1,hfz27_2,hfz27_3⟩:=k4f_ BK131))
             have n0_ : Aside0 (((((w26.setCell ⟨gb131,0,none⟩ (.string ((rd_T127 l0 x3_1).f0))).setCell ⟨gb131,1,none⟩ (.int .i64 ((rd_T127 l0 x3_1).f1))).setCell ⟨gb131,2,none⟩ (.int .i64 ((rd_T127 l0 x3_1).f2))).setCell ⟨gb131,3,none⟩ (.int .i64 ((rd_T127 l0 x3_1).f3))).heap[gb131]? = some (.cells #[.string ((rd_T127 l0 x3_1).f0),.int .i64 ((rd_T127 l0 x3_1).f1),.int .i64 ((rd_T127 l0 x3_1).f2),.int .i64 ((rd_T127 l0 x3_1).f3)] 127 (0,0))):=⟨kz_ BK131⟩;have n1_ : Aside0 (Below w.heap.size w ((((w26.setCell ⟨gb131,0,none⟩ (.string ((rd_T127 l0 x3_1).f0))).setCell ⟨gb131,1,none⟩ (.int .i64 ((rd_T127 l0 x3_1).f1))).setCell ⟨gb131,2,none⟩ (.int .i64 ((rd_T127 l0 x3_1).f2))).setCell ⟨gb131,3,none⟩ (.int .i64 ((rd_T127 l0 x3_1).f3)))):=⟨bq_ HB⟩
             (try clear BK131)
             (try clear HB)
             generalize ((((w26.setCell ⟨gb131,0,none⟩ (.string ((rd_T127 l0 x3_1).f0))).setCell ⟨gb131,1,none⟩ (.int .i64 ((rd_T127 l0 x3_1).f1))).setCell ⟨gb131,2,none⟩ (.int .i64 ((rd_T127 l0 x3_1).f2))).setCell ⟨gb131,3,none⟩ (.int .i64 ((rd_T127 l0 x3_1).f3))) = w28 at n0_ n1_ ⊢;have BK131:=n0_;have HB:=n1_;clear n0_ n1_;replace BK131:=A_ (kd_ BK131.out);replace HB:=A_ (pd_ HB.out);have p133 : 0 ≤ ((ji8) : Int):=oda_;have q133 : (ji8) < (l0.length : Int):=oda_;obtain ⟨ad133,e133,hx133_0,hx133_1,hx133_2,hx133_3⟩:=at_T127 HR0.out (ji8) p133 q133;have hw133_3:=hx133_3;have hw133_2:=hx133_2;have hw133_1:=hx133_1;have hw133_0:=hx133_0;obtain rfl : ad130 = ad133:=(by injection e133);replace hx133_0:=(HB.out.cell (wb_ w _ hx133_0)).trans hx133_0;replace hx133_1:=(HB.out.cell (wb_ w _ hx133_1)).trans hx133_1;replace hx133_2:=(HB.out.cell (wb_ w _ hx133_2)).trans hx133_2;replace hx133_3:=(HB.out.cell (wb_ w _ hx133_3)).trans hx133_3;replace p133:=eq_true p133;replace q133:=eq_true q133;refine start_ (n:=37) (S:=fun w' => w'.cell? ⟨gb131,0,none⟩ = some (.string ((rd_T127 l0 x3_1).f0)) ∧ w'.cell? ⟨gb131,1,none⟩ = some (.int .i64 ((rd_T127 l0 x3_1).f1)) ∧ w'.cell? ⟨gb131,2,none⟩ = some (.int .i64 ((rd_T127 l0 x3_1).f2)) ∧ w'.cell? ⟨gb131,3,none⟩ = some (.int .i64 ((rd_T127 l0 x3_1).f3)) ∧ w'.cell? (ad130.add (((ji8)).toNat * 4)) = some (.string ((rd_T127 l0 (ji8)).f0)) ∧ w'.cell? ⟨(ad130.add (((ji8)).toNat * 4)).block,(ad130.add (((ji8)).toNat * 4)).off + 1,none⟩ = some (.int .i64 ((rd_T127 l0 (ji8)).f1)) ∧ w'.cell? ⟨(ad130.add (((ji8)).toNat * 4)).block,(ad130.add (((ji8)).toNat * 4)).off + 2,none⟩ = some (.int .i64 ((rd_T127 l0 (ji8)).f2)) ∧ w'.cell? ⟨(ad130.add (((ji8)).toNat * 4)).block,(ad130.add (((ji8)).toNat * 4)).off + 3,none⟩ = some (.int .i64 ((rd_T127 l0 (ji8)).f3))) (ds:=[]) #[false,false,false,false,false,false,false,false,false,false,false,false,false,false,false,false,false,false,false,false,false,false,false,false,false,false,false,false,false,false,false,false,false,false,false,false,false] (by kernel_rfl) rfl rfl ⟨kC_ BK131 0,kC_ BK131 1,kC_ BK131 2,kC_ BK131 3,((HB.out.cell (wb_ w _ hw133_0)).trans hw133_0),((HB.out.cell (wb_ w _ hw133_1)).trans hw133_1),((HB.out.cell (wb_ w _ hw133_2)).trans hw133_2),((HB.out.cell (wb_ w _ hw133_3)).trans hw133_3)⟩ (fun hHeld => ?_);refine with_tabW spec_DirOk.tab7 spec_DirOk.bits7 (fun HT_ HW_ => ?_);generalize w28.drew = w29 at BK131 HB hx133_0 hx133_1 hx133_2 hx133_3 hHeld ⊢;refine pU_ 0 (some 18) ?_
             refine tK_ 1 (some 19) hHeld ?_
             refine oN_ 2 (some 20) (fun K hK => ?_);refine gs_ Try.func158 #[.string ((rd_T127 l0 x3_1).f0)] ?_;with_reducible refine (spec_l05Key.calls ((rd_T127 l0 x3_1).f0) true _ A5.out).mono ?_;rintro e w' ⟨rfl,⟨nd,rfl⟩⟩;refine ⟨_,rfl,?_⟩;have BK131d_:=A_ (kn_ BK131.out nd);have HBd_:=A_ (pn_ HB.out nd);refine hK.out _ _ ⟨kC_ BK131d_ 0,kC_ BK131d_ 1,kC_ BK131d_ 2,kC_ BK131d_ 3,((HBd_.out.cell (wb_ w _ hw133_0)).trans hw133_0),((HBd_.out.cell (wb_ w _ hw133_1)).trans hw133_1),((HBd_.out.cell (wb_ w _ hw133_2)).trans hw133_2),((HBd_.out.cell (wb_ w _ hw133_3)).trans hw133_3)⟩ (fun hHeld => ?_);clear hK K;refine nX_ (some 20) ?_
             refine pU_ 3 (some 21) ?_
             refine pU_ 4 (some 22) ?_
             refine pU_ 5 (some 23) ?_
             refine pU_ 6 (some 24) ?_
             refine pU_ 7 (some 25) ?_
             refine pU_ 8 (some 26) ?_
             refine pU_ 9 (some 27) ?_
             refine pU_ 10 (some 28) ?_
             refine pU_ 11 (some 29) ?_
             refine pU_ 12 (some 30) ?_
             refine pU_ 14 (some 32) ?_
             refine tK_ 13 (some 31) hHeld ?_
             refine tK_ 15 (some 33) hHeld ?_
             refine pU_ 16 (some 34) ?_
             refine pU_ 17 (some 35) ?_
             refine pU_ 18 (some 36) ?_
             refine pU_ 19 (some 37) ?_
             refine pU_ 20 (some 38) ?_
             refine tK_ 21 (some 39) hHeld ?_
             refine oN_ 22 (some 40) (fun K hK => ?_);refine gs_ Try.func78 #[.int .i64 ((rd_T127 l0 x3_1).f1),.int .i64 0,.int .i64 999] ?_;with_reducible refine (spec_l01In.calls ((rd_T127 l0 x3_1).f1) 0 999 true _ A12.out).mono ?_;rintro e w' ⟨rfl,⟨nd,rfl⟩⟩;refine ⟨_,rfl,?_⟩;replace BK131d_:=A_ (kn_ BK131d_.out nd);replace HBd_:=A_ (pn_ HBd_.out nd);refine hK.out _ _ ⟨kC_ BK131d_ 0,kC_ BK131d_ 1,kC_ BK131d_ 2,kC_ BK131d_ 3,((HBd_.out.cell (wb_ w _ hw133_0)).trans hw133_0),((HBd_.out.cell (wb_ w _ hw133_1)).trans hw133_1),((HBd_.out.cell (wb_ w _ hw133_2)).trans hw133_2),((HBd_.out.cell (wb_ w _ hw133_3)).trans hw133_3)⟩ (fun hHeld => ?_);clear hK K;refine nX_ (some 40) ?_
             refine pU_ 23 (some 41) ?_
             refine pU_ 24 (some 42) ?_
             refine pU_ 25 (some 43) ?_
             refine pU_ 26 (some 44) ?_
             refine tK_ 27 (some 45) hHeld ?_
             refine oN_ 28 (some 46) (fun K hK => ?_);refine gs_ Try.func78 #[.int .i64 ((rd_T127 l0 x3_1).f2),.int .i64 0,.int .i64 20000] ?_;with_reducible refine (spec_l01In.calls ((rd_T127 l0 x3_1).f2) 0 20000 false _ A14.out).mono ?_;rintro e w' ⟨rfl,⟨nd,rfl⟩⟩;refine ⟨_,rfl,?_⟩;replace BK131d_:=A_ (kn_ BK131d_.out nd);replace HBd_:=A_ (pn_ HBd_.out nd);refine hK.out _ _ ⟨kC_ BK131d_ 0,kC_ BK131d_ 1,kC_ BK131d_ 2,kC_ BK131d_ 3,((HBd_.out.cell (wb_ w _ hw133_0)).trans hw133_0),((HBd_.out.cell (wb_ w _ hw133_1)).trans hw133_1),((HBd_.out.cell (wb_ w _ hw133_2)).trans hw133_2),((HBd_.out.cell (wb_ w _ hw133_3)).trans hw133_3)⟩ (fun hHeld => ?_);clear hK K;refine nX_ (some 46) ?_
             refine pU_ 29 (some 47) ?_
             refine pU_ 30 (some 48) ?_
             refine pU_ 31 (some 49) ?_
             refine pure_ (i:=32) (N:=some 50) (v:=undef) (a':=?_) #[true,true,true,true,true,true,true,true,true,true,true,true,true,true,true,true,true,true,true,true,true,true,true,true,true,true,true,true,true,true,true,true,true,false,false,false,false] rfl rfl (any_of HT_.out (by kernel_rfl)) (fun _ _ _ h => h) (Or.inr ⟨by rfl,rfl⟩) ?_ ?_;rotate_left
             ·exact ux_
             refine pure_ (i:=33) (N:=some 51) (v:=undef) (a':=?_) #[true,true,true,true,true,true,true,true,true,true,true,true,true,true,true,true,true,true,true,true,true,true,true,true,true,true,true,true,true,true,true,true,true,true,false,false,false] rfl rfl (any_of HT_.out (by kernel_rfl)) (fun _ _ _ h => h) (Or.inr ⟨by rfl,rfl⟩) ?_ ?_;rotate_left
             ·exact ux_
             refine pure_ (i:=34) (N:=some 52) (v:=undef) (a':=?_) #[true,true,true,true,true,true,true,true,true,true,true,true,true,true,true,true,true,true,true,true,true,true,true,true,true,true,true,true,true,true,true,true,true,true,true,false,false] rfl rfl (any_of HT_.out (by kernel_rfl)) (fun _ _ _ h => h) (Or.inr ⟨by rfl,rfl⟩) ?_ ?_;rotate_left
             ·exact ux_
             refine pure_ (i:=35) (N:=some 53) (v:=undef) (a':=?_) #[true,true,true,true,true,true,true,true,true,true,true,true,true,true,true,true,true,true,true,true,true,true,true,true,true,true,true,true,true,true,true,true,true,true,true,true,false] rfl rfl (any_of HT_.out (by kernel_rfl)) (fun _ _ _ h => h) (Or.inr ⟨by rfl,rfl⟩) ?_ ?_;rotate_left
             ·exact ux_
             refine pU_ 36 (some 54) ?_
             refine done_ (done_of HT_.out (by kernel_rfl)) ?_
             try go_wp2
             go_ret;exact ⟨by first|rfl|(simp [errW_none,errW_some] <;> rfl)|(simp only [← hji8];first|rfl|(simp [errW_none,errW_some] <;> rfl))|(simp [*,errW_none,errW_some] <;> rfl),bq_ HB⟩
           ·replace c13:=Bool.eq_false_iff.mpr c13;subst c13
            have H1 : (some false) = some r:=by rw [if_neg (show ¬ (false = true) by decide)] at H;exact H
            clear H;have H:=H1;clear H1;obtain rfl:=Option.some.inj H;have p130 : 0 ≤ (x3_1 : Int):=oda_;have q130 : x3_1 < (l0.length : Int):=oda_;obtain ⟨ad130,e130,hx130_0,hx130_1,hx130_2,hx130_3⟩:=at_T127 HR0.out x3_1 p130 q130
            cases e130
            replace hx130_0:=(HB.out.cell (wb_ w _ hx130_0)).trans hx130_0;replace hx130_1:=(HB.out.cell (wb_ w _ hx130_1)).trans hx130_1;replace hx130_2:=(HB.out.cell (wb_ w _ hx130_2)).trans hx130_2;replace hx130_3:=(HB.out.cell (wb_ w _ hx130_3)).trans hx130_3;replace p130:=eq_true p130;replace q130:=eq_true q130
            try go_wp2_with (first|((with_reducible refine gate_dst (N:=4) rfl ?_);refine bE_ 4 #[.string (⟨#[]⟩ : ByteArray),.int .i64 0,.int .i64 0,.int .i64 0] 127 ?_;intro gb131 hg w30 hbox hb;have BK131:=A_ (hbox);have GW131:=gE_ hg HB;have GE131:=gE_ hg HB;replace HB:=bS_ HB hb;clear hb hbox hg;obtain ⟨hcz31_0,hcz31_1,hcz31_2,hcz31_3,hfz31_0,hfz31_1,hfz31_2,hfz31_3⟩:=k4f_ BK131))
            have n0_ : Aside0 (((((w30.setCell ⟨gb131,0,none⟩ (.string ((rd_T127 l0 x3_1).f0))).setCell ⟨gb131,1,none⟩ (.int .i64 ((rd_T127 l0 x3_1).f1))).setCell ⟨gb131,2,none⟩ (.int .i64 ((rd_T127 l0 x3_1).f2))).setCell ⟨gb131,3,none⟩ (.int .i64 ((rd_T127 l0 x3_1).f3))).heap[gb131]? = some (.cells #[.string ((rd_T127 l0 x3_1).f0),.int .i64 ((rd_T127 l0 x3_1).f1),.int .i64 ((rd_T127 l0 x3_1).f2),.int .i64 ((rd_T127 l0 x3_1).f3)] 127 (0,0))):=⟨kz_ BK131⟩;have n1_ : Aside0 (Below w.heap.size w ((((w30.setCell ⟨gb131,0,none⟩ (.string ((rd_T127 l0 x3_1).f0))).setCell ⟨gb131,1,none⟩ (.int .i64 ((rd_T127 l0 x3_1).f1))).setCell ⟨gb131,2,none⟩ (.int .i64 ((rd_T127 l0 x3_1).f2))).setCell ⟨gb131,3,none⟩ (.int .i64 ((rd_T127 l0 x3_1).f3)))):=⟨bq_ HB⟩
            (try clear BK131)
            (try clear HB)
            generalize ((((w30.setCell ⟨gb131,0,none⟩ (.string ((rd_T127 l0 x3_1).f0))).setCell ⟨gb131,1,none⟩ (.int .i64 ((rd_T127 l0 x3_1).f1))).setCell ⟨gb131,2,none⟩ (.int .i64 ((rd_T127 l0 x3_1).f2))).setCell ⟨gb131,3,none⟩ (.int .i64 ((rd_T127 l0 x3_1).f3))) = w32 at n0_ n1_ ⊢;have BK131:=n0_;have HB:=n1_;clear n0_ n1_;replace BK131:=A_ (kd_ BK131.out);replace HB:=A_ (pd_ HB.out);have p133 : 0 ≤ ((ji8) : Int):=oda_;have q133 : (ji8) < (l0.length : Int):=oda_;obtain ⟨ad133,e133,hx133_0,hx133_1,hx133_2,hx133_3⟩:=at_T127 HR0.out (ji8) p133 q133;have hw133_3:=hx133_3;have hw133_2:=hx133_2;have hw133_1:=hx133_1;have hw133_0:=hx133_0;obtain rfl : ad130 = ad133:=(by injection e133);replace hx133_0:=(HB.out.cell (wb_ w _ hx133_0)).trans hx133_0;replace hx133_1:=(HB.out.cell (wb_ w _ hx133_1)).trans hx133_1;replace hx133_2:=(HB.out.cell (wb_ w _ hx133_2)).trans hx133_2;replace hx133_3:=(HB.out.cell (wb_ w _ hx133_3)).trans hx133_3;replace p133:=eq_true p133;replace q133:=eq_true q133;refine start_ (n:=37) (S:=fun w' => w'.cell? ⟨gb131,0,none⟩ = some (.string ((rd_T127 l0 x3_1).f0)) ∧ w'.cell? ⟨gb131,1,none⟩ = some (.int .i64 ((rd_T127 l0 x3_1).f1)) ∧ w'.cell? ⟨gb131,2,none⟩ = some (.int .i64 ((rd_T127 l0 x3_1).f2)) ∧ w'.cell? ⟨gb131,3,none⟩ = some (.int .i64 ((rd_T127 l0 x3_1).f3)) ∧ w'.cell? (ad130.add (((ji8)).toNat * 4)) = some (.string ((rd_T127 l0 (ji8)).f0)) ∧ w'.cell? ⟨(ad130.add (((ji8)).toNat * 4)).block,(ad130.add (((ji8)).toNat * 4)).off + 1,none⟩ = some (.int .i64 ((rd_T127 l0 (ji8)).f1)) ∧ w'.cell? ⟨(ad130.add (((ji8)).toNat * 4)).block,(ad130.add (((ji8)).toNat * 4)).off + 2,none⟩ = some (.int .i64 ((rd_T127 l0 (ji8)).f2)) ∧ w'.cell? ⟨(ad130.add (((ji8)).toNat * 4)).block,(ad130.add (((ji8)).toNat * 4)).off + 3,none⟩ = some (.int .i64 ((rd_T127 l0 (ji8)).f3))) (ds:=[]) #[false,false,false,false,false,false,false,false,false,false,false,false,false,false,false,false,false,false,false,false,false,false,false,false,false,false,false,false,false,false,false,false,false,false,false,false,false] (by kernel_rfl) rfl rfl ⟨kC_ BK131 0,kC_ BK131 1,kC_ BK131 2,kC_ BK131 3,((HB.out.cell (wb_ w _ hw133_0)).trans hw133_0),((HB.out.cell (wb_ w _ hw133_1)).trans hw133_1),((HB.out.cell (wb_ w _ hw133_2)).trans hw133_2),((HB.out.cell (wb_ w _ hw133_3)).trans hw133_3)⟩ (fun hHeld => ?_);refine with_tabW spec_DirOk.tab7 spec_DirOk.bits7 (fun HT_ HW_ => ?_);generalize w32.drew = w33 at BK131 HB hx133_0 hx133_1 hx133_2 hx133_3 hHeld ⊢;refine pU_ 0 (some 18) ?_
            refine tK_ 1 (some 19) hHeld ?_
            refine oN_ 2 (some 20) (fun K hK => ?_);refine gs_ Try.func158 #[.string ((rd_T127 l0 x3_1).f0)] ?_;with_reducible refine (spec_l05Key.calls ((rd_T127 l0 x3_1).f0) true _ A5.out).mono ?_;rintro e w' ⟨rfl,⟨nd,rfl⟩⟩;refine ⟨_,rfl,?_⟩;have BK131d_:=A_ (kn_ BK131.out nd);have HBd_:=A_ (pn_ HB.out nd);refine hK.out _ _ ⟨kC_ BK131d_ 0,kC_ BK131d_ 1,kC_ BK131d_ 2,kC_ BK131d_ 3,((HBd_.out.cell (wb_ w _ hw133_0)).trans hw133_0),((HBd_.out.cell (wb_ w _ hw133_1)).trans hw133_1),((HBd_.out.cell (wb_ w _ hw133_2)).trans hw133_2),((HBd_.out.cell (wb_ w _ hw133_3)).trans hw133_3)⟩ (fun hHeld => ?_);clear hK K;refine nX_ (some 20) ?_
            refine pU_ 3 (some 21) ?_
            refine pU_ 4 (some 22) ?_
            refine pU_ 5 (some 23) ?_
            refine pU_ 6 (some 24) ?_
            refine pU_ 7 (some 25) ?_
            refine pU_ 8 (some 26) ?_
            refine pU_ 9 (some 27) ?_
            refine pU_ 10 (some 28) ?_
            refine pU_ 11 (some 29) ?_
            refine pU_ 12 (some 30) ?_
            refine pU_ 14 (some 32) ?_
            refine tK_ 13 (some 31) hHeld ?_
            refine tK_ 15 (some 33) hHeld ?_
            refine pU_ 16 (some 34) ?_
            refine pU_ 17 (some 35) ?_
            refine pU_ 18 (some 36) ?_
            refine pU_ 19 (some 37) ?_
            refine pU_ 20 (some 38) ?_
            refine tK_ 21 (some 39) hHeld ?_
            refine oN_ 22 (some 40) (fun K hK => ?_);refine gs_ Try.func78 #[.int .i64 ((rd_T127 l0 x3_1).f1),.int .i64 0,.int .i64 999] ?_;with_reducible refine (spec_l01In.calls ((rd_T127 l0 x3_1).f1) 0 999 false _ A12.out).mono ?_;rintro e w' ⟨rfl,⟨nd,rfl⟩⟩;refine ⟨_,rfl,?_⟩;replace BK131d_:=A_ (kn_ BK131d_.out nd);replace HBd_:=A_ (pn_ HBd_.out nd);refine hK.out _ _ ⟨kC_ BK131d_ 0,kC_ BK131d_ 1,kC_ BK131d_ 2,kC_ BK131d_ 3,((HBd_.out.cell (wb_ w _ hw133_0)).trans hw133_0),((HBd_.out.cell (wb_ w _ hw133_1)).trans hw133_1),((HBd_.out.cell (wb_ w _ hw133_2)).trans hw133_2),((HBd_.out.cell (wb_ w _ hw133_3)).trans hw133_3)⟩ (fun hHeld => ?_);clear hK K;refine nX_ (some 40) ?_
            refine pU_ 23 (some 41) ?_
            refine pU_ 24 (some 42) ?_
            refine pU_ 25 (some 43) ?_
            refine pure_ (i:=26) (N:=some 44) (v:=undef) (a':=?_) #[true,true,true,true,true,true,true,true,true,true,true,true,true,true,true,true,true,true,true,true,true,true,true,true,true,true,true,false,false,false,false,false,false,false,false,false,false] rfl rfl (any_of HT_.out (by kernel_rfl)) (fun _ _ _ h => h) (Or.inr ⟨by rfl,rfl⟩) ?_ ?_;rotate_left
            ·exact ux_
            refine pure_ (i:=27) (N:=some 45) (v:=undef) (a':=?_) #[true,true,true,true,true,true,true,true,true,true,true,true,true,true,true,true,true,true,true,true,true,true,true,true,true,true,true,true,false,false,false,false,false,false,false,false,false] rfl rfl (any_of HT_.out (by kernel_rfl)) (fun _ _ _ h => h) (Or.inr ⟨by rfl,rfl⟩) ?_ ?_;rotate_left
            ·exact ux_
            refine pure_ (i:=28) (N:=some 46) (v:=undef) (a':=?_) #[true,true,true,true,true,true,true,true,true,true,true,true,true,true,true,true,true,true,true,true,true,true,true,true,true,true,true,true,true,false,false,false,false,false,false,false,false] rfl rfl (any_of HT_.out (by kernel_rfl)) (fun _ _ _ h => h) (Or.inr ⟨by rfl,rfl⟩) ?_ ?_;rotate_left
            ·exact ux_
            refine pure_ (i:=29) (N:=some 47) (v:=undef) (a':=?_) #[true,true,true,true,true,true,true,true,true,true,true,true,true,true,true,true,true,true,true,true,true,true,true,true,true,true,true,true,true,true,false,false,false,false,false,false,false] rfl rfl (any_of HT_.out (by kernel_rfl)) (fun _ _ _ h => h) (Or.inr ⟨by rfl,rfl⟩) ?_ ?_;rotate_left
            ·exact ux_
            refine pU_ 30 (some 48) ?_
            refine pU_ 31 (some 49) ?_
            refine pure_ (i:=32) (N:=some 50) (v:=undef) (a':=?_) #[true,true,true,true,true,true,true,true,true,true,true,true,true,true,true,true,true,true,true,true,true,true,true,true,true,true,true,true,true,true,true,true,true,false,false,false,false] rfl rfl (any_of HT_.out (by kernel_rfl)) (fun _ _ _ h => h) (Or.inr ⟨by rfl,rfl⟩) ?_ ?_;rotate_left
            ·exact ux_
            refine pure_ (i:=33) (N:=some 51) (v:=undef) (a':=?_) #[true,true,true,true,true,true,true,true,true,true,true,true,true,true,true,true,true,true,true,true,true,true,true,true,true,true,true,true,true,true,true,true,true,true,false,false,false] rfl rfl (any_of HT_.out (by kernel_rfl)) (fun _ _ _ h => h) (Or.inr ⟨by rfl,rfl⟩) ?_ ?_;rotate_left
            ·exact ux_
            refine pure_ (i:=34) (N:=some 52) (v:=undef) (a':=?_) #[true,true,true,true,true,true,true,true,true,true,true,true,true,true,true,true,true,true,true,true,true,true,true,true,true,true,true,true,true,true,true,true,true,true,true,false,false] rfl rfl (any_of HT_.out (by kernel_rfl)) (fun _ _ _ h => h) (Or.inr ⟨by rfl,rfl⟩) ?_ ?_;rotate_left
            ·exact ux_
            refine pure_ (i:=35) (N:=some 53) (v:=undef) (a':=?_) #[true,true,true,true,true,true,true,true,true,true,true,true,true,true,true,true,true,true,true,true,true,true,true,true,true,true,true,true,true,true,true,true,true,true,true,true,false] rfl rfl (any_of HT_.out (by kernel_rfl)) (fun _ _ _ h => h) (Or.inr ⟨by rfl,rfl⟩) ?_ ?_;rotate_left
            ·exact ux_
            refine pU_ 36 (some 54) ?_
            refine done_ (done_of HT_.out (by kernel_rfl)) ?_
            try go_wp2
            go_ret;exact ⟨by first|rfl|(simp [errW_none,errW_some] <;> rfl)|(simp only [← hji8];first|rfl|(simp [errW_none,errW_some] <;> rfl))|(simp [*,errW_none,errW_some] <;> rfl),bq_ HB⟩
          ·rw [if_neg c11] at H
           have c11b0 : (Op.bytesLess (((rd_T127 l0 (ji8)).f0).toList) (((rd_T127 l0 x3_1).f0).toList)) = false:=by simpa using c11
           clear c11;obtain rfl:=Option.some.inj H;have p130 : 0 ≤ (x3_1 : Int):=oda_;have q130 : x3_1 < (l0.length : Int):=oda_;obtain ⟨ad130,e130,hx130_0,hx130_1,hx130_2,hx130_3⟩:=at_T127 HR0.out x3_1 p130 q130
           cases e130
           replace hx130_0:=(HB.out.cell (wb_ w _ hx130_0)).trans hx130_0;replace hx130_1:=(HB.out.cell (wb_ w _ hx130_1)).trans hx130_1;replace hx130_2:=(HB.out.cell (wb_ w _ hx130_2)).trans hx130_2;replace hx130_3:=(HB.out.cell (wb_ w _ hx130_3)).trans hx130_3;replace p130:=eq_true p130;replace q130:=eq_true q130
           try go_wp2_with (first|((with_reducible refine gate_dst (N:=4) rfl ?_);refine bE_ 4 #[.string (⟨#[]⟩ : ByteArray),.int .i64 0,.int .i64 0,.int .i64 0] 127 ?_;intro gb131 hg w34 hbox hb;have BK131:=A_ (hbox);have GW131:=gE_ hg HB;have GE131:=gE_ hg HB;replace HB:=bS_ HB hb;clear hb hbox hg;obtain ⟨hcz35_0,hcz35_1,hcz35_2,hcz35_3,hfz35_0,hfz35_1,hfz35_2,hfz35_3⟩:=k4f_ BK131))
           have n0_ : Aside0 (((((w34.setCell ⟨gb131,0,none⟩ (.string ((rd_T127 l0 x3_1).f0))).setCell ⟨gb131,1,none⟩ (.int .i64 ((rd_T127 l0 x3_1).f1))).setCell ⟨gb131,2,none⟩ (.int .i64 ((rd_T127 l0 x3_1).f2))).setCell ⟨gb131,3,none⟩ (.int .i64 ((rd_T127 l0 x3_1).f3))).heap[gb131]? = some (.cells #[.string ((rd_T127 l0 x3_1).f0),.int .i64 ((rd_T127 l0 x3_1).f1),.int .i64 ((rd_T127 l0 x3_1).f2),.int .i64 ((rd_T127 l0 x3_1).f3)] 127 (0,0))):=⟨kz_ BK131⟩;have n1_ : Aside0 (Below w.heap.size w ((((w34.setCell ⟨gb131,0,none⟩ (.string ((rd_T127 l0 x3_1).f0))).setCell ⟨gb131,1,none⟩ (.int .i64 ((rd_T127 l0 x3_1).f1))).setCell ⟨gb131,2,none⟩ (.int .i64 ((rd_T127 l0 x3_1).f2))).setCell ⟨gb131,3,none⟩ (.int .i64 ((rd_T127 l0 x3_1).f3)))):=⟨bq_ HB⟩
           (try clear BK131)
           (try clear HB)
           generalize ((((w34.setCell ⟨gb131,0,none⟩ (.string ((rd_T127 l0 x3_1).f0))).setCell ⟨gb131,1,none⟩ (.int .i64 ((rd_T127 l0 x3_1).f1))).setCell ⟨gb131,2,none⟩ (.int .i64 ((rd_T127 l0 x3_1).f2))).setCell ⟨gb131,3,none⟩ (.int .i64 ((rd_T127 l0 x3_1).f3))) = w36 at n0_ n1_ ⊢;have BK131:=n0_;have HB:=n1_;clear n0_ n1_;replace BK131:=A_ (kd_ BK131.out);replace HB:=A_ (pd_ HB.out);have p133 : 0 ≤ ((ji8) : Int):=oda_;have q133 : (ji8) < (l0.length : Int):=oda_;obtain ⟨ad133,e133,hx133_0,hx133_1,hx133_2,hx133_3⟩:=at_T127 HR0.out (ji8) p133 q133;have hw133_3:=hx133_3;have hw133_2:=hx133_2;have hw133_1:=hx133_1;have hw133_0:=hx133_0;obtain rfl : ad130 = ad133:=(by injection e133);replace hx133_0:=(HB.out.cell (wb_ w _ hx133_0)).trans hx133_0;replace hx133_1:=(HB.out.cell (wb_ w _ hx133_1)).trans hx133_1;replace hx133_2:=(HB.out.cell (wb_ w _ hx133_2)).trans hx133_2;replace hx133_3:=(HB.out.cell (wb_ w _ hx133_3)).trans hx133_3;replace p133:=eq_true p133;replace q133:=eq_true q133;refine start_ (n:=37) (S:=fun w' => w'.cell? ⟨gb131,0,none⟩ = some (.string ((rd_T127 l0 x3_1).f0)) ∧ w'.cell? ⟨gb131,1,none⟩ = some (.int .i64 ((rd_T127 l0 x3_1).f1)) ∧ w'.cell? ⟨gb131,2,none⟩ = some (.int .i64 ((rd_T127 l0 x3_1).f2)) ∧ w'.cell? ⟨gb131,3,none⟩ = some (.int .i64 ((rd_T127 l0 x3_1).f3)) ∧ w'.cell? (ad130.add (((ji8)).toNat * 4)) = some (.string ((rd_T127 l0 (ji8)).f0)) ∧ w'.cell? ⟨(ad130.add (((ji8)).toNat * 4)).block,(ad130.add (((ji8)).toNat * 4)).off + 1,none⟩ = some (.int .i64 ((rd_T127 l0 (ji8)).f1)) ∧ w'.cell? ⟨(ad130.add (((ji8)).toNat * 4)).block,(ad130.add (((ji8)).toNat * 4)).off + 2,none⟩ = some (.int .i64 ((rd_T127 l0 (ji8)).f2)) ∧ w'.cell? ⟨(ad130.add (((ji8)).toNat * 4)).block,(ad130.add (((ji8)).toNat * 4)).off + 3,none⟩ = some (.int .i64 ((rd_T127 l0 (ji8)).f3))) (ds:=[]) #[false,false,false,false,false,false,false,false,false,false,false,false,false,false,false,false,false,false,false,false,false,false,false,false,false,false,false,false,false,false,false,false,false,false,false,false,false] (by kernel_rfl) rfl rfl ⟨kC_ BK131 0,kC_ BK131 1,kC_ BK131 2,kC_ BK131 3,((HB.out.cell (wb_ w _ hw133_0)).trans hw133_0),((HB.out.cell (wb_ w _ hw133_1)).trans hw133_1),((HB.out.cell (wb_ w _ hw133_2)).trans hw133_2),((HB.out.cell (wb_ w _ hw133_3)).trans hw133_3)⟩ (fun hHeld => ?_);refine with_tabW spec_DirOk.tab7 spec_DirOk.bits7 (fun HT_ HW_ => ?_);generalize w36.drew = w37 at BK131 HB hx133_0 hx133_1 hx133_2 hx133_3 hHeld ⊢;refine pU_ 0 (some 18) ?_
           refine tK_ 1 (some 19) hHeld ?_
           refine oN_ 2 (some 20) (fun K hK => ?_);refine gs_ Try.func158 #[.string ((rd_T127 l0 x3_1).f0)] ?_;with_reducible refine (spec_l05Key.calls ((rd_T127 l0 x3_1).f0) true _ A5.out).mono ?_;rintro e w' ⟨rfl,⟨nd,rfl⟩⟩;refine ⟨_,rfl,?_⟩;have BK131d_:=A_ (kn_ BK131.out nd);have HBd_:=A_ (pn_ HB.out nd);refine hK.out _ _ ⟨kC_ BK131d_ 0,kC_ BK131d_ 1,kC_ BK131d_ 2,kC_ BK131d_ 3,((HBd_.out.cell (wb_ w _ hw133_0)).trans hw133_0),((HBd_.out.cell (wb_ w _ hw133_1)).trans hw133_1),((HBd_.out.cell (wb_ w _ hw133_2)).trans hw133_2),((HBd_.out.cell (wb_ w _ hw133_3)).trans hw133_3)⟩ (fun hHeld => ?_);clear hK K;refine nX_ (some 20) ?_
           refine pU_ 3 (some 21) ?_
           refine pU_ 4 (some 22) ?_
           refine pU_ 5 (some 23) ?_
           refine pU_ 6 (some 24) ?_
           refine pU_ 7 (some 25) ?_
           refine pU_ 8 (some 26) ?_
           refine pU_ 9 (some 27) ?_
           refine pU_ 10 (some 28) ?_
           refine pU_ 11 (some 29) ?_
           refine pU_ 12 (some 30) ?_
           refine pU_ 14 (some 32) ?_
           refine tK_ 13 (some 31) hHeld ?_
           refine tK_ 15 (some 33) hHeld ?_
           refine pU_ 16 (some 34) ?_
           refine pU_ 17 (some 35) ?_
           refine pU_ 18 (some 36) ?_
           refine pU_ 19 (some 37) ?_
           refine pure_ (i:=20) (N:=some 38) (v:=undef) (a':=?_) #[true,true,true,true,true,true,true,true,true,true,true,true,true,true,true,true,true,true,true,true,true,false,false,false,false,false,false,false,false,false,false,false,false,false,false,false,false] rfl rfl (any_of HT_.out (by kernel_rfl)) (fun _ _ _ h => h) (Or.inr ⟨by rfl,rfl⟩) ?_ ?_;rotate_left
           ·exact ux_
           refine pure_ (i:=21) (N:=some 39) (v:=undef) (a':=?_) #[true,true,true,true,true,true,true,true,true,true,true,true,true,true,true,true,true,true,true,true,true,true,false,false,false,false,false,false,false,false,false,false,false,false,false,false,false] rfl rfl (any_of HT_.out (by kernel_rfl)) (fun _ _ _ h => h) (Or.inr ⟨by rfl,rfl⟩) ?_ ?_;rotate_left
           ·exact ux_
           refine pure_ (i:=22) (N:=some 40) (v:=undef) (a':=?_) #[true,true,true,true,true,true,true,true,true,true,true,true,true,true,true,true,true,true,true,true,true,true,true,false,false,false,false,false,false,false,false,false,false,false,false,false,false] rfl rfl (any_of HT_.out (by kernel_rfl)) (fun _ _ _ h => h) (Or.inr ⟨by rfl,rfl⟩) ?_ ?_;rotate_left
           ·exact ux_
           refine pure_ (i:=23) (N:=some 41) (v:=undef) (a':=?_) #[true,true,true,true,true,true,true,true,true,true,true,true,true,true,true,true,true,true,true,true,true,true,true,true,false,false,false,false,false,false,false,false,false,false,false,false,false] rfl rfl (any_of HT_.out (by kernel_rfl)) (fun _ _ _ h => h) (Or.inr ⟨by rfl,rfl⟩) ?_ ?_;rotate_left
           ·exact ux_
           refine pU_ 24 (some 42) ?_
           refine pU_ 25 (some 43) ?_
           refine pure_ (i:=26) (N:=some 44) (v:=undef) (a':=?_) #[true,true,true,true,true,true,true,true,true,true,true,true,true,true,true,true,true,true,true,true,true,true,true,true,true,true,true,false,false,false,false,false,false,false,false,false,false] rfl rfl (any_of HT_.out (by kernel_rfl)) (fun _ _ _ h => h) (Or.inr ⟨by rfl,rfl⟩) ?_ ?_;rotate_left
           ·exact ux_
           refine pure_ (i:=27) (N:=some 45) (v:=undef) (a':=?_) #[true,true,true,true,true,true,true,true,true,true,true,true,true,true,true,true,true,true,true,true,true,true,true,true,true,true,true,true,false,false,false,false,false,false,false,false,false] rfl rfl (any_of HT_.out (by kernel_rfl)) (fun _ _ _ h => h) (Or.inr ⟨by rfl,rfl⟩) ?_ ?_;rotate_left
           ·exact ux_
           refine pure_ (i:=28) (N:=some 46) (v:=undef) (a':=?_) #[true,true,true,true,true,true,true,true,true,true,true,true,true,true,true,true,true,true,true,true,true,true,true,true,true,true,true,true,true,false,false,false,false,false,false,false,false] rfl rfl (any_of HT_.out (by kernel_rfl)) (fun _ _ _ h => h) (Or.inr ⟨by rfl,rfl⟩) ?_ ?_;rotate_left
           ·exact ux_
           refine pure_ (i:=29) (N:=some 47) (v:=undef) (a':=?_) #[true,true,true,true,true,true,true,true,true,true,true,true,true,true,true,true,true,true,true,true,true,true,true,true,true,true,true,true,true,true,false,false,false,false,false,false,false] rfl rfl (any_of HT_.out (by kernel_rfl)) (fun _ _ _ h => h) (Or.inr ⟨by rfl,rfl⟩) ?_ ?_;rotate_left
           ·exact ux_
           refine pU_ 30 (some 48) ?_
           refine pU_ 31 (some 49) ?_
           refine pure_ (i:=32) (N:=some 50) (v:=undef) (a':=?_) #[true,true,true,true,true,true,true,true,true,true,true,true,true,true,true,true,true,true,true,true,true,true,true,true,true,true,true,true,true,true,true,true,true,false,false,false,false] rfl rfl (any_of HT_.out (by kernel_rfl)) (fun _ _ _ h => h) (Or.inr ⟨by rfl,rfl⟩) ?_ ?_;rotate_left
           ·exact ux_
           refine pure_ (i:=33) (N:=some 51) (v:=undef) (a':=?_) #[true,true,true,true,true,true,true,true,true,true,true,true,true,true,true,true,true,true,true,true,true,true,true,true,true,true,true,true,true,true,true,true,true,true,false,false,false] rfl rfl (any_of HT_.out (by kernel_rfl)) (fun _ _ _ h => h) (Or.inr ⟨by rfl,rfl⟩) ?_ ?_;rotate_left
           ·exact ux_
           refine pure_ (i:=34) (N:=some 52) (v:=undef) (a':=?_) #[true,true,true,true,true,true,true,true,true,true,true,true,true,true,true,true,true,true,true,true,true,true,true,true,true,true,true,true,true,true,true,true,true,true,true,false,false] rfl rfl (any_of HT_.out (by kernel_rfl)) (fun _ _ _ h => h) (Or.inr ⟨by rfl,rfl⟩) ?_ ?_;rotate_left
           ·exact ux_
           refine pure_ (i:=35) (N:=some 53) (v:=undef) (a':=?_) #[true,true,true,true,true,true,true,true,true,true,true,true,true,true,true,true,true,true,true,true,true,true,true,true,true,true,true,true,true,true,true,true,true,true,true,true,false] rfl rfl (any_of HT_.out (by kernel_rfl)) (fun _ _ _ h => h) (Or.inr ⟨by rfl,rfl⟩) ?_ ?_;rotate_left
           ·exact ux_
           refine pU_ 36 (some 54) ?_
           refine done_ (done_of HT_.out (by kernel_rfl)) ?_
           try go_wp2
           go_ret;exact ⟨by first|rfl|(simp [errW_none,errW_some] <;> rfl)|(simp only [← hji8];first|rfl|(simp [errW_none,errW_some] <;> rfl))|(simp [*,errW_none,errW_some] <;> rfl),bq_ HB⟩
         ·rw [if_neg c10] at H;exact absurd H (by simp)
        ·rw [if_neg c9] at H;exact absurd H (by simp)
       ·rw [if_neg c7] at H;have c7b0 : decide (0 < x3_1) = false:=decide_eq_false c7;clear c7;replace H:=ob_.mp H;obtain ⟨t137,A380,H⟩:=H;(try dsimp only at H);have A38:=A_ A380;clear A380
        by_cases c39 : t137 = true
        ·subst c39
         rw [if_pos rfl] at H;replace H:=ob_.mp H;obtain ⟨t138,A400,H⟩:=H;(try dsimp only at H);have A40:=A_ A400;clear A400
         by_cases c41 : t138 = true
         ·subst c41
          rw [if_pos rfl] at H;replace H:=ob_.mp H;obtain ⟨t139,A420,H⟩:=H;(try dsimp only at H);have A42:=A_ A420;clear A420
          by_cases c43 : t139 = true
          ·subst c43
           rw [if_pos rfl] at H;have H':=A_ H;clear H;have p130 : 0 ≤ (x3_1 : Int):=oda_;have q130 : x3_1 < (l0.length : Int):=oda_;obtain ⟨ad130,e130,hx130_0,hx130_1,hx130_2,hx130_3⟩:=at_T127 HR0.out x3_1 p130 q130
           cases e130
           replace hx130_0:=(HB.out.cell (wb_ w _ hx130_0)).trans hx130_0;replace hx130_1:=(HB.out.cell (wb_ w _ hx130_1)).trans hx130_1;replace hx130_2:=(HB.out.cell (wb_ w _ hx130_2)).trans hx130_2;replace hx130_3:=(HB.out.cell (wb_ w _ hx130_3)).trans hx130_3;replace p130:=eq_true p130;replace q130:=eq_true q130
           try go_wp2_with (first|((with_reducible refine gate_dst (N:=4) rfl ?_);refine bE_ 4 #[.string (⟨#[]⟩ : ByteArray),.int .i64 0,.int .i64 0,.int .i64 0] 127 ?_;intro gb131 hg w44 hbox hb;have BK131:=A_ (hbox);have GW131:=gE_ hg HB;have GE131:=gE_ hg HB;replace HB:=bS_ HB hb;clear hb hbox hg;obtain ⟨hcz45_0,hcz45_1,hcz45_2,hcz45_3,hfz45_0,hfz45_1,hfz45_2,hfz45_3⟩:=k4f_ BK131))
           have n0_ : Aside0 (((((w44.setCell ⟨gb131,0,none⟩ (.string ((rd_T127 l0 x3_1).f0))).setCell ⟨gb131,1,none⟩ (.int .i64 ((rd_T127 l0 x3_1).f1))).setCell ⟨gb131,2,none⟩ (.int .i64 ((rd_T127 l0 x3_1).f2))).setCell ⟨gb131,3,none⟩ (.int .i64 ((rd_T127 l0 x3_1).f3))).heap[gb131]? = some (.cells #[.string ((rd_T127 l0 x3_1).f0),.int .i64 ((rd_T127 l0 x3_1).f1),.int .i64 ((rd_T127 l0 x3_1).f2),.int .i64 ((rd_T127 l0 x3_1).f3)] 127 (0,0))):=⟨kz_ BK131⟩;have n1_ : Aside0 (Below w.heap.size w ((((w44.setCell ⟨gb131,0,none⟩ (.string ((rd_T127 l0 x3_1).f0))).setCell ⟨gb131,1,none⟩ (.int .i64 ((rd_T127 l0 x3_1).f1))).setCell ⟨gb131,2,none⟩ (.int .i64 ((rd_T127 l0 x3_1).f2))).setCell ⟨gb131,3,none⟩ (.int .i64 ((rd_T127 l0 x3_1).f3)))):=⟨bq_ HB⟩
           (try clear BK131)
           (try clear HB)
           generalize ((((w44.setCell ⟨gb131,0,none⟩ (.string ((rd_T127 l0 x3_1).f0))).setCell ⟨gb131,1,none⟩ (.int .i64 ((rd_T127 l0 x3_1).f1))).setCell ⟨gb131,2,none⟩ (.int .i64 ((rd_T127 l0 x3_1).f2))).setCell ⟨gb131,3,none⟩ (.int .i64 ((rd_T127 l0 x3_1).f3))) = w46 at n0_ n1_ ⊢;have BK131:=n0_;have HB:=n1_;clear n0_ n1_;replace BK131:=A_ (kd_ BK131.out);replace HB:=A_ (pd_ HB.out);refine start_ (n:=37) (S:=fun w' => w'.cell? ⟨gb131,0,none⟩ = some (.string ((rd_T127 l0 x3_1).f0)) ∧ w'.cell? ⟨gb131,1,none⟩ = some (.int .i64 ((rd_T127 l0 x3_1).f1)) ∧ w'.cell? ⟨gb131,2,none⟩ = some (.int .i64 ((rd_T127 l0 x3_1).f2)) ∧ w'.cell? ⟨gb131,3,none⟩ = some (.int .i64 ((rd_T127 l0 x3_1).f3))) (ds:=[]) #[false,false,false,false,false,false,false,false,false,false,false,false,false,false,false,false,false,false,false,false,false,false,false,false,false,false,false,false,false,false,false,false,false,false,false,false,false] (by kernel_rfl) rfl rfl ⟨kC_ BK131 0,kC_ BK131 1,kC_ BK131 2,kC_ BK131 3⟩ (fun hHeld => ?_);refine with_tabW spec_DirOk.tab7 spec_DirOk.bits7 (fun HT_ HW_ => ?_);generalize w46.drew = w47 at BK131 HB hHeld ⊢;refine pU_ 0 (some 18) ?_
           refine tK_ 1 (some 19) hHeld ?_
           refine oN_ 2 (some 20) (fun K hK => ?_);refine gs_ Try.func158 #[.string ((rd_T127 l0 x3_1).f0)] ?_;with_reducible refine (spec_l05Key.calls ((rd_T127 l0 x3_1).f0) true _ A5.out).mono ?_;rintro e w' ⟨rfl,⟨nd,rfl⟩⟩;refine ⟨_,rfl,?_⟩;have BK131d_:=A_ (kn_ BK131.out nd);have HBd_:=A_ (pn_ HB.out nd);refine hK.out _ _ ⟨kC_ BK131d_ 0,kC_ BK131d_ 1,kC_ BK131d_ 2,kC_ BK131d_ 3⟩ (fun hHeld => ?_);clear hK K;refine nX_ (some 20) ?_
           refine pU_ 3 (some 21) ?_
           refine pU_ 4 (some 22) ?_
           refine pU_ 5 (some 23) ?_
           refine pU_ 6 (some 24) ?_
           refine pU_ 7 (some 25) ?_
           refine pure_ (i:=8) (N:=some 26) (v:=undef) (a':=?_) #[true,true,true,true,true,true,true,true,true,false,false,false,false,false,false,false,false,false,false,false,false,false,false,false,false,false,false,false,false,false,false,false,false,false,false,false,false] rfl rfl (any_of HT_.out (by kernel_rfl)) (fun _ _ _ h => h) (Or.inr ⟨by rfl,rfl⟩) ?_ ?_;rotate_left
           ·exact ux_
           refine pure_ (i:=9) (N:=some 27) (v:=undef) (a':=?_) #[true,true,true,true,true,true,true,true,true,true,false,false,false,false,false,false,false,false,false,false,false,false,false,false,false,false,false,false,false,false,false,false,false,false,false,false,false] rfl rfl (any_of HT_.out (by kernel_rfl)) (fun _ _ _ h => h) (Or.inr ⟨by rfl,rfl⟩) ?_ ?_;rotate_left
           ·exact ux_
           refine pure_ (i:=10) (N:=some 28) (v:=undef) (a':=?_) #[true,true,true,true,true,true,true,true,true,true,true,false,false,false,false,false,false,false,false,false,false,false,false,false,false,false,false,false,false,false,false,false,false,false,false,false,false] rfl rfl (any_of HT_.out (by kernel_rfl)) (fun _ _ _ h => h) (Or.inr ⟨by rfl,rfl⟩) ?_ ?_;rotate_left
           ·exact ux_
           refine pure_ (i:=11) (N:=some 29) (v:=undef) (a':=?_) #[true,true,true,true,true,true,true,true,true,true,true,true,false,false,false,false,false,false,false,false,false,false,false,false,false,false,false,false,false,false,false,false,false,false,false,false,false] rfl rfl (any_of HT_.out (by kernel_rfl)) (fun _ _ _ h => h) (Or.inr ⟨by rfl,rfl⟩) ?_ ?_;rotate_left
           ·exact ux_
           refine pure_ (i:=12) (N:=some 30) (v:=undef) (a':=?_) #[true,true,true,true,true,true,true,true,true,true,true,true,true,false,false,false,false,false,false,false,false,false,false,false,false,false,false,false,false,false,false,false,false,false,false,false,false] rfl rfl (any_of HT_.out (by kernel_rfl)) (fun _ _ _ h => h) (Or.inr ⟨by rfl,rfl⟩) ?_ ?_;rotate_left
           ·exact ux_
           refine pure_ (i:=13) (N:=some 31) (v:=undef) (a':=?_) #[true,true,true,true,true,true,true,true,true,true,true,true,true,true,false,false,false,false,false,false,false,false,false,false,false,false,false,false,false,false,false,false,false,false,false,false,false] rfl rfl (any_of HT_.out (by kernel_rfl)) (fun _ _ _ h => h) (Or.inr ⟨by rfl,rfl⟩) ?_ ?_;rotate_left
           ·exact ux_
           refine pure_ (i:=14) (N:=some 32) (v:=undef) (a':=?_) #[true,true,true,true,true,true,true,true,true,true,true,true,true,true,true,false,false,false,false,false,false,false,false,false,false,false,false,false,false,false,false,false,false,false,false,false,false] rfl rfl (any_of HT_.out (by kernel_rfl)) (fun _ _ _ h => h) (Or.inr ⟨by rfl,rfl⟩) ?_ ?_;rotate_left
           ·exact ux_
           refine pure_ (i:=15) (N:=some 33) (v:=undef) (a':=?_) #[true,true,true,true,true,true,true,true,true,true,true,true,true,true,true,true,false,false,false,false,false,false,false,false,false,false,false,false,false,false,false,false,false,false,false,false,false] rfl rfl (any_of HT_.out (by kernel_rfl)) (fun _ _ _ h => h) (Or.inr ⟨by rfl,rfl⟩) ?_ ?_;rotate_left
           ·exact ux_
           refine pure_ (i:=16) (N:=some 34) (v:=undef) (a':=?_) #[true,true,true,true,true,true,true,true,true,true,true,true,true,true,true,true,true,false,false,false,false,false,false,false,false,false,false,false,false,false,false,false,false,false,false,false,false] rfl rfl (any_of HT_.out (by kernel_rfl)) (fun _ _ _ h => h) (Or.inr ⟨by rfl,rfl⟩) ?_ ?_;rotate_left
           ·exact ux_
           refine pU_ 17 (some 35) ?_
           refine pU_ 18 (some 36) ?_
           refine pU_ 19 (some 37) ?_
           refine pU_ 20 (some 38) ?_
           refine tK_ 21 (some 39) hHeld ?_
           refine oN_ 22 (some 40) (fun K hK => ?_);refine gs_ Try.func78 #[.int .i64 ((rd_T127 l0 x3_1).f1),.int .i64 0,.int .i64 999] ?_;with_reducible refine (spec_l01In.calls ((rd_T127 l0 x3_1).f1) 0 999 true _ A38.out).mono ?_;rintro e w' ⟨rfl,⟨nd,rfl⟩⟩;refine ⟨_,rfl,?_⟩;replace BK131d_:=A_ (kn_ BK131d_.out nd);replace HBd_:=A_ (pn_ HBd_.out nd);refine hK.out _ _ ⟨kC_ BK131d_ 0,kC_ BK131d_ 1,kC_ BK131d_ 2,kC_ BK131d_ 3⟩ (fun hHeld => ?_);clear hK K;refine nX_ (some 40) ?_
           refine pU_ 23 (some 41) ?_
           refine pU_ 24 (some 42) ?_
           refine pU_ 25 (some 43) ?_
           refine pU_ 26 (some 44) ?_
           refine tK_ 27 (some 45) hHeld ?_
           refine oN_ 28 (some 46) (fun K hK => ?_);refine gs_ Try.func78 #[.int .i64 ((rd_T127 l0 x3_1).f2),.int .i64 0,.int .i64 20000] ?_;with_reducible refine (spec_l01In.calls ((rd_T127 l0 x3_1).f2) 0 20000 true _ A40.out).mono ?_;rintro e w' ⟨rfl,⟨nd,rfl⟩⟩;refine ⟨_,rfl,?_⟩;replace BK131d_:=A_ (kn_ BK131d_.out nd);replace HBd_:=A_ (pn_ HBd_.out nd);refine hK.out _ _ ⟨kC_ BK131d_ 0,kC_ BK131d_ 1,kC_ BK131d_ 2,kC_ BK131d_ 3⟩ (fun hHeld => ?_);clear hK K;refine nX_ (some 46) ?_
           refine pU_ 29 (some 47) ?_
           refine pU_ 30 (some 48) ?_
           refine pU_ 31 (some 49) ?_
           refine pU_ 32 (some 50) ?_
           refine tK_ 33 (some 51) hHeld ?_
           refine oN_ 34 (some 52) (fun K hK => ?_);refine gs_ Try.func78 #[.int .i64 ((rd_T127 l0 x3_1).f3),.int .i64 0,.int .i64 40] ?_;with_reducible refine (spec_l01In.calls ((rd_T127 l0 x3_1).f3) 0 40 true _ A42.out).mono ?_;rintro e w' ⟨rfl,⟨nd,rfl⟩⟩;refine ⟨_,rfl,?_⟩;replace BK131d_:=A_ (kn_ BK131d_.out nd);replace HBd_:=A_ (pn_ HBd_.out nd);refine hK.out _ _ ⟨kC_ BK131d_ 0,kC_ BK131d_ 1,kC_ BK131d_ 2,kC_ BK131d_ 3⟩ (fun hHeld => ?_);clear hK K;refine nX_ (some 52) ?_
           refine pU_ 35 (some 53) ?_
           refine pU_ 36 (some 54) ?_
           refine done_ (done_of HT_.out (by kernel_rfl)) ?_
           try go_wp2
           go_roundg k1
           case measure => have:=HK1.out;omega
           case rel => exact ⟨(wrap64 (x3_1 + 1)),(by first|rfl|(simp;done)|(simp [*];done)),H',⟨by have:=HK1.out;omega⟩,⟨bq_ HB⟩⟩
          ·replace c43:=Bool.eq_false_iff.mpr c43;subst c43
           have H1 : (some false) = some r:=by rw [if_neg (show ¬ (false = true) by decide)] at H;exact H
           clear H;have H:=H1;clear H1;obtain rfl:=Option.some.inj H;have p130 : 0 ≤ (x3_1 : Int):=oda_;have q130 : x3_1 < (l0.length : Int):=oda_;obtain ⟨ad130,e130,hx130_0,hx130_1,hx130_2,hx130_3⟩:=at_T127 HR0.out x3_1 p130 q130
           cases e130
           replace hx130_0:=(HB.out.cell (wb_ w _ hx130_0)).trans hx130_0;replace hx130_1:=(HB.out.cell (wb_ w _ hx130_1)).trans hx130_1;replace hx130_2:=(HB.out.cell (wb_ w _ hx130_2)).trans hx130_2;replace hx130_3:=(HB.out.cell (wb_ w _ hx130_3)).trans hx130_3;replace p130:=eq_true p130;replace q130:=eq_true q130
           try go_wp2_with (first|((with_reducible refine gate_dst (N:=4) rfl ?_);refine bE_ 4 #[.string (⟨#[]⟩ : ByteArray),.int .i64 0,.int .i64 0,.int .i64 0] 127 ?_;intro gb131 hg w48 hbox hb;have BK131:=A_ (hbox);have GW131:=gE_ hg HB;have GE131:=gE_ hg HB;replace HB:=bS_ HB hb;clear hb hbox hg;obtain ⟨hcz49_0,hcz49_1,hcz49_2,hcz49_3,hfz49_0,hfz49_1,hfz49_2,hfz49_3⟩:=k4f_ BK131))
           have n0_ : Aside0 (((((w48.setCell ⟨gb131,0,none⟩ (.string ((rd_T127 l0 x3_1).f0))).setCell ⟨gb131,1,none⟩ (.int .i64 ((rd_T127 l0 x3_1).f1))).setCell ⟨gb131,2,none⟩ (.int .i64 ((rd_T127 l0 x3_1).f2))).setCell ⟨gb131,3,none⟩ (.int .i64 ((rd_T127 l0 x3_1).f3))).heap[gb131]? = some (.cells #[.string ((rd_T127 l0 x3_1).f0),.int .i64 ((rd_T127 l0 x3_1).f1),.int .i64 ((rd_T127 l0 x3_1).f2),.int .i64 ((rd_T127 l0 x3_1).f3)] 127 (0,0))):=⟨kz_ BK131⟩;have n1_ : Aside0 (Below w.heap.size w ((((w48.setCell ⟨gb131,0,none⟩ (.string ((rd_T127 l0 x3_1).f0))).setCell ⟨gb131,1,none⟩ (.int .i64 ((rd_T127 l0 x3_1).f1))).setCell ⟨gb131,2,none⟩ (.int .i64 ((rd_T127 l0 x3_1).f2))).setCell ⟨gb131,3,none⟩ (.int .i64 ((rd_T127 l0 x3_1).f3)))):=⟨bq_ HB⟩
           (try clear BK131)
           (try clear HB)
           generalize ((((w48.setCell ⟨gb131,0,none⟩ (.string ((rd_T127 l0 x3_1).f0))).setCell ⟨gb131,1,none⟩ (.int .i64 ((rd_T127 l0 x3_1).f1))).setCell ⟨gb131,2,none⟩ (.int .i64 ((rd_T127 l0 x3_1).f2))).setCell ⟨gb131,3,none⟩ (.int .i64 ((rd_T127 l0 x3_1).f3))) = w50 at n0_ n1_ ⊢;have BK131:=n0_;have HB:=n1_;clear n0_ n1_;replace BK131:=A_ (kd_ BK131.out);replace HB:=A_ (pd_ HB.out);refine start_ (n:=37) (S:=fun w' => w'.cell? ⟨gb131,0,none⟩ = some (.string ((rd_T127 l0 x3_1).f0)) ∧ w'.cell? ⟨gb131,1,none⟩ = some (.int .i64 ((rd_T127 l0 x3_1).f1)) ∧ w'.cell? ⟨gb131,2,none⟩ = some (.int .i64 ((rd_T127 l0 x3_1).f2)) ∧ w'.cell? ⟨gb131,3,none⟩ = some (.int .i64 ((rd_T127 l0 x3_1).f3))) (ds:=[]) #[false,false,false,false,false,false,false,false,false,false,false,false,false,false,false,false,false,false,false,false,false,false,false,false,false,false,false,false,false,false,false,false,false,false,false,false,false] (by kernel_rfl) rfl rfl ⟨kC_ BK131 0,kC_ BK131 1,kC_ BK131 2,kC_ BK131 3⟩ (fun hHeld => ?_);refine with_tabW spec_DirOk.tab7 spec_DirOk.bits7 (fun HT_ HW_ => ?_);generalize w50.drew = w51 at BK131 HB hHeld ⊢;refine pU_ 0 (some 18) ?_
           refine tK_ 1 (some 19) hHeld ?_
           refine oN_ 2 (some 20) (fun K hK => ?_);refine gs_ Try.func158 #[.string ((rd_T127 l0 x3_1).f0)] ?_;with_reducible refine (spec_l05Key.calls ((rd_T127 l0 x3_1).f0) true _ A5.out).mono ?_;rintro e w' ⟨rfl,⟨nd,rfl⟩⟩;refine ⟨_,rfl,?_⟩;have BK131d_:=A_ (kn_ BK131.out nd);have HBd_:=A_ (pn_ HB.out nd);refine hK.out _ _ ⟨kC_ BK131d_ 0,kC_ BK131d_ 1,kC_ BK131d_ 2,kC_ BK131d_ 3⟩ (fun hHeld => ?_);clear hK K;refine nX_ (some 20) ?_
           refine pU_ 3 (some 21) ?_
           refine pU_ 4 (some 22) ?_
           refine pU_ 5 (some 23) ?_
           refine pU_ 6 (some 24) ?_
           refine pU_ 7 (some 25) ?_
           refine pure_ (i:=8) (N:=some 26) (v:=undef) (a':=?_) #[true,true,true,true,true,true,true,true,true,false,false,false,false,false,false,false,false,false,false,false,false,false,false,false,false,false,false,false,false,false,false,false,false,false,false,false,false] rfl rfl (any_of HT_.out (by kernel_rfl)) (fun _ _ _ h => h) (Or.inr ⟨by rfl,rfl⟩) ?_ ?_;rotate_left
           ·exact ux_
           refine pure_ (i:=9) (N:=some 27) (v:=undef) (a':=?_) #[true,true,true,true,true,true,true,true,true,true,false,false,false,false,false,false,false,false,false,false,false,false,false,false,false,false,false,false,false,false,false,false,false,false,false,false,false] rfl rfl (any_of HT_.out (by kernel_rfl)) (fun _ _ _ h => h) (Or.inr ⟨by rfl,rfl⟩) ?_ ?_;rotate_left
           ·exact ux_
           refine pure_ (i:=10) (N:=some 28) (v:=undef) (a':=?_) #[true,true,true,true,true,true,true,true,true,true,true,false,false,false,false,false,false,false,false,false,false,false,false,false,false,false,false,false,false,false,false,false,false,false,false,false,false] rfl rfl (any_of HT_.out (by kernel_rfl)) (fun _ _ _ h => h) (Or.inr ⟨by rfl,rfl⟩) ?_ ?_;rotate_left
           ·exact ux_
           refine pure_ (i:=11) (N:=some 29) (v:=undef) (a':=?_) #[true,true,true,true,true,true,true,true,true,true,true,true,false,false,false,false,false,false,false,false,false,false,false,false,false,false,false,false,false,false,false,false,false,false,false,false,false] rfl rfl (any_of HT_.out (by kernel_rfl)) (fun _ _ _ h => h) (Or.inr ⟨by rfl,rfl⟩) ?_ ?_;rotate_left
           ·exact ux_
           refine pure_ (i:=12) (N:=some 30) (v:=undef) (a':=?_) #[true,true,true,true,true,true,true,true,true,true,true,true,true,false,false,false,false,false,false,false,false,false,false,false,false,false,false,false,false,false,false,false,false,false,false,false,false] rfl rfl (any_of HT_.out (by kernel_rfl)) (fun _ _ _ h => h) (Or.inr ⟨by rfl,rfl⟩) ?_ ?_;rotate_left
           ·exact ux_
           refine pure_ (i:=13) (N:=some 31) (v:=undef) (a':=?_) #[true,true,true,true,true,true,true,true,true,true,true,true,true,true,false,false,false,false,false,false,false,false,false,false,false,false,false,false,false,false,false,false,false,false,false,false,false] rfl rfl (any_of HT_.out (by kernel_rfl)) (fun _ _ _ h => h) (Or.inr ⟨by rfl,rfl⟩) ?_ ?_;rotate_left
           ·exact ux_
           refine pure_ (i:=14) (N:=some 32) (v:=undef) (a':=?_) #[true,true,true,true,true,true,true,true,true,true,true,true,true,true,true,false,false,false,false,false,false,false,false,false,false,false,false,false,false,false,false,false,false,false,false,false,false] rfl rfl (any_of HT_.out (by kernel_rfl)) (fun _ _ _ h => h) (Or.inr ⟨by rfl,rfl⟩) ?_ ?_;rotate_left
           ·exact ux_
           refine pure_ (i:=15) (N:=some 33) (v:=undef) (a':=?_) #[true,true,true,true,true,true,true,true,true,true,true,true,true,true,true,true,false,false,false,false,false,false,false,false,false,false,false,false,false,false,false,false,false,false,false,false,false] rfl rfl (any_of HT_.out (by kernel_rfl)) (fun _ _ _ h => h) (Or.inr ⟨by rfl,rfl⟩) ?_ ?_;rotate_left
           ·exact ux_
           refine pure_ (i:=16) (N:=some 34) (v:=undef) (a':=?_) #[true,true,true,true,true,true,true,true,true,true,true,true,true,true,true,true,true,false,false,false,false,false,false,false,false,false,false,false,false,false,false,false,false,false,false,false,false] rfl rfl (any_of HT_.out (by kernel_rfl)) (fun _ _ _ h => h) (Or.inr ⟨by rfl,rfl⟩) ?_ ?_;rotate_left
           ·exact ux_
           refine pU_ 17 (some 35) ?_
           refine pU_ 18 (some 36) ?_
           refine pU_ 19 (some 37) ?_
           refine pU_ 20 (some 38) ?_
           refine tK_ 21 (some 39) hHeld ?_
           refine oN_ 22 (some 40) (fun K hK => ?_);refine gs_ Try.func78 #[.int .i64 ((rd_T127 l0 x3_1).f1),.int .i64 0,.int .i64 999] ?_;with_reducible refine (spec_l01In.calls ((rd_T127 l0 x3_1).f1) 0 999 true _ A38.out).mono ?_;rintro e w' ⟨rfl,⟨nd,rfl⟩⟩;refine ⟨_,rfl,?_⟩;replace BK131d_:=A_ (kn_ BK131d_.out nd);replace HBd_:=A_ (pn_ HBd_.out nd);refine hK.out _ _ ⟨kC_ BK131d_ 0,kC_ BK131d_ 1,kC_ BK131d_ 2,kC_ BK131d_ 3⟩ (fun hHeld => ?_);clear hK K;refine nX_ (some 40) ?_
           refine pU_ 23 (some 41) ?_
           refine pU_ 24 (some 42) ?_
           refine pU_ 25 (some 43) ?_
           refine pU_ 26 (some 44) ?_
           refine tK_ 27 (some 45) hHeld ?_
           refine oN_ 28 (some 46) (fun K hK => ?_);refine gs_ Try.func78 #[.int .i64 ((rd_T127 l0 x3_1).f2),.int .i64 0,.int .i64 20000] ?_;with_reducible refine (spec_l01In.calls ((rd_T127 l0 x3_1).f2) 0 20000 true _ A40.out).mono ?_;rintro e w' ⟨rfl,⟨nd,rfl⟩⟩;refine ⟨_,rfl,?_⟩;replace BK131d_:=A_ (kn_ BK131d_.out nd);replace HBd_:=A_ (pn_ HBd_.out nd);refine hK.out _ _ ⟨kC_ BK131d_ 0,kC_ BK131d_ 1,kC_ BK131d_ 2,kC_ BK131d_ 3⟩ (fun hHeld => ?_);clear hK K;refine nX_ (some 46) ?_
           refine pU_ 29 (some 47) ?_
           refine pU_ 30 (some 48) ?_
           refine pU_ 31 (some 49) ?_
           refine pU_ 32 (some 50) ?_
           refine tK_ 33 (some 51) hHeld ?_
           refine oN_ 34 (some 52) (fun K hK => ?_);refine gs_ Try.func78 #[.int .i64 ((rd_T127 l0 x3_1).f3),.int .i64 0,.int .i64 40] ?_;with_reducible refine (spec_l01In.calls ((rd_T127 l0 x3_1).f3) 0 40 false _ A42.out).mono ?_;rintro e w' ⟨rfl,⟨nd,rfl⟩⟩;refine ⟨_,rfl,?_⟩;replace BK131d_:=A_ (kn_ BK131d_.out nd);replace HBd_:=A_ (pn_ HBd_.out nd);refine hK.out _ _ ⟨kC_ BK131d_ 0,kC_ BK131d_ 1,kC_ BK131d_ 2,kC_ BK131d_ 3⟩ (fun hHeld => ?_);clear hK K;refine nX_ (some 52) ?_
           refine pU_ 35 (some 53) ?_
           refine pU_ 36 (some 54) ?_
           refine done_ (done_of HT_.out (by kernel_rfl)) ?_
           try go_wp2
           go_ret;exact ⟨ex_,bq_ HB⟩
         ·replace c41:=Bool.eq_false_iff.mpr c41;subst c41
          have H1 : (some false) = some r:=by rw [if_neg (show ¬ (false = true) by decide)] at H;exact H
          clear H;have H:=H1;clear H1;obtain rfl:=Option.some.inj H;have p130 : 0 ≤ (x3_1 : Int):=oda_;have q130 : x3_1 < (l0.length : Int):=oda_;obtain ⟨ad130,e130,hx130_0,hx130_1,hx130_2,hx130_3⟩:=at_T127 HR0.out x3_1 p130 q130
          cases e130
          replace hx130_0:=(HB.out.cell (wb_ w _ hx130_0)).trans hx130_0;replace hx130_1:=(HB.out.cell (wb_ w _ hx130_1)).trans hx130_1;replace hx130_2:=(HB.out.cell (wb_ w _ hx130_2)).trans hx130_2;replace hx130_3:=(HB.out.cell (wb_ w _ hx130_3)).trans hx130_3;replace p130:=eq_true p130;replace q130:=eq_true q130
          try go_wp2_with (first|((with_reducible refine gate_dst (N:=4) rfl ?_);refine bE_ 4 #[.string (⟨#[]⟩ : ByteArray),.int .i64 0,.int .i64 0,.int .i64 0] 127 ?_;intro gb131 hg w52 hbox hb;have BK131:=A_ (hbox);have GW131:=gE_ hg HB;have GE131:=gE_ hg HB;replace HB:=bS_ HB hb;clear hb hbox hg;obtain ⟨hcz53_0,hcz53_1,hcz53_2,hcz53_3,hfz53_0,hfz53_1,hfz53_2,hfz53_3⟩:=k4f_ BK131))
          have n0_ : Aside0 (((((w52.setCell ⟨gb131,0,none⟩ (.string ((rd_T127 l0 x3_1).f0))).setCell ⟨gb131,1,none⟩ (.int .i64 ((rd_T127 l0 x3_1).f1))).setCell ⟨gb131,2,none⟩ (.int .i64 ((rd_T127 l0 x3_1).f2))).setCell ⟨gb131,3,none⟩ (.int .i64 ((rd_T127 l0 x3_1).f3))).heap[gb131]? = some (.cells #[.string ((rd_T127 l0 x3_1).f0),.int .i64 ((rd_T127 l0 x3_1).f1),.int .i64 ((rd_T127 l0 x3_1).f2),.int .i64 ((rd_T127 l0 x3_1).f3)] 127 (0,0))):=⟨kz_ BK131⟩;have n1_ : Aside0 (Below w.heap.size w ((((w52.setCell ⟨gb131,0,none⟩ (.string ((rd_T127 l0 x3_1).f0))).setCell ⟨gb131,1,none⟩ (.int .i64 ((rd_T127 l0 x3_1).f1))).setCell ⟨gb131,2,none⟩ (.int .i64 ((rd_T127 l0 x3_1).f2))).setCell ⟨gb131,3,none⟩ (.int .i64 ((rd_T127 l0 x3_1).f3)))):=⟨bq_ HB⟩
          (try clear BK131)
          (try clear HB)
          generalize ((((w52.setCell ⟨gb131,0,none⟩ (.string ((rd_T127 l0 x3_1).f0))).setCell ⟨gb131,1,none⟩ (.int .i64 ((rd_T127 l0 x3_1).f1))).setCell ⟨gb131,2,none⟩ (.int .i64 ((rd_T127 l0 x3_1).f2))).setCell ⟨gb131,3,none⟩ (.int .i64 ((rd_T127 l0 x3_1).f3))) = w54 at n0_ n1_ ⊢;have BK131:=n0_;have HB:=n1_;clear n0_ n1_;replace BK131:=A_ (kd_ BK131.out);replace HB:=A_ (pd_ HB.out);refine start_ (n:=37) (S:=fun w' => w'.cell? ⟨gb131,0,none⟩ = some (.string ((rd_T127 l0 x3_1).f0)) ∧ w'.cell? ⟨gb131,1,none⟩ = some (.int .i64 ((rd_T127 l0 x3_1).f1)) ∧ w'.cell? ⟨gb131,2,none⟩ = some (.int .i64 ((rd_T127 l0 x3_1).f2)) ∧ w'.cell? ⟨gb131,3,none⟩ = some (.int .i64 ((rd_T127 l0 x3_1).f3))) (ds:=[]) #[false,false,false,false,false,false,false,false,false,false,false,false,false,false,false,false,false,false,false,false,false,false,false,false,false,false,false,false,false,false,false,false,false,false,false,false,false] (by kernel_rfl) rfl rfl ⟨kC_ BK131 0,kC_ BK131 1,kC_ BK131 2,kC_ BK131 3⟩ (fun hHeld => ?_);refine with_tabW spec_DirOk.tab7 spec_DirOk.bits7 (fun HT_ HW_ => ?_);generalize w54.drew = w55 at BK131 HB hHeld ⊢;refine pU_ 0 (some 18) ?_
          refine tK_ 1 (some 19) hHeld ?_
          refine oN_ 2 (some 20) (fun K hK => ?_);refine gs_ Try.func158 #[.string ((rd_T127 l0 x3_1).f0)] ?_;with_reducible refine (spec_l05Key.calls ((rd_T127 l0 x3_1).f0) true _ A5.out).mono ?_;rintro e w' ⟨rfl,⟨nd,rfl⟩⟩;refine ⟨_,rfl,?_⟩;have BK131d_:=A_ (kn_ BK131.out nd);have HBd_:=A_ (pn_ HB.out nd);refine hK.out _ _ ⟨kC_ BK131d_ 0,kC_ BK131d_ 1,kC_ BK131d_ 2,kC_ BK131d_ 3⟩ (fun hHeld => ?_);clear hK K;refine nX_ (some 20) ?_
          refine pU_ 3 (some 21) ?_
          refine pU_ 4 (some 22) ?_
          refine pU_ 5 (some 23) ?_
          refine pU_ 6 (some 24) ?_
          refine pU_ 7 (some 25) ?_
          refine pure_ (i:=8) (N:=some 26) (v:=undef) (a':=?_) #[true,true,true,true,true,true,true,true,true,false,false,false,false,false,false,false,false,false,false,false,false,false,false,false,false,false,false,false,false,false,false,false,false,false,false,false,false] rfl rfl (any_of HT_.out (by kernel_rfl)) (fun _ _ _ h => h) (Or.inr ⟨by rfl,rfl⟩) ?_ ?_;rotate_left
          ·exact ux_
          refine pure_ (i:=9) (N:=some 27) (v:=undef) (a':=?_) #[true,true,true,true,true,true,true,true,true,true,false,false,false,false,false,false,false,false,false,false,false,false,false,false,false,false,false,false,false,false,false,false,false,false,false,false,false] rfl rfl (any_of HT_.out (by kernel_rfl)) (fun _ _ _ h => h) (Or.inr ⟨by rfl,rfl⟩) ?_ ?_;rotate_left
          ·exact ux_
          refine pure_ (i:=10) (N:=some 28) (v:=undef) (a':=?_) #[true,true,true,true,true,true,true,true,true,true,true,false,false,false,false,false,false,false,false,false,false,false,false,false,false,false,false,false,false,false,false,false,false,false,false,false,false] rfl rfl (any_of HT_.out (by kernel_rfl)) (fun _ _ _ h => h) (Or.inr ⟨by rfl,rfl⟩) ?_ ?_;rotate_left
          ·exact ux_
          refine pure_ (i:=11) (N:=some 29) (v:=undef) (a':=?_) #[true,true,true,true,true,true,true,true,true,true,true,true,false,false,false,false,false,false,false,false,false,false,false,false,false,false,false,false,false,false,false,false,false,false,false,false,false] rfl rfl (any_of HT_.out (by kernel_rfl)) (fun _ _ _ h => h) (Or.inr ⟨by rfl,rfl⟩) ?_ ?_;rotate_left
          ·exact ux_
          refine pure_ (i:=12) (N:=some 30) (v:=undef) (a':=?_) #[true,true,true,true,true,true,true,true,true,true,true,true,true,false,false,false,false,false,false,false,false,false,false,false,false,false,false,false,false,false,false,false,false,false,false,false,false] rfl rfl (any_of HT_.out (by kernel_rfl)) (fun _ _ _ h => h) (Or.inr ⟨by rfl,rfl⟩) ?_ ?_;rotate_left
          ·exact ux_
          refine pure_ (i:=13) (N:=some 31) (v:=undef) (a':=?_) #[true,true,true,true,true,true,true,true,true,true,true,true,true,true,false,false,false,false,false,false,false,false,false,false,false,false,false,false,false,false,false,false,false,false,false,false,false] rfl rfl (any_of HT_.out (by kernel_rfl)) (fun _ _ _ h => h) (Or.inr ⟨by rfl,rfl⟩) ?_ ?_;rotate_left
          ·exact ux_
          refine pure_ (i:=14) (N:=some 32) (v:=undef) (a':=?_) #[true,true,true,true,true,true,true,true,true,true,true,true,true,true,true,false,false,false,false,false,false,false,false,false,false,false,false,false,false,false,false,false,false,false,false,false,false] rfl rfl (any_of HT_.out (by kernel_rfl)) (fun _ _ _ h => h) (Or.inr ⟨by rfl,rfl⟩) ?_ ?_;rotate_left
          ·exact ux_
          refine pure_ (i:=15) (N:=some 33) (v:=undef) (a':=?_) #[true,true,true,true,true,true,true,true,true,true,true,true,true,true,true,true,false,false,false,false,false,false,false,false,false,false,false,false,false,false,false,false,false,false,false,false,false] rfl rfl (any_of HT_.out (by kernel_rfl)) (fun _ _ _ h => h) (Or.inr ⟨by rfl,rfl⟩) ?_ ?_;rotate_left
          ·exact ux_
          refine pure_ (i:=16) (N:=some 34) (v:=undef) (a':=?_) #[true,true,true,true,true,true,true,true,true,true,true,true,true,true,true,true,true,false,false,false,false,false,false,false,false,false,false,false,false,false,false,false,false,false,false,false,false] rfl rfl (any_of HT_.out (by kernel_rfl)) (fun _ _ _ h => h) (Or.inr ⟨by rfl,rfl⟩) ?_ ?_;rotate_left
          ·exact ux_
          refine pU_ 17 (some 35) ?_
          refine pU_ 18 (some 36) ?_
          refine pU_ 19 (some 37) ?_
          refine pU_ 20 (some 38) ?_
          refine tK_ 21 (some 39) hHeld ?_
          refine oN_ 22 (some 40) (fun K hK => ?_);refine gs_ Try.func78 #[.int .i64 ((rd_T127 l0 x3_1).f1),.int .i64 0,.int .i64 999] ?_;with_reducible refine (spec_l01In.calls ((rd_T127 l0 x3_1).f1) 0 999 true _ A38.out).mono ?_;rintro e w' ⟨rfl,⟨nd,rfl⟩⟩;refine ⟨_,rfl,?_⟩;replace BK131d_:=A_ (kn_ BK131d_.out nd);replace HBd_:=A_ (pn_ HBd_.out nd);refine hK.out _ _ ⟨kC_ BK131d_ 0,kC_ BK131d_ 1,kC_ BK131d_ 2,kC_ BK131d_ 3⟩ (fun hHeld => ?_);clear hK K;refine nX_ (some 40) ?_
          refine pU_ 23 (some 41) ?_
          refine pU_ 24 (some 42) ?_
          refine pU_ 25 (some 43) ?_
          refine pU_ 26 (some 44) ?_
          refine tK_ 27 (some 45) hHeld ?_
          refine oN_ 28 (some 46) (fun K hK => ?_);refine gs_ Try.func78 #[.int .i64 ((rd_T127 l0 x3_1).f2),.int .i64 0,.int .i64 20000] ?_;with_reducible refine (spec_l01In.calls ((rd_T127 l0 x3_1).f2) 0 20000 false _ A40.out).mono ?_;rintro e w' ⟨rfl,⟨nd,rfl⟩⟩;refine ⟨_,rfl,?_⟩;replace BK131d_:=A_ (kn_ BK131d_.out nd);replace HBd_:=A_ (pn_ HBd_.out nd);refine hK.out _ _ ⟨kC_ BK131d_ 0,kC_ BK131d_ 1,kC_ BK131d_ 2,kC_ BK131d_ 3⟩ (fun hHeld => ?_);clear hK K;refine nX_ (some 46) ?_
          refine pU_ 29 (some 47) ?_
          refine pU_ 30 (some 48) ?_
          refine pU_ 31 (some 49) ?_
          refine pure_ (i:=32) (N:=some 50) (v:=undef) (a':=?_) #[true,true,true,true,true,true,true,true,true,true,true,true,true,true,true,true,true,true,true,true,true,true,true,true,true,true,true,true,true,true,true,true,true,false,false,false,false] rfl rfl (any_of HT_.out (by kernel_rfl)) (fun _ _ _ h => h) (Or.inr ⟨by rfl,rfl⟩) ?_ ?_;rotate_left
          ·exact ux_
          refine pure_ (i:=33) (N:=some 51) (v:=undef) (a':=?_) #[true,true,true,true,true,true,true,true,true,true,true,true,true,true,true,true,true,true,true,true,true,true,true,true,true,true,true,true,true,true,true,true,true,true,false,false,false] rfl rfl (any_of HT_.out (by kernel_rfl)) (fun _ _ _ h => h) (Or.inr ⟨by rfl,rfl⟩) ?_ ?_;rotate_left
          ·exact ux_
          refine pure_ (i:=34) (N:=some 52) (v:=undef) (a':=?_) #[true,true,true,true,true,true,true,true,true,true,true,true,true,true,true,true,true,true,true,true,true,true,true,true,true,true,true,true,true,true,true,true,true,true,true,false,false] rfl rfl (any_of HT_.out (by kernel_rfl)) (fun _ _ _ h => h) (Or.inr ⟨by rfl,rfl⟩) ?_ ?_;rotate_left
          ·exact ux_
          refine pure_ (i:=35) (N:=some 53) (v:=undef) (a':=?_) #[true,true,true,true,true,true,true,true,true,true,true,true,true,true,true,true,true,true,true,true,true,true,true,true,true,true,true,true,true,true,true,true,true,true,true,true,false] rfl rfl (any_of HT_.out (by kernel_rfl)) (fun _ _ _ h => h) (Or.inr ⟨by rfl,rfl⟩) ?_ ?_;rotate_left
          ·exact ux_
          refine pU_ 36 (some 54) ?_
          refine done_ (done_of HT_.out (by kernel_rfl)) ?_
          try go_wp2
          go_ret;exact ⟨ex_,bq_ HB⟩
        ·replace c39:=Bool.eq_false_iff.mpr c39;subst c39
         have H1 : (some false) = some r:=by rw [if_neg (show ¬ (false = true) by decide)] at H;exact H
         clear H;have H:=H1;clear H1;obtain rfl:=Option.some.inj H;have p130 : 0 ≤ (x3_1 : Int):=oda_;have q130 : x3_1 < (l0.length : Int):=oda_;obtain ⟨ad130,e130,hx130_0,hx130_1,hx130_2,hx130_3⟩:=at_T127 HR0.out x3_1 p130 q130
         cases e130
         replace hx130_0:=(HB.out.cell (wb_ w _ hx130_0)).trans hx130_0;replace hx130_1:=(HB.out.cell (wb_ w _ hx130_1)).trans hx130_1;replace hx130_2:=(HB.out.cell (wb_ w _ hx130_2)).trans hx130_2;replace hx130_3:=(HB.out.cell (wb_ w _ hx130_3)).trans hx130_3;replace p130:=eq_true p130;replace q130:=eq_true q130
         try go_wp2_with (first|((with_reducible refine gate_dst (N:=4) rfl ?_);refine bE_ 4 #[.string (⟨#[]⟩ : ByteArray),.int .i64 0,.int .i64 0,.int .i64 0] 127 ?_;intro gb131 hg w56 hbox hb;have BK131:=A_ (hbox);have GW131:=gE_ hg HB;have GE131:=gE_ hg HB;replace HB:=bS_ HB hb;clear hb hbox hg;obtain ⟨hcz57_0,hcz57_1,hcz57_2,hcz57_3,hfz57_0,hfz57_1,hfz57_2,hfz57_3⟩:=k4f_ BK131))
         have n0_ : Aside0 (((((w56.setCell ⟨gb131,0,none⟩ (.string ((rd_T127 l0 x3_1).f0))).setCell ⟨gb131,1,none⟩ (.int .i64 ((rd_T127 l0 x3_1).f1))).setCell ⟨gb131,2,none⟩ (.int .i64 ((rd_T127 l0 x3_1).f2))).setCell ⟨gb131,3,none⟩ (.int .i64 ((rd_T127 l0 x3_1).f3))).heap[gb131]? = some (.cells #[.string ((rd_T127 l0 x3_1).f0),.int .i64 ((rd_T127 l0 x3_1).f1),.int .i64 ((rd_T127 l0 x3_1).f2),.int .i64 ((rd_T127 l0 x3_1).f3)] 127 (0,0))):=⟨kz_ BK131⟩;have n1_ : Aside0 (Below w.heap.size w ((((w56.setCell ⟨gb131,0,none⟩ (.string ((rd_T127 l0 x3_1).f0))).setCell ⟨gb131,1,none⟩ (.int .i64 ((rd_T127 l0 x3_1).f1))).setCell ⟨gb131,2,none⟩ (.int .i64 ((rd_T127 l0 x3_1).f2))).setCell ⟨gb131,3,none⟩ (.int .i64 ((rd_T127 l0 x3_1).f3)))):=⟨bq_ HB⟩
         (try clear BK131)
         (try clear HB)
         generalize ((((w56.setCell ⟨gb131,0,none⟩ (.string ((rd_T127 l0 x3_1).f0))).setCell ⟨gb131,1,none⟩ (.int .i64 ((rd_T127 l0 x3_1).f1))).setCell ⟨gb131,2,none⟩ (.int .i64 ((rd_T127 l0 x3_1).f2))).setCell ⟨gb131,3,none⟩ (.int .i64 ((rd_T127 l0 x3_1).f3))) = w58 at n0_ n1_ ⊢;have BK131:=n0_;have HB:=n1_;clear n0_ n1_;replace BK131:=A_ (kd_ BK131.out);replace HB:=A_ (pd_ HB.out);refine start_ (n:=37) (S:=fun w' => w'.cell? ⟨gb131,0,none⟩ = some (.string ((rd_T127 l0 x3_1).f0)) ∧ w'.cell? ⟨gb131,1,none⟩ = some (.int .i64 ((rd_T127 l0 x3_1).f1)) ∧ w'.cell? ⟨gb131,2,none⟩ = some (.int .i64 ((rd_T127 l0 x3_1).f2)) ∧ w'.cell? ⟨gb131,3,none⟩ = some (.int .i64 ((rd_T127 l0 x3_1).f3))) (ds:=[]) #[false,false,false,false,false,false,false,false,false,false,false,false,false,false,false,false,false,false,false,false,false,false,false,false,false,false,false,false,false,false,false,false,false,false,false,false,false] (by kernel_rfl) rfl rfl ⟨kC_ BK131 0,kC_ BK131 1,kC_ BK131 2,kC_ BK131 3⟩ (fun hHeld => ?_);refine with_tabW spec_DirOk.tab7 spec_DirOk.bits7 (fun HT_ HW_ => ?_);generalize w58.drew = w59 at BK131 HB hHeld ⊢;refine pU_ 0 (some 18) ?_
         refine tK_ 1 (some 19) hHeld ?_
         refine oN_ 2 (some 20) (fun K hK => ?_);refine gs_ Try.func158 #[.string ((rd_T127 l0 x3_1).f0)] ?_;with_reducible refine (spec_l05Key.calls ((rd_T127 l0 x3_1).f0) true _ A5.out).mono ?_;rintro e w' ⟨rfl,⟨nd,rfl⟩⟩;refine ⟨_,rfl,?_⟩;have BK131d_:=A_ (kn_ BK131.out nd);have HBd_:=A_ (pn_ HB.out nd);refine hK.out _ _ ⟨kC_ BK131d_ 0,kC_ BK131d_ 1,kC_ BK131d_ 2,kC_ BK131d_ 3⟩ (fun hHeld => ?_);clear hK K;refine nX_ (some 20) ?_
         refine pU_ 3 (some 21) ?_
         refine pU_ 4 (some 22) ?_
         refine pU_ 5 (some 23) ?_
         refine pU_ 6 (some 24) ?_
         refine pU_ 7 (some 25) ?_
         refine pure_ (i:=8) (N:=some 26) (v:=undef) (a':=?_) #[true,true,true,true,true,true,true,true,true,false,false,false,false,false,false,false,false,false,false,false,false,false,false,false,false,false,false,false,false,false,false,false,false,false,false,false,false] rfl rfl (any_of HT_.out (by kernel_rfl)) (fun _ _ _ h => h) (Or.inr ⟨by rfl,rfl⟩) ?_ ?_;rotate_left
         ·exact ux_
         refine pure_ (i:=9) (N:=some 27) (v:=undef) (a':=?_) #[true,true,true,true,true,true,true,true,true,true,false,false,false,false,false,false,false,false,false,false,false,false,false,false,false,false,false,false,false,false,false,false,false,false,false,false,false] rfl rfl (any_of HT_.out (by kernel_rfl)) (fun _ _ _ h => h) (Or.inr ⟨by rfl,rfl⟩) ?_ ?_;rotate_left
         ·exact ux_
         refine pure_ (i:=10) (N:=some 28) (v:=undef) (a':=?_) #[true,true,true,true,true,true,true,true,true,true,true,false,false,false,false,false,false,false,false,false,false,false,false,false,false,false,false,false,false,false,false,false,false,false,false,false,false] rfl rfl (any_of HT_.out (by kernel_rfl)) (fun _ _ _ h => h) (Or.inr ⟨by rfl,rfl⟩) ?_ ?_;rotate_left
         ·exact ux_
         refine pure_ (i:=11) (N:=some 29) (v:=undef) (a':=?_) #[true,true,true,true,true,true,true,true,true,true,true,true,false,false,false,false,false,false,false,false,false,false,false,false,false,false,false,false,false,false,false,false,false,false,false,false,false] rfl rfl (any_of HT_.out (by kernel_rfl)) (fun _ _ _ h => h) (Or.inr ⟨by rfl,rfl⟩) ?_ ?_;rotate_left
         ·exact ux_
         refine pure_ (i:=12) (N:=some 30) (v:=undef) (a':=?_) #[true,true,true,true,true,true,true,true,true,true,true,true,true,false,false,false,false,false,false,false,false,false,false,false,false,false,false,false,false,false,false,false,false,false,false,false,false] rfl rfl (any_of HT_.out (by kernel_rfl)) (fun _ _ _ h => h) (Or.inr ⟨by rfl,rfl⟩) ?_ ?_;rotate_left
         ·exact ux_
         refine pure_ (i:=13) (N:=some 31) (v:=undef) (a':=?_) #[true,true,true,true,true,true,true,true,true,true,true,true,true,true,false,false,false,false,false,false,false,false,false,false,false,false,false,false,false,false,false,false,false,false,false,false,false] rfl rfl (any_of HT_.out (by kernel_rfl)) (fun _ _ _ h => h) (Or.inr ⟨by rfl,rfl⟩) ?_ ?_;rotate_left
         ·exact ux_
         refine pure_ (i:=14) (N:=some 32) (v:=undef) (a':=?_) #[true,true,true,true,true,true,true,true,true,true,true,true,true,true,true,false,false,false,false,false,false,false,false,false,false,false,false,false,false,false,false,false,false,false,false,false,false] rfl rfl (any_of HT_.out (by kernel_rfl)) (fun _ _ _ h => h) (Or.inr ⟨by rfl,rfl⟩) ?_ ?_;rotate_left
         ·exact ux_
         refine pure_ (i:=15) (N:=some 33) (v:=undef) (a':=?_) #[true,true,true,true,true,true,true,true,true,true,true,true,true,true,true,true,false,false,false,false,false,false,false,false,false,false,false,false,false,false,false,false,false,false,false,false,false] rfl rfl (any_of HT_.out (by kernel_rfl)) (fun _ _ _ h => h) (Or.inr ⟨by rfl,rfl⟩) ?_ ?_;rotate_left
         ·exact ux_
         refine pure_ (i:=16) (N:=some 34) (v:=undef) (a':=?_) #[true,true,true,true,true,true,true,true,true,true,true,true,true,true,true,true,true,false,false,false,false,false,false,false,false,false,false,false,false,false,false,false,false,false,false,false,false] rfl rfl (any_of HT_.out (by kernel_rfl)) (fun _ _ _ h => h) (Or.inr ⟨by rfl,rfl⟩) ?_ ?_;rotate_left
         ·exact ux_
         refine pU_ 17 (some 35) ?_
         refine pU_ 18 (some 36) ?_
         refine pU_ 19 (some 37) ?_
         refine pU_ 20 (some 38) ?_
         refine tK_ 21 (some 39) hHeld ?_
         refine oN_ 22 (some 40) (fun K hK => ?_);refine gs_ Try.func78 #[.int .i64 ((rd_T127 l0 x3_1).f1),.int .i64 0,.int .i64 999] ?_;with_reducible refine (spec_l01In.calls ((rd_T127 l0 x3_1).f1) 0 999 false _ A38.out).mono ?_;rintro e w' ⟨rfl,⟨nd,rfl⟩⟩;refine ⟨_,rfl,?_⟩;replace BK131d_:=A_ (kn_ BK131d_.out nd);replace HBd_:=A_ (pn_ HBd_.out nd);refine hK.out _ _ ⟨kC_ BK131d_ 0,kC_ BK131d_ 1,kC_ BK131d_ 2,kC_ BK131d_ 3⟩ (fun hHeld => ?_);clear hK K;refine nX_ (some 40) ?_
         refine pU_ 23 (some 41) ?_
         refine pU_ 24 (some 42) ?_
         refine pU_ 25 (some 43) ?_
         refine pure_ (i:=26) (N:=some 44) (v:=undef) (a':=?_) #[true,true,true,true,true,true,true,true,true,true,true,true,true,true,true,true,true,true,true,true,true,true,true,true,true,true,true,false,false,false,false,false,false,false,false,false,false] rfl rfl (any_of HT_.out (by kernel_rfl)) (fun _ _ _ h => h) (Or.inr ⟨by rfl,rfl⟩) ?_ ?_;rotate_left
         ·exact ux_
         refine pure_ (i:=27) (N:=some 45) (v:=undef) (a':=?_) #[true,true,true,true,true,true,true,true,true,true,true,true,true,true,true,true,true,true,true,true,true,true,true,true,true,true,true,true,false,false,false,false,false,false,false,false,false] rfl rfl (any_of HT_.out (by kernel_rfl)) (fun _ _ _ h => h) (Or.inr ⟨by rfl,rfl⟩) ?_ ?_;rotate_left
         ·exact ux_
         refine pure_ (i:=28) (N:=some 46) (v:=undef) (a':=?_) #[true,true,true,true,true,true,true,true,true,true,true,true,true,true,true,true,true,true,true,true,true,true,true,true,true,true,true,true,true,false,false,false,false,false,false,false,false] rfl rfl (any_of HT_.out (by kernel_rfl)) (fun _ _ _ h => h) (Or.inr ⟨by rfl,rfl⟩) ?_ ?_;rotate_left
         ·exact ux_
         refine pure_ (i:=29) (N:=some 47) (v:=undef) (a':=?_) #[true,true,true,true,true,true,true,true,true,true,true,true,true,true,true,true,true,true,true,true,true,true,true,true,true,true,true,true,true,true,false,false,false,false,false,false,false] rfl rfl (any_of HT_.out (by kernel_rfl)) (fun _ _ _ h => h) (Or.inr ⟨by rfl,rfl⟩) ?_ ?_;rotate_left
         ·exact ux_
         refine pU_ 30 (some 48) ?_
         refine pU_ 31 (some 49) ?_
         refine pure_ (i:=32) (N:=some 50) (v:=undef) (a':=?_) #[true,true,true,true,true,true,true,true,true,true,true,true,true,true,true,true,true,true,true,true,true,true,true,true,true,true,true,true,true,true,true,true,true,false,false,false,false] rfl rfl (any_of HT_.out (by kernel_rfl)) (fun _ _ _ h => h) (Or.inr ⟨by rfl,rfl⟩) ?_ ?_;rotate_left
         ·exact ux_
         refine pure_ (i:=33) (N:=some 51) (v:=undef) (a':=?_) #[true,true,true,true,true,true,true,true,true,true,true,true,true,true,true,true,true,true,true,true,true,true,true,true,true,true,true,true,true,true,true,true,true,true,false,false,false] rfl rfl (any_of HT_.out (by kernel_rfl)) (fun _ _ _ h => h) (Or.inr ⟨by rfl,rfl⟩) ?_ ?_;rotate_left
         ·exact ux_
         refine pure_ (i:=34) (N:=some 52) (v:=undef) (a':=?_) #[true,true,true,true,true,true,true,true,true,true,true,true,true,true,true,true,true,true,true,true,true,true,true,true,true,true,true,true,true,true,true,true,true,true,true,false,false] rfl rfl (any_of HT_.out (by kernel_rfl)) (fun _ _ _ h => h) (Or.inr ⟨by rfl,rfl⟩) ?_ ?_;rotate_left
         ·exact ux_
         refine pure_ (i:=35) (N:=some 53) (v:=undef) (a':=?_) #[true,true,true,true,true,true,true,true,true,true,true,true,true,true,true,true,true,true,true,true,true,true,true,true,true,true,true,true,true,true,true,true,true,true,true,true,false] rfl rfl (any_of HT_.out (by kernel_rfl)) (fun _ _ _ h => h) (Or.inr ⟨by rfl,rfl⟩) ?_ ?_;rotate_left
         ·exact ux_
         refine pU_ 36 (some 54) ?_
         refine done_ (done_of HT_.out (by kernel_rfl)) ?_
         try go_wp2
         go_ret;exact ⟨ex_,bq_ HB⟩
      ·replace c6:=Bool.eq_false_iff.mpr c6;subst c6
       have H1 : (some false) = some r:=by rw [if_neg (show ¬ (false = true) by decide)] at H;exact H
       clear H;have H:=H1;clear H1;obtain rfl:=Option.some.inj H;have p130 : 0 ≤ (x3_1 : Int):=oda_;have q130 : x3_1 < (l0.length : Int):=oda_;obtain ⟨ad130,e130,hx130_0,hx130_1,hx130_2,hx130_3⟩:=at_T127 HR0.out x3_1 p130 q130
       cases e130
       replace hx130_0:=(HB.out.cell (wb_ w _ hx130_0)).trans hx130_0;replace hx130_1:=(HB.out.cell (wb_ w _ hx130_1)).trans hx130_1;replace hx130_2:=(HB.out.cell (wb_ w _ hx130_2)).trans hx130_2;replace hx130_3:=(HB.out.cell (wb_ w _ hx130_3)).trans hx130_3;replace p130:=eq_true p130;replace q130:=eq_true q130
       try go_wp2_with (first|((with_reducible refine gate_dst (N:=4) rfl ?_);refine bE_ 4 #[.string (⟨#[]⟩ : ByteArray),.int .i64 0,.int .i64 0,.int .i64 0] 127 ?_;intro gb131 hg w60 hbox hb;have BK131:=A_ (hbox);have GW131:=gE_ hg HB;have GE131:=gE_ hg HB;replace HB:=bS_ HB hb;clear hb hbox hg;obtain ⟨hcz61_0,hcz61_1,hcz61_2,hcz61_3,hfz61_0,hfz61_1,hfz61_2,hfz61_3⟩:=k4f_ BK131))
       have n0_ : Aside0 (((((w60.setCell ⟨gb131,0,none⟩ (.string ((rd_T127 l0 x3_1).f0))).setCell ⟨gb131,1,none⟩ (.int .i64 ((rd_T127 l0 x3_1).f1))).setCell ⟨gb131,2,none⟩ (.int .i64 ((rd_T127 l0 x3_1).f2))).setCell ⟨gb131,3,none⟩ (.int .i64 ((rd_T127 l0 x3_1).f3))).heap[gb131]? = some (.cells #[.string ((rd_T127 l0 x3_1).f0),.int .i64 ((rd_T127 l0 x3_1).f1),.int .i64 ((rd_T127 l0 x3_1).f2),.int .i64 ((rd_T127 l0 x3_1).f3)] 127 (0,0))):=⟨kz_ BK131⟩;have n1_ : Aside0 (Below w.heap.size w ((((w60.setCell ⟨gb131,0,none⟩ (.string ((rd_T127 l0 x3_1).f0))).setCell ⟨gb131,1,none⟩ (.int .i64 ((rd_T127 l0 x3_1).f1))).setCell ⟨gb131,2,none⟩ (.int .i64 ((rd_T127 l0 x3_1).f2))).setCell ⟨gb131,3,none⟩ (.int .i64 ((rd_T127 l0 x3_1).f3)))):=⟨bq_ HB⟩
       (try clear BK131)
       (try clear HB)
       generalize ((((w60.setCell ⟨gb131,0,none⟩ (.string ((rd_T127 l0 x3_1).f0))).setCell ⟨gb131,1,none⟩ (.int .i64 ((rd_T127 l0 x3_1).f1))).setCell ⟨gb131,2,none⟩ (.int .i64 ((rd_T127 l0 x3_1).f2))).setCell ⟨gb131,3,none⟩ (.int .i64 ((rd_T127 l0 x3_1).f3))) = w62 at n0_ n1_ ⊢;have BK131:=n0_;have HB:=n1_;clear n0_ n1_;replace BK131:=A_ (kd_ BK131.out);replace HB:=A_ (pd_ HB.out);refine start_ (n:=37) (S:=fun w' => w'.cell? ⟨gb131,0,none⟩ = some (.string ((rd_T127 l0 x3_1).f0)) ∧ w'.cell? ⟨gb131,1,none⟩ = some (.int .i64 ((rd_T127 l0 x3_1).f1)) ∧ w'.cell? ⟨gb131,2,none⟩ = some (.int .i64 ((rd_T127 l0 x3_1).f2)) ∧ w'.cell? ⟨gb131,3,none⟩ = some (.int .i64 ((rd_T127 l0 x3_1).f3))) (ds:=[]) #[false,false,false,false,false,false,false,false,false,false,false,false,false,false,false,false,false,false,false,false,false,false,false,false,false,false,false,false,false,false,false,false,false,false,false,false,false] (by kernel_rfl) rfl rfl ⟨kC_ BK131 0,kC_ BK131 1,kC_ BK131 2,kC_ BK131 3⟩ (fun hHeld => ?_);refine with_tabW spec_DirOk.tab7 spec_DirOk.bits7 (fun HT_ HW_ => ?_);generalize w62.drew = w63 at BK131 HB hHeld ⊢;refine pU_ 0 (some 18) ?_
       refine tK_ 1 (some 19) hHeld ?_
       refine oN_ 2 (some 20) (fun K hK => ?_);refine gs_ Try.func158 #[.string ((rd_T127 l0 x3_1).f0)] ?_;with_reducible refine (spec_l05Key.calls ((rd_T127 l0 x3_1).f0) false _ A5.out).mono ?_;rintro e w' ⟨rfl,⟨nd,rfl⟩⟩;refine ⟨_,rfl,?_⟩;have BK131d_:=A_ (kn_ BK131.out nd);have HBd_:=A_ (pn_ HB.out nd);refine hK.out _ _ ⟨kC_ BK131d_ 0,kC_ BK131d_ 1,kC_ BK131d_ 2,kC_ BK131d_ 3⟩ (fun hHeld => ?_);clear hK K;refine nX_ (some 20) ?_
       refine pU_ 3 (some 21) ?_
       refine pU_ 4 (some 22) ?_
       refine pure_ (i:=5) (N:=some 23) (v:=undef) (a':=?_) #[true,true,true,true,true,true,false,false,false,false,false,false,false,false,false,false,false,false,false,false,false,false,false,false,false,false,false,false,false,false,false,false,false,false,false,false,false] rfl rfl (any_of HT_.out (by kernel_rfl)) (fun _ _ _ h => h) (Or.inr ⟨by rfl,rfl⟩) ?_ ?_;rotate_left
       ·exact ux_
       refine pure_ (i:=6) (N:=some 24) (v:=undef) (a':=?_) #[true,true,true,true,true,true,true,false,false,false,false,false,false,false,false,false,false,false,false,false,false,false,false,false,false,false,false,false,false,false,false,false,false,false,false,false,false] rfl rfl (any_of HT_.out (by kernel_rfl)) (fun _ _ _ h => h) (Or.inr ⟨by rfl,rfl⟩) ?_ ?_;rotate_left
       ·exact ux_
       refine pure_ (i:=7) (N:=some 25) (v:=undef) (a':=?_) #[true,true,true,true,true,true,true,true,false,false,false,false,false,false,false,false,false,false,false,false,false,false,false,false,false,false,false,false,false,false,false,false,false,false,false,false,false] rfl rfl (any_of HT_.out (by kernel_rfl)) (fun _ _ _ h => h) (Or.inr ⟨by rfl,rfl⟩) ?_ ?_;rotate_left
       ·exact ux_
       refine pure_ (i:=8) (N:=some 26) (v:=undef) (a':=?_) #[true,true,true,true,true,true,true,true,true,false,false,false,false,false,false,false,false,false,false,false,false,false,false,false,false,false,false,false,false,false,false,false,false,false,false,false,false] rfl rfl (any_of HT_.out (by kernel_rfl)) (fun _ _ _ h => h) (Or.inr ⟨by rfl,rfl⟩) ?_ ?_;rotate_left
       ·exact ux_
       refine pure_ (i:=9) (N:=some 27) (v:=undef) (a':=?_) #[true,true,true,true,true,true,true,true,true,true,false,false,false,false,false,false,false,false,false,false,false,false,false,false,false,false,false,false,false,false,false,false,false,false,false,false,false] rfl rfl (any_of HT_.out (by kernel_rfl)) (fun _ _ _ h => h) (Or.inr ⟨by rfl,rfl⟩) ?_ ?_;rotate_left
       ·exact ux_
       refine pure_ (i:=10) (N:=some 28) (v:=undef) (a':=?_) #[true,true,true,true,true,true,true,true,true,true,true,false,false,false,false,false,false,false,false,false,false,false,false,false,false,false,false,false,false,false,false,false,false,false,false,false,false] rfl rfl (any_of HT_.out (by kernel_rfl)) (fun _ _ _ h => h) (Or.inr ⟨by rfl,rfl⟩) ?_ ?_;rotate_left
       ·exact ux_
       refine pure_ (i:=11) (N:=some 29) (v:=undef) (a':=?_) #[true,true,true,true,true,true,true,true,true,true,true,true,false,false,false,false,false,false,false,false,false,false,false,false,false,false,false,false,false,false,false,false,false,false,false,false,false] rfl rfl (any_of HT_.out (by kernel_rfl)) (fun _ _ _ h => h) (Or.inr ⟨by rfl,rfl⟩) ?_ ?_;rotate_left
       ·exact ux_
       refine pure_ (i:=12) (N:=some 30) (v:=undef) (a':=?_) #[true,true,true,true,true,true,true,true,true,true,true,true,true,false,false,false,false,false,false,false,false,false,false,false,false,false,false,false,false,false,false,false,false,false,false,false,false] rfl rfl (any_of HT_.out (by kernel_rfl)) (fun _ _ _ h => h) (Or.inr ⟨by rfl,rfl⟩) ?_ ?_;rotate_left
       ·exact ux_
       refine pure_ (i:=13) (N:=some 31) (v:=undef) (a':=?_) #[true,true,true,true,true,true,true,true,true,true,true,true,true,true,false,false,false,false,false,false,false,false,false,false,false,false,false,false,false,false,false,false,false,false,false,false,false] rfl rfl (any_of HT_.out (by kernel_rfl)) (fun _ _ _ h => h) (Or.inr ⟨by rfl,rfl⟩) ?_ ?_;rotate_left
       ·exact ux_
       refine pure_ (i:=14) (N:=some 32) (v:=undef) (a':=?_) #[true,true,true,true,true,true,true,true,true,true,true,true,true,true,true,false,false,false,false,false,false,false,false,false,false,false,false,false,false,false,false,false,false,false,false,false,false] rfl rfl (any_of HT_.out (by kernel_rfl)) (fun _ _ _ h => h) (Or.inr ⟨by rfl,rfl⟩) ?_ ?_;rotate_left
       ·exact ux_
       refine pure_ (i:=15) (N:=some 33) (v:=undef) (a':=?_) #[true,true,true,true,true,true,true,true,true,true,true,true,true,true,true,true,false,false,false,false,false,false,false,false,false,false,false,false,false,false,false,false,false,false,false,false,false] rfl rfl (any_of HT_.out (by kernel_rfl)) (fun _ _ _ h => h) (Or.inr ⟨by rfl,rfl⟩) ?_ ?_;rotate_left
       ·exact ux_
       refine pure_ (i:=16) (N:=some 34) (v:=undef) (a':=?_) #[true,true,true,true,true,true,true,true,true,true,true,true,true,true,true,true,true,false,false,false,false,false,false,false,false,false,false,false,false,false,false,false,false,false,false,false,false] rfl rfl (any_of HT_.out (by kernel_rfl)) (fun _ _ _ h => h) (Or.inr ⟨by rfl,rfl⟩) ?_ ?_;rotate_left
       ·exact ux_
       refine pure_ (i:=17) (N:=some 35) (v:=undef) (a':=?_) #[true,true,true,true,true,true,true,true,true,true,true,true,true,true,true,true,true,true,false,false,false,false,false,false,false,false,false,false,false,false,false,false,false,false,false,false,false] rfl rfl (any_of HT_.out (by kernel_rfl)) (fun _ _ _ h => h) (Or.inr ⟨by rfl,rfl⟩) ?_ ?_;rotate_left
       ·exact ux_
       refine pU_ 18 (some 36) ?_
       refine pU_ 19 (some 37) ?_
       refine pure_ (i:=20) (N:=some 38) (v:=undef) (a':=?_) #[true,true,true,true,true,true,true,true,true,true,true,true,true,true,true,true,true,true,true,true,true,false,false,false,false,false,false,false,false,false,false,false,false,false,false,false,false] rfl rfl (any_of HT_.out (by kernel_rfl)) (fun _ _ _ h => h) (Or.inr ⟨by rfl,rfl⟩) ?_ ?_;rotate_left
       ·exact ux_
       refine pure_ (i:=21) (N:=some 39) (v:=undef) (a':=?_) #[true,true,true,true,true,true,true,true,true,true,true,true,true,true,true,true,true,true,true,true,true,true,false,false,false,false,false,false,false,false,false,false,false,false,false,false,false] rfl rfl (any_of HT_.out (by kernel_rfl)) (fun _ _ _ h => h) (Or.inr ⟨by rfl,rfl⟩) ?_ ?_;rotate_left
       ·exact ux_
       refine pure_ (i:=22) (N:=some 40) (v:=undef) (a':=?_) #[true,true,true,true,true,true,true,true,true,true,true,true,true,true,true,true,true,true,true,true,true,true,true,false,false,false,false,false,false,false,false,false,false,false,false,false,false] rfl rfl (any_of HT_.out (by kernel_rfl)) (fun _ _ _ h => h) (Or.inr ⟨by rfl,rfl⟩) ?_ ?_;rotate_left
       ·exact ux_
       refine pure_ (i:=23) (N:=some 41) (v:=undef) (a':=?_) #[true,true,true,true,true,true,true,true,true,true,true,true,true,true,true,true,true,true,true,true,true,true,true,true,false,false,false,false,false,false,false,false,false,false,false,false,false] rfl rfl (any_of HT_.out (by kernel_rfl)) (fun _ _ _ h => h) (Or.inr ⟨by rfl,rfl⟩) ?_ ?_;rotate_left
       ·exact ux_
       refine pU_ 24 (some 42) ?_
       refine pU_ 25 (some 43) ?_
       refine pure_ (i:=26) (N:=some 44) (v:=undef) (a':=?_) #[true,true,true,true,true,true,true,true,true,true,true,true,true,true,true,true,true,true,true,true,true,true,true,true,true,true,true,false,false,false,false,false,false,false,false,false,false] rfl rfl (any_of HT_.out (by kernel_rfl)) (fun _ _ _ h => h) (Or.inr ⟨by rfl,rfl⟩) ?_ ?_;rotate_left
       ·exact ux_
       refine pure_ (i:=27) (N:=some 45) (v:=undef) (a':=?_) #[true,true,true,true,true,true,true,true,true,true,true,true,true,true,true,true,true,true,true,true,true,true,true,true,true,true,true,true,false,false,false,false,false,false,false,false,false] rfl rfl (any_of HT_.out (by kernel_rfl)) (fun _ _ _ h => h) (Or.inr ⟨by rfl,rfl⟩) ?_ ?_;rotate_left
       ·exact ux_
       refine pure_ (i:=28) (N:=some 46) (v:=undef) (a':=?_) #[true,true,true,true,true,true,true,true,true,true,true,true,true,true,true,true,true,true,true,true,true,true,true,true,true,true,true,true,true,false,false,false,false,false,false,false,false] rfl rfl (any_of HT_.out (by kernel_rfl)) (fun _ _ _ h => h) (Or.inr ⟨by rfl,rfl⟩) ?_ ?_;rotate_left
       ·exact ux_
       refine pure_ (i:=29) (N:=some 47) (v:=undef) (a':=?_) #[true,true,true,true,true,true,true,true,true,true,true,true,true,true,true,true,true,true,true,true,true,true,true,true,true,true,true,true,true,true,false,false,false,false,false,false,false] rfl rfl (any_of HT_.out (by kernel_rfl)) (fun _ _ _ h => h) (Or.inr ⟨by rfl,rfl⟩) ?_ ?_;rotate_left
       ·exact ux_
       refine pU_ 30 (some 48) ?_
       refine pU_ 31 (some 49) ?_
       refine pure_ (i:=32) (N:=some 50) (v:=undef) (a':=?_) #[true,true,true,true,true,true,true,true,true,true,true,true,true,true,true,true,true,true,true,true,true,true,true,true,true,true,true,true,true,true,true,true,true,false,false,false,false] rfl rfl (any_of HT_.out (by kernel_rfl)) (fun _ _ _ h => h) (Or.inr ⟨by rfl,rfl⟩) ?_ ?_;rotate_left
       ·exact ux_
       refine pure_ (i:=33) (N:=some 51) (v:=undef) (a':=?_) #[true,true,true,true,true,true,true,true,true,true,true,true,true,true,true,true,true,true,true,true,true,true,true,true,true,true,true,true,true,true,true,true,true,true,false,false,false] rfl rfl (any_of HT_.out (by kernel_rfl)) (fun _ _ _ h => h) (Or.inr ⟨by rfl,rfl⟩) ?_ ?_;rotate_left
       ·exact ux_
       refine pure_ (i:=34) (N:=some 52) (v:=undef) (a':=?_) #[true,true,true,true,true,true,true,true,true,true,true,true,true,true,true,true,true,true,true,true,true,true,true,true,true,true,true,true,true,true,true,true,true,true,true,false,false] rfl rfl (any_of HT_.out (by kernel_rfl)) (fun _ _ _ h => h) (Or.inr ⟨by rfl,rfl⟩) ?_ ?_;rotate_left
       ·exact ux_
       refine pure_ (i:=35) (N:=some 53) (v:=undef) (a':=?_) #[true,true,true,true,true,true,true,true,true,true,true,true,true,true,true,true,true,true,true,true,true,true,true,true,true,true,true,true,true,true,true,true,true,true,true,true,false] rfl rfl (any_of HT_.out (by kernel_rfl)) (fun _ _ _ h => h) (Or.inr ⟨by rfl,rfl⟩) ?_ ?_;rotate_left
       ·exact ux_
       refine pU_ 36 (some 54) ?_
       refine done_ (done_of HT_.out (by kernel_rfl)) ?_
       try go_wp2
       go_ret;exact ⟨ex_,bq_ HB⟩
     ·rw [if_neg c4] at H;exact absurd H (by simp)
    ·rw [if_neg c3] at H;have c3b0 : decide (x3_1 < (l0.length : Int)) = false:=decide_eq_false c3;clear c3;obtain rfl:=Option.some.inj H;go_wp2;go_ret;exact ⟨ex_,bq_ HB⟩
end Go.Proofs.Ytgpafelepkhdoaa.PFnExactReadHint
