/- The contracts of the Go functions that this law reaches: what each call returns, by a plain Lean function of its arguments. No conditions but those each contract names. By the kit's print.py, run by this session's wip/gen/pp.py with facts and hand proofs beside it: not to the letter what print.sh prints. -/
import Derived.Test.YtbcgnncbiblibaaPFnExactDecodex0
import Derived.Test.YtbcgnncbiblibaaPFnExactDecodex1
namespace Go.Proofs.Ytbcgnncbiblibaa.PFnExactDecode
open Go.RowKit Go.Proofs.YtbcgnncbiblibaaW.PrintWords Go.Proofs.YtbcgnncbiblibaaW.PrintLast Go.Proofs.YtbcgnncbiblibaaW.PrintMore
attribute [local go_sem] max2_int min2_int max_two min_two max_three min_three max_four min_four
set_option linter.unusedVariables false
set_option linter.unusedSimpArgs false
def spec_l05Var.f (k : Nat) (s0_0 : ByteArray) (s0_1 : Int) (s0_2 : Bool) : Option (Int × ByteArray × Int × Bool) := (spec_ReadVar.f k s0_0 s0_1).bind fun bt112 => (if s0_2 = true then (some (0, s0_0, s0_1, true)) else (if bt112.2.2 = true then (some (bt112.1, s0_0, bt112.2.1, s0_2)) else (some (0, s0_0, s0_1, true))))
theorem spec_l05Var.mono : ∀ a0 a1 a2 k, LeO (spec_l05Var.f k a0 a1 a2) (spec_l05Var.f (k + 1) a0 a1 a2) := by
 intro a0 a1 a2 k
 unfold spec_l05Var.f
 repeat' first
   | (with_reducible exact spec_ReadVar.mono _ _ _)
   | (with_reducible exact LeO.refl _)
   | (with_reducible exact LeO.none _)
   | (with_reducible refine LeO.ite ?_ ?_)
   | (with_reducible refine LeO.bind ?_ (fun _ => ?_))
def spec_l05Var.T1 : Bool × List (List Nat × List Nat) := (true, [([], []), ([0], [0]), ([1], [1]), ([2], [2]), ([], []), ([4], [4]), ([5], [5]), ([6], [6]), ([3, 7], [3, 7]), ([8], [8]), ([9], [9]), ([9], [9]), ([9], [9]), ([10, 8, 0, 1, 2, 3, 4, 5, 6, 7, 8, 9, 10], [10]), ([11, 13, 0, 1, 2, 3, 4, 5, 6, 7, 8, 9, 10, 11, 13], [11]), ([12, 14, 0, 1, 2, 3, 4, 5, 6, 7, 8, 9, 10, 11, 12, 13, 14], [12])])
def spec_l05Var.B1 : List Nat := [0, 1, 3, 7, 0, 16, 48, 112, 255, 511, 1023, 1023, 1023, 2047, 12287, 32767]
theorem spec_l05Var.tab1 : rtab .any (opsOf Try.f61 1) = spec_l05Var.T1 := by kernel_rfl
theorem spec_l05Var.bits1 : waitsOk spec_l05Var.T1.2 spec_l05Var.B1 = true := by kernel_rfl
set_option maxHeartbeats 8000000 in
set_option maxRecDepth 100000 in
theorem spec_l05Var.calls (k : Nat) (g : Nat) (s0_0 : ByteArray) (s0_1 : Int) (s0_2 : Bool) (r1 : Int) (r2 : ByteArray) (r3 : Int) (r4 : Bool) (w0 w : World) (hI : IsS98 w0 w g s0_0 s0_1 s0_2) (hB : Below w0.heap.size w0 w) (h : spec_l05Var.f k s0_0 s0_1 s0_2 = some (r1, r2, r3, r4)) :
  Calls Try.prog 61 #[.pointer (some ⟨g,0,none⟩)] w fun e w' => e = .returned (.int .i64 r1) ∧ IsS98 w0 w' g r2 r3 r4 ∧ Below w0.heap.size w0 w' ∧ KeepBut w w' g none:=by
 have HI0:=A_ hI;have HK:=A_ (KeepBut.refl w g none);have HL:=A_ hB.size;clear hI;have HW0:=A_ hB.size;have HB:=A_ hB;clear hB;unfold spec_l05Var.f at h;have H:=h;clear h;replace H:=ob_.mp H;obtain ⟨⟨t112,t113,t114⟩,A20,H⟩:=H;(try dsimp only at H);have A2:=A_ A20;clear A20
 by_cases c3 : s0_2 = true
 ·subst c3
  rw [if_pos rfl] at H;simp only [Option.some.injEq,Prod.mk.injEq] at H;obtain ⟨rfl,rfl,rfl,rfl⟩:=H;go_enter Try.func61,Try.ntmps61
  try go_wp2
  replace HI0:=A_ (IsS98.drew HI0.out);replace HK:=A_ (keep_drew HK.out);replace HB:=A_ (pd_ HB.out);refine start_ (n:=16) (S:=fun w' => w'.cell? ⟨g,0,none⟩ = some (.string s0_0) ∧ w'.cell? ⟨g,1,none⟩ = some (.int .i64 s0_1) ∧ w'.cell? ⟨g,2,none⟩ = some (.bool true)) (ds:=[]) #[false,false,false,false,false,false,false,false,false,false,false,false,false,false,false,false] (by kernel_rfl) rfl rfl ⟨cellS98_0 HI0.out.1,cellS98_1 HI0.out.1,cellS98_2 HI0.out.1⟩ (fun hHeld => ?_);refine with_tabW spec_l05Var.tab1 spec_l05Var.bits1 (fun HT_ HW_ => ?_);generalize w.drew = w4 at HI0 HK HB hHeld ⊢;refine pU_ 0 (some 7) ?_
  refine pU_ 1 (some 8) ?_
  refine pU_ 2 (some 9) ?_
  refine pU_ 4 (some 11) ?_
  refine pU_ 5 (some 12) ?_
  refine pU_ 6 (some 13) ?_
  refine tK_ 3 (some 10) hHeld ?_
  refine tK_ 7 (some 14) hHeld ?_
  refine oN_ 8 (some 15) (fun K hK => ?_);refine gs_ Try.func95 #[.string s0_0,.int .i64 s0_1] ?_;with_reducible refine (spec_ReadVar.calls k s0_0 s0_1 t112 t113 t114 _ A2.out).mono ?_;rintro e w5 ⟨rfl,hb⟩;refine ⟨_,rfl,?_⟩;replace HK:=A_ (KeepBut.trans (hq_ HK) (KeepBut.of_below hb g none) (.inl rfl));replace HB:=A_ (bs_ (bi_ HB (IsS98.ge HI0.out)) hb);replace HI0:=A_ (IsS98.below (iq98_ HI0) hb)
  (try clear hb)
  refine hK.out _ _ ⟨cellS98_0 HI0.out.1,cellS98_1 HI0.out.1,cellS98_2 HI0.out.1⟩ (fun hHeld => ?_);clear hK K;refine nX_ (some 15) ?_
  refine pU_ 9 (some 6) ?_
  refine pU_ 10 (some 16) ?_
  refine pU_ 11 (some 17) ?_
  refine pU_ 12 (some 18) ?_
  refine pU_ 13 (some 3) ?_
  refine pU_ 14 (some 4) ?_
  refine pU_ 15 (some 5) ?_
  refine done_ (done_of HT_.out (by kernel_rfl)) ?_;obtain ⟨HGz6,hgz6⟩:=HI0.out;have hcz6_0:=cellS98_0 HGz6;have hcz6_1:=cellS98_1 HGz6;have hcz6_2:=cellS98_2 HGz6;have hfz6_0:=kf_ HGz6 0;have hfz6_1:=kf_ HGz6 1;have hfz6_2:=kf_ HGz6 2;clear HGz6 hgz6
  try go_wp2
  go_ret;exact ⟨ex_,iq98_ HI0,bi_ HB (IsS98.ge HI0.out),hq_ HK⟩
 ·replace c3:=Bool.eq_false_iff.mpr c3;subst c3
  have H1 : (if t114 = true then (some (t112,s0_0,t113,false)) else (some (0,s0_0,s0_1,true))) = some (r1,r2,r3,r4):=by rw [if_neg (show ¬ (false = true) by decide)] at H;exact H
  clear H;have H:=H1;clear H1
  by_cases c7 : t114 = true
  ·subst c7
   rw [if_pos rfl] at H;simp only [Option.some.injEq,Prod.mk.injEq] at H;obtain ⟨rfl,rfl,rfl,rfl⟩:=H;go_enter Try.func61,Try.ntmps61
   try go_wp2
   replace HI0:=A_ (IsS98.drew HI0.out);replace HK:=A_ (keep_drew HK.out);replace HB:=A_ (pd_ HB.out);refine start_ (n:=16) (S:=fun w' => w'.cell? ⟨g,0,none⟩ = some (.string s0_0) ∧ w'.cell? ⟨g,1,none⟩ = some (.int .i64 s0_1) ∧ w'.cell? ⟨g,2,none⟩ = some (.bool false)) (ds:=[]) #[false,false,false,false,false,false,false,false,false,false,false,false,false,false,false,false] (by kernel_rfl) rfl rfl ⟨cellS98_0 HI0.out.1,cellS98_1 HI0.out.1,cellS98_2 HI0.out.1⟩ (fun hHeld => ?_);refine with_tabW spec_l05Var.tab1 spec_l05Var.bits1 (fun HT_ HW_ => ?_);generalize w.drew = w8 at HI0 HK HB hHeld ⊢;refine pU_ 0 (some 7) ?_
   refine pU_ 1 (some 8) ?_
   refine pU_ 2 (some 9) ?_
   refine pU_ 4 (some 11) ?_
   refine pU_ 5 (some 12) ?_
   refine pU_ 6 (some 13) ?_
   refine tK_ 3 (some 10) hHeld ?_
   refine tK_ 7 (some 14) hHeld ?_
   refine oN_ 8 (some 15) (fun K hK => ?_);refine gs_ Try.func95 #[.string s0_0,.int .i64 s0_1] ?_;with_reducible refine (spec_ReadVar.calls k s0_0 s0_1 t112 t113 true _ A2.out).mono ?_;rintro e w9 ⟨rfl,hb⟩;refine ⟨_,rfl,?_⟩;replace HK:=A_ (KeepBut.trans (hq_ HK) (KeepBut.of_below hb g none) (.inl rfl));replace HB:=A_ (bs_ (bi_ HB (IsS98.ge HI0.out)) hb);replace HI0:=A_ (IsS98.below (iq98_ HI0) hb)
   (try clear hb)
   refine hK.out _ _ ⟨cellS98_0 HI0.out.1,cellS98_1 HI0.out.1,cellS98_2 HI0.out.1⟩ (fun hHeld => ?_);clear hK K;refine nX_ (some 15) ?_
   refine pU_ 9 (some 6) ?_
   refine pU_ 10 (some 16) ?_
   refine pU_ 11 (some 17) ?_
   refine pU_ 12 (some 18) ?_
   refine pU_ 13 (some 3) ?_
   refine pU_ 14 (some 4) ?_
   refine pU_ 15 (some 5) ?_
   refine done_ (done_of HT_.out (by kernel_rfl)) ?_;obtain ⟨HGz10,hgz10⟩:=HI0.out;have hcz10_0:=cellS98_0 HGz10;have hcz10_1:=cellS98_1 HGz10;have hcz10_2:=cellS98_2 HGz10;have hfz10_0:=kf_ HGz10 0;have hfz10_1:=kf_ HGz10 1;have hfz10_2:=kf_ HGz10 2;clear HGz10 hgz10
   try go_wp2
   go_ret;exact ⟨ex_,iq98_ HI0,bi_ HB (IsS98.ge HI0.out),hq_ HK⟩
  ·replace c7:=Bool.eq_false_iff.mpr c7;subst c7
   have H1 : (some (0,s0_0,s0_1,true)) = some (r1,r2,r3,r4):=by rw [if_neg (show ¬ (false = true) by decide)] at H;exact H
   clear H;have H:=H1;clear H1;simp only [Option.some.injEq,Prod.mk.injEq] at H;obtain ⟨rfl,rfl,rfl,rfl⟩:=H;go_enter Try.func61,Try.ntmps61
   try go_wp2
   replace HI0:=A_ (IsS98.drew HI0.out);replace HK:=A_ (keep_drew HK.out);replace HB:=A_ (pd_ HB.out);refine start_ (n:=16) (S:=fun w' => w'.cell? ⟨g,0,none⟩ = some (.string s0_0) ∧ w'.cell? ⟨g,1,none⟩ = some (.int .i64 s0_1) ∧ w'.cell? ⟨g,2,none⟩ = some (.bool false)) (ds:=[]) #[false,false,false,false,false,false,false,false,false,false,false,false,false,false,false,false] (by kernel_rfl) rfl rfl ⟨cellS98_0 HI0.out.1,cellS98_1 HI0.out.1,cellS98_2 HI0.out.1⟩ (fun hHeld => ?_);refine with_tabW spec_l05Var.tab1 spec_l05Var.bits1 (fun HT_ HW_ => ?_);generalize w.drew = w11 at HI0 HK HB hHeld ⊢;refine pU_ 0 (some 7) ?_
   refine pU_ 1 (some 8) ?_
   refine pU_ 2 (some 9) ?_
   refine pU_ 4 (some 11) ?_
   refine pU_ 5 (some 12) ?_
   refine pU_ 6 (some 13) ?_
   refine tK_ 3 (some 10) hHeld ?_
   refine tK_ 7 (some 14) hHeld ?_
   refine oN_ 8 (some 15) (fun K hK => ?_);refine gs_ Try.func95 #[.string s0_0,.int .i64 s0_1] ?_;with_reducible refine (spec_ReadVar.calls k s0_0 s0_1 t112 t113 false _ A2.out).mono ?_;rintro e w12 ⟨rfl,hb⟩;refine ⟨_,rfl,?_⟩;replace HK:=A_ (KeepBut.trans (hq_ HK) (KeepBut.of_below hb g none) (.inl rfl));replace HB:=A_ (bs_ (bi_ HB (IsS98.ge HI0.out)) hb);replace HI0:=A_ (IsS98.below (iq98_ HI0) hb)
   (try clear hb)
   refine hK.out _ _ ⟨cellS98_0 HI0.out.1,cellS98_1 HI0.out.1,cellS98_2 HI0.out.1⟩ (fun hHeld => ?_);clear hK K;refine nX_ (some 15) ?_
   refine pU_ 9 (some 6) ?_
   refine pU_ 10 (some 16) ?_
   refine pU_ 11 (some 17) ?_
   refine pU_ 12 (some 18) ?_
   refine pU_ 13 (some 3) ?_
   refine pU_ 14 (some 4) ?_
   refine pU_ 15 (some 5) ?_
   refine done_ (done_of HT_.out (by kernel_rfl)) ?_;obtain ⟨HGz13,hgz13⟩:=HI0.out;have hcz13_0:=cellS98_0 HGz13;have hcz13_1:=cellS98_1 HGz13;have hcz13_2:=cellS98_2 HGz13;have hfz13_0:=kf_ HGz13 0;have hfz13_1:=kf_ HGz13 1;have hfz13_2:=kf_ HGz13 2;clear HGz13 hgz13
   try go_wp2
   go_ret;exact ⟨ex_,iq98_ HI0,bi_ HB (IsS98.ge HI0.out),hq_ HK⟩
def spec_l07Rise.l0 : Nat → List Int → Int → Int → Int → Option (Bool)
 | 0,_,_,_,_ => none
 | k + 1,x0,x1,x2,x7 => if x7 < (x0.length : Int) then (if 0 ≤ x7 then ((spec_l01In.f (rd x0 x7) x1 x2).bind fun t116 => (if t116 = true then (if x7 > 0 then (if 0 ≤ (wrap64 (x7 - 1)) then (if (wrap64 (x7 - 1)) < (x0.length : Int) then (if (rd x0 (wrap64 (x7 - 1))) ≥ (rd x0 x7) then (some false) else (spec_l07Rise.l0 k x0 x1 x2 (wrap64 (x7 + 1)))) else (none)) else (none)) else (spec_l07Rise.l0 k x0 x1 x2 (wrap64 (x7 + 1)))) else (some false))) else (none)) else (some true)
def spec_l07Rise.f (k : Nat) (l0 : List Int) (a1 : Int) (a2 : Int) : Option (Bool) := spec_l07Rise.l0 k l0 a1 a2 0
theorem spec_l07Rise.mono_l : ∀ k, (∀ y0 y1 y2 y3, LeO (spec_l07Rise.l0 k y0 y1 y2 y3) (spec_l07Rise.l0 (k + 1) y0 y1 y2 y3))
 | 0 => fun _ _ _ _ r h => by simp [spec_l07Rise.l0] at h
 | k + 1 => by
  have ih0:=spec_l07Rise.mono_l k
  ·intro y0 y1 y2 y3
   unfold spec_l07Rise.l0
   repeat' first
   | (with_reducible exact ih0 _ _ _ _)
   | (with_reducible exact LeO.refl _)
   | (with_reducible exact LeO.none _)
   | (with_reducible refine LeO.ite ?_ ?_)
   | (with_reducible refine LeO.bind ?_ (fun _ => ?_))
theorem spec_l07Rise.mono : ∀ a0 a1 a2 k, LeO (spec_l07Rise.f k a0 a1 a2) (spec_l07Rise.f (k + 1) a0 a1 a2) := by
 intro a0 a1 a2 k;have ih0:=spec_l07Rise.mono_l k
 unfold spec_l07Rise.f
 repeat' first
   | (with_reducible exact ih0 _ _ _ _)
   | (with_reducible exact LeO.refl _)
   | (with_reducible exact LeO.none _)
   | (with_reducible refine LeO.ite ?_ ?_)
   | (with_reducible refine LeO.bind ?_ (fun _ => ?_))
set_option maxHeartbeats 8000000 in
set_option maxRecDepth 100000 in
theorem spec_l07Rise.calls (k : Nat) (A0 : Option Addr) (c0 : Nat) (l0 : List Int) (a1 : Int) (a2 : Int) (r : Bool) (w : World) (hr0 : Kd.C (Kd.int .i64) w A0 l0.length l0) (hc0 : l0.length ≤ c0) (h : spec_l07Rise.f k l0 a1 a2 = some r) :
  Calls Try.prog 117 #[.slice A0 l0.length c0,.int .i64 a1,.int .i64 a2] w fun e w' => e = .returned (.bool r) ∧ Drawn0 w w':=by
 have HR0:=A_ hr0;have HC0:=A_ hc0;clear hr0 hc0;unfold spec_l07Rise.f at h;have H:=h;clear h;have H':=A_ H;clear H;go_enter Try.func117,Try.ntmps117;go_wp2
 repeat (go_quiet (fail);try go_wp2)
 go_loopg [7] k (fun kq v7 w' => ∃ (x7_1 : Int),v7 = .int .i64 x7_1 ∧ Aside0 (spec_l07Rise.l0 kq l0 a1 a2 x7_1 = some r) ∧ Aside0 (kq ≤ k) ∧ Drawn0 w w')
 case atStart => exact ⟨(0),(by first|rfl|(simp;done)|(simp [*];done)),H',⟨Nat.le_refl _⟩,by repeat (first|exact Drawn0.refl _|apply Drawn0.step)⟩
 case round =>
  clear H'
  try clear c1
  try clear p2
  obtain ⟨x7_1,rfl,HA,HK1,⟨m1,rfl⟩⟩:=hrel
  cases gk with
  | zero => exact absurd HA.out (by simp [spec_l07Rise.l0])
  | succ k1 =>
   have H:=HA.out;clear HA;simp only [spec_l07Rise.l0] at H
   by_cases c4 : x7_1 < (l0.length : Int)
   ·rw [if_pos c4] at H;have c4b0 : decide (x7_1 < (l0.length : Int)) = true:=de_ c4;clear c4
    by_cases c5 : 0 ≤ x7_1
    ·rw [if_pos c5] at H;have c5b0 : decide (0 ≤ x7_1) = true:=de_ c5;clear c5;replace H:=ob_.mp H;obtain ⟨t116,A60,H⟩:=H;(try dsimp only at H);have A6:=A_ A60;clear A60
     by_cases c7 : t116 = true
     ·subst c7
      rw [if_pos rfl] at H
      by_cases c8 : x7_1 > 0
      ·rw [if_pos c8] at H;have c8b0 : decide (0 < x7_1) = true:=de_ c8;clear c8;obtain ⟨ji9,hji9⟩ : ∃ j_ : Int,(wrap64 (x7_1 - 1)) = j_:=⟨_,rfl⟩
       replace H : (if 0 ≤ (ji9) then (if (ji9) < (l0.length : Int) then (if (rd l0 (ji9)) ≥ (rd l0 x7_1) then (some false) else (spec_l07Rise.l0 k1 l0 a1 a2 (wrap64 (x7_1 + 1)))) else (none)) else (none)) = some r:=by first|(rw [hji9] at H;exact H)|(simp only [hji9] at H ⊢;exact H)
       (try rw [hji9] at A6)
       have hji9w : (IntKind.i64.wrap (x7_1 - 1)) = ji9:=(i64_w _).trans hji9
       by_cases c10 : 0 ≤ (ji9)
       ·rw [if_pos c10] at H;have c10b0 : decide (0 ≤ (ji9)) = true:=de_ c10;clear c10
        by_cases c11 : (ji9) < (l0.length : Int)
        ·rw [if_pos c11] at H;have c11b0 : decide ((ji9) < (l0.length : Int)) = true:=de_ c11;clear c11
         by_cases c12 : (rd l0 (ji9)) ≥ (rd l0 x7_1)
         ·rw [if_pos c12] at H;have c12b0 : decide ((rd l0 x7_1) ≤ (rd l0 (ji9))) = true:=de_ c12;clear c12;obtain rfl:=Option.some.inj H;have p115 : 0 ≤ (x7_1 : Int):=oda_;have q115 : x7_1 < (l0.length : Int):=oda_;obtain ⟨ad115,e115,hx115_0⟩:=Kd.at_int HR0.out x7_1 p115 q115
          cases e115
          replace p115:=eq_true p115;replace q115:=eq_true q115
          go_wp2_with (first|(go_at_call 81;(with_reducible refine (spec_l01In.calls (rd l0 x7_1) a1 a2 true _ A6.out).mono ?_);rintro e w' ⟨rfl,⟨nd,rfl⟩⟩;(try first|exact ⟨rfl,_,World.drewN_drewN _ _ _⟩|exact ⟨rfl,_,Eq.trans (World.drewN_drewN _ _ _) (congrArg (World.drewN _) (Nat.add_assoc _ _ _))⟩);have p117 : 0 ≤ ((ji9) : Int):=oda_;have q117 : (ji9) < (l0.length : Int):=oda_;obtain ⟨ad117,e117,hx117_0⟩:=Kd.at_int HR0.out (ji9) p117 q117;obtain rfl : ad115 = ad117:=(by injection e117);replace p117:=eq_true p117;replace q117:=eq_true q117;have p118 : 0 ≤ (x7_1 : Int):=oda_;have q118 : x7_1 < (l0.length : Int):=oda_;obtain ⟨ad118,e118,hx118_0⟩:=Kd.at_int HR0.out x7_1 p118 q118;obtain rfl : ad115 = ad118:=(by injection e118);replace p118:=eq_true p118;replace q118:=eq_true q118))
          repeat (go_quiet (first|(go_at_call 81;(with_reducible refine (spec_l01In.calls (rd l0 x7_1) a1 a2 true _ A6.out).mono ?_);rintro e w' ⟨rfl,⟨nd,rfl⟩⟩;(try first|exact ⟨rfl,_,World.drewN_drewN _ _ _⟩|exact ⟨rfl,_,Eq.trans (World.drewN_drewN _ _ _) (congrArg (World.drewN _) (Nat.add_assoc _ _ _))⟩);have p117 : 0 ≤ ((ji9) : Int):=oda_;have q117 : (ji9) < (l0.length : Int):=oda_;obtain ⟨ad117,e117,hx117_0⟩:=Kd.at_int HR0.out (ji9) p117 q117;obtain rfl : ad115 = ad117:=(by injection e117);replace p117:=eq_true p117;replace q117:=eq_true q117;have p118 : 0 ≤ (x7_1 : Int):=oda_;have q118 : x7_1 < (l0.length : Int):=oda_;obtain ⟨ad118,e118,hx118_0⟩:=Kd.at_int HR0.out x7_1 p118 q118;obtain rfl : ad115 = ad118:=(by injection e118);replace p118:=eq_true p118;replace q118:=eq_true q118));try go_wp2_with (first|(go_at_call 81;(with_reducible refine (spec_l01In.calls (rd l0 x7_1) a1 a2 true _ A6.out).mono ?_);rintro e w' ⟨rfl,⟨nd,rfl⟩⟩;(try first|exact ⟨rfl,_,World.drewN_drewN _ _ _⟩|exact ⟨rfl,_,Eq.trans (World.drewN_drewN _ _ _) (congrArg (World.drewN _) (Nat.add_assoc _ _ _))⟩);have p117 : 0 ≤ ((ji9) : Int):=oda_;have q117 : (ji9) < (l0.length : Int):=oda_;obtain ⟨ad117,e117,hx117_0⟩:=Kd.at_int HR0.out (ji9) p117 q117;obtain rfl : ad115 = ad117:=(by injection e117);replace p117:=eq_true p117;replace q117:=eq_true q117;have p118 : 0 ≤ (x7_1 : Int):=oda_;have q118 : x7_1 < (l0.length : Int):=oda_;obtain ⟨ad118,e118,hx118_0⟩:=Kd.at_int HR0.out x7_1 p118 q118;obtain rfl : ad115 = ad118:=(by injection e118);replace p118:=eq_true p118;replace q118:=eq_true q118)))
          go_ret;exact ⟨by first|rfl|(simp;done)|(simp only [← hji9] <;> (first|rfl|simp))|(simp [*];done),by repeat (first|exact Drawn0.refl _|apply Drawn0.step)⟩
         ·rw [if_neg c12] at H;have c12b0 : decide ((rd l0 x7_1) ≤ (rd l0 (ji9))) = false:=decide_eq_false c12;clear c12;have H':=A_ H;clear H;have p115 : 0 ≤ (x7_1 : Int):=oda_;have q115 : x7_1 < (l0.length : Int):=oda_;obtain ⟨ad115,e115,hx115_0⟩:=Kd.at_int HR0.out x7_1 p115 q115
          cases e115
          replace p115:=eq_true p115;replace q115:=eq_true q115
          go_wp2_with (first|(go_at_call 81;(with_reducible refine (spec_l01In.calls (rd l0 x7_1) a1 a2 true _ A6.out).mono ?_);rintro e w' ⟨rfl,⟨nd,rfl⟩⟩;(try first|exact ⟨rfl,_,World.drewN_drewN _ _ _⟩|exact ⟨rfl,_,Eq.trans (World.drewN_drewN _ _ _) (congrArg (World.drewN _) (Nat.add_assoc _ _ _))⟩);have p117 : 0 ≤ ((ji9) : Int):=oda_;have q117 : (ji9) < (l0.length : Int):=oda_;obtain ⟨ad117,e117,hx117_0⟩:=Kd.at_int HR0.out (ji9) p117 q117;obtain rfl : ad115 = ad117:=(by injection e117);replace p117:=eq_true p117;replace q117:=eq_true q117;have p118 : 0 ≤ (x7_1 : Int):=oda_;have q118 : x7_1 < (l0.length : Int):=oda_;obtain ⟨ad118,e118,hx118_0⟩:=Kd.at_int HR0.out x7_1 p118 q118;obtain rfl : ad115 = ad118:=(by injection e118);replace p118:=eq_true p118;replace q118:=eq_true q118))
          repeat (go_quiet (first|(go_at_call 81;(with_reducible refine (spec_l01In.calls (rd l0 x7_1) a1 a2 true _ A6.out).mono ?_);rintro e w' ⟨rfl,⟨nd,rfl⟩⟩;(try first|exact ⟨rfl,_,World.drewN_drewN _ _ _⟩|exact ⟨rfl,_,Eq.trans (World.drewN_drewN _ _ _) (congrArg (World.drewN _) (Nat.add_assoc _ _ _))⟩);have p117 : 0 ≤ ((ji9) : Int):=oda_;have q117 : (ji9) < (l0.length : Int):=oda_;obtain ⟨ad117,e117,hx117_0⟩:=Kd.at_int HR0.out (ji9) p117 q117;obtain rfl : ad115 = ad117:=(by injection e117);replace p117:=eq_true p117;replace q117:=eq_true q117;have p118 : 0 ≤ (x7_1 : Int):=oda_;have q118 : x7_1 < (l0.length : Int):=oda_;obtain ⟨ad118,e118,hx118_0⟩:=Kd.at_int HR0.out x7_1 p118 q118;obtain rfl : ad115 = ad118:=(by injection e118);replace p118:=eq_true p118;replace q118:=eq_true q118));try go_wp2_with (first|(go_at_call 81;(with_reducible refine (spec_l01In.calls (rd l0 x7_1) a1 a2 true _ A6.out).mono ?_);rintro e w' ⟨rfl,⟨nd,rfl⟩⟩;(try first|exact ⟨rfl,_,World.drewN_drewN _ _ _⟩|exact ⟨rfl,_,Eq.trans (World.drewN_drewN _ _ _) (congrArg (World.drewN _) (Nat.add_assoc _ _ _))⟩);have p117 : 0 ≤ ((ji9) : Int):=oda_;have q117 : (ji9) < (l0.length : Int):=oda_;obtain ⟨ad117,e117,hx117_0⟩:=Kd.at_int HR0.out (ji9) p117 q117;obtain rfl : ad115 = ad117:=(by injection e117);replace p117:=eq_true p117;replace q117:=eq_true q117;have p118 : 0 ≤ (x7_1 : Int):=oda_;have q118 : x7_1 < (l0.length : Int):=oda_;obtain ⟨ad118,e118,hx118_0⟩:=Kd.at_int HR0.out x7_1 p118 q118;obtain rfl : ad115 = ad118:=(by injection e118);replace p118:=eq_true p118;replace q118:=eq_true q118)))
          go_roundg k1
          case measure => have:=HK1.out;omega
          case rel => exact ⟨(wrap64 (x7_1 + 1)),(by first|rfl|(simp;done)|(simp [*];done)),H',⟨by have:=HK1.out;omega⟩,by repeat (first|exact Drawn0.refl _|apply Drawn0.step)⟩
        ·rw [if_neg c11] at H;exact absurd H (by simp)
       ·rw [if_neg c10] at H;exact absurd H (by simp)
      ·rw [if_neg c8] at H;have c8b0 : decide (0 < x7_1) = false:=decide_eq_false c8;clear c8;have H':=A_ H;clear H;have p115 : 0 ≤ (x7_1 : Int):=oda_;have q115 : x7_1 < (l0.length : Int):=oda_;obtain ⟨ad115,e115,hx115_0⟩:=Kd.at_int HR0.out x7_1 p115 q115
       cases e115
       replace p115:=eq_true p115;replace q115:=eq_true q115
       go_wp2_with (first|(go_at_call 81;(with_reducible refine (spec_l01In.calls (rd l0 x7_1) a1 a2 true _ A6.out).mono ?_);rintro e w' ⟨rfl,⟨nd,rfl⟩⟩;(try first|exact ⟨rfl,_,World.drewN_drewN _ _ _⟩|exact ⟨rfl,_,Eq.trans (World.drewN_drewN _ _ _) (congrArg (World.drewN _) (Nat.add_assoc _ _ _))⟩)))
       repeat (go_quiet (first|(go_at_call 81;(with_reducible refine (spec_l01In.calls (rd l0 x7_1) a1 a2 true _ A6.out).mono ?_);rintro e w' ⟨rfl,⟨nd,rfl⟩⟩;(try first|exact ⟨rfl,_,World.drewN_drewN _ _ _⟩|exact ⟨rfl,_,Eq.trans (World.drewN_drewN _ _ _) (congrArg (World.drewN _) (Nat.add_assoc _ _ _))⟩)));try go_wp2_with (first|(go_at_call 81;(with_reducible refine (spec_l01In.calls (rd l0 x7_1) a1 a2 true _ A6.out).mono ?_);rintro e w' ⟨rfl,⟨nd,rfl⟩⟩;(try first|exact ⟨rfl,_,World.drewN_drewN _ _ _⟩|exact ⟨rfl,_,Eq.trans (World.drewN_drewN _ _ _) (congrArg (World.drewN _) (Nat.add_assoc _ _ _))⟩))))
       go_roundg k1
       case measure => have:=HK1.out;omega
       case rel => exact ⟨(wrap64 (x7_1 + 1)),(by first|rfl|(simp;done)|(simp [*];done)),H',⟨by have:=HK1.out;omega⟩,by repeat (first|exact Drawn0.refl _|apply Drawn0.step)⟩
     ·replace c7:=Bool.eq_false_iff.mpr c7;subst c7
      have H1 : (some false) = some r:=by rw [if_neg (show ¬ (false = true) by decide)] at H;exact H
      clear H;have H:=H1;clear H1;obtain rfl:=Option.some.inj H;have p115 : 0 ≤ (x7_1 : Int):=oda_;have q115 : x7_1 < (l0.length : Int):=oda_;obtain ⟨ad115,e115,hx115_0⟩:=Kd.at_int HR0.out x7_1 p115 q115
      cases e115
      replace p115:=eq_true p115;replace q115:=eq_true q115
      go_wp2_with (first|(go_at_call 81;(with_reducible refine (spec_l01In.calls (rd l0 x7_1) a1 a2 false _ A6.out).mono ?_);rintro e w' ⟨rfl,⟨nd,rfl⟩⟩;(try first|exact ⟨rfl,_,World.drewN_drewN _ _ _⟩|exact ⟨rfl,_,Eq.trans (World.drewN_drewN _ _ _) (congrArg (World.drewN _) (Nat.add_assoc _ _ _))⟩)))
      repeat (go_quiet (first|(go_at_call 81;(with_reducible refine (spec_l01In.calls (rd l0 x7_1) a1 a2 false _ A6.out).mono ?_);rintro e w' ⟨rfl,⟨nd,rfl⟩⟩;(try first|exact ⟨rfl,_,World.drewN_drewN _ _ _⟩|exact ⟨rfl,_,Eq.trans (World.drewN_drewN _ _ _) (congrArg (World.drewN _) (Nat.add_assoc _ _ _))⟩)));try go_wp2_with (first|(go_at_call 81;(with_reducible refine (spec_l01In.calls (rd l0 x7_1) a1 a2 false _ A6.out).mono ?_);rintro e w' ⟨rfl,⟨nd,rfl⟩⟩;(try first|exact ⟨rfl,_,World.drewN_drewN _ _ _⟩|exact ⟨rfl,_,Eq.trans (World.drewN_drewN _ _ _) (congrArg (World.drewN _) (Nat.add_assoc _ _ _))⟩))))
      go_ret;exact ⟨by first|rfl|(simp;done)|(simp [*];done),by repeat (first|exact Drawn0.refl _|apply Drawn0.step)⟩
    ·rw [if_neg c5] at H;exact absurd H (by simp)
   ·rw [if_neg c4] at H;have c4b0 : decide (x7_1 < (l0.length : Int)) = false:=decide_eq_false c4;clear c4;obtain rfl:=Option.some.inj H;go_wp2
    repeat (go_quiet (fail);try go_wp2)
    go_ret;exact ⟨by first|rfl|(simp;done)|(simp [*];done),by repeat (first|exact Drawn0.refl _|apply Drawn0.step)⟩
def spec_ConfOk.f (k : Nat) (l0 : List Int) : Option (Bool) := (spec_l01In.f (l0.length : Int) 1 4).bind fun t119 => (if t119 = true then ((spec_l07Rise.f k l0 1 4).bind fun t120 => (some t120)) else (some false))
theorem spec_ConfOk.mono : ∀ a0 k, LeO (spec_ConfOk.f k a0) (spec_ConfOk.f (k + 1) a0) := by
 intro a0 k
 unfold spec_ConfOk.f
 repeat' first
   | (with_reducible exact spec_l07Rise.mono _ _ _ _)
   | (with_reducible exact LeO.refl _)
   | (with_reducible exact LeO.none _)
   | (with_reducible refine LeO.ite ?_ ?_)
   | (with_reducible refine LeO.bind ?_ (fun _ => ?_))
set_option maxHeartbeats 8000000 in
set_option maxRecDepth 100000 in
theorem spec_ConfOk.calls (k : Nat) (A0 : Option Addr) (c0 : Nat) (l0 : List Int) (r : Bool) (w : World) (hr0 : Kd.C (Kd.int .i64) w A0 l0.length l0) (hc0 : l0.length ≤ c0) (h : spec_ConfOk.f k l0 = some r) :
  Calls Try.prog 83 #[.slice A0 l0.length c0] w fun e w' => e = .returned (.bool r) ∧ Drawn0 w w':=by
 have HR0:=A_ hr0;have HC0:=A_ hc0;clear hr0 hc0;unfold spec_ConfOk.f at h;have H:=h;clear h;replace H:=ob_.mp H;obtain ⟨t119,A20,H⟩:=H;(try dsimp only at H);have A2:=A_ A20;clear A20
 by_cases c3 : t119 = true
 ·subst c3
  rw [if_pos rfl] at H;replace H:=ob_.mp H;obtain ⟨t120,A40,H⟩:=H;(try dsimp only at H);have A4:=A_ A40;clear A40;obtain rfl:=Option.some.inj H;go_enter Try.func83,Try.ntmps83
  go_wp2_with (first|((with_reducible refine gate_callee (f:=81) rfl ?_);refine gL_ (some 5) Try.func81 #[.int .i64 (l0.length : Int),.int .i64 1,.int .i64 4] ?_;(with_reducible refine (spec_l01In.calls (l0.length : Int) 1 4 true _ A2.out).mono ?_);rintro e w' ⟨rfl,⟨nd,rfl⟩⟩;refine ⟨_,rfl,?_⟩)|(go_at_call 117;(with_reducible refine (spec_l07Rise.calls k _ _ l0 1 4 t120 _ ?side1 ?side2 A4.out).mono ?_);(case side1 => repeat (first|exact HR0.out|(with_reducible refine Kd.C_alloc ?_ _)|(with_reducible refine Kd.C_drewN ?_ _)|(with_reducible refine Kd.C_drew ?_)));(case side2 => exact HC0.out);rintro e w' ⟨rfl,⟨nd,rfl⟩⟩))
  go_ret;exact ⟨by first|rfl|(simp;done)|(simp [*];done),by repeat (first|exact Drawn0.refl _|apply Drawn0.step)⟩
 ·replace c3:=Bool.eq_false_iff.mpr c3;subst c3
  have H1 : (some false) = some r:=by rw [if_neg (show ¬ (false = true) by decide)] at H;exact H
  clear H;have H:=H1;clear H1;obtain rfl:=Option.some.inj H;go_enter Try.func83,Try.ntmps83
  go_wp2_with (first|((with_reducible refine gate_callee (f:=81) rfl ?_);refine gL_ (some 5) Try.func81 #[.int .i64 (l0.length : Int),.int .i64 1,.int .i64 4] ?_;(with_reducible refine (spec_l01In.calls (l0.length : Int) 1 4 false _ A2.out).mono ?_);rintro e w' ⟨rfl,⟨nd,rfl⟩⟩;refine ⟨_,rfl,?_⟩))
  go_ret;exact ⟨by first|rfl|(simp;done)|(simp [*];done),by repeat (first|exact Drawn0.refl _|apply Drawn0.step)⟩
end Go.Proofs.Ytbcgnncbiblibaa.PFnExactDecode
