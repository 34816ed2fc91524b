/- The contracts of Go functions that this law reaches: what each call returns, by a plain Lean function of its arguments, under the conditions that each names. By the kit's print.py, run by this repo's wip/gen/pp.py: not to the letter what print.sh prints. -/
import Derived.Test.YtbcgnncbiblibaaPFnMessagesx0
import Derived.Test.YtbcgnncbiblibaaPFnMessagesx3
namespace Go.Proofs.Ytbcgnncbiblibaa.PFnMessages
open Go.RowKit Go.Proofs.YtbcgnncbiblibaaW.PrintWords Go.Proofs.YtbcgnncbiblibaaW.PrintLast Go.Proofs.YtbcgnncbiblibaaW.PrintMore
attribute [local go_sem] max2_int min2_int max_two min_two max_three min_three max_four min_four
set_option linter.unusedVariables false
set_option linter.unusedSimpArgs false
def spec_l05Var.f (k : Nat) (s0_0 : ByteArray) (s0_1 : Int) (s0_2 : Bool) : Option (Int × ByteArray × Int × Bool) := (spec_ReadVar.f k s0_0 s0_1).bind fun bt112 => (if s0_2 = true then (some (0, s0_0, s0_1, true)) else (if bt112.2.2 = true then (some (bt112.1, s0_0, bt112.2.1, s0_2)) else (some (0, s0_0, s0_1, true))))
theorem spec_l05Var.mono : ∀ a0 a1 a2 k, LeO (spec_l05Var.f k a0 a1 a2) (spec_l05Var.f (k + 1) a0 a1 a2) := by
 intro a0 a1 a2 k
 unfold spec_l05Var.f
 repeat' first
   | (with_reducible exact spec_ReadVar.mono _ _ _)
   | (with_reducible exact LeO.refl _)
   | (with_reducible refine LeO.bind ?_ (fun _ => ?_))
def spec_l05Var.T1 : Bool × List (List Nat × List Nat) := (true, [([], []), ([0], [0]), ([1], [1]), ([2], [2]), ([], []), ([4], [4]), ([5], [5]), ([6], [6]), ([3, 7], [3, 7]), ([8], [8]), ([9], [9]), ([9], [9]), ([9], [9]), ([10, 8, 0, 1, 2, 3, 4, 5, 6, 7, 8, 9, 10], [10]), ([11, 13, 0, 1, 2, 3, 4, 5, 6, 7, 8, 9, 10, 11, 13], [11]), ([12, 14, 0, 1, 2, 3, 4, 5, 6, 7, 8, 9, 10, 11, 12, 13, 14], [12])])
def spec_l05Var.B1 : List Nat := [0, 1, 3, 7, 0, 16, 48, 112, 255, 511, 1023, 1023, 1023, 2047, 12287, 32767]
theorem spec_l05Var.tab1 : rtab .any (opsOf Try.f61 1) = spec_l05Var.T1 := by kernel_rfl
theorem spec_l05Var.bits1 : waitsOk spec_l05Var.T1.2 spec_l05Var.B1 = true := by kernel_rfl
set_option maxHeartbeats 8000000 in
set_option maxRecDepth 100000 in
theorem spec_l05Var.calls (k g : Nat) (s0_0 : ByteArray) (s0_1 : Int) (s0_2 : Bool) (r1 : Int) (r2 : ByteArray) (r3 : Int) (r4 : Bool) (w0 w : World) (hI : IsS98 w0 w g s0_0 s0_1 s0_2) (hB : Below w0.heap.size w0 w) (h : spec_l05Var.f k s0_0 s0_1 s0_2 = some (r1, r2, r3, r4)) :
  Calls Try.prog 61 #[.pointer (some ⟨g,0,none⟩)] w fun e w' => e = .returned (.int .i64 r1) ∧ IsS98 w0 w' g r2 r3 r4 ∧ Below w0.heap.size w0 w' ∧ KeepBut w w' g none:=by
 have HI0:=A_ hI;have HK:=A_ (KeepBut.refl w g none);have HL:=A_ hB.size;clear hI;have HW0:=A_ hB.size;have HB:=A_ hB;clear hB;unfold spec_l05Var.f at h;have H:=h;clear h;obtain ⟨⟨t112,t113,t114⟩,A2,H⟩:=oB_ H;(try dsimp only at H)
 by_cases c3 : s0_2 = true;rotate_left
 ·replace c3:=Bool.eq_false_iff.mpr c3;subst c3
  have H1 : (if t114 = true then (some (t112,s0_0,t113,false)) else (some (0,s0_0,s0_1,true))) = some (r1,r2,r3,r4):=by rw [if_neg (show ¬ (false = true) by decide)] at H;exact H
  clear H;have H:=H1;clear H1;have HC7:=A_ H;clear H;go_enter Try.func61,Try.ntmps61
  try go_wp2
  replace HI0:=A_ (IsS98.drew HI0.out);replace HK:=A_ (keep_drew HK.out);replace HB:=A_ (pd_ HB.out);refine start_ (n:=16) (S:=fun w' => w'.cell? ⟨g,0,none⟩ = some (.string s0_0) ∧ w'.cell? ⟨g,1,none⟩ = some (.int .i64 s0_1) ∧ w'.cell? ⟨g,2,none⟩ = some (.bool false)) (ds:=[]) #[false,false,false,false,false,false,false,false,false,false,false,false,false,false,false,false] (by kernel_rfl) rfl rfl ⟨cellS98_0 HI0.out.1,cellS98_1 HI0.out.1,cellS98_2 HI0.out.1⟩ (fun hHeld => ?_);refine with_tabW spec_l05Var.tab1 spec_l05Var.bits1 (fun HT_ HW_ => ?_);generalize w.drew = w8 at HI0 HK HB hHeld ⊢;refine pU_ 0 (some 7) ?_
  refine pU_ 1 (some 8) ?_
  refine pU_ 2 (some 9) ?_
  refine pU_ 4 (some 11) ?_
  refine pU_ 5 (some 12) ?_
  refine pU_ 6 (some 13) ?_
  refine tK_ 3 (some 10) hHeld ?_
  refine tK_ 7 (some 14) hHeld ?_
  refine oN_ 8 (some 15) (fun K hK => ?_);refine gs_ Try.func95 #[.string s0_0,.int .i64 s0_1] ?_;with_reducible refine (spec_ReadVar.calls k s0_0 s0_1 t112 t113 t114 _ A2.out).mono ?_;rintro e w9 ⟨rfl,hb⟩;refine ⟨_,rfl,?_⟩;replace HK:=hU_ HK hb;replace HB:=A_ (bs_ (bi_ HB (IsS98.ge HI0.out)) hb);replace HI0:=A_ (IsS98.below (iq98_ HI0) hb)
  (try clear hb)
  refine hK.out _ _ ⟨cellS98_0 HI0.out.1,cellS98_1 HI0.out.1,cellS98_2 HI0.out.1⟩ (fun hHeld => ?_);clear hK K;refine nX_ (some 15) ?_
  refine pU_ 9 (some 6) ?_
  refine pU_ 10 (some 16) ?_
  refine pU_ 11 (some 17) ?_
  refine pU_ 12 (some 18) ?_
  refine pU_ 13 (some 3) ?_
  refine pU_ 14 (some 4) ?_
  refine pU_ 15 (some 5) ?_
  refine done_ (done_of HT_.out (by kernel_rfl)) ?_;obtain ⟨HGz10,hgz10⟩:=HI0.out;have hcz10_0:=cellS98_0 HGz10;have hcz10_1:=cellS98_1 HGz10;have hcz10_2:=cellS98_2 HGz10;have hfz10_0:=kf_ HGz10 0;have hfz10_1:=kf_ HGz10 1;have hfz10_2:=kf_ HGz10 2;clear HGz10 hgz10
  go_upto_if 26 with (fail)
  have H:=HC7.out;clear HC7
  by_cases c11 : t114 = true
  ·subst c11
   rw [if_pos rfl] at H;simp only [Option.some.injEq,Prod.mk.injEq] at H;obtain ⟨rfl,rfl,rfl,rfl⟩:=H;obtain ⟨HGz12,hgz12⟩:=HI0.out;have hcz12_0:=cellS98_0 HGz12;have hcz12_1:=cellS98_1 HGz12;have hcz12_2:=cellS98_2 HGz12;have hfz12_0:=kf_ HGz12 0;have hfz12_1:=kf_ HGz12 1;have hfz12_2:=kf_ HGz12 2;clear HGz12 hgz12;go_wp2;go_ret;exact ⟨ex_,iq98_ HI0,bi_ HB (IsS98.ge HI0.out),hq_ HK⟩
  replace c11:=Bool.eq_false_iff.mpr c11;subst c11
  have H1 : (some (0,s0_0,s0_1,true)) = some (r1,r2,r3,r4):=by rw [if_neg (show ¬ (false = true) by decide)] at H;exact H
  clear H;have H:=H1;clear H1;simp only [Option.some.injEq,Prod.mk.injEq] at H;obtain ⟨rfl,rfl,rfl,rfl⟩:=H;obtain ⟨HGz13,hgz13⟩:=HI0.out;have hcz13_0:=cellS98_0 HGz13;have hcz13_1:=cellS98_1 HGz13;have hcz13_2:=cellS98_2 HGz13;have hfz13_0:=kf_ HGz13 0;have hfz13_1:=kf_ HGz13 1;have hfz13_2:=kf_ HGz13 2;clear HGz13 hgz13;go_wp2;go_ret;exact ⟨ex_,iq98_ HI0,bi_ HB (IsS98.ge HI0.out),hq_ HK⟩
 subst c3
 rw [if_pos rfl] at H;simp only [Option.some.injEq,Prod.mk.injEq] at H;obtain ⟨rfl,rfl,rfl,rfl⟩:=H;go_enter Try.func61,Try.ntmps61
 try go_wp2
 replace HI0:=A_ (IsS98.drew HI0.out);replace HK:=A_ (keep_drew HK.out);replace HB:=A_ (pd_ HB.out);refine start_ (n:=16) (S:=fun w' => w'.cell? ⟨g,0,none⟩ = some (.string s0_0) ∧ w'.cell? ⟨g,1,none⟩ = some (.int .i64 s0_1) ∧ w'.cell? ⟨g,2,none⟩ = some (.bool true)) (ds:=[]) #[false,false,false,false,false,false,false,false,false,false,false,false,false,false,false,false] (by kernel_rfl) rfl rfl ⟨cellS98_0 HI0.out.1,cellS98_1 HI0.out.1,cellS98_2 HI0.out.1⟩ (fun hHeld => ?_);refine with_tabW spec_l05Var.tab1 spec_l05Var.bits1 (fun HT_ HW_ => ?_);generalize w.drew = w4 at HI0 HK HB hHeld ⊢;refine pU_ 0 (some 7) ?_
 refine pU_ 1 (some 8) ?_
 refine pU_ 2 (some 9) ?_
 refine pU_ 4 (some 11) ?_
 refine pU_ 5 (some 12) ?_
 refine pU_ 6 (some 13) ?_
 refine tK_ 3 (some 10) hHeld ?_
 refine tK_ 7 (some 14) hHeld ?_
 refine oN_ 8 (some 15) (fun K hK => ?_);refine gs_ Try.func95 #[.string s0_0,.int .i64 s0_1] ?_;with_reducible refine (spec_ReadVar.calls k s0_0 s0_1 t112 t113 t114 _ A2.out).mono ?_;rintro e w5 ⟨rfl,hb⟩;refine ⟨_,rfl,?_⟩;replace HK:=hU_ HK hb;replace HB:=A_ (bs_ (bi_ HB (IsS98.ge HI0.out)) hb);replace HI0:=A_ (IsS98.below (iq98_ HI0) hb)
 (try clear hb)
 refine hK.out _ _ ⟨cellS98_0 HI0.out.1,cellS98_1 HI0.out.1,cellS98_2 HI0.out.1⟩ (fun hHeld => ?_);clear hK K;refine nX_ (some 15) ?_
 refine pU_ 9 (some 6) ?_
 refine pU_ 10 (some 16) ?_
 refine pU_ 11 (some 17) ?_
 refine pU_ 12 (some 18) ?_
 refine pU_ 13 (some 3) ?_
 refine pU_ 14 (some 4) ?_
 refine pU_ 15 (some 5) ?_
 refine done_ (done_of HT_.out (by kernel_rfl)) ?_;obtain ⟨HGz6,hgz6⟩:=HI0.out;have hcz6_0:=cellS98_0 HGz6;have hcz6_1:=cellS98_1 HGz6;have hcz6_2:=cellS98_2 HGz6;have hfz6_0:=kf_ HGz6 0;have hfz6_1:=kf_ HGz6 1;have hfz6_2:=kf_ HGz6 2;clear HGz6 hgz6
 try go_wp2
 go_ret;exact ⟨ex_,iq98_ HI0,bi_ HB (IsS98.ge HI0.out),hq_ HK⟩
def spec_l07Rise.l0 : Nat → List Int → Int → Int → Int → Option (Bool)
 | 0,_,_,_,_ => none
 | k + 1,x0,x1,x2,x7 => if x7 < (x0.length : Int) then (if 0 ≤ x7 then ((spec_l01In.f (rd x0 x7) x1 x2).bind fun t116 => (if t116 = true then (if x7 > 0 then (if 0 ≤ (wrap64 (x7 - 1)) then (if (wrap64 (x7 - 1)) < (x0.length : Int) then (if (rd x0 (wrap64 (x7 - 1))) ≥ (rd x0 x7) then (some false) else (spec_l07Rise.l0 k x0 x1 x2 (wrap64 (x7 + 1)))) else (none)) else (none)) else (spec_l07Rise.l0 k x0 x1 x2 (wrap64 (x7 + 1)))) else (some false))) else (none)) else (some true)
def spec_l07Rise.f (k : Nat) (l0 : List Int) (a1 a2 : Int) : Option (Bool) := spec_l07Rise.l0 k l0 a1 a2 0
theorem spec_l07Rise.mono_l : ∀ k, (∀ y0 y1 y2 y3, LeO (spec_l07Rise.l0 k y0 y1 y2 y3) (spec_l07Rise.l0 (k + 1) y0 y1 y2 y3))
 | 0 => fun _ _ _ _ r h => by simp [spec_l07Rise.l0] at h
 | k + 1 => by
  have ih0:=spec_l07Rise.mono_l k
  ·intro y0 y1 y2 y3
   unfold spec_l07Rise.l0
   repeat' first
   | (with_reducible exact ih0 _ _ _ _)
   | (with_reducible exact LeO.refl _)
   | (with_reducible refine LeO.ite ?_ ?_)
   | (with_reducible refine LeO.bind ?_ (fun _ => ?_))
theorem spec_l07Rise.mono : ∀ a0 a1 a2 k, LeO (spec_l07Rise.f k a0 a1 a2) (spec_l07Rise.f (k + 1) a0 a1 a2) := by
 intro a0 a1 a2 k;have ih0:=spec_l07Rise.mono_l k
 unfold spec_l07Rise.f
 repeat' first
   | (with_reducible exact ih0 _ _ _ _)
set_option maxHeartbeats 8000000 in
set_option maxRecDepth 100000 in
theorem spec_l07Rise.calls (k : Nat) (A0 : Option Addr) (c0 : Nat) (l0 : List Int) (a1 a2 : Int) (r : Bool) (w : World) (hr0 : Kd.C (Kd.int .i64) w A0 l0.length l0) (hc0 : l0.length ≤ c0) (h : spec_l07Rise.f k l0 a1 a2 = some r) :
  Calls Try.prog 117 #[.slice A0 l0.length c0,.int .i64 a1,.int .i64 a2] w fun e w' => e = .returned (.bool r) ∧ Drawn0 w w':=by
 have HR0:=A_ hr0;have HC0:=A_ hc0;clear hr0 hc0;unfold spec_l07Rise.f at h;have H:=h;clear h;have H':=A_ H;clear H;go_enter Try.func117,Try.ntmps117;go_wp2
 go_loopg [7] k (fun kq v7 w' => ∃ (x7_1 : Int),v7 = .int .i64 x7_1 ∧ Aside0 (spec_l07Rise.l0 kq l0 a1 a2 x7_1 = some r) ∧ Aside0 (kq ≤ k) ∧ Drawn0 w w')
 case atStart => exact ⟨(0),(by rfl),H',⟨Nat.le_refl _⟩,by repeat (exact Drawn0.refl _)⟩
 case round =>
  clear H'
  (try clear c1);(try clear p2)
  obtain ⟨x7_1,rfl,HA,HK1,⟨m1,rfl⟩⟩:=hrel
  cases gk with
  | zero => exact absurd HA.out (by simp [spec_l07Rise.l0])
  | succ k1 =>
   have H:=HA.out;clear HA;simp only [spec_l07Rise.l0] at H
   by_cases c4 : x7_1 < (l0.length : Int);rotate_left
   ·rw [if_neg c4] at H;have c4b0:=decide_eq_false c4;clear c4;obtain rfl:=Option.some.inj H;go_wp2
    go_ret;exact ⟨by rfl,by repeat (first|exact Drawn0.refl _|apply Drawn0.step)⟩
   rw [if_pos c4] at H;have c4b0:=de_ c4;clear c4
   by_cases c5 : 0 ≤ x7_1;rotate_left
   ·rw [if_neg c5] at H;exact absurd H (by simp)
   rw [if_pos c5] at H;have c5b0:=de_ c5;clear c5;replace H:=ob_.mp H;obtain ⟨t116,A60,H⟩:=H;have A6:=A_ A60;clear A60
   by_cases c7 : t116 = true;rotate_left
   ·replace c7:=Bool.eq_false_iff.mpr c7;subst c7
    have H1 : (some false) = some r:=by rw [if_neg (show ¬ (false = true) by decide)] at H;exact H
    clear H;have H:=H1;clear H1;obtain rfl:=Option.some.inj H;have p115 : 0 ≤ (x7_1 : Int):=oda_;have q115 : x7_1 < (l0.length : Int):=oda_;obtain ⟨ad115,e115,hx115_0⟩:=Kd.at_int HR0.out x7_1 p115 q115
    cases e115
    replace p115:=eq_true p115;replace q115:=eq_true q115
    go_wp2
    repeat (go_quiet ((go_at_call 81;(with_reducible refine (spec_l01In.calls (rd l0 x7_1) a1 a2 false _ A6.out).mono ?_);rintro e w' ⟨rfl,⟨nd,rfl⟩⟩;(try exact ⟨rfl,_,Eq.trans (World.drewN_drewN _ _ _) (congrArg (World.drewN _) (Nat.add_assoc _ _ _))⟩)));try go_wp2)
    go_ret;exact ⟨by rfl,by repeat (first|exact Drawn0.refl _|apply Drawn0.step)⟩
   subst c7
   rw [if_pos rfl] at H
   by_cases c8 : x7_1 > 0;rotate_left
   ·rw [if_neg c8] at H;have c8b0:=decide_eq_false c8;clear c8;have H':=A_ H;clear H;have p115 : 0 ≤ (x7_1 : Int):=oda_;have q115 : x7_1 < (l0.length : Int):=oda_;obtain ⟨ad115,e115,hx115_0⟩:=Kd.at_int HR0.out x7_1 p115 q115
    cases e115
    replace p115:=eq_true p115;replace q115:=eq_true q115
    go_wp2
    repeat (go_quiet ((go_at_call 81;(with_reducible refine (spec_l01In.calls (rd l0 x7_1) a1 a2 true _ A6.out).mono ?_);rintro e w' ⟨rfl,⟨nd,rfl⟩⟩;(try exact ⟨rfl,_,Eq.trans (World.drewN_drewN _ _ _) (congrArg (World.drewN _) (Nat.add_assoc _ _ _))⟩)));try go_wp2)
    go_roundg k1
    case measure => have:=HK1.out;omega
    case rel => exact ⟨(wrap64 (x7_1 + 1)),(by rfl),H',⟨by have:=HK1.out;omega⟩,by repeat (first|exact Drawn0.refl _|apply Drawn0.step)⟩
   rw [if_pos c8] at H;have c8b0:=de_ c8;clear c8;obtain ⟨ji9,hji9⟩ : ∃ j_ : Int,(wrap64 (x7_1 - 1)) = j_:=⟨_,rfl⟩
   replace H : (if 0 ≤ (ji9) then (if (ji9) < (l0.length : Int) then (if (rd l0 (ji9)) ≥ (rd l0 x7_1) then (some false) else (spec_l07Rise.l0 k1 l0 a1 a2 (wrap64 (x7_1 + 1)))) else (none)) else (none)) = some r:=by (rw [hji9] at H;exact H)
   have hji9w : (IntKind.i64.wrap (x7_1 - 1)) = ji9:=(i64_w _).trans hji9
   by_cases c10 : 0 ≤ (ji9);rotate_left
   ·rw [if_neg c10] at H;exact absurd H (by simp)
   rw [if_pos c10] at H;have c10b0:=de_ c10;clear c10
   by_cases c11 : (ji9) < (l0.length : Int)
   ·rw [if_pos c11] at H;have c11b0:=de_ c11;clear c11;have HC12:=A_ H;clear H;have p115 : 0 ≤ (x7_1 : Int):=oda_;have q115 : x7_1 < (l0.length : Int):=oda_;obtain ⟨ad115,e115,hx115_0⟩:=Kd.at_int HR0.out x7_1 p115 q115
    cases e115
    replace p115:=eq_true p115;replace q115:=eq_true q115
    go_upto_if 37 with (fail)
    repeat (go_quiet ((go_at_call 81;(with_reducible refine (spec_l01In.calls (rd l0 x7_1) a1 a2 true _ A6.out).mono ?_);rintro e w' ⟨rfl,⟨nd,rfl⟩⟩;(try exact ⟨rfl,_,Eq.trans (World.drewN_drewN _ _ _) (congrArg (World.drewN _) (Nat.add_assoc _ _ _))⟩);have p117 : 0 ≤ ((ji9) : Int):=oda_;have q117 : (ji9) < (l0.length : Int):=oda_;obtain ⟨ad117,e117,hx117_0⟩:=Kd.at_int HR0.out (ji9) p117 q117;obtain rfl : ad115 = ad117:=(by injection e117);replace p117:=eq_true p117;replace q117:=eq_true q117;have p118 : 0 ≤ (x7_1 : Int):=oda_;have q118 : x7_1 < (l0.length : Int):=oda_;obtain ⟨ad118,e118,hx118_0⟩:=Kd.at_int HR0.out x7_1 p118 q118;obtain rfl : ad115 = ad118:=(by injection e118);replace p118:=eq_true p118;replace q118:=eq_true q118));go_upto_if 37 with (fail))
    have H:=HC12.out;clear HC12
    by_cases c13 : (rd l0 (ji9)) ≥ (rd l0 x7_1)
    ·rw [if_pos c13] at H;have c13b0:=de_ c13;clear c13
     (rw [c13b0])
     obtain rfl:=Option.some.inj H;go_wp2
     go_ret;exact ⟨by rfl,by repeat (first|exact Drawn0.refl _|apply Drawn0.step)⟩
    rw [if_neg c13] at H;have c13b0:=decide_eq_false c13;clear c13
    (rw [c13b0])
    have H':=A_ H;clear H;go_wp2
    go_roundg k1
    case measure => have:=HK1.out;omega
    case rel => exact ⟨(wrap64 (x7_1 + 1)),(by rfl),H',⟨by have:=HK1.out;omega⟩,by repeat (first|exact Drawn0.refl _|apply Drawn0.step)⟩
   rw [if_neg c11] at H;exact absurd H (by simp)
def spec_ConfOk.f (k : Nat) (l0 : List Int) : Option (Bool) := (spec_l01In.f (l0.length : Int) 1 4).bind fun t119 => (if t119 = true then ((spec_l07Rise.f k l0 1 4).bind fun t120 => (some t120)) else (some false))
theorem spec_ConfOk.mono : ∀ a0 k, LeO (spec_ConfOk.f k a0) (spec_ConfOk.f (k + 1) a0) := by
 intro a0 k
 unfold spec_ConfOk.f
 repeat' first
   | (with_reducible exact spec_l07Rise.mono _ _ _ _)
   | (with_reducible exact LeO.refl _)
   | (with_reducible refine LeO.ite ?_ ?_)
   | (with_reducible refine LeO.bind ?_ (fun _ => ?_))
set_option maxHeartbeats 8000000 in
set_option maxRecDepth 100000 in
theorem spec_ConfOk.calls (k : Nat) (A0 : Option Addr) (c0 : Nat) (l0 : List Int) (r : Bool) (w : World) (hr0 : Kd.C (Kd.int .i64) w A0 l0.length l0) (hc0 : l0.length ≤ c0) (h : spec_ConfOk.f k l0 = some r) :
  Calls Try.prog 83 #[.slice A0 l0.length c0] w fun e w' => e = .returned (.bool r) ∧ Drawn0 w w':=by
 have HR0:=A_ hr0;have HC0:=A_ hc0;clear hr0 hc0;unfold spec_ConfOk.f at h;have H:=h;clear h;replace H:=ob_.mp H;obtain ⟨t119,A20,H⟩:=H;have A2:=A_ A20;clear A20
 by_cases c3 : t119 = true
 ·subst c3
  rw [if_pos rfl] at H;replace H:=ob_.mp H;obtain ⟨t120,A40,H⟩:=H;have A4:=A_ A40;clear A40;obtain rfl:=Option.some.inj H;go_enter Try.func83,Try.ntmps83
  go_wp2_with (first|((with_reducible refine gate_callee (f:=81) rfl ?_);refine gL_ (some 5) Try.func81 #[.int .i64 (l0.length : Int),.int .i64 1,.int .i64 4] ?_;(with_reducible refine (spec_l01In.calls (l0.length : Int) 1 4 true _ A2.out).mono ?_);rintro e w' ⟨rfl,⟨nd,rfl⟩⟩;refine ⟨_,rfl,?_⟩)|(go_at_call 117;(with_reducible refine (spec_l07Rise.calls k _ _ l0 1 4 t120 _ ?side1 ?side2 A4.out).mono ?_);(case side1 => repeat (exact HR0.out));(case side2 => exact HC0.out);rintro e w' ⟨rfl,⟨nd,rfl⟩⟩))
  go_ret;exact ⟨by rfl,by repeat (first|exact Drawn0.refl _|apply Drawn0.step)⟩
 replace c3:=Bool.eq_false_iff.mpr c3;subst c3
 have H1 : (some false) = some r:=by rw [if_neg (show ¬ (false = true) by decide)] at H;exact H
 clear H;have H:=H1;clear H1;obtain rfl:=Option.some.inj H;go_enter Try.func83,Try.ntmps83
 go_wp2_with (((with_reducible refine gate_callee (f:=81) rfl ?_);refine gL_ (some 5) Try.func81 #[.int .i64 (l0.length : Int),.int .i64 1,.int .i64 4] ?_;(with_reducible refine (spec_l01In.calls (l0.length : Int) 1 4 false _ A2.out).mono ?_);rintro e w' ⟨rfl,⟨nd,rfl⟩⟩;refine ⟨_,rfl,?_⟩))
 go_ret;exact ⟨by rfl,by repeat (first|exact Drawn0.refl _|apply Drawn0.step)⟩
def spec_ReadConf.l0 : Nat → ByteArray → List Int → Int → Option (List Int × Bool)
 | 0,_,_,_ => none
 | k + 1,x0,x4,x5 => if x5 < (x0.size : Int) then (if x5 ≤ 4 then (if 0 ≤ x5 then (if x4.length < 17592186044416 then (spec_ReadConf.l0 k x0 (x4 ++ [wrap64 (bt x0 x5)]) (wrap64 (x5 + 1))) else (none)) else (none)) else (if (x4.length : Int) = (x0.size : Int) then ((spec_ConfOk.f k x4).bind fun t127 => (if t127 = true then (some (x4,true)) else (some ((([] : List Int)),false)))) else (some ((([] : List Int)),false)))) else (if (x4.length : Int) = (x0.size : Int) then ((spec_ConfOk.f k x4).bind fun t134 => (if t134 = true then (some (x4,true)) else (some ((([] : List Int)),false)))) else (some ((([] : List Int)),false)))
def spec_ReadConf.f (k : Nat) (a0 : ByteArray) : Option (List Int × Bool) := spec_ReadConf.l0 k a0 (([] : List Int)) 0
theorem spec_ReadConf.mono_l : ∀ k, (∀ y0 y1 y2, LeO (spec_ReadConf.l0 k y0 y1 y2) (spec_ReadConf.l0 (k + 1) y0 y1 y2))
 | 0 => fun _ _ _ r h => by simp [spec_ReadConf.l0] at h
 | k + 1 => by
  have ih0:=spec_ReadConf.mono_l k
  ·intro y0 y1 y2
   unfold spec_ReadConf.l0
   repeat' first
   | (with_reducible exact ih0 _ _ _)
   | (with_reducible exact spec_ConfOk.mono _ _)
   | (with_reducible exact LeO.refl _)
   | (with_reducible refine LeO.ite ?_ ?_)
   | (with_reducible refine LeO.bind ?_ (fun _ => ?_))
theorem spec_ReadConf.mono : ∀ a0 k, LeO (spec_ReadConf.f k a0) (spec_ReadConf.f (k + 1) a0) := by
 intro a0 k;have ih0:=spec_ReadConf.mono_l k
 unfold spec_ReadConf.f
 repeat' first
   | (with_reducible exact ih0 _ _ _)
set_option maxHeartbeats 8000000 in
set_option maxRecDepth 100000 in
theorem spec_ReadConf.calls (k : Nat) (a0 : ByteArray) (r1 : List Int) (r2 : Bool) (w : World) (h : spec_ReadConf.f k a0 = some (r1, r2)) :
  Calls Try.prog 63 #[.string a0] w fun e w' => ∃ v0_ : Value,e = .returned (.tuple #[v0_,.bool r2]) ∧ Kd.R (Kd.int .i64) 3 w' w.heap.size (fun _ => True) v0_ r1 ∧ Below w.heap.size w w':=by
 have HB:=A_ (Below.refl w.heap.size w);unfold spec_ReadConf.f at h;have H:=h;clear h;obtain ⟨y121,hy121⟩ : ∃ y_ : List Int,y_ = (([] : List Int)):=⟨_,rfl⟩
 replace H : (spec_ReadConf.l0 k a0 y121 0) = some (r1,r2):=by (rw [hy121];with_reducible exact H)
 have Ny121:=A_ hy121;clear hy121;have H':=A_ H;clear H;go_enter Try.func63,Try.ntmps63
 go_wp2_with (((with_reducible refine gate_dst (N:=6) rfl ?_);refine rX_ (d:=(Kd.int .i64)) (e:=3) (xs:=([] : List Int)) (inner:=[]) (ok:=fun _ => True) (okp:=fun _ => True) 6 (Reps.none _ _) ?_;intro v122 w2 ho3 hb hg_ hnew_;clear hg_ hnew_;(rw [← Ny121.out] at ho3);have HO123:=A_ (rw_ ho3 (bz_ (bq_ HB)));replace HB:=bS_ HB hb;clear hb ho3))
 go_loopg [4,5] k (fun kq v4 v5 w' => ∃ (x4_1 : List Int) (x5_1 : Int),v5 = .int .i64 x5_1 ∧ Aside0 (spec_ReadConf.l0 kq a0 x4_1 x5_1 = some (r1,r2)) ∧ Aside0 (kq ≤ k) ∧ Aside0 (Kd.R (Kd.int .i64) 3 w' w.heap.size (fun _ => True) v4 x4_1) ∧ Aside0 (Below w.heap.size w w'))
 case atStart => exact ⟨(y121),(0),(by rfl),H',⟨Nat.le_refl _⟩,⟨HO123.out⟩,⟨bq_ HB⟩⟩
 case round =>
  clear H'
  try clear p2
  obtain ⟨x4_1,x5_1,rfl,HA,HK1,HO_4,HB⟩:=hrel
  cases gk with
  | zero => exact absurd HA.out (by simp [spec_ReadConf.l0])
  | succ k1 =>
   have H:=HA.out;clear HA;simp only [spec_ReadConf.l0] at H
   by_cases c4 : x5_1 < (a0.size : Int);rotate_left
   ·rw [if_neg c4] at H;have c4b0:=decide_eq_false c4;clear c4
    by_cases c20 : (x4_1.length : Int) = (a0.size : Int)
    ·rw [if_pos c20] at H;have c20b0:=beq_iff_eq.mpr c20;have c20b1:=bne_eq_false_iff_eq.mpr c20
     have c20b2 : (x4_1.length == a0.size) = true:=by (simp at c20 ⊢;omega)
     clear c20;replace H:=ob_.mp H;obtain ⟨t134,A210,H⟩:=H;have A21:=A_ A210;clear A210;have HC22:=A_ H;clear H;obtain ⟨Ao23,co23,eo23⟩:=Kd.R_slice HO_4.out;subst eo23
     go_upto_if 33 with ((go_at_call 83;(with_reducible refine (spec_ConfOk.calls k1 _ _ x4_1 t134 _ ?side1 ?side2 A21.out).mono ?_);(case side1 => repeat (exact (Kd.R_reads' HO_4.out).2.2));(case side2 => exact (Kd.R_reads' HO_4.out).2.1);rintro e w' ⟨rfl,⟨nd,rfl⟩⟩))
     have H:=HC22.out;clear HC22
     by_cases c24 : t134 = true
     ·subst c24
      rw [if_pos rfl] at H;simp only [Option.some.injEq,Prod.mk.injEq] at H;obtain ⟨rfl,rfl⟩:=H;go_wp2;go_ret2;exact ⟨_,by rfl,by (with_reducible repeat (apply rn_));exact HO_4.out,bq_ HB⟩
     replace c24:=Bool.eq_false_iff.mpr c24;subst c24
     have H1 : (some ((([] : List Int)),false)) = some (r1,r2):=by rw [if_neg (show ¬ (false = true) by decide)] at H;exact H
     clear H;have H:=H1;clear H1;obtain ⟨y135,hy135⟩ : ∃ y_ : List Int,y_ = (([] : List Int)):=⟨_,rfl⟩
     replace H : (some (y135,false)) = some (r1,r2):=by (rw [hy135];with_reducible exact H)
     have Ny135:=A_ hy135;clear hy135;simp only [Option.some.injEq,Prod.mk.injEq] at H;obtain ⟨rfl,rfl⟩:=H
     go_wp2_with (((with_reducible refine gate_dst (N:=34) rfl ?_);refine rX_ (d:=(Kd.int .i64)) (e:=3) (xs:=([] : List Int)) (inner:=[]) (ok:=fun _ => True) (okp:=fun _ => True) 34 (Reps.none _ _) ?_;intro v136 w25 ho26 hb hg_ hnew_;clear hg_ hnew_;(rw [← Ny135.out] at ho26);have n1_:=A_ (rw_ (Kd.R_new' ho26 (Kd.R_lt (rq_ HO_4))) (bz_ (bq_ HB)));have n2_:=bS_ HB hb;clear HO_4;clear HB;have HO137:=n1_;have HB:=n2_;clear n1_ n2_;clear hb ho26))
     go_ret2;exact ⟨_,by rfl,by exact rm_ HO137.out (fun _ hk => trivial),bq_ HB⟩
    rw [if_neg c20] at H;have c20b0:=beq_eq_false_iff_ne.mpr c20;have c20b1:=bne_iff_ne.mpr c20
    have c20b2 : (x4_1.length == a0.size) = false:=by (simp at c20 ⊢;omega)
    obtain ⟨y138,hy138⟩ : ∃ y_ : List Int,y_ = (([] : List Int)):=⟨_,rfl⟩
    replace H : (some (y138,false)) = some (r1,r2):=by (rw [hy138];with_reducible exact H)
    have Ny138:=A_ hy138;clear hy138;simp only [Option.some.injEq,Prod.mk.injEq] at H;obtain ⟨rfl,rfl⟩:=H;obtain ⟨Ao27,co27,eo27⟩:=Kd.R_slice HO_4.out;subst eo27
    go_wp2_with (((with_reducible refine gate_dst (N:=34) rfl ?_);refine rX_ (d:=(Kd.int .i64)) (e:=3) (xs:=([] : List Int)) (inner:=[]) (ok:=fun _ => True) (okp:=fun _ => True) 34 (Reps.none _ _) ?_;intro v139 w28 ho29 hb hg_ hnew_;clear hg_ hnew_;(rw [← Ny138.out] at ho29);have n1_:=A_ (rw_ (Kd.R_new' ho29 (Kd.R_lt (rq_ HO_4))) (bz_ (bq_ HB)));have n2_:=bS_ HB hb;clear HO_4;clear HB;have HO140:=n1_;have HB:=n2_;clear n1_ n2_;clear hb ho29))
    go_ret2;exact ⟨_,by rfl,by exact rm_ HO140.out (fun _ hk => trivial),bq_ HB⟩
   rw [if_pos c4] at H;have c4b0:=de_ c4;clear c4
   by_cases c5 : x5_1 ≤ 4
   ·rw [if_pos c5] at H;have c5b0:=de_ c5;clear c5
    by_cases c6 : 0 ≤ x5_1
    ·rw [if_pos c6] at H;have c6b0:=de_ c6;clear c6
     by_cases c8 : x4_1.length < 17592186044416
     ·rw [if_pos c8] at H;have LMc8:=A_ c8;clear c8;obtain ⟨y124,hy124⟩ : ∃ y_ : List Int,y_ = (x4_1 ++ [wrap64 (bt a0 x5_1)]):=⟨_,rfl⟩
      replace H : (spec_ReadConf.l0 k1 a0 y124 (wrap64 (x5_1 + 1))) = some (r1,r2):=by (rw [hy124];with_reducible exact H)
      have Ny124:=A_ hy124;clear hy124;have H':=A_ H;clear H;have p7 : 0 ≤ (x5_1 : Int):=oda_;have q7 : x5_1 < (a0.size : Int):=oda_;have hx7:=bt_at a0 x5_1;replace p7:=eq_true p7;replace q7:=eq_true q7
      go_wp2_with (((with_reducible refine gate_builtin (b:=.append) (xs:=#[.tmp 17,.tmp 22]) rfl ?_);at_builtin;refine Kd.R_append (Kd.int .i64) (w0:=w) w.heap.size rfl (.tmp 17) (.tmp 22) 39 3 (.int .i64 0) 8 rfl Try.underlying39 info3 rfl (by decide) (by omega) u4 x4_1 (wrap64 (bt a0 x5_1)) [.int .i64 (wrap64 (bt a0 x5_1))] (fun _ => True) (fun _ => False) rfl rfl ?aP (fun _ hk => hk.elim) ?aF ?aO ?aB ?aS ?aL ?_;(case aP => exact rfl);(case aB => exact (bq_ HB));(case aF => exact (fun _ _ => trivial));(case aO => exact (rq_ HO_4));(case aS => exact (bz_ (bq_ HB)));(case aL => have:=LMc8.out;omega);intro v125 w9 ho hb hg hat;rw [← Ny124.out] at ho;replace HB:=A_ hb;have HO126:=A_ ho;clear HO_4;clear ho hb hg hat))
      go_roundg k1
      case measure => have:=HK1.out;omega
      case rel => exact ⟨(y124),(wrap64 (x5_1 + 1)),(by rfl),H',⟨by have:=HK1.out;omega⟩,⟨HO126.out⟩,⟨bq_ HB⟩⟩
     rw [if_neg c8] at H;exact absurd H (by simp)
    rw [if_neg c6] at H;exact absurd H (by simp)
   rw [if_neg c5] at H;have c5b0:=decide_eq_false c5;clear c5
   by_cases c10 : (x4_1.length : Int) = (a0.size : Int)
   ·rw [if_pos c10] at H;have c10b0:=beq_iff_eq.mpr c10;have c10b1:=bne_eq_false_iff_eq.mpr c10
    have c10b2 : (x4_1.length == a0.size) = true:=by (simp at c10 ⊢;omega)
    clear c10;replace H:=ob_.mp H;obtain ⟨t127,A110,H⟩:=H;have A11:=A_ A110;clear A110;have HC12:=A_ H;clear H;obtain ⟨Ao13,co13,eo13⟩:=Kd.R_slice HO_4.out;subst eo13
    go_upto_if 33 with ((go_at_call 83;(with_reducible refine (spec_ConfOk.calls k1 _ _ x4_1 t127 _ ?side1 ?side2 A11.out).mono ?_);(case side1 => repeat (exact (Kd.R_reads' HO_4.out).2.2));(case side2 => exact (Kd.R_reads' HO_4.out).2.1);rintro e w' ⟨rfl,⟨nd,rfl⟩⟩))
    have H:=HC12.out;clear HC12
    by_cases c14 : t127 = true
    ·subst c14
     rw [if_pos rfl] at H;simp only [Option.some.injEq,Prod.mk.injEq] at H;obtain ⟨rfl,rfl⟩:=H;go_wp2;go_ret2;exact ⟨_,by rfl,by (with_reducible repeat (apply rn_));exact HO_4.out,bq_ HB⟩
    replace c14:=Bool.eq_false_iff.mpr c14;subst c14
    have H1 : (some ((([] : List Int)),false)) = some (r1,r2):=by rw [if_neg (show ¬ (false = true) by decide)] at H;exact H
    clear H;have H:=H1;clear H1;obtain ⟨y128,hy128⟩ : ∃ y_ : List Int,y_ = (([] : List Int)):=⟨_,rfl⟩
    replace H : (some (y128,false)) = some (r1,r2):=by (rw [hy128];with_reducible exact H)
    have Ny128:=A_ hy128;clear hy128;simp only [Option.some.injEq,Prod.mk.injEq] at H;obtain ⟨rfl,rfl⟩:=H
    go_wp2_with (((with_reducible refine gate_dst (N:=34) rfl ?_);refine rX_ (d:=(Kd.int .i64)) (e:=3) (xs:=([] : List Int)) (inner:=[]) (ok:=fun _ => True) (okp:=fun _ => True) 34 (Reps.none _ _) ?_;intro v129 w15 ho16 hb hg_ hnew_;clear hg_ hnew_;(rw [← Ny128.out] at ho16);have n1_:=A_ (rw_ (Kd.R_new' ho16 (Kd.R_lt (rq_ HO_4))) (bz_ (bq_ HB)));have n2_:=bS_ HB hb;clear HO_4;clear HB;have HO130:=n1_;have HB:=n2_;clear n1_ n2_;clear hb ho16))
    go_ret2;exact ⟨_,by rfl,by exact rm_ HO130.out (fun _ hk => trivial),bq_ HB⟩
   rw [if_neg c10] at H;have c10b0:=beq_eq_false_iff_ne.mpr c10;have c10b1:=bne_iff_ne.mpr c10
   have c10b2 : (x4_1.length == a0.size) = false:=by (simp at c10 ⊢;omega)
   obtain ⟨y131,hy131⟩ : ∃ y_ : List Int,y_ = (([] : List Int)):=⟨_,rfl⟩
   replace H : (some (y131,false)) = some (r1,r2):=by (rw [hy131];with_reducible exact H)
   have Ny131:=A_ hy131;clear hy131;simp only [Option.some.injEq,Prod.mk.injEq] at H;obtain ⟨rfl,rfl⟩:=H;obtain ⟨Ao17,co17,eo17⟩:=Kd.R_slice HO_4.out;subst eo17
   go_wp2_with (((with_reducible refine gate_dst (N:=34) rfl ?_);refine rX_ (d:=(Kd.int .i64)) (e:=3) (xs:=([] : List Int)) (inner:=[]) (ok:=fun _ => True) (okp:=fun _ => True) 34 (Reps.none _ _) ?_;intro v132 w18 ho19 hb hg_ hnew_;clear hg_ hnew_;(rw [← Ny131.out] at ho19);have n1_:=A_ (rw_ (Kd.R_new' ho19 (Kd.R_lt (rq_ HO_4))) (bz_ (bq_ HB)));have n2_:=bS_ HB hb;clear HO_4;clear HB;have HO133:=n1_;have HB:=n2_;clear n1_ n2_;clear hb ho19))
   go_ret2;exact ⟨_,by rfl,by exact rm_ HO133.out (fun _ hk => trivial),bq_ HB⟩
end Go.Proofs.Ytbcgnncbiblibaa.PFnMessages
