/- The contracts of Go functions that this law reaches: what each call returns, by a plain Lean function of its arguments, under the conditions that each names. By the kit's print.py, run by this repo's wip/gen/pp.py: not to the letter what print.sh prints. -/
import Derived.Test.YtbcgnncbiblibaaPFnMessagesx0
import Derived.Test.YtbcgnncbiblibaaPFnMessagesx2
import Derived.Test.YtbcgnncbiblibaaPFnMessagesx3
namespace Go.Proofs.Ytbcgnncbiblibaa.PFnMessages
open Go.RowKit Go.Proofs.YtbcgnncbiblibaaW.PrintWords Go.Proofs.YtbcgnncbiblibaaW.PrintLast Go.Proofs.YtbcgnncbiblibaaW.PrintMore
attribute [local go_sem] max2_int min2_int max_two min_two max_three min_three max_four min_four
set_option linter.unusedVariables false
set_option linter.unusedSimpArgs false
attribute [local go_sem high] eqA161
mutual
def spec_CommandOk.j0 : Nat → Bool → Int → Int → Int → ByteArray → ByteArray → ByteArray → Option (Bool)
 | 0,_,_,_,_,_,_,_ => none
 | k + 1,x30,x448000,x448001,x448002,x448003,x448004,x448005 => if x30 = true then (some false) else (if x448000 = 1 then (some (x448000 == 1 && (x448001 == 0 && (x448002 == 0 && (x448003.toList == ([] : List UInt8) && (x448004.toList == ([] : List UInt8) && (x448005.toList == ([] : List UInt8)))))))) else ((spec_l01In.f (x448003.size : Int) 1 9).bind fun t451 => (if t451 = true then (if x448000 = 2 then (spec_CommandOk.j1 k x448000 (x448000 == 2) x448000 x448001 x448002 x448003 x448004 x448005) else (spec_CommandOk.j1 k x448000 (x448000 == 4) x448000 x448001 x448002 x448003 x448004 x448005)) else (some false))))
def spec_CommandOk.j1 : Nat → Int → Bool → Int → Int → Int → ByteArray → ByteArray → ByteArray → Option (Bool)
 | 0,_,_,_,_,_,_,_,_ => none
 | k + 1,x43,x44,x448000,x448001,x448002,x448003,x448004,x448005 => if x44 = true then (if x448004.toList = ([] : List UInt8) then (some (x448005.toList == ([] : List UInt8))) else (some false)) else (if x43 = 3 then (some (x448005.toList == ([] : List UInt8))) else (some true))
end
def spec_CommandOk.f (k : Nat) (a0_0 a0_1 a0_2 : Int) (a0_3 a0_4 a0_5 : ByteArray) : Option (Bool) := (spec_l01In.f a0_0 1 5).bind fun t448 => (if t448 = true then ((spec_l01In.f a0_1 0 100000).bind fun t449 => (if t449 = true then ((spec_l01In.f a0_2 0 100000).bind fun t450 => (if t450 = true then (if (a0_4.size : Int) > 12 then (spec_CommandOk.j0 k true a0_0 a0_1 a0_2 a0_3 a0_4 a0_5) else (spec_CommandOk.j0 k (decide ((a0_5.size : Int) > 12)) a0_0 a0_1 a0_2 a0_3 a0_4 a0_5)) else (spec_CommandOk.j0 k true a0_0 a0_1 a0_2 a0_3 a0_4 a0_5))) else (spec_CommandOk.j0 k true a0_0 a0_1 a0_2 a0_3 a0_4 a0_5))) else (spec_CommandOk.j0 k true a0_0 a0_1 a0_2 a0_3 a0_4 a0_5))
theorem spec_CommandOk.mono_l : ∀ k, (∀ y0 y1 y2 y3 y4 y5 y6, LeO (spec_CommandOk.j0 k y0 y1 y2 y3 y4 y5 y6) (spec_CommandOk.j0 (k + 1) y0 y1 y2 y3 y4 y5 y6)) ∧ (∀ y0 y1 y2 y3 y4 y5 y6 y7, LeO (spec_CommandOk.j1 k y0 y1 y2 y3 y4 y5 y6 y7) (spec_CommandOk.j1 (k + 1) y0 y1 y2 y3 y4 y5 y6 y7))
 | 0 => ⟨fun _ _ _ _ _ _ _ r h => by simp [spec_CommandOk.j0] at h,fun _ _ _ _ _ _ _ _ r h => by simp [spec_CommandOk.j1] at h⟩
 | k + 1 => by
  obtain ⟨ih0,ih1⟩:=spec_CommandOk.mono_l k;refine ⟨?_,?_⟩
  ·intro y0 y1 y2 y3 y4 y5 y6
   unfold spec_CommandOk.j0
   repeat' first
   | (with_reducible exact ih1 _ _ _ _ _ _ _ _)
   | (with_reducible exact LeO.refl _)
   | (with_reducible refine LeO.ite ?_ ?_)
   | (with_reducible refine LeO.bind ?_ (fun _ => ?_))
  intro y0 y1 y2 y3 y4 y5 y6 y7
  unfold spec_CommandOk.j1
  repeat' first
  | (with_reducible exact LeO.refl _)
theorem spec_CommandOk.mono : ∀ a0 a1 a2 a3 a4 a5 k, LeO (spec_CommandOk.f k a0 a1 a2 a3 a4 a5) (spec_CommandOk.f (k + 1) a0 a1 a2 a3 a4 a5) := by
 intro a0 a1 a2 a3 a4 a5 k;obtain ⟨ih0,ih1⟩:=spec_CommandOk.mono_l k
 unfold spec_CommandOk.f
 repeat' first
   | (with_reducible exact ih0 _ _ _ _ _ _ _)
   | (with_reducible exact LeO.refl _)
   | (with_reducible refine LeO.ite ?_ ?_)
   | (with_reducible refine LeO.bind ?_ (fun _ => ?_))
set_option maxHeartbeats 8000000 in
set_option maxRecDepth 100000 in
theorem spec_CommandOk.calls (k : Nat) (a0_0 a0_1 a0_2 : Int) (a0_3 a0_4 a0_5 : ByteArray) (r : Bool) (w : World) (h : spec_CommandOk.f k a0_0 a0_1 a0_2 a0_3 a0_4 a0_5 = some r) :
  Calls Try.prog 140 #[.agg #[.int .i64 a0_0,.int .i64 a0_1,.int .i64 a0_2,.string a0_3,.string a0_4,.string a0_5]] w fun e w' => e = .returned (.bool r) ∧ Below w.heap.size w w':=by
 have hu161:=Try.underlying161;have HB:=A_ (Below.refl w.heap.size w);unfold spec_CommandOk.f at h;have H:=h;clear h;have HC2:=A_ H;clear H;go_enter Try.func140,Try.ntmps140
 go_upto_region 1 with (((with_reducible refine gate_dst (N:=1) rfl ?_);(try (refine gate_guard (by rfl) ?_;dsimp only));refine bE_ 1 #[.int .i64 a0_0,.int .i64 a0_1,.int .i64 a0_2,.string a0_3,.string a0_4,.string a0_5] 161 ?_;intro gb447 hg w3 hbox hb;have n0_:=bS_ HB hb;have n1_:=A_ hbox;have n3_:=gE_ hg HB;clear HB;have HB:=n0_;have BK447:=n1_;have GE447:=n3_;clear n0_ n1_ n3_;clear hb hbox hg))
 go_cut [30] (fun v30 wc => ∃ (kq : Nat) (x30_1 : Bool),v30 = .bool x30_1 ∧ Aside0 (spec_CommandOk.j0 kq x30_1 a0_0 a0_1 a0_2 a0_3 a0_4 a0_5 = some r) ∧ Aside0 (kq ≤ k) ∧ Aside0 (wc.heap[gb447]? = some (.cells #[.int .i64 a0_0,.int .i64 a0_1,.int .i64 a0_2,.string a0_3,.string a0_4,.string a0_5] 161 (0,0))) ∧ Aside0 (Below w.heap.size w wc))
 case first =>
  have H:=HC2.out;clear HC2;replace H:=ob_.mp H;obtain ⟨t448,A40,H⟩:=H;have A4:=A_ A40;clear A40
  by_cases c5 : t448 = true;rotate_left
  ·replace c5:=Bool.eq_false_iff.mpr c5;subst c5
   have H1 : (spec_CommandOk.j0 k true a0_0 a0_1 a0_2 a0_3 a0_4 a0_5) = some r:=by rw [if_neg (show ¬ (false = true) by decide)] at H;exact H
   clear H;have H:=H1;clear H1;have H':=A_ H;clear H;obtain ⟨hcz15_0,hcz15_1,hcz15_2,hcz15_3,hcz15_4,hcz15_5,hfz15_0,hfz15_1,hfz15_2,hfz15_3,hfz15_4,hfz15_5⟩:=k6f_ BK447
   go_wp2_with (((with_reducible refine gate_callee (f:=81) rfl ?_);refine gL_ (some 5) Try.func81 #[.int .i64 a0_0,.int .i64 1,.int .i64 5] ?_;(with_reducible refine (spec_l01In.calls a0_0 1 5 false _ A4.out).mono ?_);rintro e w' ⟨rfl,⟨nd,rfl⟩⟩;refine ⟨_,rfl,?_⟩))
   go_meet
   case rel => exact ⟨_,(true),(by rfl),H',⟨by omega⟩,⟨kq_ BK447⟩,⟨bq_ HB⟩⟩
  subst c5
  rw [if_pos rfl] at H;replace H:=ob_.mp H;obtain ⟨t449,A60,H⟩:=H;have A6:=A_ A60;clear A60
  by_cases c7 : t449 = true;rotate_left
  ·replace c7:=Bool.eq_false_iff.mpr c7;subst c7
   have H1 : (spec_CommandOk.j0 k true a0_0 a0_1 a0_2 a0_3 a0_4 a0_5) = some r:=by rw [if_neg (show ¬ (false = true) by decide)] at H;exact H
   clear H;have H:=H1;clear H1;have H':=A_ H;clear H;obtain ⟨hcz14_0,hcz14_1,hcz14_2,hcz14_3,hcz14_4,hcz14_5,hfz14_0,hfz14_1,hfz14_2,hfz14_3,hfz14_4,hfz14_5⟩:=k6f_ BK447
   go_wp2_with (first|((with_reducible refine gate_callee (f:=81) rfl ?_);refine gL_ (some 5) Try.func81 #[.int .i64 a0_0,.int .i64 1,.int .i64 5] ?_;(with_reducible refine (spec_l01In.calls a0_0 1 5 true _ A4.out).mono ?_);rintro e w' ⟨rfl,⟨nd,rfl⟩⟩;refine ⟨_,rfl,?_⟩)|(go_at_call 81;(with_reducible refine (spec_l01In.calls a0_1 0 100000 false _ A6.out).mono ?_);rintro e w' ⟨rfl,⟨nd,rfl⟩⟩))
   go_meet
   case rel => exact ⟨_,(true),(by rfl),H',⟨by omega⟩,⟨kq_ BK447⟩,⟨bq_ HB⟩⟩
  subst c7
  rw [if_pos rfl] at H;replace H:=ob_.mp H;obtain ⟨t450,A80,H⟩:=H;have A8:=A_ A80;clear A80
  by_cases c9 : t450 = true
  ·subst c9
   rw [if_pos rfl] at H
   by_cases c10 : (a0_4.size : Int) > 12
   ·rw [if_pos c10] at H;have c10b0:=de_ c10;have c10b1 : decide (12 < a0_4.size) = true:=de_ (by omega);clear c10
    (skip)
    have H':=A_ H;clear H;obtain ⟨hcz11_0,hcz11_1,hcz11_2,hcz11_3,hcz11_4,hcz11_5,hfz11_0,hfz11_1,hfz11_2,hfz11_3,hfz11_4,hfz11_5⟩:=k6f_ BK447
    go_wp2_with (first|((with_reducible refine gate_callee (f:=81) rfl ?_);refine gL_ (some 5) Try.func81 #[.int .i64 a0_0,.int .i64 1,.int .i64 5] ?_;(with_reducible refine (spec_l01In.calls a0_0 1 5 true _ A4.out).mono ?_);rintro e w' ⟨rfl,⟨nd,rfl⟩⟩;refine ⟨_,rfl,?_⟩)|(go_at_call 81;(with_reducible refine (spec_l01In.calls a0_1 0 100000 true _ A6.out).mono ?_);rintro e w' ⟨rfl,⟨nd,rfl⟩⟩)|(go_at_call 81;(with_reducible refine (spec_l01In.calls a0_2 0 100000 true _ A8.out).mono ?_);rintro e w' ⟨rfl,⟨nd,rfl⟩⟩))
    go_meet
    case rel => exact ⟨_,(true),(by rfl),H',⟨by omega⟩,⟨kq_ BK447⟩,⟨bq_ HB⟩⟩
   rw [if_neg c10] at H;have c10b0:=decide_eq_false c10;have c10b1 : decide (12 < a0_4.size) = false:=decide_eq_false (by omega);clear c10
   (skip)
   have H':=A_ H;clear H;obtain ⟨hcz12_0,hcz12_1,hcz12_2,hcz12_3,hcz12_4,hcz12_5,hfz12_0,hfz12_1,hfz12_2,hfz12_3,hfz12_4,hfz12_5⟩:=k6f_ BK447
   go_wp2_with (first|((with_reducible refine gate_callee (f:=81) rfl ?_);refine gL_ (some 5) Try.func81 #[.int .i64 a0_0,.int .i64 1,.int .i64 5] ?_;(with_reducible refine (spec_l01In.calls a0_0 1 5 true _ A4.out).mono ?_);rintro e w' ⟨rfl,⟨nd,rfl⟩⟩;refine ⟨_,rfl,?_⟩)|(go_at_call 81;(with_reducible refine (spec_l01In.calls a0_1 0 100000 true _ A6.out).mono ?_);rintro e w' ⟨rfl,⟨nd,rfl⟩⟩)|(go_at_call 81;(with_reducible refine (spec_l01In.calls a0_2 0 100000 true _ A8.out).mono ?_);rintro e w' ⟨rfl,⟨nd,rfl⟩⟩))
   go_meet
   case rel => exact ⟨_,(decide ((a0_5.size : Int) > 12)),(by rfl),H',⟨by omega⟩,⟨kq_ BK447⟩,⟨bq_ HB⟩⟩
  replace c9:=Bool.eq_false_iff.mpr c9;subst c9
  have H1 : (spec_CommandOk.j0 k true a0_0 a0_1 a0_2 a0_3 a0_4 a0_5) = some r:=by rw [if_neg (show ¬ (false = true) by decide)] at H;exact H
  clear H;have H:=H1;clear H1;have H':=A_ H;clear H;obtain ⟨hcz13_0,hcz13_1,hcz13_2,hcz13_3,hcz13_4,hcz13_5,hfz13_0,hfz13_1,hfz13_2,hfz13_3,hfz13_4,hfz13_5⟩:=k6f_ BK447
  go_wp2_with (first|((with_reducible refine gate_callee (f:=81) rfl ?_);refine gL_ (some 5) Try.func81 #[.int .i64 a0_0,.int .i64 1,.int .i64 5] ?_;(with_reducible refine (spec_l01In.calls a0_0 1 5 true _ A4.out).mono ?_);rintro e w' ⟨rfl,⟨nd,rfl⟩⟩;refine ⟨_,rfl,?_⟩)|(go_at_call 81;(with_reducible refine (spec_l01In.calls a0_1 0 100000 true _ A6.out).mono ?_);rintro e w' ⟨rfl,⟨nd,rfl⟩⟩)|(go_at_call 81;(with_reducible refine (spec_l01In.calls a0_2 0 100000 false _ A8.out).mono ?_);rintro e w' ⟨rfl,⟨nd,rfl⟩⟩))
  go_meet
  case rel => exact ⟨_,(true),(by rfl),H',⟨by omega⟩,⟨kq_ BK447⟩,⟨bq_ HB⟩⟩
 case rest =>
  clear HC2
  (try clear c1);(try clear p2);(try clear c5);(try clear c7);(try clear c8);(try clear c9);(try clear c10);(try clear c10b0);(try clear c10b1);(try clear c14);(try clear hcz11_0);(try clear hcz11_1);(try clear hcz11_2);(try clear hcz11_3);(try clear hcz11_4);(try clear hcz11_5);(try clear hcz12_0);(try clear hcz12_1);(try clear hcz12_2);(try clear hcz12_3);(try clear hcz12_4);(try clear hcz12_5);(try clear hcz13_0);(try clear hcz13_1);(try clear hcz13_2);(try clear hcz13_3);(try clear hcz13_4);(try clear hcz13_5);(try clear hcz14_0);(try clear hcz14_1);(try clear hcz14_2);(try clear hcz14_3);(try clear hcz14_4);(try clear hcz14_5);(try clear hcz15_0);(try clear hcz15_1);(try clear hcz15_2);(try clear hcz15_3);(try clear hcz15_4);(try clear hcz15_5);(try clear hfz11_0);(try clear hfz11_1);(try clear hfz11_2);(try clear hfz11_3);(try clear hfz11_4);(try clear hfz11_5);(try clear hfz12_0);(try clear hfz12_1);(try clear hfz12_2);(try clear hfz12_3);(try clear hfz12_4);(try clear hfz12_5);(try clear hfz13_0);(try clear hfz13_1);(try clear hfz13_2);(try clear hfz13_3);(try clear hfz13_4);(try clear hfz13_5);(try clear hfz14_0);(try clear hfz14_1);(try clear hfz14_2);(try clear hfz14_3);(try clear hfz14_4);(try clear hfz14_5);(try clear hfz15_0);(try clear hfz15_1);(try clear hfz15_2);(try clear hfz15_3);(try clear hfz15_4);(try clear hfz15_5)
  obtain ⟨kq,x30_1,rfl,HA,HJ1,BK447,HB⟩:=hcut
  cases kq with
  | zero => exact absurd HA.out (by simp [spec_CommandOk.j0])
  | succ kj1 =>
   have H:=HA.out;clear HA;simp only [spec_CommandOk.j0] at H
   by_cases c16 : x30_1 = true
   ·subst c16
    rw [if_pos rfl] at H;obtain rfl:=Option.some.inj H;go_wp2;go_ret;exact ⟨ex_,bq_ HB⟩
   replace c16:=Bool.eq_false_iff.mpr c16;subst c16
   have H1 : (if a0_0 = 1 then (some (a0_0 == 1 && (a0_1 == 0 && (a0_2 == 0 && (a0_3.toList == ([] : List UInt8) && (a0_4.toList == ([] : List UInt8) && (a0_5.toList == ([] : List UInt8)))))))) else ((spec_l01In.f (a0_3.size : Int) 1 9).bind fun t451 => (if t451 = true then (if a0_0 = 2 then (spec_CommandOk.j1 kj1 a0_0 (a0_0 == 2) a0_0 a0_1 a0_2 a0_3 a0_4 a0_5) else (spec_CommandOk.j1 kj1 a0_0 (a0_0 == 4) a0_0 a0_1 a0_2 a0_3 a0_4 a0_5)) else (some false)))) = some r:=by rw [if_neg (show ¬ (false = true) by decide)] at H;exact H
   clear H;have H:=H1;clear H1;have HC17:=A_ H;clear H;obtain ⟨hcz18_0,hcz18_1,hcz18_2,hcz18_3,hcz18_4,hcz18_5,hfz18_0,hfz18_1,hfz18_2,hfz18_3,hfz18_4,hfz18_5⟩:=k6f_ BK447
   go_upto_if 33 with (fail)
   have H:=HC17.out;clear HC17
   by_cases c19 : a0_0 = 1
   ·rw [if_pos c19] at H;have c19b0:=beq_iff_eq.mpr c19;have c19b1:=bne_eq_false_iff_eq.mpr c19;clear c19
    (rw [c19b0])
    obtain rfl:=Option.some.inj H;obtain ⟨hcz20_0,hcz20_1,hcz20_2,hcz20_3,hcz20_4,hcz20_5,hfz20_0,hfz20_1,hfz20_2,hfz20_3,hfz20_4,hfz20_5⟩:=k6f_ BK447;go_wp2;go_ret;exact ⟨ex_,bq_ HB⟩
   rw [if_neg c19] at H;have c19b0:=beq_eq_false_iff_ne.mpr c19;have c19b1:=bne_iff_ne.mpr c19
   (rw [c19b0])
   replace H:=ob_.mp H;obtain ⟨t451,A210,H⟩:=H;have A21:=A_ A210;clear A210;have HC22:=A_ H;clear H;obtain ⟨hcz23_0,hcz23_1,hcz23_2,hcz23_3,hcz23_4,hcz23_5,hfz23_0,hfz23_1,hfz23_2,hfz23_3,hfz23_4,hfz23_5⟩:=k6f_ BK447
   go_upto_if 41 with (((with_reducible refine gate_callee (f:=81) rfl ?_);refine gL_ (some 40) Try.func81 #[.int .i64 (a0_3.size : Int),.int .i64 1,.int .i64 9] ?_;(with_reducible refine (spec_l01In.calls (a0_3.size : Int) 1 9 t451 _ A21.out).mono ?_);rintro e w' ⟨rfl,⟨nd,rfl⟩⟩;refine ⟨_,rfl,?_⟩))
   have H:=HC22.out;clear HC22
   by_cases c24 : t451 = true;rotate_left
   ·replace c24:=Bool.eq_false_iff.mpr c24;subst c24
    have H1 : (some false) = some r:=by rw [if_neg (show ¬ (false = true) by decide)] at H;exact H
    clear H;have H:=H1;clear H1;obtain rfl:=Option.some.inj H;go_wp2;go_ret;exact ⟨ex_,bq_ HB⟩
   subst c24
   rw [if_pos rfl] at H;have HC25:=A_ H;clear H;obtain ⟨hcz26_0,hcz26_1,hcz26_2,hcz26_3,hcz26_4,hcz26_5,hfz26_0,hfz26_1,hfz26_2,hfz26_3,hfz26_4,hfz26_5⟩:=k6f_ BK447
   go_upto_if 44 with (fail)
   go_cut [44] (fun v44 wc => ∃ (kq : Nat) (x44_24 : Bool),v44 = .bool x44_24 ∧ Aside0 (spec_CommandOk.j1 kq a0_0 x44_24 a0_0 a0_1 a0_2 a0_3 a0_4 a0_5 = some r) ∧ Aside0 (kq ≤ kj1) ∧ Aside0 (wc.heap[gb447]? = some (.cells #[.int .i64 a0_0,.int .i64 a0_1,.int .i64 a0_2,.string a0_3,.string a0_4,.string a0_5] 161 (0,0))) ∧ Aside0 (Below w.heap.size w wc))
   case first =>
    have H:=HC25.out;clear HC25
    by_cases c27 : a0_0 = 2
    ·rw [if_pos c27] at H;have c27b0:=beq_iff_eq.mpr c27;have c27b1:=bne_eq_false_iff_eq.mpr c27;clear c27
     (rw [c27b0])
     have H':=A_ H;clear H;go_wp2
     go_meet
     case rel => exact ⟨_,((a0_0 == 2)),(by (simp [*];done)),H',⟨by have:=HJ1.out;omega⟩,⟨kq_ BK447⟩,⟨bq_ HB⟩⟩
    rw [if_neg c27] at H;have c27b0:=beq_eq_false_iff_ne.mpr c27;have c27b1:=bne_iff_ne.mpr c27
    (rw [c27b0])
    have H':=A_ H;clear H;go_wp2
    go_meet
    case rel => exact ⟨_,((a0_0 == 4)),(by rfl),H',⟨by have:=HJ1.out;omega⟩,⟨kq_ BK447⟩,⟨bq_ HB⟩⟩
   case rest =>
    clear HC25
    (try clear c1);(try clear c2);(try clear p2);(try clear c5);(try clear c7);(try clear c8);(try clear c9);(try clear c10);(try clear c10b0);(try clear c10b1);(try clear c14);(try clear c16);(try clear c19);(try clear c19b0);(try clear c19b1);(try clear c24);(try clear c27);(try clear c27b0);(try clear c27b1);(try clear hcz11_0);(try clear hcz11_1);(try clear hcz11_2);(try clear hcz11_3);(try clear hcz11_4);(try clear hcz11_5);(try clear hcz12_0);(try clear hcz12_1);(try clear hcz12_2);(try clear hcz12_3);(try clear hcz12_4);(try clear hcz12_5);(try clear hcz13_0);(try clear hcz13_1);(try clear hcz13_2);(try clear hcz13_3);(try clear hcz13_4);(try clear hcz13_5);(try clear hcz14_0);(try clear hcz14_1);(try clear hcz14_2);(try clear hcz14_3);(try clear hcz14_4);(try clear hcz14_5);(try clear hcz15_0);(try clear hcz15_1);(try clear hcz15_2);(try clear hcz15_3);(try clear hcz15_4);(try clear hcz15_5);(try clear hcz18_0);(try clear hcz18_1);(try clear hcz18_2);(try clear hcz18_3);(try clear hcz18_4);(try clear hcz18_5);(try clear hcz20_0);(try clear hcz20_1);(try clear hcz20_2);(try clear hcz20_3);(try clear hcz20_4);(try clear hcz20_5);(try clear hcz23_0);(try clear hcz23_1);(try clear hcz23_2);(try clear hcz23_3);(try clear hcz23_4);(try clear hcz23_5);(try clear hcz26_0);(try clear hcz26_1);(try clear hcz26_2);(try clear hcz26_3);(try clear hcz26_4);(try clear hcz26_5);(try clear hfz11_0);(try clear hfz11_1);(try clear hfz11_2);(try clear hfz11_3);(try clear hfz11_4);(try clear hfz11_5);(try clear hfz12_0);(try clear hfz12_1);(try clear hfz12_2);(try clear hfz12_3);(try clear hfz12_4);(try clear hfz12_5);(try clear hfz13_0);(try clear hfz13_1);(try clear hfz13_2);(try clear hfz13_3);(try clear hfz13_4);(try clear hfz13_5);(try clear hfz14_0);(try clear hfz14_1);(try clear hfz14_2);(try clear hfz14_3);(try clear hfz14_4);(try clear hfz14_5);(try clear hfz15_0);(try clear hfz15_1);(try clear hfz15_2);(try clear hfz15_3);(try clear hfz15_4);(try clear hfz15_5);(try clear hfz18_0);(try clear hfz18_1);(try clear hfz18_2);(try clear hfz18_3);(try clear hfz18_4);(try clear hfz18_5);(try clear hfz20_0);(try clear hfz20_1);(try clear hfz20_2);(try clear hfz20_3);(try clear hfz20_4);(try clear hfz20_5);(try clear hfz23_0);(try clear hfz23_1);(try clear hfz23_2);(try clear hfz23_3);(try clear hfz23_4);(try clear hfz23_5);(try clear hfz26_0);(try clear hfz26_1);(try clear hfz26_2);(try clear hfz26_3);(try clear hfz26_4);(try clear hfz26_5);(try clear p2)
    obtain ⟨kq,x44_24,rfl,HA,HJ24,BK447,HB⟩:=hcut
    cases kq with
    | zero => exact absurd HA.out (by simp [spec_CommandOk.j1])
    | succ kj24 =>
     have H:=HA.out;clear HA;simp only [spec_CommandOk.j1] at H
     by_cases c28 : x44_24 = true
     ·subst c28
      rw [if_pos rfl] at H
      by_cases c29 : a0_4.toList = ([] : List UInt8)
      ·rw [if_pos c29] at H;have c29b0:=beq_iff_eq.mpr c29;have c29b1:=bne_eq_false_iff_eq.mpr c29;clear c29;obtain rfl:=Option.some.inj H;obtain ⟨hcz30_0,hcz30_1,hcz30_2,hcz30_3,hcz30_4,hcz30_5,hfz30_0,hfz30_1,hfz30_2,hfz30_3,hfz30_4,hfz30_5⟩:=k6f_ BK447;go_wp2;go_ret;exact ⟨ex_,bq_ HB⟩
      rw [if_neg c29] at H;have c29b0:=beq_eq_false_iff_ne.mpr c29;have c29b1:=bne_iff_ne.mpr c29;obtain rfl:=Option.some.inj H;obtain ⟨hcz31_0,hcz31_1,hcz31_2,hcz31_3,hcz31_4,hcz31_5,hfz31_0,hfz31_1,hfz31_2,hfz31_3,hfz31_4,hfz31_5⟩:=k6f_ BK447;go_wp2;go_ret;exact ⟨ex_,bq_ HB⟩
     replace c28:=Bool.eq_false_iff.mpr c28;subst c28
     have H1 : (if a0_0 = 3 then (some (a0_5.toList == ([] : List UInt8))) else (some true)) = some r:=by rw [if_neg (show ¬ (false = true) by decide)] at H;exact H
     clear H;have H:=H1;clear H1
     by_cases c32 : a0_0 = 3
     ·rw [if_pos c32] at H;have c32b0:=beq_iff_eq.mpr c32;have c32b1:=bne_eq_false_iff_eq.mpr c32;clear c32;obtain rfl:=Option.some.inj H;obtain ⟨hcz33_0,hcz33_1,hcz33_2,hcz33_3,hcz33_4,hcz33_5,hfz33_0,hfz33_1,hfz33_2,hfz33_3,hfz33_4,hfz33_5⟩:=k6f_ BK447;go_wp2;go_ret;exact ⟨ex_,bq_ HB⟩
     rw [if_neg c32] at H;have c32b0:=beq_eq_false_iff_ne.mpr c32;have c32b1:=bne_iff_ne.mpr c32;obtain rfl:=Option.some.inj H;go_wp2;go_ret;exact ⟨ex_,bq_ HB⟩
end Go.Proofs.Ytbcgnncbiblibaa.PFnMessages
