/- The contracts of the Go functions that this law reaches: what each call returns, by a plain Lean function of its arguments. No conditions but those each contract names. By the kit's print.py, run by this session's wip/gen/pp.py with facts and hand proofs beside it: not to the letter what print.sh prints. -/
import Derived.Test.YtgpafelepkhdoaaPFnBehindx0
namespace Go.Proofs.Ytgpafelepkhdoaa.PFnBehind
open Go.RowKit Go.Proofs.YtgpafelepkhdoaaW.PrintWords Go.Proofs.YtgpafelepkhdoaaW.PrintLast Go.Proofs.YtgpafelepkhdoaaW.PrintMore
attribute [local go_sem] max2_int min2_int max_two min_two max_three min_three max_four min_four
set_option linter.unusedVariables false
set_option linter.unusedSimpArgs false
def spec_l01In.f (a0 : Int) (a1 : Int) (a2 : Int) : Option (Bool) := if a0 ≥ a1 then (some (decide (a0 ≤ a2))) else (some false)
set_option maxHeartbeats 8000000 in
set_option maxRecDepth 100000 in
theorem spec_l01In.calls (a0 : Int) (a1 : Int) (a2 : Int) (r : Bool) (w : World) (h : spec_l01In.f a0 a1 a2 = some r) :
  Calls Try.prog 78 #[.int .i64 a0,.int .i64 a1,.int .i64 a2] w fun e w' => e = .returned (.bool r) ∧ Drawn0 w w':=by
 have H : (if a0 ≥ a1 then (some (decide (a0 ≤ a2))) else (some false)) = some r:=h;clear h
 by_cases c4 : a0 ≥ a1
 ·rw [if_pos c4] at H;have c4b0 : decide (a1 ≤ a0) = true:=de_ c4;clear c4;obtain rfl:=Option.some.inj H;go_enter Try.func78,Try.ntmps78;go_wp2;go_ret;exact ⟨by first|rfl|(simp;done)|(simp [*];done),by repeat (first|exact Drawn0.refl _|apply Drawn0.step)⟩
 ·rw [if_neg c4] at H;have c4b0 : decide (a1 ≤ a0) = false:=decide_eq_false c4;clear c4;obtain rfl:=Option.some.inj H;go_enter Try.func78,Try.ntmps78;go_wp2;go_ret;exact ⟨by first|rfl|(simp;done)|(simp [*];done),by repeat (first|exact Drawn0.refl _|apply Drawn0.step)⟩
def spec_l07Rise.l0 : Nat → List Int → Int → Int → Int → Option (Bool)
 | 0,_,_,_,_ => none
 | k + 1,x0,x1,x2,x7 => if x7 < (x0.length : Int) then (if 0 ≤ x7 then ((spec_l01In.f (rd x0 x7) x1 x2).bind fun t142 => (if t142 = true then (if x7 > 0 then (if 0 ≤ (wrap64 (x7 - 1)) then (if (wrap64 (x7 - 1)) < (x0.length : Int) then (if (rd x0 (wrap64 (x7 - 1))) ≥ (rd x0 x7) then (some false) else (spec_l07Rise.l0 k x0 x1 x2 (wrap64 (x7 + 1)))) else (none)) else (none)) else (spec_l07Rise.l0 k x0 x1 x2 (wrap64 (x7 + 1)))) else (some false))) else (none)) else (some true)
def spec_l07Rise.f (k : Nat) (l0 : List Int) (a1 : Int) (a2 : Int) : Option (Bool) := spec_l07Rise.l0 k l0 a1 a2 0
theorem spec_l07Rise.mono_l : ∀ k, (∀ y0 y1 y2 y3, LeO (spec_l07Rise.l0 k y0 y1 y2 y3) (spec_l07Rise.l0 (k + 1) y0 y1 y2 y3))
 | 0 => fun _ _ _ _ r h => by simp [spec_l07Rise.l0] at h
 | k + 1 => by
  have ih0:=spec_l07Rise.mono_l k
  ·intro y0 y1 y2 y3
   unfold spec_l07Rise.l0
   repeat' first
   | (with_reducible exact ih0 _ _ _ _)
   | (with_reducible exact LeO.refl _)
   | (with_reducible exact LeO.none _)
   | (with_reducible refine LeO.ite ?_ ?_)
   | (with_reducible refine LeO.bind ?_ (fun _ => ?_))
theorem spec_l07Rise.mono : ∀ a0 a1 a2 k, LeO (spec_l07Rise.f k a0 a1 a2) (spec_l07Rise.f (k + 1) a0 a1 a2) := by
 intro a0 a1 a2 k;have ih0:=spec_l07Rise.mono_l k
 unfold spec_l07Rise.f
 repeat' first
   | (with_reducible exact ih0 _ _ _ _)
   | (with_reducible exact LeO.refl _)
   | (with_reducible exact LeO.none _)
   | (with_reducible refine LeO.ite ?_ ?_)
   | (with_reducible refine LeO.bind ?_ (fun _ => ?_))
set_option maxHeartbeats 8000000 in
set_option maxRecDepth 100000 in
theorem spec_l07Rise.calls (k : Nat) (A0 : Option Addr) (c0 : Nat) (l0 : List Int) (a1 : Int) (a2 : Int) (r : Bool) (w : World) (hr0 : Kd.C (Kd.int .i64) w A0 l0.length l0) (hc0 : l0.length ≤ c0) (h : spec_l07Rise.f k l0 a1 a2 = some r) :
  Calls Try.prog 131 #[.slice A0 l0.length c0,.int .i64 a1,.int .i64 a2] w fun e w' => e = .returned (.bool r) ∧ Drawn0 w w':=by
 have HR0:=A_ hr0;have HC0:=A_ hc0;clear hr0 hc0;have H : (spec_l07Rise.l0 k l0 a1 a2 0) = some r:=h;clear h;have H':=A_ H;clear H;go_enter Try.func131,Try.ntmps131;go_wp2
 repeat (go_quiet (fail);try go_wp2)
 go_loopg [7] k (fun kq v7 w' => ∃ (x7_1 : Int),v7 = .int .i64 x7_1 ∧ Aside0 (spec_l07Rise.l0 kq l0 a1 a2 x7_1 = some r) ∧ Aside0 (kq ≤ k) ∧ Drawn0 w w')
 case atStart => exact ⟨(0),(by first|rfl|(simp;done)|(simp [*];done)),H',⟨Nat.le_refl _⟩,by repeat (first|exact Drawn0.refl _|apply Drawn0.step)⟩
 case round =>
  clear H'
  try clear c1
  try clear p2
  obtain ⟨x7_1,rfl,HA,HK1,⟨m1,rfl⟩⟩:=hrel
  cases gk with
  | zero => exact absurd HA.out (by simp [spec_l07Rise.l0])
  | succ k1 =>
   have H:=HA.out;clear HA;simp only [spec_l07Rise.l0] at H
   by_cases c4 : x7_1 < (l0.length : Int)
   ·rw [if_pos c4] at H;have c4b0 : decide (x7_1 < (l0.length : Int)) = true:=de_ c4;clear c4
    by_cases c5 : 0 ≤ x7_1
    ·rw [if_pos c5] at H;have c5b0 : decide (0 ≤ x7_1) = true:=de_ c5;clear c5;replace H:=ob_.mp H;obtain ⟨t142,A60,H⟩:=H;replace H : (if t142 = true then (if x7_1 > 0 then (if 0 ≤ (wrap64 (x7_1 - 1)) then (if (wrap64 (x7_1 - 1)) < (l0.length : Int) then (if (rd l0 (wrap64 (x7_1 - 1))) ≥ (rd l0 x7_1) then (some false) else (spec_l07Rise.l0 k1 l0 a1 a2 (wrap64 (x7_1 + 1)))) else (none)) else (none)) else (spec_l07Rise.l0 k1 l0 a1 a2 (wrap64 (x7_1 + 1)))) else (some false)) = some r:=H;have A6:=A_ A60;clear A60
     by_cases c7 : t142 = true
     ·subst c7
      have H1 : (if x7_1 > 0 then (if 0 ≤ (wrap64 (x7_1 - 1)) then (if (wrap64 (x7_1 - 1)) < (l0.length : Int) then (if (rd l0 (wrap64 (x7_1 - 1))) ≥ (rd l0 x7_1) then (some false) else (spec_l07Rise.l0 k1 l0 a1 a2 (wrap64 (x7_1 + 1)))) else (none)) else (none)) else (spec_l07Rise.l0 k1 l0 a1 a2 (wrap64 (x7_1 + 1)))) = some r:=by rw [if_pos rfl] at H;exact H
      clear H;have H:=H1;clear H1
      by_cases c8 : x7_1 > 0
      ·rw [if_pos c8] at H;have c8b0 : decide (0 < x7_1) = true:=de_ c8;clear c8;obtain ⟨ji9,hji9⟩ : ∃ j_ : Int,(wrap64 (x7_1 - 1)) = j_:=⟨_,rfl⟩
       replace H : (if 0 ≤ (ji9) then (if (ji9) < (l0.length : Int) then (if (rd l0 (ji9)) ≥ (rd l0 x7_1) then (some false) else (spec_l07Rise.l0 k1 l0 a1 a2 (wrap64 (x7_1 + 1)))) else (none)) else (none)) = some r:=by first|(rw [hji9] at H;exact H)|(simp only [hji9] at H ⊢;exact H)
       (try rw [hji9] at A6)
       have hji9w : (IntKind.i64.wrap (x7_1 - 1)) = ji9:=(i64_w _).trans hji9
       by_cases c10 : 0 ≤ (ji9)
       ·rw [if_pos c10] at H;have c10b0 : decide (0 ≤ (ji9)) = true:=de_ c10;clear c10
        by_cases c11 : (ji9) < (l0.length : Int)
        ·rw [if_pos c11] at H;have c11b0 : decide ((ji9) < (l0.length : Int)) = true:=de_ c11;clear c11
         by_cases c12 : (rd l0 (ji9)) ≥ (rd l0 x7_1)
         ·rw [if_pos c12] at H;have c12b0 : decide ((rd l0 x7_1) ≤ (rd l0 (ji9))) = true:=de_ c12;clear c12;obtain rfl:=Option.some.inj H;have p141 : 0 ≤ (x7_1 : Int):=oda_;have q141 : x7_1 < (l0.length : Int):=oda_;obtain ⟨ad141,e141,hx141_0⟩:=Kd.at_int HR0.out x7_1 p141 q141
          cases e141
          replace p141:=eq_true p141;replace q141:=eq_true q141
          go_wp2_with (first|(go_at_call 78;(with_reducible refine (spec_l01In.calls (rd l0 x7_1) a1 a2 true _ A6.out).mono ?_);rintro e w' ⟨rfl,⟨nd,rfl⟩⟩;(try first|exact ⟨rfl,_,World.drewN_drewN _ _ _⟩|exact ⟨rfl,_,Eq.trans (World.drewN_drewN _ _ _) (congrArg (World.drewN _) (Nat.add_assoc _ _ _))⟩);have p143 : 0 ≤ ((ji9) : Int):=oda_;have q143 : (ji9) < (l0.length : Int):=oda_;obtain ⟨ad143,e143,hx143_0⟩:=Kd.at_int HR0.out (ji9) p143 q143;obtain rfl : ad141 = ad143:=(by injection e143);replace p143:=eq_true p143;replace q143:=eq_true q143;have p144 : 0 ≤ (x7_1 : Int):=oda_;have q144 : x7_1 < (l0.length : Int):=oda_;obtain ⟨ad144,e144,hx144_0⟩:=Kd.at_int HR0.out x7_1 p144 q144;obtain rfl : ad141 = ad144:=(by injection e144);replace p144:=eq_true p144;replace q144:=eq_true q144))
          repeat (go_quiet (first|(go_at_call 78;(with_reducible refine (spec_l01In.calls (rd l0 x7_1) a1 a2 true _ A6.out).mono ?_);rintro e w' ⟨rfl,⟨nd,rfl⟩⟩;(try first|exact ⟨rfl,_,World.drewN_drewN _ _ _⟩|exact ⟨rfl,_,Eq.trans (World.drewN_drewN _ _ _) (congrArg (World.drewN _) (Nat.add_assoc _ _ _))⟩);have p143 : 0 ≤ ((ji9) : Int):=oda_;have q143 : (ji9) < (l0.length : Int):=oda_;obtain ⟨ad143,e143,hx143_0⟩:=Kd.at_int HR0.out (ji9) p143 q143;obtain rfl : ad141 = ad143:=(by injection e143);replace p143:=eq_true p143;replace q143:=eq_true q143;have p144 : 0 ≤ (x7_1 : Int):=oda_;have q144 : x7_1 < (l0.length : Int):=oda_;obtain ⟨ad144,e144,hx144_0⟩:=Kd.at_int HR0.out x7_1 p144 q144;obtain rfl : ad141 = ad144:=(by injection e144);replace p144:=eq_true p144;replace q144:=eq_true q144));try go_wp2_with (first|(go_at_call 78;(with_reducible refine (spec_l01In.calls (rd l0 x7_1) a1 a2 true _ A6.out).mono ?_);rintro e w' ⟨rfl,⟨nd,rfl⟩⟩;(try first|exact ⟨rfl,_,World.drewN_drewN _ _ _⟩|exact ⟨rfl,_,Eq.trans (World.drewN_drewN _ _ _) (congrArg (World.drewN _) (Nat.add_assoc _ _ _))⟩);have p143 : 0 ≤ ((ji9) : Int):=oda_;have q143 : (ji9) < (l0.length : Int):=oda_;obtain ⟨ad143,e143,hx143_0⟩:=Kd.at_int HR0.out (ji9) p143 q143;obtain rfl : ad141 = ad143:=(by injection e143);replace p143:=eq_true p143;replace q143:=eq_true q143;have p144 : 0 ≤ (x7_1 : Int):=oda_;have q144 : x7_1 < (l0.length : Int):=oda_;obtain ⟨ad144,e144,hx144_0⟩:=Kd.at_int HR0.out x7_1 p144 q144;obtain rfl : ad141 = ad144:=(by injection e144);replace p144:=eq_true p144;replace q144:=eq_true q144)))
          go_ret;exact ⟨by first|rfl|(simp;done)|(simp only [← hji9] <;> (first|rfl|simp))|(simp [*];done),by repeat (first|exact Drawn0.refl _|apply Drawn0.step)⟩
         ·rw [if_neg c12] at H;have c12b0 : decide ((rd l0 x7_1) ≤ (rd l0 (ji9))) = false:=decide_eq_false c12;clear c12;have H':=A_ H;clear H;have p141 : 0 ≤ (x7_1 : Int):=oda_;have q141 : x7_1 < (l0.length : Int):=oda_;obtain ⟨ad141,e141,hx141_0⟩:=Kd.at_int HR0.out x7_1 p141 q141
          cases e141
          replace p141:=eq_true p141;replace q141:=eq_true q141
          go_wp2_with (first|(go_at_call 78;(with_reducible refine (spec_l01In.calls (rd l0 x7_1) a1 a2 true _ A6.out).mono ?_);rintro e w' ⟨rfl,⟨nd,rfl⟩⟩;(try first|exact ⟨rfl,_,World.drewN_drewN _ _ _⟩|exact ⟨rfl,_,Eq.trans (World.drewN_drewN _ _ _) (congrArg (World.drewN _) (Nat.add_assoc _ _ _))⟩);have p143 : 0 ≤ ((ji9) : Int):=oda_;have q143 : (ji9) < (l0.length : Int):=oda_;obtain ⟨ad143,e143,hx143_0⟩:=Kd.at_int HR0.out (ji9) p143 q143;obtain rfl : ad141 = ad143:=(by injection e143);replace p143:=eq_true p143;replace q143:=eq_true q143;have p144 : 0 ≤ (x7_1 : Int):=oda_;have q144 : x7_1 < (l0.length : Int):=oda_;obtain ⟨ad144,e144,hx144_0⟩:=Kd.at_int HR0.out x7_1 p144 q144;obtain rfl : ad141 = ad144:=(by injection e144);replace p144:=eq_true p144;replace q144:=eq_true q144))
          repeat (go_quiet (first|(go_at_call 78;(with_reducible refine (spec_l01In.calls (rd l0 x7_1) a1 a2 true _ A6.out).mono ?_);rintro e w' ⟨rfl,⟨nd,rfl⟩⟩;(try first|exact ⟨rfl,_,World.drewN_drewN _ _ _⟩|exact ⟨rfl,_,Eq.trans (World.drewN_drewN _ _ _) (congrArg (World.drewN _) (Nat.add_assoc _ _ _))⟩);have p143 : 0 ≤ ((ji9) : Int):=oda_;have q143 : (ji9) < (l0.length : Int):=oda_;obtain ⟨ad143,e143,hx143_0⟩:=Kd.at_int HR0.out (ji9) p143 q143;obtain rfl : ad141 = ad143:=(by injection e143);replace p143:=eq_true p143;replace q143:=eq_true q143;have p144 : 0 ≤ (x7_1 : Int):=oda_;have q144 : x7_1 < (l0.length : Int):=oda_;obtain ⟨ad144,e144,hx144_0⟩:=Kd.at_int HR0.out x7_1 p144 q144;obtain rfl : ad141 = ad144:=(by injection e144);replace p144:=eq_true p144;replace q144:=eq_true q144));try go_wp2_with (first|(go_at_call 78;(with_reducible refine (spec_l01In.calls (rd l0 x7_1) a1 a2 true _ A6.out).mono ?_);rintro e w' ⟨rfl,⟨nd,rfl⟩⟩;(try first|exact ⟨rfl,_,World.drewN_drewN _ _ _⟩|exact ⟨rfl,_,Eq.trans (World.drewN_drewN _ _ _) (congrArg (World.drewN _) (Nat.add_assoc _ _ _))⟩);have p143 : 0 ≤ ((ji9) : Int):=oda_;have q143 : (ji9) < (l0.length : Int):=oda_;obtain ⟨ad143,e143,hx143_0⟩:=Kd.at_int HR0.out (ji9) p143 q143;obtain rfl : ad141 = ad143:=(by injection e143);replace p143:=eq_true p143;replace q143:=eq_true q143;have p144 : 0 ≤ (x7_1 : Int):=oda_;have q144 : x7_1 < (l0.length : Int):=oda_;obtain ⟨ad144,e144,hx144_0⟩:=Kd.at_int HR0.out x7_1 p144 q144;obtain rfl : ad141 = ad144:=(by injection e144);replace p144:=eq_true p144;replace q144:=eq_true q144)))
          go_roundg k1
          case measure => have:=HK1.out;omega
          case rel => exact ⟨(wrap64 (x7_1 + 1)),(by first|rfl|(simp;done)|(simp [*];done)),H',⟨by have:=HK1.out;omega⟩,by repeat (first|exact Drawn0.refl _|apply Drawn0.step)⟩
        ·rw [if_neg c11] at H;exact absurd H (by simp)
       ·rw [if_neg c10] at H;exact absurd H (by simp)
      ·rw [if_neg c8] at H;have c8b0 : decide (0 < x7_1) = false:=decide_eq_false c8;clear c8;have H':=A_ H;clear H;have p141 : 0 ≤ (x7_1 : Int):=oda_;have q141 : x7_1 < (l0.length : Int):=oda_;obtain ⟨ad141,e141,hx141_0⟩:=Kd.at_int HR0.out x7_1 p141 q141
       cases e141
       replace p141:=eq_true p141;replace q141:=eq_true q141
       go_wp2_with (first|(go_at_call 78;(with_reducible refine (spec_l01In.calls (rd l0 x7_1) a1 a2 true _ A6.out).mono ?_);rintro e w' ⟨rfl,⟨nd,rfl⟩⟩;(try first|exact ⟨rfl,_,World.drewN_drewN _ _ _⟩|exact ⟨rfl,_,Eq.trans (World.drewN_drewN _ _ _) (congrArg (World.drewN _) (Nat.add_assoc _ _ _))⟩)))
       repeat (go_quiet (first|(go_at_call 78;(with_reducible refine (spec_l01In.calls (rd l0 x7_1) a1 a2 true _ A6.out).mono ?_);rintro e w' ⟨rfl,⟨nd,rfl⟩⟩;(try first|exact ⟨rfl,_,World.drewN_drewN _ _ _⟩|exact ⟨rfl,_,Eq.trans (World.drewN_drewN _ _ _) (congrArg (World.drewN _) (Nat.add_assoc _ _ _))⟩)));try go_wp2_with (first|(go_at_call 78;(with_reducible refine (spec_l01In.calls (rd l0 x7_1) a1 a2 true _ A6.out).mono ?_);rintro e w' ⟨rfl,⟨nd,rfl⟩⟩;(try first|exact ⟨rfl,_,World.drewN_drewN _ _ _⟩|exact ⟨rfl,_,Eq.trans (World.drewN_drewN _ _ _) (congrArg (World.drewN _) (Nat.add_assoc _ _ _))⟩))))
       go_roundg k1
       case measure => have:=HK1.out;omega
       case rel => exact ⟨(wrap64 (x7_1 + 1)),(by first|rfl|(simp;done)|(simp [*];done)),H',⟨by have:=HK1.out;omega⟩,by repeat (first|exact Drawn0.refl _|apply Drawn0.step)⟩
     ·replace c7:=Bool.eq_false_iff.mpr c7;subst c7
      have H1 : (some false) = some r:=by rw [if_neg (show ¬ (false = true) by decide)] at H;exact H
      clear H;have H:=H1;clear H1;obtain rfl:=Option.some.inj H;have p141 : 0 ≤ (x7_1 : Int):=oda_;have q141 : x7_1 < (l0.length : Int):=oda_;obtain ⟨ad141,e141,hx141_0⟩:=Kd.at_int HR0.out x7_1 p141 q141
      cases e141
      replace p141:=eq_true p141;replace q141:=eq_true q141
      go_wp2_with (first|(go_at_call 78;(with_reducible refine (spec_l01In.calls (rd l0 x7_1) a1 a2 false _ A6.out).mono ?_);rintro e w' ⟨rfl,⟨nd,rfl⟩⟩;(try first|exact ⟨rfl,_,World.drewN_drewN _ _ _⟩|exact ⟨rfl,_,Eq.trans (World.drewN_drewN _ _ _) (congrArg (World.drewN _) (Nat.add_assoc _ _ _))⟩)))
      repeat (go_quiet (first|(go_at_call 78;(with_reducible refine (spec_l01In.calls (rd l0 x7_1) a1 a2 false _ A6.out).mono ?_);rintro e w' ⟨rfl,⟨nd,rfl⟩⟩;(try first|exact ⟨rfl,_,World.drewN_drewN _ _ _⟩|exact ⟨rfl,_,Eq.trans (World.drewN_drewN _ _ _) (congrArg (World.drewN _) (Nat.add_assoc _ _ _))⟩)));try go_wp2_with (first|(go_at_call 78;(with_reducible refine (spec_l01In.calls (rd l0 x7_1) a1 a2 false _ A6.out).mono ?_);rintro e w' ⟨rfl,⟨nd,rfl⟩⟩;(try first|exact ⟨rfl,_,World.drewN_drewN _ _ _⟩|exact ⟨rfl,_,Eq.trans (World.drewN_drewN _ _ _) (congrArg (World.drewN _) (Nat.add_assoc _ _ _))⟩))))
      go_ret;exact ⟨by first|rfl|(simp;done)|(simp [*];done),by repeat (first|exact Drawn0.refl _|apply Drawn0.step)⟩
    ·rw [if_neg c5] at H;exact absurd H (by simp)
   ·rw [if_neg c4] at H;have c4b0 : decide (x7_1 < (l0.length : Int)) = false:=decide_eq_false c4;clear c4;obtain rfl:=Option.some.inj H;go_wp2
    repeat (go_quiet (fail);try go_wp2)
    go_ret;exact ⟨by first|rfl|(simp;done)|(simp [*];done),by repeat (first|exact Drawn0.refl _|apply Drawn0.step)⟩
def spec_ConfOk.f (k : Nat) (l0 : List Int) : Option (Bool) := (spec_l01In.f (l0.length : Int) 1 4).bind fun t145 => (if t145 = true then ((spec_l07Rise.f k l0 1 4).bind fun t146 => (some t146)) else (some false))
theorem spec_ConfOk.mono : ∀ a0 k, LeO (spec_ConfOk.f k a0) (spec_ConfOk.f (k + 1) a0) := by
 intro a0 k
 unfold spec_ConfOk.f
 repeat' first
   | (with_reducible exact spec_l07Rise.mono _ _ _ _)
   | (with_reducible exact LeO.refl _)
   | (with_reducible exact LeO.none _)
   | (with_reducible refine LeO.ite ?_ ?_)
   | (with_reducible refine LeO.bind ?_ (fun _ => ?_))
set_option maxHeartbeats 8000000 in
set_option maxRecDepth 100000 in
theorem spec_ConfOk.calls (k : Nat) (A0 : Option Addr) (c0 : Nat) (l0 : List Int) (r : Bool) (w : World) (hr0 : Kd.C (Kd.int .i64) w A0 l0.length l0) (hc0 : l0.length ≤ c0) (h : spec_ConfOk.f k l0 = some r) :
  Calls Try.prog 59 #[.slice A0 l0.length c0] w fun e w' => e = .returned (.bool r) ∧ Drawn0 w w':=by
 have HR0:=A_ hr0;have HC0:=A_ hc0;clear hr0 hc0;have H : ((spec_l01In.f (l0.length : Int) 1 4).bind fun t145 => (if t145 = true then ((spec_l07Rise.f k l0 1 4).bind fun t146 => (some t146)) else (some false))) = some r:=h;clear h;replace H:=ob_.mp H;obtain ⟨t145,A20,H⟩:=H;replace H : (if t145 = true then ((spec_l07Rise.f k l0 1 4).bind fun t146 => (some t146)) else (some false)) = some r:=H;have A2:=A_ A20;clear A20
 by_cases c3 : t145 = true
 ·subst c3
  have H1 : ((spec_l07Rise.f k l0 1 4).bind fun t146 => (some t146)) = some r:=by rw [if_pos rfl] at H;exact H
  clear H;have H:=H1;clear H1;replace H:=ob_.mp H;obtain ⟨t146,A40,H⟩:=H;replace H : (some t146) = some r:=H;have A4:=A_ A40;clear A40;obtain rfl:=Option.some.inj H;go_enter Try.func59,Try.ntmps59
  go_wp2_with (first|((with_reducible refine gate_callee (f:=78) rfl ?_);refine goesL_ (some 5) rfl rfl Try.func78 (by kernel_rfl) rfl #[.int .i64 (l0.length : Int),.int .i64 1,.int .i64 4] rfl aq_ ?_;(with_reducible refine (spec_l01In.calls (l0.length : Int) 1 4 true _ A2.out).mono ?_);rintro e w' ⟨rfl,⟨nd,rfl⟩⟩;refine ⟨_,rfl,?_⟩)|(go_at_call 131;(with_reducible refine (spec_l07Rise.calls k _ _ l0 1 4 t146 _ ?side1 ?side2 A4.out).mono ?_);(case side1 => repeat (first|exact HR0.out|(with_reducible refine Kd.C_alloc ?_ _)|(with_reducible refine Kd.C_drewN ?_ _)|(with_reducible refine Kd.C_drew ?_)));(case side2 => exact HC0.out);rintro e w' ⟨rfl,⟨nd,rfl⟩⟩))
  go_ret;exact ⟨by first|rfl|(simp;done)|(simp [*];done),by repeat (first|exact Drawn0.refl _|apply Drawn0.step)⟩
 ·replace c3:=Bool.eq_false_iff.mpr c3;subst c3
  have H1 : (some false) = some r:=by rw [if_neg (show ¬ (false = true) by decide)] at H;exact H
  clear H;have H:=H1;clear H1;obtain rfl:=Option.some.inj H;go_enter Try.func59,Try.ntmps59
  go_wp2_with (first|((with_reducible refine gate_callee (f:=78) rfl ?_);refine goesL_ (some 5) rfl rfl Try.func78 (by kernel_rfl) rfl #[.int .i64 (l0.length : Int),.int .i64 1,.int .i64 4] rfl aq_ ?_;(with_reducible refine (spec_l01In.calls (l0.length : Int) 1 4 false _ A2.out).mono ?_);rintro e w' ⟨rfl,⟨nd,rfl⟩⟩;refine ⟨_,rfl,?_⟩))
  go_ret;exact ⟨by first|rfl|(simp;done)|(simp [*];done),by repeat (first|exact Drawn0.refl _|apply Drawn0.step)⟩
def spec_ReadConf.l0 : Nat → ByteArray → List Int → Int → Option (List Int × Bool)
 | 0,_,_,_ => none
 | k + 1,x0,x4,x5 => if x5 < (x0.size : Int) then (if x5 ≤ 4 then (if 0 ≤ x5 then (if x4.length < 17592186044416 then (spec_ReadConf.l0 k x0 (x4 ++ [wrap64 (bt x0 x5)]) (wrap64 (x5 + 1))) else (none)) else (none)) else (if (x4.length : Int) = (x0.size : Int) then ((spec_ConfOk.f k x4).bind fun t153 => (if t153 = true then (some (x4,true)) else (some ((([] : List Int)),false)))) else (some ((([] : List Int)),false)))) else (if (x4.length : Int) = (x0.size : Int) then ((spec_ConfOk.f k x4).bind fun t160 => (if t160 = true then (some (x4,true)) else (some ((([] : List Int)),false)))) else (some ((([] : List Int)),false)))
def spec_ReadConf.f (k : Nat) (a0 : ByteArray) : Option (List Int × Bool) := spec_ReadConf.l0 k a0 (([] : List Int)) 0
theorem spec_ReadConf.mono_l : ∀ k, (∀ y0 y1 y2, LeO (spec_ReadConf.l0 k y0 y1 y2) (spec_ReadConf.l0 (k + 1) y0 y1 y2))
 | 0 => fun _ _ _ r h => by simp [spec_ReadConf.l0] at h
 | k + 1 => by
  have ih0:=spec_ReadConf.mono_l k
  ·intro y0 y1 y2
   unfold spec_ReadConf.l0
   repeat' first
   | (with_reducible exact ih0 _ _ _)
   | (with_reducible exact spec_ConfOk.mono _ _)
   | (with_reducible exact LeO.refl _)
   | (with_reducible exact LeO.none _)
   | (with_reducible refine LeO.ite ?_ ?_)
   | (with_reducible refine LeO.bind ?_ (fun _ => ?_))
theorem spec_ReadConf.mono : ∀ a0 k, LeO (spec_ReadConf.f k a0) (spec_ReadConf.f (k + 1) a0) := by
 intro a0 k;have ih0:=spec_ReadConf.mono_l k
 unfold spec_ReadConf.f
 repeat' first
   | (with_reducible exact ih0 _ _ _)
   | (with_reducible exact spec_ConfOk.mono _ _)
   | (with_reducible exact LeO.refl _)
   | (with_reducible exact LeO.none _)
   | (with_reducible refine LeO.ite ?_ ?_)
   | (with_reducible refine LeO.bind ?_ (fun _ => ?_))
set_option maxHeartbeats 8000000 in
set_option maxRecDepth 100000 in
theorem spec_ReadConf.calls (k : Nat) (a0 : ByteArray) (r1 : List Int) (r2 : Bool) (w : World) (h : spec_ReadConf.f k a0 = some (r1, r2)) :
  Calls Try.prog 153 #[.string a0] w fun e w' => ∃ v0_ : Value,e = .returned (.tuple #[v0_,.bool r2]) ∧ Kd.R (Kd.int .i64) 3 w' w.heap.size (fun _ => True) v0_ r1 ∧ Below w.heap.size w w':=by
 have HB:=A_ (Below.refl w.heap.size w);have H : (spec_ReadConf.l0 k a0 (([] : List Int)) 0) = some (r1,r2):=h;clear h;obtain ⟨y147,hy147⟩ : ∃ y_ : List Int,y_ = (([] : List Int)):=⟨_,rfl⟩
 replace H : (spec_ReadConf.l0 k a0 y147 0) = some (r1,r2):=by first|(rw [hy147];with_reducible exact H)|(have H2_:=(Option.bind_some _ _).symm.trans H;rw [hy147];with_reducible exact H2_)|(have H2_:=(Option.bind_some _ _).symm.trans H;with_reducible exact H2_)|with_reducible exact H|(rw [hy147];exact H)|exact H
 have Ny147:=A_ hy147;clear hy147;have H':=A_ H;clear H;go_enter Try.func153,Try.ntmps153
 go_wp2_with (first|((with_reducible refine gate_dst (N:=6) rfl ?_);refine Kd.R_lit (Kd.int .i64) _ 3 ?hg (N:=6) ?hd (xs:=([] : List Int)) (inner:=[]) (ok:=fun _ => True) (okp:=fun _ => True) ?hr ?hp (fun _ hk => hk) trivial (Below.refl _ _) (Nat.le_refl _) (by simp) ?_;(case hd => rfl);(case hg => rfl);(case hr => exact gx_);(case hp => exact (Reps.none _ _));intro v148 w2 ho3 hb hg_ hnew_;clear hg_ hnew_;(first|rw [← Ny147.out] at ho3|(simp only [Int.reduceToNat] at ho3;rw [← Ny147.out] at ho3));have HO149:=A_ (rw_ ho3 (bz_ (bq_ HB)));replace HB:=A_ (bs_ (bq_ HB) hb);clear hb ho3))
 go_loopg [4,5] k (fun kq v4 v5 w' => ∃ (x4_1 : List Int) (x5_1 : Int),v5 = .int .i64 x5_1 ∧ Aside0 (spec_ReadConf.l0 kq a0 x4_1 x5_1 = some (r1,r2)) ∧ Aside0 (kq ≤ k) ∧ Aside0 (Kd.R (Kd.int .i64) 3 w' w.heap.size (fun _ => True) v4 x4_1) ∧ Aside0 (Below w.heap.size w w'))
 case atStart => exact ⟨(y147),(0),(by first|rfl|(simp;done)|(simp [*];done)),H',⟨Nat.le_refl _⟩,⟨by (with_reducible repeat (first|apply ra_|apply rn_|apply Rd_));exact HO149.out⟩,⟨bq_ HB⟩⟩
 case round =>
  clear H'
  try clear c1
  try clear p2
  obtain ⟨x4_1,x5_1,rfl,HA,HK1,HO_4,HB⟩:=hrel
  cases gk with
  | zero => exact absurd HA.out (by simp [spec_ReadConf.l0])
  | succ k1 =>
   have H:=HA.out;clear HA;simp only [spec_ReadConf.l0] at H
   by_cases c4 : x5_1 < (a0.size : Int)
   ·rw [if_pos c4] at H;have c4b0 : decide (x5_1 < (a0.size : Int)) = true:=de_ c4;clear c4
    by_cases c5 : x5_1 ≤ 4
    ·rw [if_pos c5] at H;have c5b0 : decide (x5_1 ≤ 4) = true:=de_ c5;clear c5
     by_cases c6 : 0 ≤ x5_1
     ·rw [if_pos c6] at H;have c6b0 : decide (0 ≤ x5_1) = true:=de_ c6;clear c6
      by_cases c8 : x4_1.length < 17592186044416
      ·rw [if_pos c8] at H;have LMc8:=A_ c8;clear c8;obtain ⟨y150,hy150⟩ : ∃ y_ : List Int,y_ = (x4_1 ++ [wrap64 (bt a0 x5_1)]):=⟨_,rfl⟩
       replace H : (spec_ReadConf.l0 k1 a0 y150 (wrap64 (x5_1 + 1))) = some (r1,r2):=by first|(rw [hy150];with_reducible exact H)|(have H2_:=(Option.bind_some _ _).symm.trans H;rw [hy150];with_reducible exact H2_)|(have H2_:=(Option.bind_some _ _).symm.trans H;with_reducible exact H2_)|with_reducible exact H|(rw [hy150];exact H)|exact H
       have Ny150:=A_ hy150;clear hy150;have H':=A_ H;clear H;have p7 : 0 ≤ (x5_1 : Int):=oda_;have q7 : x5_1 < (a0.size : Int):=oda_;have hx7:=bt_at a0 x5_1;replace p7:=eq_true p7;replace q7:=eq_true q7
       go_wp2_with (first|((with_reducible refine gate_builtin (b:=.append) (xs:=#[.tmp 17,.tmp 22]) rfl ?_);at_builtin;refine Kd.R_append (Kd.int .i64) (w0:=w) w.heap.size rfl (.tmp 17) (.tmp 22) 45 3 (.int .i64 0) 8 rfl Try.underlying45 info3 rfl (by decide) (by omega) u4 x4_1 (wrap64 (bt a0 x5_1)) [.int .i64 (wrap64 (bt a0 x5_1))] (fun _ => True) (fun _ => False) rfl rfl ?aP (fun _ hk => hk.elim) ?aF ?aO ?aB ?aS ?aL ?_;(case aP => exact rfl);(case aB => exact (bq_ HB));(case aF => exact (fun _ _ => trivial));(case aO => exact (rq_ HO_4));(case aS => exact (bz_ (bq_ HB)));(case aL => have:=LMc8.out;omega);intro v151 w9 ho hb hg hat;rw [← Ny150.out] at ho;replace HB:=A_ (hb);have HO152:=A_ (ho);clear HO_4;clear ho hb hg hat))
       go_roundg k1
       case measure => have:=HK1.out;omega
       case rel => exact ⟨(y150),(wrap64 (x5_1 + 1)),(by first|rfl|(simp;done)|(simp [*];done)),H',⟨by have:=HK1.out;omega⟩,⟨by (with_reducible repeat (first|apply ra_|apply rn_|apply Rd_));exact HO152.out⟩,⟨bq_ HB⟩⟩
      ·rw [if_neg c8] at H;exact absurd H (by simp)
     ·rw [if_neg c6] at H;exact absurd H (by simp)
    ·rw [if_neg c5] at H;have c5b0 : decide (x5_1 ≤ 4) = false:=decide_eq_false c5;clear c5
     by_cases c10 : (x4_1.length : Int) = (a0.size : Int)
     ·rw [if_pos c10] at H;have c10b0 : ((x4_1.length : Int) == (a0.size : Int)) = true:=beq_iff_eq.mpr c10;have c10b1 : ((x4_1.length : Int) != (a0.size : Int)) = false:=bne_eq_false_iff_eq.mpr c10
      have c10b2 : (x4_1.length == a0.size) = true:=by first|simpa using c10|(simp at c10 ⊢;omega)
      clear c10;replace H:=ob_.mp H;obtain ⟨t153,A110,H⟩:=H;replace H : (if t153 = true then (some (x4_1,true)) else (some ((([] : List Int)),false))) = some (r1,r2):=H;have A11:=A_ A110;clear A110
      by_cases c12 : t153 = true
      ·subst c12
       have H1 : (some (x4_1,true)) = some (r1,r2):=by rw [if_pos rfl] at H;exact H
       clear H;have H:=H1;clear H1;simp only [Option.some.injEq,Prod.mk.injEq] at H;obtain ⟨rfl,rfl⟩:=H;obtain ⟨Ao13,co13,eo13⟩:=Kd.R_slice HO_4.out;subst eo13
       go_wp2_with (first|(go_at_call 59;(with_reducible refine (spec_ConfOk.calls k1 _ _ x4_1 true _ ?side1 ?side2 A11.out).mono ?_);(case side1 => repeat (first|exact (Kd.R_reads' HO_4.out).2.2|(with_reducible refine Kd.C_alloc ?_ _)|(with_reducible refine Kd.C_drewN ?_ _)|(with_reducible refine Kd.C_drew ?_)));(case side2 => exact (Kd.R_reads' HO_4.out).2.1);rintro e w' ⟨rfl,⟨nd,rfl⟩⟩))
       go_ret2;exact ⟨_,by first|rfl|(simp [*,errW_none,errW_some] <;> rfl),by (with_reducible repeat (first|apply ra_|apply rn_|apply Rd_));exact HO_4.out,bq_ HB⟩
      ·replace c12:=Bool.eq_false_iff.mpr c12;subst c12
       have H1 : (some ((([] : List Int)),false)) = some (r1,r2):=by rw [if_neg (show ¬ (false = true) by decide)] at H;exact H
       clear H;have H:=H1;clear H1;obtain ⟨y154,hy154⟩ : ∃ y_ : List Int,y_ = (([] : List Int)):=⟨_,rfl⟩
       replace H : (some (y154,false)) = some (r1,r2):=by first|(rw [hy154];with_reducible exact H)|(have H2_:=(Option.bind_some _ _).symm.trans H;rw [hy154];with_reducible exact H2_)|(have H2_:=(Option.bind_some _ _).symm.trans H;with_reducible exact H2_)|with_reducible exact H|(rw [hy154];exact H)|exact H
       have Ny154:=A_ hy154;clear hy154;simp only [Option.some.injEq,Prod.mk.injEq] at H;obtain ⟨rfl,rfl⟩:=H;obtain ⟨Ao14,co14,eo14⟩:=Kd.R_slice HO_4.out;subst eo14
       go_wp2_with (first|(go_at_call 59;(with_reducible refine (spec_ConfOk.calls k1 _ _ x4_1 false _ ?side1 ?side2 A11.out).mono ?_);(case side1 => repeat (first|exact (Kd.R_reads' HO_4.out).2.2|(with_reducible refine Kd.C_alloc ?_ _)|(with_reducible refine Kd.C_drewN ?_ _)|(with_reducible refine Kd.C_drew ?_)));(case side2 => exact (Kd.R_reads' HO_4.out).2.1);rintro e w' ⟨rfl,⟨nd,rfl⟩⟩)|((with_reducible refine gate_dst (N:=34) rfl ?_);refine Kd.R_lit (Kd.int .i64) _ 3 ?hg (N:=34) ?hd (xs:=([] : List Int)) (inner:=[]) (ok:=fun _ => True) (okp:=fun _ => True) ?hr ?hp (fun _ hk => hk) trivial (Below.refl _ _) (Nat.le_refl _) (by simp) ?_;(case hd => rfl);(case hg => rfl);(case hr => exact gx_);(case hp => exact (Reps.none _ _));intro v155 w15 ho16 hb hg_ hnew_;clear hg_ hnew_;(first|rw [← Ny154.out] at ho16|(simp only [Int.reduceToNat] at ho16;rw [← Ny154.out] at ho16));have HO156:=A_ (rw_ (Kd.R_new' ho16 (Kd.R_lt (rq_ HO_4))) (bz_ (bq_ HB)));replace HO_4:=A_ (Kd.R_elder' (rq_ HO_4) (Kd.R_base ho16) hb);replace HB:=A_ (bs_ (bq_ HB) hb);clear hb ho16))
       go_ret2;exact ⟨_,by first|rfl|(simp [*,errW_none,errW_some] <;> rfl),by (with_reducible repeat (first|apply ra_|apply rn_|apply Rd_));exact rm_ HO156.out (fun _ hk => trivial),bq_ HB⟩
     ·rw [if_neg c10] at H;have c10b0 : ((x4_1.length : Int) == (a0.size : Int)) = false:=beq_eq_false_iff_ne.mpr c10;have c10b1 : ((x4_1.length : Int) != (a0.size : Int)) = true:=bne_iff_ne.mpr c10
      have c10b2 : (x4_1.length == a0.size) = false:=by first|simpa using c10|(simp at c10 ⊢;omega)
      obtain ⟨y157,hy157⟩ : ∃ y_ : List Int,y_ = (([] : List Int)):=⟨_,rfl⟩
      replace H : (some (y157,false)) = some (r1,r2):=by first|(rw [hy157];with_reducible exact H)|(have H2_:=(Option.bind_some _ _).symm.trans H;rw [hy157];with_reducible exact H2_)|(have H2_:=(Option.bind_some _ _).symm.trans H;with_reducible exact H2_)|with_reducible exact H|(rw [hy157];exact H)|exact H
      have Ny157:=A_ hy157;clear hy157;simp only [Option.some.injEq,Prod.mk.injEq] at H;obtain ⟨rfl,rfl⟩:=H;obtain ⟨Ao17,co17,eo17⟩:=Kd.R_slice HO_4.out;subst eo17
      go_wp2_with (first|((with_reducible refine gate_dst (N:=34) rfl ?_);refine Kd.R_lit (Kd.int .i64) _ 3 ?hg (N:=34) ?hd (xs:=([] : List Int)) (inner:=[]) (ok:=fun _ => True) (okp:=fun _ => True) ?hr ?hp (fun _ hk => hk) trivial (Below.refl _ _) (Nat.le_refl _) (by simp) ?_;(case hd => rfl);(case hg => rfl);(case hr => exact gx_);(case hp => exact (Reps.none _ _));intro v158 w18 ho19 hb hg_ hnew_;clear hg_ hnew_;(first|rw [← Ny157.out] at ho19|(simp only [Int.reduceToNat] at ho19;rw [← Ny157.out] at ho19));have HO159:=A_ (rw_ (Kd.R_new' ho19 (Kd.R_lt (rq_ HO_4))) (bz_ (bq_ HB)));replace HO_4:=A_ (Kd.R_elder' (rq_ HO_4) (Kd.R_base ho19) hb);replace HB:=A_ (bs_ (bq_ HB) hb);clear hb ho19))
      go_ret2;exact ⟨_,by first|rfl|(simp [*,errW_none,errW_some] <;> rfl),by (with_reducible repeat (first|apply ra_|apply rn_|apply Rd_));exact rm_ HO159.out (fun _ hk => trivial),bq_ HB⟩
   ·rw [if_neg c4] at H;have c4b0 : decide (x5_1 < (a0.size : Int)) = false:=decide_eq_false c4;clear c4
    by_cases c20 : (x4_1.length : Int) = (a0.size : Int)
    ·rw [if_pos c20] at H;have c20b0 : ((x4_1.length : Int) == (a0.size : Int)) = true:=beq_iff_eq.mpr c20;have c20b1 : ((x4_1.length : Int) != (a0.size : Int)) = false:=bne_eq_false_iff_eq.mpr c20
     have c20b2 : (x4_1.length == a0.size) = true:=by first|simpa using c20|(simp at c20 ⊢;omega)
     clear c20;replace H:=ob_.mp H;obtain ⟨t160,A210,H⟩:=H;replace H : (if t160 = true then (some (x4_1,true)) else (some ((([] : List Int)),false))) = some (r1,r2):=H;have A21:=A_ A210;clear A210
     by_cases c22 : t160 = true
     ·subst c22
      have H1 : (some (x4_1,true)) = some (r1,r2):=by rw [if_pos rfl] at H;exact H
      clear H;have H:=H1;clear H1;simp only [Option.some.injEq,Prod.mk.injEq] at H;obtain ⟨rfl,rfl⟩:=H;obtain ⟨Ao23,co23,eo23⟩:=Kd.R_slice HO_4.out;subst eo23
      go_wp2_with (first|(go_at_call 59;(with_reducible refine (spec_ConfOk.calls k1 _ _ x4_1 true _ ?side1 ?side2 A21.out).mono ?_);(case side1 => repeat (first|exact (Kd.R_reads' HO_4.out).2.2|(with_reducible refine Kd.C_alloc ?_ _)|(with_reducible refine Kd.C_drewN ?_ _)|(with_reducible refine Kd.C_drew ?_)));(case side2 => exact (Kd.R_reads' HO_4.out).2.1);rintro e w' ⟨rfl,⟨nd,rfl⟩⟩))
      go_ret2;exact ⟨_,by first|rfl|(simp [*,errW_none,errW_some] <;> rfl),by (with_reducible repeat (first|apply ra_|apply rn_|apply Rd_));exact HO_4.out,bq_ HB⟩
     ·replace c22:=Bool.eq_false_iff.mpr c22;subst c22
      have H1 : (some ((([] : List Int)),false)) = some (r1,r2):=by rw [if_neg (show ¬ (false = true) by decide)] at H;exact H
      clear H;have H:=H1;clear H1;obtain ⟨y161,hy161⟩ : ∃ y_ : List Int,y_ = (([] : List Int)):=⟨_,rfl⟩
      replace H : (some (y161,false)) = some (r1,r2):=by first|(rw [hy161];with_reducible exact H)|(have H2_:=(Option.bind_some _ _).symm.trans H;rw [hy161];with_reducible exact H2_)|(have H2_:=(Option.bind_some _ _).symm.trans H;with_reducible exact H2_)|with_reducible exact H|(rw [hy161];exact H)|exact H
      have Ny161:=A_ hy161;clear hy161;simp only [Option.some.injEq,Prod.mk.injEq] at H;obtain ⟨rfl,rfl⟩:=H;obtain ⟨Ao24,co24,eo24⟩:=Kd.R_slice HO_4.out;subst eo24
      go_wp2_with (first|(go_at_call 59;(with_reducible refine (spec_ConfOk.calls k1 _ _ x4_1 false _ ?side1 ?side2 A21.out).mono ?_);(case side1 => repeat (first|exact (Kd.R_reads' HO_4.out).2.2|(with_reducible refine Kd.C_alloc ?_ _)|(with_reducible refine Kd.C_drewN ?_ _)|(with_reducible refine Kd.C_drew ?_)));(case side2 => exact (Kd.R_reads' HO_4.out).2.1);rintro e w' ⟨rfl,⟨nd,rfl⟩⟩)|((with_reducible refine gate_dst (N:=34) rfl ?_);refine Kd.R_lit (Kd.int .i64) _ 3 ?hg (N:=34) ?hd (xs:=([] : List Int)) (inner:=[]) (ok:=fun _ => True) (okp:=fun _ => True) ?hr ?hp (fun _ hk => hk) trivial (Below.refl _ _) (Nat.le_refl _) (by simp) ?_;(case hd => rfl);(case hg => rfl);(case hr => exact gx_);(case hp => exact (Reps.none _ _));intro v162 w25 ho26 hb hg_ hnew_;clear hg_ hnew_;(first|rw [← Ny161.out] at ho26|(simp only [Int.reduceToNat] at ho26;rw [← Ny161.out] at ho26));have HO163:=A_ (rw_ (Kd.R_new' ho26 (Kd.R_lt (rq_ HO_4))) (bz_ (bq_ HB)));replace HO_4:=A_ (Kd.R_elder' (rq_ HO_4) (Kd.R_base ho26) hb);replace HB:=A_ (bs_ (bq_ HB) hb);clear hb ho26))
      go_ret2;exact ⟨_,by first|rfl|(simp [*,errW_none,errW_some] <;> rfl),by (with_reducible repeat (first|apply ra_|apply rn_|apply Rd_));exact rm_ HO163.out (fun _ hk => trivial),bq_ HB⟩
    ·rw [if_neg c20] at H;have c20b0 : ((x4_1.length : Int) == (a0.size : Int)) = false:=beq_eq_false_iff_ne.mpr c20;have c20b1 : ((x4_1.length : Int) != (a0.size : Int)) = true:=bne_iff_ne.mpr c20
     have c20b2 : (x4_1.length == a0.size) = false:=by first|simpa using c20|(simp at c20 ⊢;omega)
     obtain ⟨y164,hy164⟩ : ∃ y_ : List Int,y_ = (([] : List Int)):=⟨_,rfl⟩
     replace H : (some (y164,false)) = some (r1,r2):=by first|(rw [hy164];with_reducible exact H)|(have H2_:=(Option.bind_some _ _).symm.trans H;rw [hy164];with_reducible exact H2_)|(have H2_:=(Option.bind_some _ _).symm.trans H;with_reducible exact H2_)|with_reducible exact H|(rw [hy164];exact H)|exact H
     have Ny164:=A_ hy164;clear hy164;simp only [Option.some.injEq,Prod.mk.injEq] at H;obtain ⟨rfl,rfl⟩:=H;obtain ⟨Ao27,co27,eo27⟩:=Kd.R_slice HO_4.out;subst eo27
     go_wp2_with (first|((with_reducible refine gate_dst (N:=34) rfl ?_);refine Kd.R_lit (Kd.int .i64) _ 3 ?hg (N:=34) ?hd (xs:=([] : List Int)) (inner:=[]) (ok:=fun _ => True) (okp:=fun _ => True) ?hr ?hp (fun _ hk => hk) trivial (Below.refl _ _) (Nat.le_refl _) (by simp) ?_;(case hd => rfl);(case hg => rfl);(case hr => exact gx_);(case hp => exact (Reps.none _ _));intro v165 w28 ho29 hb hg_ hnew_;clear hg_ hnew_;(first|rw [← Ny164.out] at ho29|(simp only [Int.reduceToNat] at ho29;rw [← Ny164.out] at ho29));have HO166:=A_ (rw_ (Kd.R_new' ho29 (Kd.R_lt (rq_ HO_4))) (bz_ (bq_ HB)));replace HO_4:=A_ (Kd.R_elder' (rq_ HO_4) (Kd.R_base ho29) hb);replace HB:=A_ (bs_ (bq_ HB) hb);clear hb ho29))
     go_ret2;exact ⟨_,by first|rfl|(simp [*,errW_none,errW_some] <;> rfl),by (with_reducible repeat (first|apply ra_|apply rn_|apply Rd_));exact rm_ HO166.out (fun _ hk => trivial),bq_ HB⟩
def spec_EntryOk.f (k : Nat) (a0_0 : Int) (a0_1 : Int) (a0_2 : ByteArray) : Option (Bool) := (spec_l01In.f a0_0 0 100000).bind fun t168 => (if t168 = true then (if a0_1 = 1 then (some (a0_2.toList == ([] : List UInt8))) else (if a0_1 = 2 then ((spec_ReadConf.f k a0_2).bind fun bt169 => (some bt169.2)) else (if a0_1 = 3 then (some (decide ((a0_2.size : Int) ≤ 120))) else (some false)))) else (some false))
theorem spec_EntryOk.mono : ∀ a0 a1 a2 k, LeO (spec_EntryOk.f k a0 a1 a2) (spec_EntryOk.f (k + 1) a0 a1 a2) := by
 intro a0 a1 a2 k
 unfold spec_EntryOk.f
 repeat' first
   | (with_reducible exact spec_ReadConf.mono _ _)
   | (with_reducible exact LeO.refl _)
   | (with_reducible exact LeO.none _)
   | (with_reducible refine LeO.ite ?_ ?_)
   | (with_reducible refine LeO.bind ?_ (fun _ => ?_))
set_option maxHeartbeats 8000000 in
set_option maxRecDepth 100000 in
theorem spec_EntryOk.calls (k : Nat) (a0_0 : Int) (a0_1 : Int) (a0_2 : ByteArray) (r : Bool) (w : World) (h : spec_EntryOk.f k a0_0 a0_1 a0_2 = some r) :
  Calls Try.prog 95 #[.agg #[.int .i64 a0_0,.int .i64 a0_1,.string a0_2]] w fun e w' => e = .returned (.bool r) ∧ Below w.heap.size w w':=by
 have hu37:=Try.underlying37;have HB:=A_ (Below.refl w.heap.size w);have H : ((spec_l01In.f a0_0 0 100000).bind fun t168 => (if t168 = true then (if a0_1 = 1 then (some (a0_2.toList == ([] : List UInt8))) else (if a0_1 = 2 then ((spec_ReadConf.f k a0_2).bind fun bt169 => (some bt169.2)) else (if a0_1 = 3 then (some (decide ((a0_2.size : Int) ≤ 120))) else (some false)))) else (some false))) = some r:=h;clear h;replace H:=ob_.mp H;obtain ⟨t168,A20,H⟩:=H;replace H : (if t168 = true then (if a0_1 = 1 then (some (a0_2.toList == ([] : List UInt8))) else (if a0_1 = 2 then ((spec_ReadConf.f k a0_2).bind fun bt169 => (some bt169.2)) else (if a0_1 = 3 then (some (decide ((a0_2.size : Int) ≤ 120))) else (some false)))) else (some false)) = some r:=H;have A2:=A_ A20;clear A20
 by_cases c3 : t168 = true
 ·subst c3
  have H1 : (if a0_1 = 1 then (some (a0_2.toList == ([] : List UInt8))) else (if a0_1 = 2 then ((spec_ReadConf.f k a0_2).bind fun bt169 => (some bt169.2)) else (if a0_1 = 3 then (some (decide ((a0_2.size : Int) ≤ 120))) else (some false)))) = some r:=by rw [if_pos rfl] at H;exact H
  clear H;have H:=H1;clear H1
  by_cases c4 : a0_1 = 1
  ·rw [if_pos c4] at H;have c4b0 : (a0_1 == 1) = true:=beq_iff_eq.mpr c4;have c4b1 : (a0_1 != 1) = false:=bne_eq_false_iff_eq.mpr c4;clear c4;obtain rfl:=Option.some.inj H;go_enter Try.func95,Try.ntmps95
   go_wp2_with (first|((with_reducible refine gate_dst (N:=1) rfl ?_);refine box_event ?hg (N:=1) ?hd (cs:=#[.int .i64 a0_0,.int .i64 a0_1,.string a0_2]) (t:=37) ?hr ?_;(case hd => rfl);(case hg => rfl);(case hr => exact gx_);intro gb167 hg w5 hbox hb;have BK167:=A_ (hbox);have GW167:=A_ ((by rw [hg];exact (bz_ (bq_ HB)) : w.heap.size ≤ gb167));have GE167:=A_ ((by rw [hg];exact (bz_ (bq_ HB)) : w.heap.size ≤ gb167));replace HB:=A_ (bs_ (bq_ HB) hb);clear hb hbox hg;have hcz6_0:=kC_ BK167 0;have hcz6_1:=kC_ BK167 1;have hcz6_2:=kC_ BK167 2;have hfz6_0:=kf_ BK167.out 0;have hfz6_1:=kf_ BK167.out 1;have hfz6_2:=kf_ BK167.out 2)|((with_reducible refine gate_callee (f:=78) rfl ?_);refine goesL_ (some 7) rfl rfl Try.func78 (by kernel_rfl) rfl #[.int .i64 a0_0,.int .i64 0,.int .i64 100000] rfl aq_ ?_;(with_reducible refine (spec_l01In.calls a0_0 0 100000 true _ A2.out).mono ?_);rintro e w' ⟨rfl,⟨nd,rfl⟩⟩;refine ⟨_,rfl,?_⟩))
   go_ret;exact ⟨ex_,bq_ HB⟩
  ·rw [if_neg c4] at H;have c4b0 : (a0_1 == 1) = false:=beq_eq_false_iff_ne.mpr c4;have c4b1 : (a0_1 != 1) = true:=bne_iff_ne.mpr c4
   by_cases c7 : a0_1 = 2
   ·rw [if_pos c7] at H;have c7b0 : (a0_1 == 2) = true:=beq_iff_eq.mpr c7;have c7b1 : (a0_1 != 2) = false:=bne_eq_false_iff_eq.mpr c7;clear c7;replace H:=ob_.mp H;obtain ⟨⟨t169,t170⟩,A80,H⟩:=H;replace H : (some t170) = some r:=H;have A8:=A_ A80;clear A80;obtain rfl:=Option.some.inj H;go_enter Try.func95,Try.ntmps95
    go_wp2_with (first|((with_reducible refine gate_dst (N:=1) rfl ?_);refine box_event ?hg (N:=1) ?hd (cs:=#[.int .i64 a0_0,.int .i64 a0_1,.string a0_2]) (t:=37) ?hr ?_;(case hd => rfl);(case hg => rfl);(case hr => exact gx_);intro gb167 hg w9 hbox hb;have BK167:=A_ (hbox);have GW167:=A_ ((by rw [hg];exact (bz_ (bq_ HB)) : w.heap.size ≤ gb167));have GE167:=A_ ((by rw [hg];exact (bz_ (bq_ HB)) : w.heap.size ≤ gb167));replace HB:=A_ (bs_ (bq_ HB) hb);clear hb hbox hg;have hcz10_0:=kC_ BK167 0;have hcz10_1:=kC_ BK167 1;have hcz10_2:=kC_ BK167 2;have hfz10_0:=kf_ BK167.out 0;have hfz10_1:=kf_ BK167.out 1;have hfz10_2:=kf_ BK167.out 2)|((with_reducible refine gate_callee (f:=78) rfl ?_);refine goesL_ (some 7) rfl rfl Try.func78 (by kernel_rfl) rfl #[.int .i64 a0_0,.int .i64 0,.int .i64 100000] rfl aq_ ?_;(with_reducible refine (spec_l01In.calls a0_0 0 100000 true _ A2.out).mono ?_);rintro e w' ⟨rfl,⟨nd,rfl⟩⟩;refine ⟨_,rfl,?_⟩)|((with_reducible refine gate_callee (f:=153) rfl ?_);refine goesL_ (some 21) rfl rfl Try.func153 (by kernel_rfl) rfl #[.string a0_2] rfl aq_ ?_;(with_reducible refine (spec_ReadConf.calls k a0_2 t169 t170 _ A8.out).mono ?_);rintro e w11 ⟨v171,rfl,ho0,hb⟩;refine ⟨_,rfl,?_⟩;have HO172:=A_ (rw_ ho0 (bz_ (bq_ HB)));replace BK167:=A_ (kb_ (kq_ BK167) hb);replace HB:=A_ (bs_ (bq_ HB) hb);(try clear hb);(try clear hb2);(try clear hk);(try clear hi);(try clear ho0)))
    go_ret;exact ⟨ex_,bq_ HB⟩
   ·rw [if_neg c7] at H;have c7b0 : (a0_1 == 2) = false:=beq_eq_false_iff_ne.mpr c7;have c7b1 : (a0_1 != 2) = true:=bne_iff_ne.mpr c7
    by_cases c12 : a0_1 = 3
    ·rw [if_pos c12] at H;have c12b0 : (a0_1 == 3) = true:=beq_iff_eq.mpr c12;have c12b1 : (a0_1 != 3) = false:=bne_eq_false_iff_eq.mpr c12;clear c12;obtain rfl:=Option.some.inj H;go_enter Try.func95,Try.ntmps95
     go_wp2_with (first|((with_reducible refine gate_dst (N:=1) rfl ?_);refine box_event ?hg (N:=1) ?hd (cs:=#[.int .i64 a0_0,.int .i64 a0_1,.string a0_2]) (t:=37) ?hr ?_;(case hd => rfl);(case hg => rfl);(case hr => exact gx_);intro gb167 hg w13 hbox hb;have BK167:=A_ (hbox);have GW167:=A_ ((by rw [hg];exact (bz_ (bq_ HB)) : w.heap.size ≤ gb167));have GE167:=A_ ((by rw [hg];exact (bz_ (bq_ HB)) : w.heap.size ≤ gb167));replace HB:=A_ (bs_ (bq_ HB) hb);clear hb hbox hg;have hcz14_0:=kC_ BK167 0;have hcz14_1:=kC_ BK167 1;have hcz14_2:=kC_ BK167 2;have hfz14_0:=kf_ BK167.out 0;have hfz14_1:=kf_ BK167.out 1;have hfz14_2:=kf_ BK167.out 2)|((with_reducible refine gate_callee (f:=78) rfl ?_);refine goesL_ (some 7) rfl rfl Try.func78 (by kernel_rfl) rfl #[.int .i64 a0_0,.int .i64 0,.int .i64 100000] rfl aq_ ?_;(with_reducible refine (spec_l01In.calls a0_0 0 100000 true _ A2.out).mono ?_);rintro e w' ⟨rfl,⟨nd,rfl⟩⟩;refine ⟨_,rfl,?_⟩))
     go_ret;exact ⟨ex_,bq_ HB⟩
    ·rw [if_neg c12] at H;have c12b0 : (a0_1 == 3) = false:=beq_eq_false_iff_ne.mpr c12;have c12b1 : (a0_1 != 3) = true:=bne_iff_ne.mpr c12;obtain rfl:=Option.some.inj H;go_enter Try.func95,Try.ntmps95
     go_wp2_with (first|((with_reducible refine gate_dst (N:=1) rfl ?_);refine box_event ?hg (N:=1) ?hd (cs:=#[.int .i64 a0_0,.int .i64 a0_1,.string a0_2]) (t:=37) ?hr ?_;(case hd => rfl);(case hg => rfl);(case hr => exact gx_);intro gb167 hg w15 hbox hb;have BK167:=A_ (hbox);have GW167:=A_ ((by rw [hg];exact (bz_ (bq_ HB)) : w.heap.size ≤ gb167));have GE167:=A_ ((by rw [hg];exact (bz_ (bq_ HB)) : w.heap.size ≤ gb167));replace HB:=A_ (bs_ (bq_ HB) hb);clear hb hbox hg;have hcz16_0:=kC_ BK167 0;have hcz16_1:=kC_ BK167 1;have hcz16_2:=kC_ BK167 2;have hfz16_0:=kf_ BK167.out 0;have hfz16_1:=kf_ BK167.out 1;have hfz16_2:=kf_ BK167.out 2)|((with_reducible refine gate_callee (f:=78) rfl ?_);refine goesL_ (some 7) rfl rfl Try.func78 (by kernel_rfl) rfl #[.int .i64 a0_0,.int .i64 0,.int .i64 100000] rfl aq_ ?_;(with_reducible refine (spec_l01In.calls a0_0 0 100000 true _ A2.out).mono ?_);rintro e w' ⟨rfl,⟨nd,rfl⟩⟩;refine ⟨_,rfl,?_⟩))
     go_ret;exact ⟨ex_,bq_ HB⟩
 ·replace c3:=Bool.eq_false_iff.mpr c3;subst c3
  have H1 : (some false) = some r:=by rw [if_neg (show ¬ (false = true) by decide)] at H;exact H
  clear H;have H:=H1;clear H1;obtain rfl:=Option.some.inj H;go_enter Try.func95,Try.ntmps95
  go_wp2_with (first|((with_reducible refine gate_dst (N:=1) rfl ?_);refine box_event ?hg (N:=1) ?hd (cs:=#[.int .i64 a0_0,.int .i64 a0_1,.string a0_2]) (t:=37) ?hr ?_;(case hd => rfl);(case hg => rfl);(case hr => exact gx_);intro gb167 hg w17 hbox hb;have BK167:=A_ (hbox);have GW167:=A_ ((by rw [hg];exact (bz_ (bq_ HB)) : w.heap.size ≤ gb167));have GE167:=A_ ((by rw [hg];exact (bz_ (bq_ HB)) : w.heap.size ≤ gb167));replace HB:=A_ (bs_ (bq_ HB) hb);clear hb hbox hg;have hcz18_0:=kC_ BK167 0;have hcz18_1:=kC_ BK167 1;have hcz18_2:=kC_ BK167 2;have hfz18_0:=kf_ BK167.out 0;have hfz18_1:=kf_ BK167.out 1;have hfz18_2:=kf_ BK167.out 2)|((with_reducible refine gate_callee (f:=78) rfl ?_);refine goesL_ (some 7) rfl rfl Try.func78 (by kernel_rfl) rfl #[.int .i64 a0_0,.int .i64 0,.int .i64 100000] rfl aq_ ?_;(with_reducible refine (spec_l01In.calls a0_0 0 100000 false _ A2.out).mono ?_);rintro e w' ⟨rfl,⟨nd,rfl⟩⟩;refine ⟨_,rfl,?_⟩))
  go_ret;exact ⟨ex_,bq_ HB⟩
end Go.Proofs.Ytgpafelepkhdoaa.PFnBehind
