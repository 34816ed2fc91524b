/- The contracts of the Go functions that this law reaches: what each call returns, by a plain Lean function of its arguments. No conditions but those each contract names. By the kit's print.py, run by this session's wip/gen/pp.py with facts and hand proofs beside it: not to the letter what print.sh prints. -/
import Derived.Test.YtbcgnncbiblibaaDoorPFnExactShelfMapx0
import Derived.Test.YtbcgnncbiblibaaDoorPFnExactShelfMapx2
namespace Go.Proofs.YtbcgnncbiblibaaDoor.PFnExactShelfMap
open Go.RowKit Go.Proofs.YtbcgnncbiblibaaDoorW.PrintWords Go.Proofs.YtbcgnncbiblibaaDoorW.PrintLast Go.Proofs.YtbcgnncbiblibaaDoorW.PrintMore
attribute [local go_sem] max2_int min2_int max_two min_two max_three min_three max_four min_four
set_option linter.unusedVariables false
set_option linter.unusedSimpArgs false
def spec_l05Key.f (a0 : ByteArray) : Option (Bool) := (spec_l01In.f (a0.size : Int) 1 10).bind fun t149 => (some t149)
set_option maxHeartbeats 8000000 in
set_option maxRecDepth 100000 in
theorem spec_l05Key.calls (a0 : ByteArray) (r : Bool) (w : World) (h : spec_l05Key.f a0 = some r) :
  Calls Tryd.prog 64 #[.string a0] w fun e w' => e = .returned (.bool r) ∧ Drawn0 w w':=by
 have H : ((spec_l01In.f (a0.size : Int) 1 10).bind fun t149 => (some t149)) = some r:=h;clear h;replace H:=ob_.mp H;obtain ⟨t149,A20,H⟩:=H;replace H : (some t149) = some r:=H;have A2:=A_ A20;clear A20;obtain rfl:=Option.some.inj H;go_enter Tryd.func64,Tryd.ntmps64
 go_wp2_with (first|((with_reducible refine gate_callee (f:=52) rfl ?_);refine goesL_ (some 5) rfl rfl Tryd.func52 (by kernel_rfl) rfl #[.int .i64 (a0.size : Int),.int .i64 1,.int .i64 10] rfl (by (try simp only [s4_,s5_,s6_]);first|done|rfl|(simp only [List.length_drop,List.length_take];rfl)) ?_;(with_reducible refine (spec_l01In.calls (a0.size : Int) 1 10 t149 _ A2.out).mono ?_);rintro e w' ⟨rfl,⟨nd,rfl⟩⟩;refine ⟨_,rfl,?_⟩))
 go_ret;exact ⟨by first|rfl|(simp;done)|(simp [*];done),by repeat (first|exact Drawn0.refl _|apply Drawn0.step)⟩
theorem spec_l05Key.val (a : ByteArray) : spec_l05Key.f a = some (wB a.size 1 10) := by unfold spec_l05Key.f; rw [spec_l01In.val]; rfl
theorem spec_l05Key.quiet (a : ByteArray) (w : World) : Calls Tryd.prog 64 #[.string a] w fun e w' => e = .returned (.bool (wB a.size 1 10)) ∧ w' = w := by
 go_enter Tryd.func64,Tryd.ntmps64
 go_wp2_with (go_at_call 52;refine (spec_l01In.quiet _ _ _ _).mono ?_;rintro e w' ⟨rfl,rfl⟩)
 go_ret;exact ⟨rfl,rfl⟩
def spec_DirOk.l0 : Nat → List (S71) → Int → Option (Bool)
 | 0,_,_ => none
 | k + 1,x0,x3 => if x3 < (x0.length : Int) then (if 0 ≤ x3 then ((spec_l05Key.f ((rd_T71 x0 x3).f0)).bind fun t152 => (if t152 = true then (if x3 > 0 then (if 0 ≤ (wrap64 (x3 - 1)) then (if (wrap64 (x3 - 1)) < (x0.length : Int) then (if ((Op.bytesLess (((rd_T71 x0 (wrap64 (x3 - 1))).f0).toList) (((rd_T71 x0 x3).f0).toList)) = true) then ((spec_l01In.f ((rd_T71 x0 x3).f1) 0 999).bind fun t154 => (if t154 = true then ((spec_l01In.f ((rd_T71 x0 x3).f2) 0 20000).bind fun t155 => (if t155 = true then ((spec_l01In.f ((rd_T71 x0 x3).f3) 0 40).bind fun t156 => (if t156 = true then (spec_DirOk.l0 k x0 (wrap64 (x3 + 1))) else (some false))) else (some false))) else (some false))) else (some false)) else (none)) else (none)) else ((spec_l01In.f ((rd_T71 x0 x3).f1) 0 999).bind fun t157 => (if t157 = true then ((spec_l01In.f ((rd_T71 x0 x3).f2) 0 20000).bind fun t158 => (if t158 = true then ((spec_l01In.f ((rd_T71 x0 x3).f3) 0 40).bind fun t159 => (if t159 = true then (spec_DirOk.l0 k x0 (wrap64 (x3 + 1))) else (some false))) else (some false))) else (some false)))) else (some false))) else (none)) else (some true)
def spec_DirOk.f (k : Nat) (l0 : List (S71)) : Option (Bool) := if (l0.length : Int) > 60 then (some false) else (spec_DirOk.l0 k l0 0)
theorem spec_DirOk.mono_l : ∀ k, (∀ y0 y1, LeO (spec_DirOk.l0 k y0 y1) (spec_DirOk.l0 (k + 1) y0 y1))
 | 0 => fun _ _ r h => by simp [spec_DirOk.l0] at h
 | k + 1 => by
  have ih0:=spec_DirOk.mono_l k
  ·intro y0 y1
   unfold spec_DirOk.l0
   repeat' first
   | (with_reducible exact ih0 _ _)
   | (with_reducible exact LeO.refl _)
   | (with_reducible exact LeO.none _)
   | (with_reducible refine LeO.ite ?_ ?_)
   | (with_reducible refine LeO.bind ?_ (fun _ => ?_))
theorem spec_DirOk.mono : ∀ a0 k, LeO (spec_DirOk.f k a0) (spec_DirOk.f (k + 1) a0) := by
 intro a0 k;have ih0:=spec_DirOk.mono_l k
 unfold spec_DirOk.f
 repeat' first
   | (with_reducible exact ih0 _ _)
   | (with_reducible exact LeO.refl _)
   | (with_reducible exact LeO.none _)
   | (with_reducible refine LeO.ite ?_ ?_)
   | (with_reducible refine LeO.bind ?_ (fun _ => ?_))
set_option maxHeartbeats 8000000 in
set_option maxRecDepth 100000 in
theorem spec_DirOk.calls (k : Nat) (A0 : Option Addr) (c0 : Nat) (l0 : List (S71)) (r : Bool) (w : World) (hr0 : Kd.C k71 w A0 l0.length l0) (hc0 : l0.length ≤ c0) (h : spec_DirOk.f k l0 = some r) :
  Calls Tryd.prog 35 #[.slice A0 l0.length c0] w fun e w' => e = .returned (.bool r) ∧ Below w.heap.size w w':=by
 have hu71:=Tryd.underlying71;have HR:=A_ hr0;have HL:=A_ (Kd.C_max hr0);have HB:=A_ (Below.refl w.heap.size w)
 unfold spec_DirOk.f at h
 by_cases c0 : (l0.length : Int) > 60
 ·rw [if_pos c0] at h;obtain rfl:=Option.some.inj h
  have c1 : 60 < l0.length:=by omega
  clear h hr0 hc0;go_enter Tryd.func35,Tryd.ntmps35;go_wp2;go_ret;exact ⟨rfl,HB.out⟩
 rw [if_neg c0] at h
 have c1 : ¬ 60 < l0.length:=by omega
 clear c0;have H:=A_ h;clear h hr0 hc0;go_enter Tryd.func35,Tryd.ntmps35;go_wp2
 go_loopg [3] k (fun kq vq w' => ∃ xq : Int,vq = .int .i64 xq ∧ Aside0 (spec_DirOk.l0 kq l0 xq = some r) ∧ Aside0 (kq ≤ k) ∧ Aside0 (Below w.heap.size w w'))
 case atStart => exact ⟨0,rfl,H,⟨Nat.le_refl _⟩,HB⟩
 case round =>
  clear H HB;obtain ⟨xq,rfl,HA,HK,HB⟩:=hrel
  rcases gk with _|k1
  ·exact absurd HA.out (by simp [spec_DirOk.l0])
  have H:=HA.out;clear HA;simp only [spec_DirOk.l0,spec_l01In.val,spec_l05Key.val,Option.bind_some] at H
  by_cases d1 : xq < (l0.length : Int)
  ·rw [if_pos d1] at H
   by_cases d2 : 0 ≤ xq
   ·rw [if_pos d2] at H;obtain ⟨ad,e,hx_0,hx_1,hx_2,hx_3⟩:=at_T71 (Kd.C_below HR.out HB.out) xq d2 d1
    cases e
    obtain ⟨mq,rfl⟩ : ∃ n : Nat,xq = n:=⟨xq.toNat,by omega⟩;rw [Int.toNat_natCast] at hx_0 hx_1 hx_2 hx_3;obtain ⟨y,hy⟩ : ∃ y,y = rd_T71 l0 (mq : Int):=⟨_,rfl⟩;rw [← hy] at hx_0 hx_1 hx_2 hx_3;simp only [← hy,if_pos d1] at H;clear hy;have H':=A_ H;clear H
    by_cases d3 : (mq : Int) > 0
    ·obtain ⟨ad2,e2,hz_0,-,-,-⟩:=at_T71 (Kd.C_below HR.out HB.out) ((mq : Int) - 1) (by omega) (by omega)
     cases e2
     have d5 : (0 : Int) ≤ (mq : Int) - 1:=by omega
     have d9 : 0 < mq:=by omega
     have d12 : ((mq : Int) - 1).toNat = mq - 1:=by omega
     have d14 : (1 : Int) ≤ (mq : Int):=by omega
     have d13 : mq - 1 < l0.length:=by omega
     rw [d12] at hz_0
     have d10 : IntKind.i64.wrap ((mq : Int) - 1) = (mq : Int) - 1:=by rw [IntKind.wrap_i64];have:=HL.out;omega
     have d6 : (mq : Int) - 1 < (l0.length : Int):=by omega
     obtain ⟨z,hz⟩ : ∃ z,z = rd_T71 l0 ((mq : Int) - 1):=⟨_,rfl⟩;rw [← hz] at hz_0
     have hz_1 : ∀ o,(wr.alloc o).cell? (ad.add ((mq - 1) * 4)) = some (.string z.f0):=fun o => pw_cell_below (pa_ (Below.refl _ _) o) hz_0
     have Z:=A_ hz;clear hz
     rcases bt_ (wB (y.f0.size : Int) 1 10) with b0|b0
     rcases bt_ (Op.bytesLess z.f0.toList y.f0.toList) with b1|b1
     rcases bt_ (wB y.f1 0 999) with b2|b2
     rcases bt_ (wB y.f2 0 20000) with b3|b3
     rcases bt_ (wB y.f3 0 40) with b4|b4
     all_goals
      go_wp2
      go_quiet ((first|exact Calls.quiet_of_same (spec_l05Key.quiet _ _)|exact Calls.quiet_of_same (spec_l01In.quiet _ _ _ _)))
      go_wp2;have H:=H'.out;simp only [← Z.out,show wrap64 ((mq : Int) - 1) = (mq : Int) - 1 by unfold wrap64;have:=HL.out;omega,if_pos (show (mq : Int) > 0 by omega),if_pos d5,if_pos d6,if_false,if_true,Bool.false_eq_true, *] at H
      first
       | (go_ret;obtain rfl:=Option.some.inj H;exact ⟨rfl,bs_ (pa_ HB.out _) (pn_ (Below.refl _ _) _)⟩)
       | (go_roundg k1;(case measure => omega);(case rel => exact ⟨_,rfl,⟨by first|exact H|(rw [← w64_ (show (mq : Int) + 1 ≤ 9223372036854775807 by have:=HL.out;omega) (by omega)];exact H)⟩,⟨by have:=HK.out;omega⟩,⟨bs_ (pa_ HB.out _) (pn_ (Below.refl _ _) _)⟩⟩))
    ·have d9 : ¬ 0 < mq:=by omega
     rcases bt_ (wB (y.f0.size : Int) 1 10) with b0|b0
     rcases bt_ (wB y.f1 0 999) with b1|b1
     rcases bt_ (wB y.f2 0 20000) with b2|b2
     rcases bt_ (wB y.f3 0 40) with b3|b3
     all_goals
      go_wp2
      go_quiet ((first|exact Calls.quiet_of_same (spec_l05Key.quiet _ _)|exact Calls.quiet_of_same (spec_l01In.quiet _ _ _ _)))
      go_wp2;have H:=H'.out;simp only [if_neg (show ¬ ((mq : Int) > 0) by omega),if_false,if_true,Bool.false_eq_true, *] at H
      first
       | (go_ret;obtain rfl:=Option.some.inj H;exact ⟨rfl,bs_ (pa_ HB.out _) (pn_ (Below.refl _ _) _)⟩)
       | (go_roundg k1;(case measure => omega);(case rel => exact ⟨_,rfl,⟨by first|exact H|(rw [← w64_ (show (mq : Int) + 1 ≤ 9223372036854775807 by have:=HL.out;omega) (by omega)];exact H)⟩,⟨by have:=HK.out;omega⟩,⟨bs_ (pa_ HB.out _) (pn_ (Below.refl _ _) _)⟩⟩))
   ·rw [if_neg d2] at H;cases H
  ·rw [if_neg d1] at H;obtain rfl:=Option.some.inj H;have d8 : ¬ ((l0.length : Int) > xq):=d1;go_wp2;go_ret;exact ⟨rfl,HB.out⟩
def spec_l03At.l0 : Nat → ByteArray → Int → List (S62) → Option (Int)
 | 0,_,_,_ => none
 | k + 1,x1,x5,x161000 => if x5 < (x161000.length : Int) then (if 0 ≤ x5 then (if ((rd_T62 x161000 x5).f0).toList = x1.toList then (some x5) else (spec_l03At.l0 k x1 (wrap64 (x5 + 1)) x161000)) else (none)) else (some (-1))
def spec_l03At.f (k : Nat) (l0_0 : List (S62)) (a1 : ByteArray) : Option (Int) := spec_l03At.l0 k a1 0 l0_0
theorem spec_l03At.mono_l : ∀ k, (∀ y0 y1 y2, LeO (spec_l03At.l0 k y0 y1 y2) (spec_l03At.l0 (k + 1) y0 y1 y2))
 | 0 => fun _ _ _ r h => by simp [spec_l03At.l0] at h
 | k + 1 => by
  have ih0:=spec_l03At.mono_l k
  ·intro y0 y1 y2
   unfold spec_l03At.l0
   repeat' first
   | (with_reducible exact ih0 _ _ _)
   | (with_reducible exact LeO.refl _)
   | (with_reducible exact LeO.none _)
   | (with_reducible refine LeO.ite ?_ ?_)
   | (with_reducible refine LeO.bind ?_ (fun _ => ?_))
theorem spec_l03At.mono : ∀ a0 a1 k, LeO (spec_l03At.f k a0 a1) (spec_l03At.f (k + 1) a0 a1) := by
 intro a0 a1 k;have ih0:=spec_l03At.mono_l k
 unfold spec_l03At.f
 repeat' first
   | (with_reducible exact ih0 _ _ _)
   | (with_reducible exact LeO.refl _)
   | (with_reducible exact LeO.none _)
   | (with_reducible refine LeO.ite ?_ ?_)
   | (with_reducible refine LeO.bind ?_ (fun _ => ?_))
set_option maxHeartbeats 8000000 in
set_option maxRecDepth 100000 in
theorem spec_l03At.calls (k : Nat) (A0_0 : Option Addr) (c0_0 : Nat) (l0_0 : List (S62)) (a1 : ByteArray) (r : Int) (w : World) (hr0_0 : Kd.C k62 w A0_0 l0_0.length l0_0) (hc0_0 : l0_0.length ≤ c0_0) (h : spec_l03At.f k l0_0 a1 = some r) :
  Calls Tryd.prog 65 #[.agg #[.slice A0_0 l0_0.length c0_0],.string a1] w fun e w' => e = .returned (.int .i64 r) ∧ Below w.heap.size w w':=by
 have hu25:=Tryd.underlying25;have HR0_0:=A_ hr0_0;have HC0_0:=A_ hc0_0;clear hr0_0 hc0_0;have HB:=A_ (Below.refl w.heap.size w);have H : (spec_l03At.l0 k a1 0 l0_0) = some r:=h;clear h;have H':=A_ H;clear H;go_enter Tryd.func65,Tryd.ntmps65
 go_wp2_with (first|((with_reducible refine gate_dst (N:=2) rfl ?_);refine box_event ?hg (N:=2) ?hd (cs:=#[.slice A0_0 l0_0.length c0_0]) (t:=25) ?hr ?_;(case hd => rfl);(case hg => rfl);(case hr => first|(go_simp;done)|(go_simp;rfl));intro gb160 hg w3 hbox hb;have n0_:=A_ (bs_ (by repeat (first|(with_reducible first|exact HB.out|apply pa_|apply pn_|apply pd_)|exact HB.out)) hb);have n1_:=A_ (hbox);have n3_:=A_ ((by rw [hg];exact (bz_ (by repeat (first|(with_reducible first|exact HB.out|apply pa_|apply pn_|apply pd_)|exact HB.out))) : w.heap.size ≤ gb160));clear HB;have HB:=n0_;have BK160:=n1_;have GE160:=n3_;clear n0_ n1_ n3_;clear hb hbox hg))
 go_loopg [5] k (fun kq v5 w' => ∃ (x5_1 : Int),v5 = .int .i64 x5_1 ∧ Aside0 (spec_l03At.l0 kq a1 x5_1 l0_0 = some r) ∧ Aside0 (kq ≤ k) ∧ Aside0 (w'.heap[gb160]? = some (.cells #[(.slice A0_0 l0_0.length c0_0)] 25 (0,0))) ∧ Aside0 (Below w.heap.size w w'))
 case atStart => exact ⟨(0),(by first|rfl|(simp;done)|(simp [*];done)),H',⟨Nat.le_refl _⟩,⟨by (with_reducible repeat (first|refine kn_ ?_ _|refine kd_ ?_|refine ka_ ?_ _));exact BK160.out⟩,⟨by repeat (first|(with_reducible first|exact HB.out|apply pa_|apply pn_|apply pd_|refine ps_ ?_ GE160.out)|exact HB.out)⟩⟩
 case round =>
  clear H'
  try clear p2
  obtain ⟨x5_1,rfl,HA,HK1,BK160,HB⟩:=hrel
  cases gk with
  | zero => exact absurd HA.out (by simp [spec_l03At.l0])
  | succ k1 =>
   have H:=HA.out;clear HA;simp only [spec_l03At.l0] at H;have HC4:=A_ H;clear H;have hcz5_0 : wr.cell? ⟨gb160,0,none⟩ = some (.slice A0_0 l0_0.length c0_0):=(kc_ BK160.out 0).trans rfl;have hfz5_0:=kf_ BK160.out 0
   go_upto_if 10 with (fail)
   have H:=HC4.out;clear HC4
   by_cases c6 : x5_1 < (l0_0.length : Int)
   ·rw [if_pos c6] at H;have c6b0 : decide (x5_1 < (l0_0.length : Int)) = true:=de_ c6;clear c6
    (first|rw [c6b0]|(simp only [i64_w,i32_w];rw [c6b0])|skip)
    by_cases c7 : 0 ≤ x5_1
    ·rw [if_pos c7] at H;have c7b0 : decide (0 ≤ x5_1) = true:=de_ c7;clear c7;have HC8:=A_ H;clear H;have hcz9_0 : wr.cell? ⟨gb160,0,none⟩ = some (.slice A0_0 l0_0.length c0_0):=(kc_ BK160.out 0).trans rfl;have hfz9_0:=kf_ BK160.out 0;have p161 : 0 ≤ (x5_1 : Int):=oda_;have q161 : x5_1 < (l0_0.length : Int):=oda_;obtain ⟨ad161,e161,hx161_0,hx161_1⟩:=at_T62 HR0_0.out x5_1 p161 q161
     cases e161
     replace hx161_0:=(HB.out.cell (wb_ w _ hx161_0)).trans hx161_0;replace hx161_1:=(HB.out.cell (wb_ w _ hx161_1)).trans hx161_1;replace p161:=eq_true p161;replace q161:=eq_true q161
     go_upto_if 20 with (fail)
     have H:=HC8.out;clear HC8
     by_cases c10 : ((rd_T62 l0_0 x5_1).f0).toList = a1.toList
     ·rw [if_pos c10] at H;have c10b0 : (((rd_T62 l0_0 x5_1).f0).toList == a1.toList) = true:=beq_iff_eq.mpr c10;have c10b1 : (((rd_T62 l0_0 x5_1).f0).toList != a1.toList) = false:=bne_eq_false_iff_eq.mpr c10;clear c10
      (first|rw [c10b0]|(simp only [i64_w,i32_w];rw [c10b0])|skip)
      obtain rfl:=Option.some.inj H;go_wp2;go_ret;exact ⟨by first|rfl|(simp [*,errW_none,errW_some] <;> rfl),by repeat (first|(with_reducible first|exact HB.out|apply pa_|apply pn_|apply pd_|refine ps_ ?_ GE160.out)|exact HB.out)⟩
     ·rw [if_neg c10] at H;have c10b0 : (((rd_T62 l0_0 x5_1).f0).toList == a1.toList) = false:=beq_eq_false_iff_ne.mpr c10;have c10b1 : (((rd_T62 l0_0 x5_1).f0).toList != a1.toList) = true:=bne_iff_ne.mpr c10
      (first|rw [c10b0]|(simp only [i64_w,i32_w];rw [c10b0])|skip)
      have H':=A_ H;clear H;go_wp2
      go_roundg k1
      case measure => have:=HK1.out;omega
      case rel => exact ⟨(wrap64 (x5_1 + 1)),(by first|rfl|(simp;done)|(simp [*];done)),H',⟨by have:=HK1.out;omega⟩,⟨by (with_reducible repeat (first|refine kn_ ?_ _|refine kd_ ?_|refine ka_ ?_ _));exact BK160.out⟩,⟨by repeat (first|(with_reducible first|exact HB.out|apply pa_|apply pn_|apply pd_|refine ps_ ?_ GE160.out)|exact HB.out)⟩⟩
    ·rw [if_neg c7] at H;exact absurd H (by simp)
   ·rw [if_neg c6] at H;have c6b0 : decide (x5_1 < (l0_0.length : Int)) = false:=decide_eq_false c6;clear c6
    (first|rw [c6b0]|(simp only [i64_w,i32_w];rw [c6b0])|skip)
    obtain rfl:=Option.some.inj H;go_wp2;go_ret;exact ⟨by first|rfl|(simp [*,errW_none,errW_some] <;> rfl),by repeat (first|(with_reducible first|exact HB.out|apply pa_|apply pn_|apply pd_|refine ps_ ?_ GE160.out)|exact HB.out)⟩
def spec_l03Text.f (k : Nat) (l0_0 : List (S62)) (a1 : ByteArray) : Option (ByteArray) := (spec_l03At.f k l0_0 a1).bind fun t163 => (if t163 < 0 then (some (⟨#[]⟩ : ByteArray)) else (if 0 ≤ t163 then (if t163 < (l0_0.length : Int) then (some ((rd_T62 l0_0 t163).f1)) else (none)) else (none)))
theorem spec_l03Text.mono : ∀ a0 a1 k, LeO (spec_l03Text.f k a0 a1) (spec_l03Text.f (k + 1) a0 a1) := by
 intro a0 a1 k
 unfold spec_l03Text.f
 repeat' first
   | (with_reducible exact spec_l03At.mono _ _ _)
   | (with_reducible exact LeO.refl _)
   | (with_reducible exact LeO.none _)
   | (with_reducible refine LeO.ite ?_ ?_)
   | (with_reducible refine LeO.bind ?_ (fun _ => ?_))
set_option maxHeartbeats 8000000 in
set_option maxRecDepth 100000 in
theorem spec_l03Text.calls (k : Nat) (A0_0 : Option Addr) (c0_0 : Nat) (l0_0 : List (S62)) (a1 : ByteArray) (r : ByteArray) (w : World) (hr0_0 : Kd.C k62 w A0_0 l0_0.length l0_0) (hc0_0 : l0_0.length ≤ c0_0) (h : spec_l03Text.f k l0_0 a1 = some r) :
  Calls Tryd.prog 36 #[.agg #[.slice A0_0 l0_0.length c0_0],.string a1] w fun e w' => e = .returned (.string r) ∧ Below w.heap.size w w':=by
 have hu25:=Tryd.underlying25;have HR0_0:=A_ hr0_0;have HC0_0:=A_ hc0_0;clear hr0_0 hc0_0;have HB:=A_ (Below.refl w.heap.size w);have H : ((spec_l03At.f k l0_0 a1).bind fun t163 => (if t163 < 0 then (some (⟨#[]⟩ : ByteArray)) else (if 0 ≤ t163 then (if t163 < (l0_0.length : Int) then (some ((rd_T62 l0_0 t163).f1)) else (none)) else (none)))) = some r:=h;clear h;replace H:=ob_.mp H;obtain ⟨t163,A30,H⟩:=H;replace H : (if t163 < 0 then (some (⟨#[]⟩ : ByteArray)) else (if 0 ≤ t163 then (if t163 < (l0_0.length : Int) then (some ((rd_T62 l0_0 t163).f1)) else (none)) else (none))) = some r:=H;have A3:=A_ A30;clear A30;have HC4:=A_ H;clear H;go_enter Tryd.func36,Tryd.ntmps36
 go_upto_if 10 with (first|((with_reducible refine gate_dst (N:=2) rfl ?_);refine box_event ?hg (N:=2) ?hd (cs:=#[.slice A0_0 l0_0.length c0_0]) (t:=25) ?hr ?_;(case hd => rfl);(case hg => rfl);(case hr => first|(go_simp;done)|(go_simp;rfl));intro gb162 hg w5 hbox hb;have n0_:=A_ (bs_ (by repeat (first|(with_reducible first|exact HB.out|apply pa_|apply pn_|apply pd_)|exact HB.out)) hb);have n1_:=A_ (hbox);have n3_:=A_ ((by rw [hg];exact (bz_ (by repeat (first|(with_reducible first|exact HB.out|apply pa_|apply pn_|apply pd_)|exact HB.out))) : w.heap.size ≤ gb162));clear HB;have HB:=n0_;have BK162:=n1_;have GE162:=n3_;clear n0_ n1_ n3_;clear hb hbox hg;have hcz6_0 : w5.cell? ⟨gb162,0,none⟩ = some (.slice A0_0 l0_0.length c0_0):=(kc_ BK162.out 0).trans rfl;have hfz6_0:=kf_ BK162.out 0)|((with_reducible refine gate_callee (f:=65) rfl ?_);refine goesL_ (some 8) rfl rfl Tryd.func65 (by kernel_rfl) rfl #[.agg #[.slice A0_0 l0_0.length c0_0],.string a1] rfl (by (try simp only [s4_,s5_,s6_]);first|done|rfl|(simp only [List.length_drop,List.length_take];rfl)) ?_;(with_reducible refine (spec_l03At.calls k _ _ l0_0 a1 t163 _ ?side1 ?side2 A3.out).mono ?_);(case side1 => repeat (first|exact (Kd.C_below HR0_0.out HB.out)|(with_reducible refine Kd.C_alloc ?_ _)|(with_reducible refine Kd.C_drewN ?_ _)|(with_reducible refine Kd.C_drew ?_)));(case side2 => exact HC0_0.out);rintro e w7 ⟨rfl,hb⟩;refine ⟨_,rfl,?_⟩;replace BK162:=A_ (kb_ (by (with_reducible repeat (first|refine kn_ ?_ _|refine kd_ ?_|refine ka_ ?_ _));exact BK162.out) hb);replace HB:=A_ (bs_ (by repeat (first|(with_reducible first|exact HB.out|apply pa_|apply pn_|apply pd_|refine ps_ ?_ GE162.out)|exact HB.out)) hb);(try clear hb);(try clear hb2);(try clear hk);(try clear hi)))
 have H:=HC4.out;clear HC4
 by_cases c8 : t163 < 0
 ·rw [if_pos c8] at H;have c8b0 : decide (t163 < 0) = true:=de_ c8;clear c8
  (first|rw [c8b0]|(simp only [i64_w,i32_w];rw [c8b0])|skip)
  obtain rfl:=Option.some.inj H;go_wp2;go_ret;exact ⟨by first|rfl|(simp [*,errW_none,errW_some] <;> rfl),by repeat (first|(with_reducible first|exact HB.out|apply pa_|apply pn_|apply pd_|refine ps_ ?_ GE162.out)|exact HB.out)⟩
 ·rw [if_neg c8] at H;have c8b0 : decide (t163 < 0) = false:=decide_eq_false c8;clear c8
  (first|rw [c8b0]|(simp only [i64_w,i32_w];rw [c8b0])|skip)
  by_cases c9 : 0 ≤ t163
  ·rw [if_pos c9] at H;have c9b0 : decide (0 ≤ t163) = true:=de_ c9;clear c9
   by_cases c10 : t163 < (l0_0.length : Int)
   ·rw [if_pos c10] at H;have c10b0 : decide (t163 < (l0_0.length : Int)) = true:=de_ c10;clear c10;obtain rfl:=Option.some.inj H;have hcz11_0 : w7.cell? ⟨gb162,0,none⟩ = some (.slice A0_0 l0_0.length c0_0):=(kc_ BK162.out 0).trans rfl;have hfz11_0:=kf_ BK162.out 0;have p164 : 0 ≤ (t163 : Int):=oda_;have q164 : t163 < (l0_0.length : Int):=oda_;obtain ⟨ad164,e164,hx164_0,hx164_1⟩:=at_T62 HR0_0.out t163 p164 q164
    cases e164
    replace hx164_0:=(HB.out.cell (wb_ w _ hx164_0)).trans hx164_0;replace hx164_1:=(HB.out.cell (wb_ w _ hx164_1)).trans hx164_1;replace p164:=eq_true p164;replace q164:=eq_true q164;go_wp2;go_ret;exact ⟨by first|rfl|(simp [*,errW_none,errW_some] <;> rfl),by repeat (first|(with_reducible first|exact HB.out|apply pa_|apply pn_|apply pd_|refine ps_ ?_ GE162.out)|exact HB.out)⟩
   ·rw [if_neg c10] at H;exact absurd H (by simp)
  ·rw [if_neg c9] at H;exact absurd H (by simp)
end Go.Proofs.YtbcgnncbiblibaaDoor.PFnExactShelfMap
