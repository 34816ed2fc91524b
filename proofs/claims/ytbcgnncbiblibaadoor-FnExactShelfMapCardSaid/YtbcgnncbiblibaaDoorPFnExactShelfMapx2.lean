/- The contracts of the Go functions that this law reaches: what each call returns, by a plain Lean function of its arguments. No conditions but those each contract names. By the kit's print.py, run by this session's wip/gen/pp.py with facts and hand proofs beside it: not to the letter what print.sh prints. -/
import Derived.Test.YtbcgnncbiblibaaDoorPFnExactShelfMapx0
namespace Go.Proofs.YtbcgnncbiblibaaDoor.PFnExactShelfMap
open Go.RowKit Go.Proofs.YtbcgnncbiblibaaDoorW.PrintWords Go.Proofs.YtbcgnncbiblibaaDoorW.PrintLast Go.Proofs.YtbcgnncbiblibaaDoorW.PrintMore
attribute [local go_sem] max2_int min2_int max_two min_two max_three min_three max_four min_four
set_option linter.unusedVariables false
set_option linter.unusedSimpArgs false
def laws_szIntS.f (l0 : List Int) (a1 : Int) : Option (Int) := if (wrap64 (a1 - (l0.length : Int))) < 0 then (some (-1)) else (some (wrap64 (a1 - (l0.length : Int))))
set_option maxHeartbeats 8000000 in
set_option maxRecDepth 100000 in
theorem laws_szIntS.calls (A0 : Option Addr) (c0 : Nat) (l0 : List Int) (a1 : Int) (r : Int) (w : World) (hr0 : Kd.C (Kd.int .i64) w A0 l0.length l0) (hc0 : l0.length ≤ c0) (h : laws_szIntS.f l0 a1 = some r) :
  Calls Tryd.prog 62 #[.slice A0 l0.length c0,.int .i64 a1] w fun e w' => e = .returned (.int .i64 r) ∧ Drawn0 w w':=by
 have HR0:=A_ hr0;have HC0:=A_ hc0;clear hr0 hc0;have H : (if (wrap64 (a1 - (l0.length : Int))) < 0 then (some (-1)) else (some (wrap64 (a1 - (l0.length : Int))))) = some r:=h;clear h
 by_cases c3 : (wrap64 (a1 - (l0.length : Int))) < 0
 ·rw [if_pos c3] at H;have c3b0 : decide ((wrap64 (a1 - (l0.length : Int))) < 0) = true:=de_ c3;clear c3;obtain rfl:=Option.some.inj H;go_enter Tryd.func62,Tryd.ntmps62;go_wp2;go_ret;exact ⟨by first|rfl|(simp;done)|(simp [*];done),by repeat (first|exact Drawn0.refl _|apply Drawn0.step)⟩
 ·rw [if_neg c3] at H;have c3b0 : decide ((wrap64 (a1 - (l0.length : Int))) < 0) = false:=decide_eq_false c3;clear c3;obtain rfl:=Option.some.inj H;go_enter Tryd.func62,Tryd.ntmps62;go_wp2;go_ret;exact ⟨by first|rfl|(simp;done)|(simp [*];done),by repeat (first|exact Drawn0.refl _|apply Drawn0.step)⟩
def laws_szManifest.f (l0_0 : List Int) (a0_1 : Int) (a0_2 : Int) (a0_3 : Int) (l0_4 : List Int) (a1 : Int) : Option (Int) := (laws_szIntS.f l0_0 a1).bind fun t125 => (if t125 < 0 then (some (-1)) else ((laws_szIntS.f l0_4 t125).bind fun t126 => (if t126 < 0 then (some (-1)) else (some t126))))
set_option maxHeartbeats 8000000 in
set_option maxRecDepth 100000 in
theorem laws_szManifest.calls (A0_0 : Option Addr) (c0_0 : Nat) (l0_0 : List Int) (a0_1 : Int) (a0_2 : Int) (a0_3 : Int) (A0_4 : Option Addr) (c0_4 : Nat) (l0_4 : List Int) (a1 : Int) (r : Int) (w : World) (hr0_0 : Kd.C (Kd.int .i64) w A0_0 l0_0.length l0_0) (hc0_0 : l0_0.length ≤ c0_0) (hr0_4 : Kd.C (Kd.int .i64) w A0_4 l0_4.length l0_4) (hc0_4 : l0_4.length ≤ c0_4) (h : laws_szManifest.f l0_0 a0_1 a0_2 a0_3 l0_4 a1 = some r) :
  Calls Tryd.prog 32 #[.agg #[.slice A0_0 l0_0.length c0_0,.int .i64 a0_1,.int .i64 a0_2,.int .i64 a0_3,.slice A0_4 l0_4.length c0_4],.int .i64 a1] w fun e w' => e = .returned (.int .i64 r) ∧ Below w.heap.size w w':=by
 have hu38:=Tryd.underlying38;have HR0_0:=A_ hr0_0;have HC0_0:=A_ hc0_0;clear hr0_0 hc0_0;have HR0_4:=A_ hr0_4;have HC0_4:=A_ hc0_4;clear hr0_4 hc0_4;have HB:=A_ (Below.refl w.heap.size w);have H : ((laws_szIntS.f l0_0 a1).bind fun t125 => (if t125 < 0 then (some (-1)) else ((laws_szIntS.f l0_4 t125).bind fun t126 => (if t126 < 0 then (some (-1)) else (some t126))))) = some r:=h;clear h;replace H:=ob_.mp H;obtain ⟨t125,A30,H⟩:=H;replace H : (if t125 < 0 then (some (-1)) else ((laws_szIntS.f l0_4 t125).bind fun t126 => (if t126 < 0 then (some (-1)) else (some t126)))) = some r:=H;have A3:=A_ A30;clear A30;have HC4:=A_ H;clear H;go_enter Tryd.func32,Tryd.ntmps32
 go_upto_if 10 with (first|((with_reducible refine gate_dst (N:=2) rfl ?_);refine box_event ?hg (N:=2) ?hd (cs:=#[.slice A0_0 l0_0.length c0_0,.int .i64 a0_1,.int .i64 a0_2,.int .i64 a0_3,.slice A0_4 l0_4.length c0_4]) (t:=38) ?hr ?_;(case hd => rfl);(case hg => rfl);(case hr => first|(go_simp;done)|(go_simp;rfl));intro gb124 hg w5 hbox hb;have n0_:=A_ (bs_ (by repeat (first|(with_reducible first|exact HB.out|apply pa_|apply pn_|apply pd_)|exact HB.out)) hb);have n1_:=A_ (hbox);have n3_:=A_ ((by rw [hg];exact (bz_ (by repeat (first|(with_reducible first|exact HB.out|apply pa_|apply pn_|apply pd_)|exact HB.out))) : w.heap.size ≤ gb124));clear HB;have HB:=n0_;have BK124:=n1_;have GE124:=n3_;clear n0_ n1_ n3_;clear hb hbox hg;have hcz6_0 : w5.cell? ⟨gb124,0,none⟩ = some (.slice A0_0 l0_0.length c0_0):=(kc_ BK124.out 0).trans rfl;have hcz6_1 : w5.cell? ⟨gb124,1,none⟩ = some (.int .i64 a0_1):=(kc_ BK124.out 1).trans rfl;have hcz6_2 : w5.cell? ⟨gb124,2,none⟩ = some (.int .i64 a0_2):=(kc_ BK124.out 2).trans rfl;have hcz6_3 : w5.cell? ⟨gb124,3,none⟩ = some (.int .i64 a0_3):=(kc_ BK124.out 3).trans rfl;have hcz6_4 : w5.cell? ⟨gb124,4,none⟩ = some (.slice A0_4 l0_4.length c0_4):=(kc_ BK124.out 4).trans rfl;have hfz6_0:=kf_ BK124.out 0;have hfz6_1:=kf_ BK124.out 1;have hfz6_2:=kf_ BK124.out 2;have hfz6_3:=kf_ BK124.out 3;have hfz6_4:=kf_ BK124.out 4)|((with_reducible refine gate_callee (f:=62) rfl ?_);refine goesL_ (some 8) rfl rfl Tryd.func62 (by kernel_rfl) rfl #[.slice A0_0 l0_0.length c0_0,.int .i64 a1] rfl (by (try simp only [s4_,s5_,s6_]);first|done|rfl|(simp only [List.length_drop,List.length_take];rfl)) ?_;(with_reducible refine (laws_szIntS.calls _ _ l0_0 a1 t125 _ ?side1 ?side2 A3.out).mono ?_);(case side1 => repeat (first|exact (Kd.C_below HR0_0.out HB.out)|(with_reducible refine Kd.C_alloc ?_ _)|(with_reducible refine Kd.C_drewN ?_ _)|(with_reducible refine Kd.C_drew ?_)));(case side2 => exact HC0_0.out);rintro e w' ⟨rfl,⟨nd,rfl⟩⟩;refine ⟨_,rfl,?_⟩))
 have H:=HC4.out;clear HC4
 by_cases c7 : t125 < 0
 ·rw [if_pos c7] at H;have c7b0 : decide (t125 < 0) = true:=de_ c7;clear c7
  (first|rw [c7b0]|(simp only [i64_w,i32_w];rw [c7b0])|skip)
  obtain rfl:=Option.some.inj H;go_wp2;go_ret;exact ⟨by first|rfl|(simp [*,errW_none,errW_some] <;> rfl),by repeat (first|(with_reducible first|exact HB.out|apply pa_|apply pn_|apply pd_|refine ps_ ?_ GE124.out)|exact HB.out)⟩
 ·rw [if_neg c7] at H;have c7b0 : decide (t125 < 0) = false:=decide_eq_false c7;clear c7
  (first|rw [c7b0]|(simp only [i64_w,i32_w];rw [c7b0])|skip)
  replace H:=ob_.mp H;obtain ⟨t126,A80,H⟩:=H;replace H : (if t126 < 0 then (some (-1)) else (some t126)) = some r:=H;have A8:=A_ A80;clear A80;have HC9:=A_ H;clear H;have hcz10_0 : w5.cell? ⟨gb124,0,none⟩ = some (.slice A0_0 l0_0.length c0_0):=(kc_ BK124.out 0).trans rfl;have hcz10_1 : w5.cell? ⟨gb124,1,none⟩ = some (.int .i64 a0_1):=(kc_ BK124.out 1).trans rfl;have hcz10_2 : w5.cell? ⟨gb124,2,none⟩ = some (.int .i64 a0_2):=(kc_ BK124.out 2).trans rfl;have hcz10_3 : w5.cell? ⟨gb124,3,none⟩ = some (.int .i64 a0_3):=(kc_ BK124.out 3).trans rfl;have hcz10_4 : w5.cell? ⟨gb124,4,none⟩ = some (.slice A0_4 l0_4.length c0_4):=(kc_ BK124.out 4).trans rfl;have hfz10_0:=kf_ BK124.out 0;have hfz10_1:=kf_ BK124.out 1;have hfz10_2:=kf_ BK124.out 2;have hfz10_3:=kf_ BK124.out 3;have hfz10_4:=kf_ BK124.out 4
  go_upto_if 16 with (first|((with_reducible refine gate_callee (f:=62) rfl ?_);refine goesL_ (some 14) rfl rfl Tryd.func62 (by kernel_rfl) rfl #[.slice A0_4 l0_4.length c0_4,.int .i64 t125] rfl (by (try simp only [s4_,s5_,s6_]);first|done|rfl|(simp only [List.length_drop,List.length_take];rfl)) ?_;(with_reducible refine (laws_szIntS.calls _ _ l0_4 t125 t126 _ ?side1 ?side2 A8.out).mono ?_);(case side1 => repeat (first|exact (Kd.C_below HR0_4.out HB.out)|(with_reducible refine Kd.C_alloc ?_ _)|(with_reducible refine Kd.C_drewN ?_ _)|(with_reducible refine Kd.C_drew ?_)));(case side2 => exact HC0_4.out);rintro e w' ⟨rfl,⟨nd,rfl⟩⟩;refine ⟨_,rfl,?_⟩))
  have H:=HC9.out;clear HC9
  by_cases c11 : t126 < 0
  ·rw [if_pos c11] at H;have c11b0 : decide (t126 < 0) = true:=de_ c11;clear c11
   (first|rw [c11b0]|(simp only [i64_w,i32_w];rw [c11b0])|skip)
   obtain rfl:=Option.some.inj H;go_wp2;go_ret;exact ⟨by first|rfl|(simp [*,errW_none,errW_some] <;> rfl),by repeat (first|(with_reducible first|exact HB.out|apply pa_|apply pn_|apply pd_|refine ps_ ?_ GE124.out)|exact HB.out)⟩
  ·rw [if_neg c11] at H;have c11b0 : decide (t126 < 0) = false:=decide_eq_false c11;clear c11
   (first|rw [c11b0]|(simp only [i64_w,i32_w];rw [c11b0])|skip)
   obtain rfl:=Option.some.inj H;go_wp2;go_ret;exact ⟨by first|rfl|(simp [*,errW_none,errW_some] <;> rfl),by repeat (first|(with_reducible first|exact HB.out|apply pa_|apply pn_|apply pd_|refine ps_ ?_ GE124.out)|exact HB.out)⟩
def laws_szSpot.f (a0_0 : ByteArray) (a0_1 : Int) (a0_2 : Int) (a0_3 : Int) (a1 : Int) : Option (Int) := if (wrap64 (a1 - (a0_0.size : Int))) < 0 then (some (-1)) else (some (wrap64 (a1 - (a0_0.size : Int))))
set_option maxHeartbeats 8000000 in
set_option maxRecDepth 100000 in
theorem laws_szSpot.calls (a0_0 : ByteArray) (a0_1 : Int) (a0_2 : Int) (a0_3 : Int) (a1 : Int) (r : Int) (w : World) (h : laws_szSpot.f a0_0 a0_1 a0_2 a0_3 a1 = some r) :
  Calls Tryd.prog 63 #[.agg #[.string a0_0,.int .i64 a0_1,.int .i64 a0_2,.int .i64 a0_3],.int .i64 a1] w fun e w' => e = .returned (.int .i64 r) ∧ Below w.heap.size w w':=by
 have hu93:=Tryd.underlying93;have HB:=A_ (Below.refl w.heap.size w);have H : (if (wrap64 (a1 - (a0_0.size : Int))) < 0 then (some (-1)) else (some (wrap64 (a1 - (a0_0.size : Int))))) = some r:=h;clear h;have HC3:=A_ H;clear H;go_enter Tryd.func63,Tryd.ntmps63
 go_upto_if 11 with (first|((with_reducible refine gate_dst (N:=2) rfl ?_);refine box_event ?hg (N:=2) ?hd (cs:=#[.string a0_0,.int .i64 a0_1,.int .i64 a0_2,.int .i64 a0_3]) (t:=93) ?hr ?_;(case hd => rfl);(case hg => rfl);(case hr => first|(go_simp;done)|(go_simp;rfl));intro gb127 hg w4 hbox hb;have n0_:=A_ (bs_ (by repeat (first|(with_reducible first|exact HB.out|apply pa_|apply pn_|apply pd_)|exact HB.out)) hb);have n1_:=A_ (hbox);have n3_:=A_ ((by rw [hg];exact (bz_ (by repeat (first|(with_reducible first|exact HB.out|apply pa_|apply pn_|apply pd_)|exact HB.out))) : w.heap.size ≤ gb127));clear HB;have HB:=n0_;have BK127:=n1_;have GE127:=n3_;clear n0_ n1_ n3_;clear hb hbox hg;have hcz5_0 : w4.cell? ⟨gb127,0,none⟩ = some (.string a0_0):=(kc_ BK127.out 0).trans rfl;have hcz5_1 : w4.cell? ⟨gb127,1,none⟩ = some (.int .i64 a0_1):=(kc_ BK127.out 1).trans rfl;have hcz5_2 : w4.cell? ⟨gb127,2,none⟩ = some (.int .i64 a0_2):=(kc_ BK127.out 2).trans rfl;have hcz5_3 : w4.cell? ⟨gb127,3,none⟩ = some (.int .i64 a0_3):=(kc_ BK127.out 3).trans rfl;have hfz5_0:=kf_ BK127.out 0;have hfz5_1:=kf_ BK127.out 1;have hfz5_2:=kf_ BK127.out 2;have hfz5_3:=kf_ BK127.out 3))
 have H:=HC3.out;clear HC3
 by_cases c6 : (wrap64 (a1 - (a0_0.size : Int))) < 0
 ·rw [if_pos c6] at H;have c6b0 : decide ((wrap64 (a1 - (a0_0.size : Int))) < 0) = true:=de_ c6;clear c6
  (first|rw [c6b0]|(simp only [i64_w,i32_w];rw [c6b0])|skip)
  obtain rfl:=Option.some.inj H;go_wp2;go_ret;exact ⟨by first|rfl|(simp [*,errW_none,errW_some] <;> rfl),by repeat (first|(with_reducible first|exact HB.out|apply pa_|apply pn_|apply pd_|refine ps_ ?_ GE127.out)|exact HB.out)⟩
 ·rw [if_neg c6] at H;have c6b0 : decide ((wrap64 (a1 - (a0_0.size : Int))) < 0) = false:=decide_eq_false c6;clear c6
  (first|rw [c6b0]|(simp only [i64_w,i32_w];rw [c6b0])|skip)
  obtain rfl:=Option.some.inj H;go_wp2;go_ret;exact ⟨by first|rfl|(simp [*,errW_none,errW_some] <;> rfl),by repeat (first|(with_reducible first|exact HB.out|apply pa_|apply pn_|apply pd_|refine ps_ ?_ GE127.out)|exact HB.out)⟩
def laws_szSpotS.l0 : Nat → List (S93) → Int → Int → Option (Int)
 | 0,_,_,_ => none
 | k + 1,x0,x1,x5 => if x5 < (x0.length : Int) then (if 0 ≤ x5 then ((laws_szSpot.f ((rd_T93 x0 x5).f0) ((rd_T93 x0 x5).f1) ((rd_T93 x0 x5).f2) ((rd_T93 x0 x5).f3) x1).bind fun t129 => (if t129 < 0 then (some (-1)) else (laws_szSpotS.l0 k x0 t129 (wrap64 (x5 + 1))))) else (none)) else (some x1)
def laws_szSpotS.f (k : Nat) (l0 : List (S93)) (a1 : Int) : Option (Int) := if (wrap64 (a1 - (l0.length : Int))) < 0 then (some (-1)) else (laws_szSpotS.l0 k l0 (wrap64 (a1 - (l0.length : Int))) 0)
theorem laws_szSpotS.mono_l : ∀ k, (∀ y0 y1 y2, LeO (laws_szSpotS.l0 k y0 y1 y2) (laws_szSpotS.l0 (k + 1) y0 y1 y2))
 | 0 => fun _ _ _ r h => by simp [laws_szSpotS.l0] at h
 | k + 1 => by
  have ih0:=laws_szSpotS.mono_l k
  ·intro y0 y1 y2
   unfold laws_szSpotS.l0
   repeat' first
   | (with_reducible exact ih0 _ _ _)
   | (with_reducible exact LeO.refl _)
   | (with_reducible exact LeO.none _)
   | (with_reducible refine LeO.ite ?_ ?_)
   | (with_reducible refine LeO.bind ?_ (fun _ => ?_))
theorem laws_szSpotS.mono : ∀ a0 a1 k, LeO (laws_szSpotS.f k a0 a1) (laws_szSpotS.f (k + 1) a0 a1) := by
 intro a0 a1 k;have ih0:=laws_szSpotS.mono_l k
 unfold laws_szSpotS.f
 repeat' first
   | (with_reducible exact ih0 _ _ _)
   | (with_reducible exact LeO.refl _)
   | (with_reducible exact LeO.none _)
   | (with_reducible refine LeO.ite ?_ ?_)
   | (with_reducible refine LeO.bind ?_ (fun _ => ?_))
set_option maxHeartbeats 8000000 in
set_option maxRecDepth 100000 in
theorem laws_szSpotS.calls (k : Nat) (A0 : Option Addr) (c0 : Nat) (l0 : List (S93)) (a1 : Int) (r : Int) (w : World) (hr0 : Kd.C k93 w A0 l0.length l0) (hc0 : l0.length ≤ c0) (h : laws_szSpotS.f k l0 a1 = some r) :
  Calls Tryd.prog 33 #[.slice A0 l0.length c0,.int .i64 a1] w fun e w' => e = .returned (.int .i64 r) ∧ Below w.heap.size w w':=by
 have hu93:=Tryd.underlying93;have HR0:=A_ hr0;have HC0:=A_ hc0;clear hr0 hc0;have HB:=A_ (Below.refl w.heap.size w);have H : (if (wrap64 (a1 - (l0.length : Int))) < 0 then (some (-1)) else (laws_szSpotS.l0 k l0 (wrap64 (a1 - (l0.length : Int))) 0)) = some r:=h;clear h
 by_cases c3 : (wrap64 (a1 - (l0.length : Int))) < 0
 ·rw [if_pos c3] at H;have c3b0 : decide ((wrap64 (a1 - (l0.length : Int))) < 0) = true:=de_ c3;clear c3;obtain rfl:=Option.some.inj H;go_enter Tryd.func33,Tryd.ntmps33;go_wp2;go_ret;exact ⟨by first|rfl|(simp [*,errW_none,errW_some] <;> rfl),by repeat (first|(with_reducible first|exact HB.out|apply pa_|apply pn_|apply pd_)|exact HB.out)⟩
 ·rw [if_neg c3] at H;have c3b0 : decide ((wrap64 (a1 - (l0.length : Int))) < 0) = false:=decide_eq_false c3;clear c3;have H':=A_ H;clear H;go_enter Tryd.func33,Tryd.ntmps33;go_wp2
  go_loopg [1,5] k (fun kq v1 v5 w' => ∃ (x1_1 : Int) (x5_1 : Int),v1 = .int .i64 x1_1 ∧ v5 = .int .i64 x5_1 ∧ Aside0 (laws_szSpotS.l0 kq l0 x1_1 x5_1 = some r) ∧ Aside0 (kq ≤ k) ∧ Aside0 (Below w.heap.size w w'))
  case atStart => exact ⟨(wrap64 (a1 - (l0.length : Int))),(0),(by first|rfl|(simp;done)|(simp [*];done)),(by first|rfl|(simp;done)|(simp [*];done)),H',⟨Nat.le_refl _⟩,⟨by repeat (first|(with_reducible first|exact HB.out|apply pa_|apply pn_|apply pd_)|exact HB.out)⟩⟩
  case round =>
   clear H'
   try clear p2
   try clear c3
   try clear c3b0
   obtain ⟨x1_1,x5_1,rfl,rfl,HA,HK1,HB⟩:=hrel
   cases gk with
   | zero => exact absurd HA.out (by simp [laws_szSpotS.l0])
   | succ k1 =>
    have H:=HA.out;clear HA;simp only [laws_szSpotS.l0] at H
    by_cases c4 : x5_1 < (l0.length : Int)
    ·rw [if_pos c4] at H;have c4b0 : decide (x5_1 < (l0.length : Int)) = true:=de_ c4;clear c4
     by_cases c5 : 0 ≤ x5_1
     ·rw [if_pos c5] at H;have c5b0 : decide (0 ≤ x5_1) = true:=de_ c5;clear c5;replace H:=ob_.mp H;obtain ⟨t129,A60,H⟩:=H;replace H : (if t129 < 0 then (some (-1)) else (laws_szSpotS.l0 k1 l0 t129 (wrap64 (x5_1 + 1)))) = some r:=H;have A6:=A_ A60;clear A60;have HC7:=A_ H;clear H;have p128 : 0 ≤ (x5_1 : Int):=oda_;have q128 : x5_1 < (l0.length : Int):=oda_;obtain ⟨ad128,e128,hx128_0,hx128_1,hx128_2,hx128_3⟩:=at_T93 HR0.out x5_1 p128 q128
      cases e128
      replace hx128_0:=(HB.out.cell (wb_ w _ hx128_0)).trans hx128_0;replace hx128_1:=(HB.out.cell (wb_ w _ hx128_1)).trans hx128_1;replace hx128_2:=(HB.out.cell (wb_ w _ hx128_2)).trans hx128_2;replace hx128_3:=(HB.out.cell (wb_ w _ hx128_3)).trans hx128_3;replace p128:=eq_true p128;replace q128:=eq_true q128
      go_upto_if 25 with (first|((with_reducible refine gate_callee (f:=63) rfl ?_);refine goesL_ (some 23) rfl rfl Tryd.func63 (by kernel_rfl) rfl #[.agg #[.string ((rd_T93 l0 x5_1).f0),.int .i64 ((rd_T93 l0 x5_1).f1),.int .i64 ((rd_T93 l0 x5_1).f2),.int .i64 ((rd_T93 l0 x5_1).f3)],.int .i64 x1_1] rfl (by (try simp only [s4_,s5_,s6_]);first|done|rfl|(simp only [List.length_drop,List.length_take];rfl)) ?_;(with_reducible refine (laws_szSpot.calls ((rd_T93 l0 x5_1).f0) ((rd_T93 l0 x5_1).f1) ((rd_T93 l0 x5_1).f2) ((rd_T93 l0 x5_1).f3) x1_1 t129 _ A6.out).mono ?_);rintro e w8 ⟨rfl,hb⟩;refine ⟨_,rfl,?_⟩;replace HB:=A_ (bs_ (by repeat (first|(with_reducible first|exact HB.out|apply pa_|apply pn_|apply pd_)|exact HB.out)) hb);(try clear hb);(try clear hb2);(try clear hk);(try clear hi)))
      have H:=HC7.out;clear HC7
      by_cases c9 : t129 < 0
      ·rw [if_pos c9] at H;have c9b0 : decide (t129 < 0) = true:=de_ c9;clear c9
       (first|rw [c9b0]|(simp only [i64_w,i32_w];rw [c9b0])|skip)
       obtain rfl:=Option.some.inj H;go_wp2;go_ret;exact ⟨by first|rfl|(simp [*,errW_none,errW_some] <;> rfl),by repeat (first|(with_reducible first|exact HB.out|apply pa_|apply pn_|apply pd_)|exact HB.out)⟩
      ·rw [if_neg c9] at H;have c9b0 : decide (t129 < 0) = false:=decide_eq_false c9;clear c9
       (first|rw [c9b0]|(simp only [i64_w,i32_w];rw [c9b0])|skip)
       have H':=A_ H;clear H;go_wp2
       go_roundg k1
       case measure => have:=HK1.out;omega
       case rel => exact ⟨(t129),(wrap64 (x5_1 + 1)),(by first|rfl|(simp;done)|(simp [*];done)),(by first|rfl|(simp;done)|(simp [*];done)),H',⟨by have:=HK1.out;omega⟩,⟨by repeat (first|(with_reducible first|exact HB.out|apply pa_|apply pn_|apply pd_)|exact HB.out)⟩⟩
     ·rw [if_neg c5] at H;exact absurd H (by simp)
    ·rw [if_neg c4] at H;have c4b0 : decide (x5_1 < (l0.length : Int)) = false:=decide_eq_false c4;clear c4;obtain rfl:=Option.some.inj H;go_wp2;go_ret;exact ⟨by first|rfl|(simp [*,errW_none,errW_some] <;> rfl),by repeat (first|(with_reducible first|exact HB.out|apply pa_|apply pn_|apply pd_)|exact HB.out)⟩
def laws_szShelf.f (k : Nat) (l0_0 : List Int) (a0_1 : Int) (a0_2 : Int) (a0_3 : Int) (l0_4 : List Int) (l0_5 : List (S93)) (a0_6 : Int) (a1 : Int) : Option (Int) := (laws_szManifest.f l0_0 a0_1 a0_2 a0_3 l0_4 a1).bind fun t131 => (if t131 < 0 then (some (-1)) else ((laws_szSpotS.f k l0_5 t131).bind fun t132 => (if t132 < 0 then (some (-1)) else (some t132))))
theorem laws_szShelf.mono : ∀ a0 a1 a2 a3 a4 a5 a6 a7 k, LeO (laws_szShelf.f k a0 a1 a2 a3 a4 a5 a6 a7) (laws_szShelf.f (k + 1) a0 a1 a2 a3 a4 a5 a6 a7) := by
 intro a0 a1 a2 a3 a4 a5 a6 a7 k
 unfold laws_szShelf.f
 repeat' first
   | (with_reducible exact laws_szSpotS.mono _ _ _)
   | (with_reducible exact LeO.refl _)
   | (with_reducible exact LeO.none _)
   | (with_reducible refine LeO.ite ?_ ?_)
   | (with_reducible refine LeO.bind ?_ (fun _ => ?_))
set_option maxHeartbeats 8000000 in
set_option maxRecDepth 100000 in
theorem laws_szShelf.calls (k : Nat) (A0_0 : Option Addr) (c0_0 : Nat) (l0_0 : List Int) (a0_1 : Int) (a0_2 : Int) (a0_3 : Int) (A0_4 : Option Addr) (c0_4 : Nat) (l0_4 : List Int) (A0_5 : Option Addr) (c0_5 : Nat) (l0_5 : List (S93)) (a0_6 : Int) (a1 : Int) (r : Int) (w : World) (hr0_0 : Kd.C (Kd.int .i64) w A0_0 l0_0.length l0_0) (hc0_0 : l0_0.length ≤ c0_0) (hr0_4 : Kd.C (Kd.int .i64) w A0_4 l0_4.length l0_4) (hc0_4 : l0_4.length ≤ c0_4) (hr0_5 : Kd.C k93 w A0_5 l0_5.length l0_5) (hc0_5 : l0_5.length ≤ c0_5) (h : laws_szShelf.f k l0_0 a0_1 a0_2 a0_3 l0_4 l0_5 a0_6 a1 = some r) :
  Calls Tryd.prog 14 #[.agg #[.slice A0_0 l0_0.length c0_0,.int .i64 a0_1,.int .i64 a0_2,.int .i64 a0_3,.slice A0_4 l0_4.length c0_4,.slice A0_5 l0_5.length c0_5,.int .i64 a0_6],.int .i64 a1] w fun e w' => e = .returned (.int .i64 r) ∧ Below w.heap.size w w':=by
 have hu41:=Tryd.underlying41;have hu38:=Tryd.underlying38;have HR0_0:=A_ hr0_0;have HC0_0:=A_ hc0_0;clear hr0_0 hc0_0;have HR0_4:=A_ hr0_4;have HC0_4:=A_ hc0_4;clear hr0_4 hc0_4;have HR0_5:=A_ hr0_5;have HC0_5:=A_ hc0_5;clear hr0_5 hc0_5;have HB:=A_ (Below.refl w.heap.size w);have H : ((laws_szManifest.f l0_0 a0_1 a0_2 a0_3 l0_4 a1).bind fun t131 => (if t131 < 0 then (some (-1)) else ((laws_szSpotS.f k l0_5 t131).bind fun t132 => (if t132 < 0 then (some (-1)) else (some t132))))) = some r:=h;clear h;replace H:=ob_.mp H;obtain ⟨t131,A30,H⟩:=H;replace H : (if t131 < 0 then (some (-1)) else ((laws_szSpotS.f k l0_5 t131).bind fun t132 => (if t132 < 0 then (some (-1)) else (some t132)))) = some r:=H;have A3:=A_ A30;clear A30;have HC4:=A_ H;clear H;go_enter Tryd.func14,Tryd.ntmps14
 go_upto_if 10 with (first|((with_reducible refine gate_dst (N:=2) rfl ?_);refine box_event ?hg (N:=2) ?hd (cs:=#[.slice A0_0 l0_0.length c0_0,.int .i64 a0_1,.int .i64 a0_2,.int .i64 a0_3,.slice A0_4 l0_4.length c0_4,.slice A0_5 l0_5.length c0_5,.int .i64 a0_6]) (t:=41) ?hr ?_;(case hd => rfl);(case hg => rfl);(case hr => first|(go_simp;done)|(go_simp;rfl));intro gb130 hg w5 hbox hb;have n0_:=A_ (bs_ (by repeat (first|(with_reducible first|exact HB.out|apply pa_|apply pn_|apply pd_)|exact HB.out)) hb);have n1_:=A_ (hbox);have n3_:=A_ ((by rw [hg];exact (bz_ (by repeat (first|(with_reducible first|exact HB.out|apply pa_|apply pn_|apply pd_)|exact HB.out))) : w.heap.size ≤ gb130));clear HB;have HB:=n0_;have BK130:=n1_;have GE130:=n3_;clear n0_ n1_ n3_;clear hb hbox hg;have hcz6_0 : w5.cell? ⟨gb130,0,none⟩ = some (.slice A0_0 l0_0.length c0_0):=(kc_ BK130.out 0).trans rfl;have hcz6_1 : w5.cell? ⟨gb130,1,none⟩ = some (.int .i64 a0_1):=(kc_ BK130.out 1).trans rfl;have hcz6_2 : w5.cell? ⟨gb130,2,none⟩ = some (.int .i64 a0_2):=(kc_ BK130.out 2).trans rfl;have hcz6_3 : w5.cell? ⟨gb130,3,none⟩ = some (.int .i64 a0_3):=(kc_ BK130.out 3).trans rfl;have hcz6_4 : w5.cell? ⟨gb130,4,none⟩ = some (.slice A0_4 l0_4.length c0_4):=(kc_ BK130.out 4).trans rfl;have hcz6_5 : w5.cell? ⟨gb130,5,none⟩ = some (.slice A0_5 l0_5.length c0_5):=(kc_ BK130.out 5).trans rfl;have hcz6_6 : w5.cell? ⟨gb130,6,none⟩ = some (.int .i64 a0_6):=(kc_ BK130.out 6).trans rfl;have hfz6_0:=kf_ BK130.out 0;have hfz6_1:=kf_ BK130.out 1;have hfz6_2:=kf_ BK130.out 2;have hfz6_3:=kf_ BK130.out 3;have hfz6_4:=kf_ BK130.out 4;have hfz6_5:=kf_ BK130.out 5;have hfz6_6:=kf_ BK130.out 6)|((with_reducible refine gate_callee (f:=32) rfl ?_);refine goesL_ (some 8) rfl rfl Tryd.func32 (by kernel_rfl) rfl #[.agg #[.slice A0_0 l0_0.length c0_0,.int .i64 a0_1,.int .i64 a0_2,.int .i64 a0_3,.slice A0_4 l0_4.length c0_4],.int .i64 a1] rfl (by (try simp only [s4_,s5_,s6_]);first|done|rfl|(simp only [List.length_drop,List.length_take];rfl)) ?_;(with_reducible refine (laws_szManifest.calls _ _ l0_0 a0_1 a0_2 a0_3 _ _ l0_4 a1 t131 _ ?side1 ?side2 ?side3 ?side4 A3.out).mono ?_);(case side1 => repeat (first|exact (Kd.C_below HR0_0.out HB.out)|(with_reducible refine Kd.C_alloc ?_ _)|(with_reducible refine Kd.C_drewN ?_ _)|(with_reducible refine Kd.C_drew ?_)));(case side2 => exact HC0_0.out);(case side3 => repeat (first|exact (Kd.C_below HR0_4.out HB.out)|(with_reducible refine Kd.C_alloc ?_ _)|(with_reducible refine Kd.C_drewN ?_ _)|(with_reducible refine Kd.C_drew ?_)));(case side4 => exact HC0_4.out);rintro e w7 ⟨rfl,hb⟩;refine ⟨_,rfl,?_⟩;replace BK130:=A_ (kb_ (by (with_reducible repeat (first|refine kn_ ?_ _|refine kd_ ?_|refine ka_ ?_ _));exact BK130.out) hb);replace HB:=A_ (bs_ (by repeat (first|(with_reducible first|exact HB.out|apply pa_|apply pn_|apply pd_|refine ps_ ?_ GE130.out)|exact HB.out)) hb);(try clear hb);(try clear hb2);(try clear hk);(try clear hi)))
 have H:=HC4.out;clear HC4
 by_cases c8 : t131 < 0
 ·rw [if_pos c8] at H;have c8b0 : decide (t131 < 0) = true:=de_ c8;clear c8
  (first|rw [c8b0]|(simp only [i64_w,i32_w];rw [c8b0])|skip)
  obtain rfl:=Option.some.inj H;go_wp2;go_ret;exact ⟨by first|rfl|(simp [*,errW_none,errW_some] <;> rfl),by repeat (first|(with_reducible first|exact HB.out|apply pa_|apply pn_|apply pd_|refine ps_ ?_ GE130.out)|exact HB.out)⟩
 ·rw [if_neg c8] at H;have c8b0 : decide (t131 < 0) = false:=decide_eq_false c8;clear c8
  (first|rw [c8b0]|(simp only [i64_w,i32_w];rw [c8b0])|skip)
  replace H:=ob_.mp H;obtain ⟨t132,A90,H⟩:=H;replace H : (if t132 < 0 then (some (-1)) else (some t132)) = some r:=H;have A9:=A_ A90;clear A90;have HC10:=A_ H;clear H;have hcz11_0 : w7.cell? ⟨gb130,0,none⟩ = some (.slice A0_0 l0_0.length c0_0):=(kc_ BK130.out 0).trans rfl;have hcz11_1 : w7.cell? ⟨gb130,1,none⟩ = some (.int .i64 a0_1):=(kc_ BK130.out 1).trans rfl;have hcz11_2 : w7.cell? ⟨gb130,2,none⟩ = some (.int .i64 a0_2):=(kc_ BK130.out 2).trans rfl;have hcz11_3 : w7.cell? ⟨gb130,3,none⟩ = some (.int .i64 a0_3):=(kc_ BK130.out 3).trans rfl;have hcz11_4 : w7.cell? ⟨gb130,4,none⟩ = some (.slice A0_4 l0_4.length c0_4):=(kc_ BK130.out 4).trans rfl;have hcz11_5 : w7.cell? ⟨gb130,5,none⟩ = some (.slice A0_5 l0_5.length c0_5):=(kc_ BK130.out 5).trans rfl;have hcz11_6 : w7.cell? ⟨gb130,6,none⟩ = some (.int .i64 a0_6):=(kc_ BK130.out 6).trans rfl;have hfz11_0:=kf_ BK130.out 0;have hfz11_1:=kf_ BK130.out 1;have hfz11_2:=kf_ BK130.out 2;have hfz11_3:=kf_ BK130.out 3;have hfz11_4:=kf_ BK130.out 4;have hfz11_5:=kf_ BK130.out 5;have hfz11_6:=kf_ BK130.out 6
  go_upto_if 16 with (first|((with_reducible refine gate_callee (f:=33) rfl ?_);refine goesL_ (some 14) rfl rfl Tryd.func33 (by kernel_rfl) rfl #[.slice A0_5 l0_5.length c0_5,.int .i64 t131] rfl (by (try simp only [s4_,s5_,s6_]);first|done|rfl|(simp only [List.length_drop,List.length_take];rfl)) ?_;(with_reducible refine (laws_szSpotS.calls k _ _ l0_5 t131 t132 _ ?side1 ?side2 A9.out).mono ?_);(case side1 => repeat (first|exact (Kd.C_below HR0_5.out HB.out)|(with_reducible refine Kd.C_alloc ?_ _)|(with_reducible refine Kd.C_drewN ?_ _)|(with_reducible refine Kd.C_drew ?_)));(case side2 => exact HC0_5.out);rintro e w12 ⟨rfl,hb⟩;refine ⟨_,rfl,?_⟩;have n1_:=A_ (bs_ (by repeat (first|(with_reducible first|exact HB.out|apply pa_|apply pn_|apply pd_|refine ps_ ?_ GE130.out)|exact HB.out)) hb);clear BK130;clear HB;have HB:=n1_;clear n1_;(try clear hb);(try clear hb2);(try clear hk);(try clear hi)))
  have H:=HC10.out;clear HC10
  by_cases c13 : t132 < 0
  ·rw [if_pos c13] at H;have c13b0 : decide (t132 < 0) = true:=de_ c13;clear c13
   (first|rw [c13b0]|(simp only [i64_w,i32_w];rw [c13b0])|skip)
   obtain rfl:=Option.some.inj H;go_wp2;go_ret;exact ⟨by first|rfl|(simp [*,errW_none,errW_some] <;> rfl),by repeat (first|(with_reducible first|exact HB.out|apply pa_|apply pn_|apply pd_|refine ps_ ?_ GE130.out)|exact HB.out)⟩
  ·rw [if_neg c13] at H;have c13b0 : decide (t132 < 0) = false:=decide_eq_false c13;clear c13
   (first|rw [c13b0]|(simp only [i64_w,i32_w];rw [c13b0])|skip)
   obtain rfl:=Option.some.inj H;go_wp2;go_ret;exact ⟨by first|rfl|(simp [*,errW_none,errW_some] <;> rfl),by repeat (first|(with_reducible first|exact HB.out|apply pa_|apply pn_|apply pd_|refine ps_ ?_ GE130.out)|exact HB.out)⟩
def spec_l01In.f (a0 : Int) (a1 : Int) (a2 : Int) : Option (Bool) := if a0 ≥ a1 then (some (decide (a0 ≤ a2))) else (some false)
set_option maxHeartbeats 8000000 in
set_option maxRecDepth 100000 in
theorem spec_l01In.calls (a0 : Int) (a1 : Int) (a2 : Int) (r : Bool) (w : World) (h : spec_l01In.f a0 a1 a2 = some r) :
  Calls Tryd.prog 52 #[.int .i64 a0,.int .i64 a1,.int .i64 a2] w fun e w' => e = .returned (.bool r) ∧ Drawn0 w w':=by
 have H : (if a0 ≥ a1 then (some (decide (a0 ≤ a2))) else (some false)) = some r:=h;clear h
 by_cases c4 : a0 ≥ a1
 ·rw [if_pos c4] at H;have c4b0 : decide (a1 ≤ a0) = true:=de_ c4;clear c4;obtain rfl:=Option.some.inj H;go_enter Tryd.func52,Tryd.ntmps52;go_wp2;go_ret;exact ⟨by first|rfl|(simp;done)|(simp [*];done),by repeat (first|exact Drawn0.refl _|apply Drawn0.step)⟩
 ·rw [if_neg c4] at H;have c4b0 : decide (a1 ≤ a0) = false:=decide_eq_false c4;clear c4;obtain rfl:=Option.some.inj H;go_enter Tryd.func52,Tryd.ntmps52;go_wp2;go_ret;exact ⟨by first|rfl|(simp;done)|(simp [*];done),by repeat (first|exact Drawn0.refl _|apply Drawn0.step)⟩
theorem w64_ {x : Int} (h : x ≤ 9223372036854775807) (h0 : 0 ≤ x) : wrap64 x = x := by unfold wrap64; omega
theorem bt_ (b : Bool) : b = true ∨ b = false := by cases b <;> simp
theorem ret_bool {a b : Bool} (h : a = b) : Ending.returned (.bool a) = .returned (.bool b) := by rw [h]
theorem less_gt : ∀ (a b : List UInt8), (!Op.bytesLess a b && !(a == b)) = Op.bytesLess b a
 | [],[] => rfl
 | [],_ :: _ => rfl
 | _ :: _,[] => rfl
 | a :: x,b :: y => by
  have ih:=less_gt x y;simp only [Op.bytesLess]
  rcases Nat.lt_trichotomy a.toNat b.toNat with h|h|h
  ·have h1 : a < b:=UInt8.lt_iff_toNat_lt.mpr h
   have h2 : ¬ b < a:=fun e => by have:=UInt8.lt_iff_toNat_lt.mp e;omega
   have h3 : ¬ a = b:=fun e => by rw [e] at h;omega
   simp [h1,h2,h3,Ne.symm h3]
  ·obtain rfl:=UInt8.toNat_inj.mp h
   have h1 : ¬ a < a:=fun e => by have:=UInt8.lt_iff_toNat_lt.mp e;omega
   simpa [h1] using ih
  ·have h1 : b < a:=UInt8.lt_iff_toNat_lt.mpr h
   have h2 : ¬ a < b:=fun e => by have:=UInt8.lt_iff_toNat_lt.mp e;omega
   have h3 : ¬ a = b:=fun e => by rw [e] at h;omega
   simp [h1,h2,h3]
theorem less_gt0 (a b : List UInt8) : (!(Op.bytesLess a b || a == b)) = Op.bytesLess b a := by rw [Bool.not_or]; exact less_gt a b
def wB (n l h : Int) : Bool := decide (l ≤ n) && decide (n ≤ h)
theorem spec_l01In.val (n l h : Int) : spec_l01In.f n l h = some (wB n l h) := by
 unfold spec_l01In.f wB
 by_cases c : l ≤ n
 ·rw [if_pos c];simp [c]
 ·rw [if_neg c];simp [c]
theorem spec_l01In.quiet (n l h : Int) (w : World) : Calls Tryd.prog 52 #[.int .i64 n, .int .i64 l, .int .i64 h] w fun e w' => e = .returned (.bool (wB n l h)) ∧ w' = w := by
 have E : Aside0 (wB n l h = (decide (l ≤ n) && decide (n ≤ h))):=⟨rfl⟩;go_enter Tryd.func52,Tryd.ntmps52;go_wp2
 all_goals
  go_ret;exact ⟨ret_bool (by rw [E.out];grind),rfl⟩
def spec_l01Figure.f (a0 : Int) : Option (Int) := if a0 < 10 then (some ((wrap64 (48 + a0)) % 256)) else (some ((wrap64 ((wrap64 (97 + a0)) - 10)) % 256))
set_option maxHeartbeats 8000000 in
set_option maxRecDepth 100000 in
theorem spec_l01Figure.calls (a0 : Int) (r : Int) (w : World) (h : spec_l01Figure.f a0 = some r) :
  Calls Tryd.prog 75 #[.int .i64 a0] w fun e w' => e = .returned (.int .u8 r) ∧ Drawn0 w w':=by
 have H : (if a0 < 10 then (some ((wrap64 (48 + a0)) % 256)) else (some ((wrap64 ((wrap64 (97 + a0)) - 10)) % 256))) = some r:=h;clear h
 by_cases c2 : a0 < 10
 ·rw [if_pos c2] at H;have c2b0 : decide (a0 < 10) = true:=de_ c2;clear c2;obtain rfl:=Option.some.inj H;go_enter Tryd.func75,Tryd.ntmps75;go_wp2;go_ret;exact ⟨by first|rfl|(simp;done)|(simp [*];done),by repeat (first|exact Drawn0.refl _|apply Drawn0.step)⟩
 ·rw [if_neg c2] at H;have c2b0 : decide (a0 < 10) = false:=decide_eq_false c2;clear c2;obtain rfl:=Option.some.inj H;go_enter Tryd.func75,Tryd.ntmps75;go_wp2;go_ret;exact ⟨by first|rfl|(simp;done)|(simp [*];done),by repeat (first|exact Drawn0.refl _|apply Drawn0.step)⟩
def spec_Decimal.l0 : Nat → Int → Bool → ByteArray → Option (ByteArray)
 | 0,_,_,_ => none
 | k + 1,x0,x3,x4 => if x0 = 0 then (if x3 = true then (if 1 + x4.size ≤ 9223372036854775807 then (some ((⟨#[45]⟩ : ByteArray) ++ x4)) else (none)) else (some x4)) else (if (Int.tmod x0 10) < 0 then ((spec_l01Figure.f (wrap64 (-(Int.tmod x0 10)))).bind fun t133 => ((some (([t133] : List Int) : List Int)).bind fun y134 => (if (strOfNums y134).size + x4.size ≤ 9223372036854775807 then (spec_Decimal.l0 k (wrap64 (Int.tdiv x0 10)) x3 ((strOfNums y134) ++ x4)) else (none)))) else ((spec_l01Figure.f (Int.tmod x0 10)).bind fun t137 => ((some (([t137] : List Int) : List Int)).bind fun y138 => (if (strOfNums y138).size + x4.size ≤ 9223372036854775807 then (spec_Decimal.l0 k (wrap64 (Int.tdiv x0 10)) x3 ((strOfNums y138) ++ x4)) else (none)))))
def spec_Decimal.f (k : Nat) (a0 : Int) : Option (ByteArray) := if a0 = 0 then (some (⟨#[48]⟩ : ByteArray)) else (spec_Decimal.l0 k a0 (decide (a0 < 0)) (⟨#[]⟩ : ByteArray))
theorem spec_Decimal.mono_l : ∀ k, (∀ y0 y1 y2, LeO (spec_Decimal.l0 k y0 y1 y2) (spec_Decimal.l0 (k + 1) y0 y1 y2))
 | 0 => fun _ _ _ r h => by simp [spec_Decimal.l0] at h
 | k + 1 => by
  have ih0:=spec_Decimal.mono_l k
  ·intro y0 y1 y2
   unfold spec_Decimal.l0
   repeat' first
   | (with_reducible exact ih0 _ _ _)
   | (with_reducible exact LeO.refl _)
   | (with_reducible exact LeO.none _)
   | (with_reducible refine LeO.ite ?_ ?_)
   | (with_reducible refine LeO.bind ?_ (fun _ => ?_))
theorem spec_Decimal.mono : ∀ a0 k, LeO (spec_Decimal.f k a0) (spec_Decimal.f (k + 1) a0) := by
 intro a0 k;have ih0:=spec_Decimal.mono_l k
 unfold spec_Decimal.f
 repeat' first
   | (with_reducible exact ih0 _ _ _)
   | (with_reducible exact LeO.refl _)
   | (with_reducible exact LeO.none _)
   | (with_reducible refine LeO.ite ?_ ?_)
   | (with_reducible refine LeO.bind ?_ (fun _ => ?_))
set_option maxHeartbeats 8000000 in
set_option maxRecDepth 100000 in
theorem spec_Decimal.calls (k : Nat) (a0 : Int) (r : ByteArray) (w : World) (h : spec_Decimal.f k a0 = some r) :
  Calls Tryd.prog 53 #[.int .i64 a0] w fun e w' => e = .returned (.string r) ∧ Below w.heap.size w w':=by
 have HB:=A_ (Below.refl w.heap.size w);have H : (if a0 = 0 then (some (⟨#[48]⟩ : ByteArray)) else (spec_Decimal.l0 k a0 (decide (a0 < 0)) (⟨#[]⟩ : ByteArray))) = some r:=h;clear h
 by_cases c2 : a0 = 0
 ·rw [if_pos c2] at H;have c2b0 : (a0 == 0) = true:=beq_iff_eq.mpr c2;have c2b1 : (a0 != 0) = false:=bne_eq_false_iff_eq.mpr c2;clear c2;obtain rfl:=Option.some.inj H;go_enter Tryd.func53,Tryd.ntmps53;go_wp2;go_ret;exact ⟨by first|rfl|(simp [*,errW_none,errW_some] <;> rfl),by repeat (first|(with_reducible first|exact HB.out|apply pa_|apply pn_|apply pd_)|exact HB.out)⟩
 ·rw [if_neg c2] at H;have c2b0 : (a0 == 0) = false:=beq_eq_false_iff_ne.mpr c2;have c2b1 : (a0 != 0) = true:=bne_iff_ne.mpr c2;have H':=A_ H;clear H;go_enter Tryd.func53,Tryd.ntmps53;go_wp2
  go_loopg [0,4] k (fun kq v0 v4 w' => ∃ (x0_1 : Int) (x4_1 : ByteArray),v0 = .int .i64 x0_1 ∧ v4 = .string x4_1 ∧ Aside0 (spec_Decimal.l0 kq x0_1 (decide (a0 < 0)) x4_1 = some r) ∧ Aside0 (kq ≤ k) ∧ Aside0 (Below w.heap.size w w'))
  case atStart => exact ⟨(a0),((⟨#[]⟩ : ByteArray)),(by first|rfl|(simp;done)|(simp [*];done)),(by first|rfl|(simp;done)|(simp [*];done)),H',⟨Nat.le_refl _⟩,⟨by repeat (first|(with_reducible first|exact HB.out|apply pa_|apply pn_|apply pd_)|exact HB.out)⟩⟩
  case round =>
   clear H'
   try clear c2
   try clear c2b0
   try clear c2b1
   try clear p2
   obtain ⟨x0_1,x4_1,rfl,rfl,HA,HK1,HB⟩:=hrel
   cases gk with
   | zero => exact absurd HA.out (by simp [spec_Decimal.l0])
   | succ k1 =>
    have H:=HA.out;clear HA;simp only [spec_Decimal.l0] at H
    by_cases c3 : x0_1 = 0
    ·rw [if_pos c3] at H;have c3b0 : (x0_1 == 0) = true:=beq_iff_eq.mpr c3;have c3b1 : (x0_1 != 0) = false:=bne_eq_false_iff_eq.mpr c3;clear c3
     by_cases c4 : (decide (a0 < 0)) = true
     ·rw [if_pos c4] at H;have c4b0 : (decide (a0 < 0)) = true:=c4
      (try rw [c4b0])
      clear c4
      by_cases c5 : 1 + x4_1.size ≤ 9223372036854775807
      ·rw [if_pos c5] at H;have c5b0:=eq_true c5;have c5b1 : decide (1 + x4_1.size ≤ 9223372036854775807) = true:=de_ c5
       try have c5b2 : (9223372036854775807 < 1 + x4_1.size) = False:=eq_false (Nat.not_lt.2 c5)
       obtain rfl:=Option.some.inj H;go_wp2;go_ret;exact ⟨by first|rfl|(simp [*,errW_none,errW_some] <;> rfl),by repeat (first|(with_reducible first|exact HB.out|apply pa_|apply pn_|apply pd_)|exact HB.out)⟩
      ·rw [if_neg c5] at H;exact absurd H (by simp)
     ·rw [if_neg c4] at H
      have c4b0 : (decide (a0 < 0)) = false:=by simpa using c4
      (try rw [c4b0])
      clear c4;obtain rfl:=Option.some.inj H;go_wp2;go_ret;exact ⟨by first|rfl|(simp [*,errW_none,errW_some] <;> rfl),by repeat (first|(with_reducible first|exact HB.out|apply pa_|apply pn_|apply pd_)|exact HB.out)⟩
    ·rw [if_neg c3] at H;have c3b0 : (x0_1 == 0) = false:=beq_eq_false_iff_ne.mpr c3;have c3b1 : (x0_1 != 0) = true:=bne_iff_ne.mpr c3
     by_cases c6 : (Int.tmod x0_1 10) < 0
     ·rw [if_pos c6] at H;have c6b0 : decide ((Int.tmod x0_1 10) < 0) = true:=de_ c6;clear c6;replace H:=ob_.mp H;obtain ⟨t133,A70,H⟩:=H;replace H : ((some (([t133] : List Int) : List Int)).bind fun y134 => (if (strOfNums y134).size + x4_1.size ≤ 9223372036854775807 then (spec_Decimal.l0 k1 (wrap64 (Int.tdiv x0_1 10)) (decide (a0 < 0)) ((strOfNums y134) ++ x4_1)) else (none))) = some r:=H;have A7:=A_ A70;clear A70;obtain ⟨y134,hy134⟩ : ∃ y_ : List Int,y_ = (([t133] : List Int)):=⟨_,rfl⟩
      replace H : (if (strOfNums y134).size + x4_1.size ≤ 9223372036854775807 then (spec_Decimal.l0 k1 (wrap64 (Int.tdiv x0_1 10)) (decide (a0 < 0)) ((strOfNums y134) ++ x4_1)) else (none)) = some r:=by first|(rw [hy134];with_reducible exact H)|(have H2_:=(Option.bind_some _ _).symm.trans H;rw [hy134];with_reducible exact H2_)|(have H2_:=(Option.bind_some _ _).symm.trans H;with_reducible exact H2_)|with_reducible exact H|(rw [hy134];exact H)|exact H
      have Ny134:=A_ hy134;clear hy134
      by_cases c8 : (strOfNums y134).size + x4_1.size ≤ 9223372036854775807
      ·rw [if_pos c8] at H;have c8b0:=eq_true c8;have c8b1 : decide ((strOfNums y134).size + x4_1.size ≤ 9223372036854775807) = true:=de_ c8
       try have c8b2 : (9223372036854775807 < (strOfNums y134).size + x4_1.size) = False:=eq_false (Nat.not_lt.2 c8)
       have H':=A_ H;clear H
       go_wp2_with (first|((with_reducible refine gate_callee (f:=75) rfl ?_);refine goesL_ (some 19) rfl rfl Tryd.func75 (by kernel_rfl) rfl #[.int .i64 (wrap64 (-(Int.tmod x0_1 10)))] rfl (by (try simp only [s4_,s5_,s6_]);first|done|rfl|(simp only [List.length_drop,List.length_take];rfl)) ?_;(with_reducible refine (spec_l01Figure.calls (wrap64 (-(Int.tmod x0_1 10))) t133 _ A7.out).mono ?_);rintro e w' ⟨rfl,⟨nd,rfl⟩⟩;refine ⟨_,rfl,?_⟩)|((with_reducible refine gate_dst (N:=20) rfl ?_);refine Kd.R_lit (Kd.int .u8) _ 5 ?hg (N:=20) ?hd (xs:=([t133] : List Int)) (inner:=[.int .u8 t133]) (ok:=fun _ => True) (okp:=fun _ => True) ?hr ?hp (fun _ hk => hk) trivial (Below.refl _ _) (Nat.le_refl _) (by simp) ?_;(case hd => rfl);(case hg => rfl);(case hr => first|(go_simp;done)|(go_simp;rfl));(case hp => exact (Reps.one (show Kd.M (Kd.int .u8) _ _ _ t133 [.int .u8 t133] from rfl) (Reps.none _ _)));intro v135 w9 ho10 hb hg_ hnew_;clear hg_ hnew_;(first|rw [← Ny134.out] at ho10|(simp only [Int.reduceToNat] at ho10;rw [← Ny134.out] at ho10));have HO136:=A_ (rw_ ho10 (bz_ (by repeat (first|(with_reducible first|exact HB.out|apply pa_|apply pn_|apply pd_)|exact HB.out))));replace HB:=A_ (bs_ (by repeat (first|(with_reducible first|exact HB.out|apply pa_|apply pn_|apply pd_)|exact HB.out)) hb);clear hb ho10;have hcv11:=own_string (P:=Tryd.prog) Tryd.underlying101 Tryd.underlying5 Tryd.underlying9 (Kd.own_of_R HO136.out)))
       go_roundg k1
       case measure => have:=HK1.out;omega
       case rel => exact ⟨(wrap64 (Int.tdiv x0_1 10)),((strOfNums y134) ++ x4_1),(by first|rfl|(simp;done)|(simp [*];done)),(by first|rfl|(simp;done)|(simp [*];done)),H',⟨by have:=HK1.out;omega⟩,⟨by repeat (first|(with_reducible first|exact HB.out|apply pa_|apply pn_|apply pd_)|exact HB.out)⟩⟩
      ·rw [if_neg c8] at H;exact absurd H (by simp)
     ·rw [if_neg c6] at H;have c6b0 : decide ((Int.tmod x0_1 10) < 0) = false:=decide_eq_false c6;clear c6;replace H:=ob_.mp H;obtain ⟨t137,A120,H⟩:=H;replace H : ((some (([t137] : List Int) : List Int)).bind fun y138 => (if (strOfNums y138).size + x4_1.size ≤ 9223372036854775807 then (spec_Decimal.l0 k1 (wrap64 (Int.tdiv x0_1 10)) (decide (a0 < 0)) ((strOfNums y138) ++ x4_1)) else (none))) = some r:=H;have A12:=A_ A120;clear A120;obtain ⟨y138,hy138⟩ : ∃ y_ : List Int,y_ = (([t137] : List Int)):=⟨_,rfl⟩
      replace H : (if (strOfNums y138).size + x4_1.size ≤ 9223372036854775807 then (spec_Decimal.l0 k1 (wrap64 (Int.tdiv x0_1 10)) (decide (a0 < 0)) ((strOfNums y138) ++ x4_1)) else (none)) = some r:=by first|(rw [hy138];with_reducible exact H)|(have H2_:=(Option.bind_some _ _).symm.trans H;rw [hy138];with_reducible exact H2_)|(have H2_:=(Option.bind_some _ _).symm.trans H;with_reducible exact H2_)|with_reducible exact H|(rw [hy138];exact H)|exact H
      have Ny138:=A_ hy138;clear hy138
      by_cases c13 : (strOfNums y138).size + x4_1.size ≤ 9223372036854775807
      ·rw [if_pos c13] at H;have c13b0:=eq_true c13;have c13b1 : decide ((strOfNums y138).size + x4_1.size ≤ 9223372036854775807) = true:=de_ c13
       try have c13b2 : (9223372036854775807 < (strOfNums y138).size + x4_1.size) = False:=eq_false (Nat.not_lt.2 c13)
       have H':=A_ H;clear H
       go_wp2_with (first|((with_reducible refine gate_callee (f:=75) rfl ?_);refine goesL_ (some 19) rfl rfl Tryd.func75 (by kernel_rfl) rfl #[.int .i64 (Int.tmod x0_1 10)] rfl (by (try simp only [s4_,s5_,s6_]);first|done|rfl|(simp only [List.length_drop,List.length_take];rfl)) ?_;(with_reducible refine (spec_l01Figure.calls (Int.tmod x0_1 10) t137 _ A12.out).mono ?_);rintro e w' ⟨rfl,⟨nd,rfl⟩⟩;refine ⟨_,rfl,?_⟩)|((with_reducible refine gate_dst (N:=20) rfl ?_);refine Kd.R_lit (Kd.int .u8) _ 5 ?hg (N:=20) ?hd (xs:=([t137] : List Int)) (inner:=[.int .u8 t137]) (ok:=fun _ => True) (okp:=fun _ => True) ?hr ?hp (fun _ hk => hk) trivial (Below.refl _ _) (Nat.le_refl _) (by simp) ?_;(case hd => rfl);(case hg => rfl);(case hr => first|(go_simp;done)|(go_simp;rfl));(case hp => exact (Reps.one (show Kd.M (Kd.int .u8) _ _ _ t137 [.int .u8 t137] from rfl) (Reps.none _ _)));intro v139 w14 ho15 hb hg_ hnew_;clear hg_ hnew_;(first|rw [← Ny138.out] at ho15|(simp only [Int.reduceToNat] at ho15;rw [← Ny138.out] at ho15));have HO140:=A_ (rw_ ho15 (bz_ (by repeat (first|(with_reducible first|exact HB.out|apply pa_|apply pn_|apply pd_)|exact HB.out))));replace HB:=A_ (bs_ (by repeat (first|(with_reducible first|exact HB.out|apply pa_|apply pn_|apply pd_)|exact HB.out)) hb);clear hb ho15;have hcv16:=own_string (P:=Tryd.prog) Tryd.underlying101 Tryd.underlying5 Tryd.underlying9 (Kd.own_of_R HO140.out)))
       go_roundg k1
       case measure => have:=HK1.out;omega
       case rel => exact ⟨(wrap64 (Int.tdiv x0_1 10)),((strOfNums y138) ++ x4_1),(by first|rfl|(simp;done)|(simp [*];done)),(by first|rfl|(simp;done)|(simp [*];done)),H',⟨by have:=HK1.out;omega⟩,⟨by repeat (first|(with_reducible first|exact HB.out|apply pa_|apply pn_|apply pd_)|exact HB.out)⟩⟩
      ·rw [if_neg c13] at H;exact absurd H (by simp)
def spec_SegName.f (k : Nat) (a0 : Int) : Option (ByteArray) := (spec_l01In.f a0 0 999).bind fun t141 => (if t141 = true then ((spec_Decimal.f k a0).bind fun t142 => (if 1 + t142.size ≤ 9223372036854775807 then (some ((⟨#[103]⟩ : ByteArray) ++ t142)) else (none))) else (some (⟨#[]⟩ : ByteArray)))
theorem spec_SegName.mono : ∀ a0 k, LeO (spec_SegName.f k a0) (spec_SegName.f (k + 1) a0) := by
 intro a0 k
 unfold spec_SegName.f
 repeat' first
   | (with_reducible exact spec_Decimal.mono _ _)
   | (with_reducible exact LeO.refl _)
   | (with_reducible exact LeO.none _)
   | (with_reducible refine LeO.ite ?_ ?_)
   | (with_reducible refine LeO.bind ?_ (fun _ => ?_))
set_option maxHeartbeats 8000000 in
set_option maxRecDepth 100000 in
theorem spec_SegName.calls (k : Nat) (a0 : Int) (r : ByteArray) (w : World) (h : spec_SegName.f k a0 = some r) :
  Calls Tryd.prog 25 #[.int .i64 a0] w fun e w' => e = .returned (.string r) ∧ Below w.heap.size w w':=by
 have HB:=A_ (Below.refl w.heap.size w);have H : ((spec_l01In.f a0 0 999).bind fun t141 => (if t141 = true then ((spec_Decimal.f k a0).bind fun t142 => (if 1 + t142.size ≤ 9223372036854775807 then (some ((⟨#[103]⟩ : ByteArray) ++ t142)) else (none))) else (some (⟨#[]⟩ : ByteArray)))) = some r:=h;clear h;replace H:=ob_.mp H;obtain ⟨t141,A20,H⟩:=H;replace H : (if t141 = true then ((spec_Decimal.f k a0).bind fun t142 => (if 1 + t142.size ≤ 9223372036854775807 then (some ((⟨#[103]⟩ : ByteArray) ++ t142)) else (none))) else (some (⟨#[]⟩ : ByteArray))) = some r:=H;have A2:=A_ A20;clear A20;have HC3:=A_ H;clear H;go_enter Tryd.func25,Tryd.ntmps25
 go_upto_if 5 with (first|((with_reducible refine gate_callee (f:=52) rfl ?_);refine goesL_ (some 4) rfl rfl Tryd.func52 (by kernel_rfl) rfl #[.int .i64 a0,.int .i64 0,.int .i64 999] rfl (by (try simp only [s4_,s5_,s6_]);first|done|rfl|(simp only [List.length_drop,List.length_take];rfl)) ?_;(with_reducible refine (spec_l01In.calls a0 0 999 t141 _ A2.out).mono ?_);rintro e w' ⟨rfl,⟨nd,rfl⟩⟩;refine ⟨_,rfl,?_⟩))
 have H:=HC3.out;clear HC3
 by_cases c4 : t141 = true
 ·subst c4
  have H1 : ((spec_Decimal.f k a0).bind fun t142 => (if 1 + t142.size ≤ 9223372036854775807 then (some ((⟨#[103]⟩ : ByteArray) ++ t142)) else (none))) = some r:=by rw [if_pos rfl] at H;exact H
  clear H;have H:=H1;clear H1;replace H:=ob_.mp H;obtain ⟨t142,A50,H⟩:=H;replace H : (if 1 + t142.size ≤ 9223372036854775807 then (some ((⟨#[103]⟩ : ByteArray) ++ t142)) else (none)) = some r:=H;have A5:=A_ A50;clear A50
  by_cases c6 : 1 + t142.size ≤ 9223372036854775807
  ·rw [if_pos c6] at H;have c6b0:=eq_true c6;have c6b1 : decide (1 + t142.size ≤ 9223372036854775807) = true:=de_ c6
   try have c6b2 : (9223372036854775807 < 1 + t142.size) = False:=eq_false (Nat.not_lt.2 c6)
   obtain rfl:=Option.some.inj H
   go_wp2_with (first|((with_reducible refine gate_callee (f:=53) rfl ?_);refine goesL_ (some 7) rfl rfl Tryd.func53 (by kernel_rfl) rfl #[.int .i64 a0] rfl (by (try simp only [s4_,s5_,s6_]);first|done|rfl|(simp only [List.length_drop,List.length_take];rfl)) ?_;(with_reducible refine (spec_Decimal.calls k a0 t142 _ A5.out).mono ?_);rintro e w7 ⟨rfl,hb⟩;refine ⟨_,rfl,?_⟩;replace HB:=A_ (bs_ (by repeat (first|(with_reducible first|exact HB.out|apply pa_|apply pn_|apply pd_)|exact HB.out)) hb);(try clear hb);(try clear hb2);(try clear hk);(try clear hi)))
   go_ret;exact ⟨by first|rfl|(simp [*,errW_none,errW_some] <;> rfl),by repeat (first|(with_reducible first|exact HB.out|apply pa_|apply pn_|apply pd_)|exact HB.out)⟩
  ·rw [if_neg c6] at H;exact absurd H (by simp)
 ·replace c4:=Bool.eq_false_iff.mpr c4;subst c4
  have H1 : (some (⟨#[]⟩ : ByteArray)) = some r:=by rw [if_neg (show ¬ (false = true) by decide)] at H;exact H
  clear H;have H:=H1;clear H1;obtain rfl:=Option.some.inj H;go_wp2;go_ret;exact ⟨by first|rfl|(simp [*,errW_none,errW_some] <;> rfl),by repeat (first|(with_reducible first|exact HB.out|apply pa_|apply pn_|apply pd_)|exact HB.out)⟩
end Go.Proofs.YtbcgnncbiblibaaDoor.PFnExactShelfMap
