/- The contracts of Go functions that this law reaches: what each call returns, by a plain Lean function of its arguments, under the conditions that each names. By the kit's print.py, run by this repo's wip/gen/pp.py: not to the letter what print.sh prints. -/
import Derived.Test.YtbcgnncbiblibaaPFnMessagesx0
namespace Go.Proofs.Ytbcgnncbiblibaa.PFnMessages
open Go.RowKit Go.Proofs.YtbcgnncbiblibaaW.PrintWords Go.Proofs.YtbcgnncbiblibaaW.PrintLast Go.Proofs.YtbcgnncbiblibaaW.PrintMore
attribute [local go_sem] max2_int min2_int max_two min_two max_three min_three max_four min_four
set_option linter.unusedVariables false
set_option linter.unusedSimpArgs false
def impl_within.f (a0 a1 a2 : Int) : Option (Bool) := if a0 ≥ a1 then (some (decide (a0 ≤ a2))) else (some false)
set_option maxHeartbeats 8000000 in
set_option maxRecDepth 100000 in
theorem impl_within.calls (a0 a1 a2 : Int) (r : Bool) (w : World) (h : impl_within.f a0 a1 a2 = some r) :
  Calls Try.prog 47 #[.int .i64 a0,.int .i64 a1,.int .i64 a2] w fun e w' => e = .returned (.bool r) ∧ Drawn0 w w':=by
 unfold impl_within.f at h;have H:=h;clear h
 by_cases c4 : a0 ≥ a1
 ·rw [if_pos c4] at H;have c4b0:=de_ c4;clear c4;obtain rfl:=Option.some.inj H;go_enter Try.func47,Try.ntmps47;go_wp2;go_ret;exact ⟨by rfl,by repeat (exact Drawn0.refl _)⟩
 rw [if_neg c4] at H;have c4b0:=decide_eq_false c4;clear c4;obtain rfl:=Option.some.inj H;go_enter Try.func47,Try.ntmps47;go_wp2;go_ret;exact ⟨by rfl,by repeat (exact Drawn0.refl _)⟩
def impl_ConfOk.l0 : Nat → List Int → List Int → Int → Int → Option (Bool)
 | 0,_,_,_,_ => none
 | k + 1,x0,x5,x6,x7 => if x7 < x6 then (if 0 ≤ x7 then (if x7 < (x5.length : Int) then ((impl_within.f (rd x5 x7) 1 4).bind fun t290 => (if t290 = true then (if x7 > 0 then (if 0 ≤ (wrap64 (x7 - 1)) then (if (wrap64 (x7 - 1)) < (x0.length : Int) then (if (rd x0 (wrap64 (x7 - 1))) ≥ (rd x5 x7) then (some false) else (impl_ConfOk.l0 k x0 x5 x6 (wrap64 (x7 + 1)))) else (none)) else (none)) else (impl_ConfOk.l0 k x0 x5 x6 (wrap64 (x7 + 1)))) else (some false))) else (none)) else (none)) else ((impl_within.f (x0.length : Int) 1 4).bind fun t292 => (some t292))
def impl_ConfOk.f (k : Nat) (l0 : List Int) : Option (Bool) := impl_ConfOk.l0 k l0 l0 (l0.length : Int) 0
theorem impl_ConfOk.mono_l : ∀ k, (∀ y0 y1 y2 y3, LeO (impl_ConfOk.l0 k y0 y1 y2 y3) (impl_ConfOk.l0 (k + 1) y0 y1 y2 y3))
 | 0 => fun _ _ _ _ r h => by simp [impl_ConfOk.l0] at h
 | k + 1 => by
  have ih0:=impl_ConfOk.mono_l k
  ·intro y0 y1 y2 y3
   unfold impl_ConfOk.l0
   repeat' first
   | (with_reducible exact ih0 _ _ _ _)
   | (with_reducible exact LeO.refl _)
   | (with_reducible refine LeO.ite ?_ ?_)
   | (with_reducible refine LeO.bind ?_ (fun _ => ?_))
theorem impl_ConfOk.mono : ∀ a0 k, LeO (impl_ConfOk.f k a0) (impl_ConfOk.f (k + 1) a0) := by
 intro a0 k;have ih0:=impl_ConfOk.mono_l k
 unfold impl_ConfOk.f
 repeat' first
   | (with_reducible exact ih0 _ _ _ _)
set_option maxHeartbeats 8000000 in
set_option maxRecDepth 100000 in
theorem impl_ConfOk.calls (k : Nat) (A0 : Option Addr) (c0 : Nat) (l0 : List Int) (r : Bool) (w : World) (hr0 : Kd.C (Kd.int .i64) w A0 l0.length l0) (hc0 : l0.length ≤ c0) (h : impl_ConfOk.f k l0 = some r) :
  Calls Try.prog 116 #[.slice A0 l0.length c0] w fun e w' => e = .returned (.bool r) ∧ Drawn0 w w':=by
 have HR0:=A_ hr0;have HC0:=A_ hc0;clear hr0 hc0;unfold impl_ConfOk.f at h;have H:=h;clear h;have H':=A_ H;clear H;go_enter Try.func116,Try.ntmps116;go_wp2
 go_loopg [7] k (fun kq v7 w' => ∃ (x7_1 : Int),v7 = .int .i64 x7_1 ∧ Aside0 (impl_ConfOk.l0 kq l0 l0 (l0.length : Int) x7_1 = some r) ∧ Aside0 (kq ≤ k) ∧ Drawn0 w w')
 case atStart => exact ⟨(0),(by rfl),H',⟨Nat.le_refl _⟩,by repeat (exact Drawn0.refl _)⟩
 case round =>
  clear H'
  try clear c1
  obtain ⟨x7_1,rfl,HA,HK1,⟨m1,rfl⟩⟩:=hrel
  cases gk with
  | zero => exact absurd HA.out (by simp [impl_ConfOk.l0])
  | succ k1 =>
   have H:=HA.out;clear HA;simp only [impl_ConfOk.l0] at H
   by_cases c2 : x7_1 < (l0.length : Int);rotate_left
   ·rw [if_neg c2] at H;have c2b0:=decide_eq_false c2;clear c2;replace H:=ob_.mp H;obtain ⟨t292,A130,H⟩:=H;have A13:=A_ A130;clear A130;obtain rfl:=Option.some.inj H
    go_wp2_with (((with_reducible refine gate_callee (f:=47) rfl ?_);refine gL_ (some 31) Try.func47 #[.int .i64 (l0.length : Int),.int .i64 1,.int .i64 4] ?_;(with_reducible refine (impl_within.calls (l0.length : Int) 1 4 t292 _ A13.out).mono ?_);rintro e w' ⟨rfl,⟨nd,rfl⟩⟩;refine ⟨_,rfl,?_⟩))
    go_ret;exact ⟨by rfl,by repeat (first|exact Drawn0.refl _|apply Drawn0.step)⟩
   rw [if_pos c2] at H;have c2b0:=de_ c2;clear c2
   by_cases c3 : 0 ≤ x7_1;rotate_left
   ·rw [if_neg c3] at H;exact absurd H (by simp)
   rw [if_pos c3] at H;have c3b0:=de_ c3;clear c3
   by_cases c4 : x7_1 < (l0.length : Int);rotate_left
   ·rw [if_neg c4] at H;exact absurd H (by simp)
   rw [if_pos c4] at H;have c4b0:=de_ c4;clear c4;replace H:=ob_.mp H;obtain ⟨t290,A50,H⟩:=H;have A5:=A_ A50;clear A50
   by_cases c6 : t290 = true;rotate_left
   ·replace c6:=Bool.eq_false_iff.mpr c6;subst c6
    have H1 : (some false) = some r:=by rw [if_neg (show ¬ (false = true) by decide)] at H;exact H
    clear H;have H:=H1;clear H1;obtain rfl:=Option.some.inj H;have p289 : 0 ≤ (x7_1 : Int):=oda_;have q289 : x7_1 < (l0.length : Int):=oda_;obtain ⟨ad289,e289,hx289_0⟩:=Kd.at_int HR0.out x7_1 p289 q289
    cases e289
    replace p289:=eq_true p289;replace q289:=eq_true q289
    go_wp2_with (((with_reducible refine gate_callee (f:=47) rfl ?_);refine gL_ (some 13) Try.func47 #[.int .i64 (rd l0 x7_1),.int .i64 1,.int .i64 4] ?_;(with_reducible refine (impl_within.calls (rd l0 x7_1) 1 4 false _ A5.out).mono ?_);rintro e w' ⟨rfl,⟨nd,rfl⟩⟩;refine ⟨_,rfl,?_⟩))
    go_ret;exact ⟨by rfl,by repeat (first|exact Drawn0.refl _|apply Drawn0.step)⟩
   subst c6
   rw [if_pos rfl] at H
   by_cases c7 : x7_1 > 0;rotate_left
   ·rw [if_neg c7] at H;have c7b0:=decide_eq_false c7;clear c7;have H':=A_ H;clear H;have p289 : 0 ≤ (x7_1 : Int):=oda_;have q289 : x7_1 < (l0.length : Int):=oda_;obtain ⟨ad289,e289,hx289_0⟩:=Kd.at_int HR0.out x7_1 p289 q289
    cases e289
    replace p289:=eq_true p289;replace q289:=eq_true q289
    go_wp2_with (((with_reducible refine gate_callee (f:=47) rfl ?_);refine gL_ (some 13) Try.func47 #[.int .i64 (rd l0 x7_1),.int .i64 1,.int .i64 4] ?_;(with_reducible refine (impl_within.calls (rd l0 x7_1) 1 4 true _ A5.out).mono ?_);rintro e w' ⟨rfl,⟨nd,rfl⟩⟩;refine ⟨_,rfl,?_⟩))
    go_roundg k1
    case measure => have:=HK1.out;omega
    case rel => exact ⟨(wrap64 (x7_1 + 1)),(by rfl),H',⟨by have:=HK1.out;omega⟩,by repeat (first|exact Drawn0.refl _|apply Drawn0.step)⟩
   rw [if_pos c7] at H;have c7b0:=de_ c7;clear c7;obtain ⟨ji8,hji8⟩ : ∃ j_ : Int,(wrap64 (x7_1 - 1)) = j_:=⟨_,rfl⟩
   replace H : (if 0 ≤ (ji8) then (if (ji8) < (l0.length : Int) then (if (rd l0 (ji8)) ≥ (rd l0 x7_1) then (some false) else (impl_ConfOk.l0 k1 l0 l0 (l0.length : Int) (wrap64 (x7_1 + 1)))) else (none)) else (none)) = some r:=by (rw [hji8] at H;exact H)
   have hji8w : (IntKind.i64.wrap (x7_1 - 1)) = ji8:=(i64_w _).trans hji8
   by_cases c9 : 0 ≤ (ji8);rotate_left
   ·rw [if_neg c9] at H;exact absurd H (by simp)
   rw [if_pos c9] at H;have c9b0:=de_ c9;clear c9
   by_cases c10 : (ji8) < (l0.length : Int)
   ·rw [if_pos c10] at H;have c10b0:=de_ c10;clear c10;have HC11:=A_ H;clear H;have p289 : 0 ≤ (x7_1 : Int):=oda_;have q289 : x7_1 < (l0.length : Int):=oda_;obtain ⟨ad289,e289,hx289_0⟩:=Kd.at_int HR0.out x7_1 p289 q289
    cases e289
    replace p289:=eq_true p289;replace q289:=eq_true q289
    go_upto_if 27 with (((with_reducible refine gate_callee (f:=47) rfl ?_);refine gL_ (some 13) Try.func47 #[.int .i64 (rd l0 x7_1),.int .i64 1,.int .i64 4] ?_;(with_reducible refine (impl_within.calls (rd l0 x7_1) 1 4 true _ A5.out).mono ?_);rintro e w' ⟨rfl,⟨nd,rfl⟩⟩;refine ⟨_,rfl,?_⟩;have p291 : 0 ≤ ((ji8) : Int):=oda_;have q291 : (ji8) < (l0.length : Int):=oda_;obtain ⟨ad291,e291,hx291_0⟩:=Kd.at_int HR0.out (ji8) p291 q291;obtain rfl : ad289 = ad291:=(by injection e291);replace p291:=eq_true p291;replace q291:=eq_true q291))
    have H:=HC11.out;clear HC11
    by_cases c12 : (rd l0 (ji8)) ≥ (rd l0 x7_1)
    ·rw [if_pos c12] at H;have c12b0:=de_ c12;clear c12
     (rw [c12b0])
     obtain rfl:=Option.some.inj H;go_wp2;go_ret;exact ⟨by rfl,by repeat (first|exact Drawn0.refl _|apply Drawn0.step)⟩
    rw [if_neg c12] at H;have c12b0:=decide_eq_false c12;clear c12
    (rw [c12b0])
    have H':=A_ H;clear H;go_wp2
    go_roundg k1
    case measure => have:=HK1.out;omega
    case rel => exact ⟨(wrap64 (x7_1 + 1)),(by rfl),H',⟨by have:=HK1.out;omega⟩,by repeat (first|exact Drawn0.refl _|apply Drawn0.step)⟩
   rw [if_neg c10] at H;exact absurd H (by simp)
def impl_ReadConf.l0 : Nat → ByteArray → List Int → Int → Option (List Int × Bool)
 | 0,_,_,_ => none
 | k + 1,x0,x4,x5 => if x5 < (x0.size : Int) then (if 0 ≤ x5 then (if x4.length < 17592186044416 then (impl_ReadConf.l0 k x0 (x4 ++ [wrap64 (bt x0 x5)]) (wrap64 (x5 + 1))) else (none)) else (none)) else ((impl_ConfOk.f k x4).bind fun t296 => (if t296 = true then (some (x4,true)) else (some (([] : List Int),false))))
def impl_ReadConf.f (k : Nat) (a0 : ByteArray) : Option (List Int × Bool) := impl_ReadConf.l0 k a0 ([] : List Int) 0
theorem impl_ReadConf.mono_l : ∀ k, (∀ y0 y1 y2, LeO (impl_ReadConf.l0 k y0 y1 y2) (impl_ReadConf.l0 (k + 1) y0 y1 y2))
 | 0 => fun _ _ _ r h => by simp [impl_ReadConf.l0] at h
 | k + 1 => by
  have ih0:=impl_ReadConf.mono_l k
  ·intro y0 y1 y2
   unfold impl_ReadConf.l0
   repeat' first
   | (with_reducible exact ih0 _ _ _)
   | (with_reducible exact impl_ConfOk.mono _ _)
   | (with_reducible exact LeO.refl _)
   | (with_reducible refine LeO.ite ?_ ?_)
   | (with_reducible refine LeO.bind ?_ (fun _ => ?_))
theorem impl_ReadConf.mono : ∀ a0 k, LeO (impl_ReadConf.f k a0) (impl_ReadConf.f (k + 1) a0) := by
 intro a0 k;have ih0:=impl_ReadConf.mono_l k
 unfold impl_ReadConf.f
 repeat' first
   | (with_reducible exact ih0 _ _ _)
set_option maxHeartbeats 8000000 in
set_option maxRecDepth 100000 in
theorem impl_ReadConf.calls (k : Nat) (a0 : ByteArray) (r1 : List Int) (r2 : Bool) (w : World) (h : impl_ReadConf.f k a0 = some (r1, r2)) :
  Calls Try.prog 125 #[.string a0] w fun e w' => ∃ v0_ : Value,e = .returned (.tuple #[v0_,.bool r2]) ∧ Kd.R (Kd.int .i64) 3 w' w.heap.size (fun _ => True) v0_ r1 ∧ Below w.heap.size w w':=by
 have HB:=A_ (Below.refl w.heap.size w);unfold impl_ReadConf.f at h;have H:=h;clear h;have H':=A_ H;clear H;go_enter Try.func125,Try.ntmps125;go_wp2
 go_loopg [4,5] k (fun kq v4 v5 w' => ∃ (x4_1 : List Int) (x5_1 : Int),v5 = .int .i64 x5_1 ∧ Aside0 (impl_ReadConf.l0 kq a0 x4_1 x5_1 = some (r1,r2)) ∧ Aside0 (kq ≤ k) ∧ Aside0 (Kd.R (Kd.int .i64) 3 w' w.heap.size (fun _ => True) v4 x4_1) ∧ Aside0 (Below w.heap.size w w'))
 case atStart => exact ⟨(([] : List Int)),(0),(by rfl),H',⟨Nat.le_refl _⟩,⟨by exact Kd.R_nil _ _ _ _ _⟩,⟨bq_ HB⟩⟩
 case round =>
  clear H'
  try clear c1
  obtain ⟨x4_1,x5_1,rfl,HA,HK1,HO_4,HB⟩:=hrel
  cases gk with
  | zero => exact absurd HA.out (by simp [impl_ReadConf.l0])
  | succ k1 =>
   have H:=HA.out;clear HA;simp only [impl_ReadConf.l0] at H
   by_cases c2 : x5_1 < (a0.size : Int)
   ·rw [if_pos c2] at H;have c2b0:=de_ c2;clear c2
    by_cases c3 : 0 ≤ x5_1
    ·rw [if_pos c3] at H;have c3b0:=de_ c3;clear c3
     by_cases c5 : x4_1.length < 17592186044416
     ·rw [if_pos c5] at H;have LMc5:=A_ c5;clear c5;obtain ⟨y293,hy293⟩ : ∃ y_ : List Int,y_ = (x4_1 ++ [wrap64 (bt a0 x5_1)]):=⟨_,rfl⟩
      replace H : (impl_ReadConf.l0 k1 a0 y293 (wrap64 (x5_1 + 1))) = some (r1,r2):=by (rw [hy293];with_reducible exact H)
      have Ny293:=A_ hy293;clear hy293;have H':=A_ H;clear H;have p4 : 0 ≤ (x5_1 : Int):=oda_;have q4 : x5_1 < (a0.size : Int):=oda_;have hx4:=bt_at a0 x5_1;replace p4:=eq_true p4;replace q4:=eq_true q4
      go_wp2_with (((with_reducible refine gate_builtin (b:=.append) (xs:=#[.tmp 12,.tmp 17]) rfl ?_);at_builtin;refine Kd.R_append (Kd.int .i64) (w0:=w) w.heap.size rfl (.tmp 12) (.tmp 17) 39 3 (.int .i64 0) 8 rfl Try.underlying39 info3 rfl (by decide) (by omega) u4 x4_1 (wrap64 (bt a0 x5_1)) [.int .i64 (wrap64 (bt a0 x5_1))] (fun _ => True) (fun _ => False) rfl rfl ?aP (fun _ hk => hk.elim) ?aF ?aO ?aB ?aS ?aL ?_;(case aP => exact rfl);(case aB => exact (bq_ HB));(case aF => exact (fun _ _ => trivial));(case aO => exact (rq_ HO_4));(case aS => exact (bz_ (bq_ HB)));(case aL => have:=LMc5.out;omega);intro v294 w6 ho hb hg hat;rw [← Ny293.out] at ho;replace HB:=A_ hb;have HO295:=A_ ho;clear HO_4;clear ho hb hg hat))
      go_roundg k1
      case measure => have:=HK1.out;omega
      case rel => exact ⟨(y293),(wrap64 (x5_1 + 1)),(by rfl),H',⟨by have:=HK1.out;omega⟩,⟨HO295.out⟩,⟨bq_ HB⟩⟩
     rw [if_neg c5] at H;exact absurd H (by simp)
    rw [if_neg c3] at H;exact absurd H (by simp)
   rw [if_neg c2] at H;have c2b0:=decide_eq_false c2;clear c2;replace H:=ob_.mp H;obtain ⟨t296,A70,H⟩:=H;have A7:=A_ A70;clear A70;have HC8:=A_ H;clear H;obtain ⟨Ao9,co9,eo9⟩:=Kd.R_slice HO_4.out;subst eo9
   go_upto_if 21 with (((with_reducible refine gate_callee (f:=116) rfl ?_);refine gL_ (some 20) Try.func116 #[.slice Ao9 x4_1.length co9] ?_;(with_reducible refine (impl_ConfOk.calls k1 _ _ x4_1 t296 _ ?side1 ?side2 A7.out).mono ?_);(case side1 => repeat (exact (Kd.R_reads' HO_4.out).2.2));(case side2 => exact (Kd.R_reads' HO_4.out).2.1);rintro e w' ⟨rfl,⟨nd,rfl⟩⟩;refine ⟨_,rfl,?_⟩))
   have H:=HC8.out;clear HC8
   by_cases c10 : t296 = true
   ·subst c10
    rw [if_pos rfl] at H;simp only [Option.some.injEq,Prod.mk.injEq] at H;obtain ⟨rfl,rfl⟩:=H;go_wp2;go_ret2;exact ⟨_,by rfl,by (with_reducible repeat (apply rn_));exact HO_4.out,bq_ HB⟩
   replace c10:=Bool.eq_false_iff.mpr c10;subst c10
   have H1 : (some (([] : List Int),false)) = some (r1,r2):=by rw [if_neg (show ¬ (false = true) by decide)] at H;exact H
   clear H;have H:=H1;clear H1;simp only [Option.some.injEq,Prod.mk.injEq] at H;obtain ⟨rfl,rfl⟩:=H;go_wp2;go_ret2;exact ⟨_,by rfl,by exact Kd.R_nil _ _ _ _ _,bq_ HB⟩
def impl_EntryOk.f (k : Nat) (a0_0 a0_1 : Int) (a0_2 : ByteArray) : Option (Bool) := (impl_within.f a0_0 0 100000).bind fun t298 => (if t298 = true then (if a0_1 = 1 then (some (a0_2.toList == ([] : List UInt8))) else (if a0_1 = 2 then ((impl_ReadConf.f k a0_2).bind fun bt299 => (some bt299.2)) else (if a0_1 = 3 then (some (decide ((a0_2.size : Int) ≤ 120))) else (some false)))) else (some false))
theorem impl_EntryOk.mono : ∀ a0 a1 a2 k, LeO (impl_EntryOk.f k a0 a1 a2) (impl_EntryOk.f (k + 1) a0 a1 a2) := by
 intro a0 a1 a2 k
 unfold impl_EntryOk.f
 repeat' first
   | (with_reducible exact impl_ReadConf.mono _ _)
   | (with_reducible exact LeO.refl _)
   | (with_reducible refine LeO.ite ?_ ?_)
   | (with_reducible refine LeO.bind ?_ (fun _ => ?_))
set_option maxHeartbeats 8000000 in
set_option maxRecDepth 100000 in
theorem impl_EntryOk.calls (k : Nat) (a0_0 a0_1 : Int) (a0_2 : ByteArray) (r : Bool) (w : World) (h : impl_EntryOk.f k a0_0 a0_1 a0_2 = some r) :
  Calls Try.prog 100 #[.agg #[.int .i64 a0_0,.int .i64 a0_1,.string a0_2]] w fun e w' => e = .returned (.bool r) ∧ Below w.heap.size w w':=by
 have hu69:=Try.underlying69;have HB:=A_ (Below.refl w.heap.size w);unfold impl_EntryOk.f at h;have H:=h;clear h;replace H:=ob_.mp H;obtain ⟨t298,A20,H⟩:=H;have A2:=A_ A20;clear A20;have HC3:=A_ H;clear H;go_enter Try.func100,Try.ntmps100
 go_upto_if 8 with (first|((with_reducible refine gate_dst (N:=1) rfl ?_);refine bE_ 1 #[.int .i64 a0_0,.int .i64 a0_1,.string a0_2] 69 ?_;intro gb297 hg w4 hbox hb;have n0_:=bS_ HB hb;have n1_:=A_ hbox;have n3_:=gE_ hg HB;clear HB;have HB:=n0_;have BK297:=n1_;have GE297:=n3_;clear n0_ n1_ n3_;clear hb hbox hg;obtain ⟨hcz5_0,hcz5_1,hcz5_2,hfz5_0,hfz5_1,hfz5_2⟩:=k3f_ BK297)|((with_reducible refine gate_callee (f:=47) rfl ?_);refine gL_ (some 7) Try.func47 #[.int .i64 a0_0,.int .i64 0,.int .i64 100000] ?_;(with_reducible refine (impl_within.calls a0_0 0 100000 t298 _ A2.out).mono ?_);rintro e w' ⟨rfl,⟨nd,rfl⟩⟩;refine ⟨_,rfl,?_⟩))
 have H:=HC3.out;clear HC3
 by_cases c6 : t298 = true;rotate_left
 ·replace c6:=Bool.eq_false_iff.mpr c6;subst c6
  have H1 : (some false) = some r:=by rw [if_neg (show ¬ (false = true) by decide)] at H;exact H
  clear H;have H:=H1;clear H1;obtain rfl:=Option.some.inj H;go_wp2;go_ret;exact ⟨ex_,bq_ HB⟩
 subst c6
 rw [if_pos rfl] at H;have HC7:=A_ H;clear H;obtain ⟨hcz8_0,hcz8_1,hcz8_2,hfz8_0,hfz8_1,hfz8_2⟩:=k3f_ BK297
 go_upto_if 11 with (fail)
 have H:=HC7.out;clear HC7
 by_cases c9 : a0_1 = 1
 ·rw [if_pos c9] at H;have c9b0:=beq_iff_eq.mpr c9;have c9b1:=bne_eq_false_iff_eq.mpr c9;clear c9
  (rw [c9b0])
  obtain rfl:=Option.some.inj H;obtain ⟨hcz10_0,hcz10_1,hcz10_2,hfz10_0,hfz10_1,hfz10_2⟩:=k3f_ BK297;go_wp2;go_ret;exact ⟨ex_,bq_ HB⟩
 rw [if_neg c9] at H;have c9b0:=beq_eq_false_iff_ne.mpr c9;have c9b1:=bne_iff_ne.mpr c9
 (rw [c9b0])
 by_cases c11 : a0_1 = 2
 ·rw [if_pos c11] at H;have c11b0:=beq_iff_eq.mpr c11;have c11b1:=bne_eq_false_iff_eq.mpr c11;clear c11;obtain ⟨⟨t299,t300⟩,A12,H⟩:=oB_ H;(try dsimp only at H);obtain rfl:=Option.some.inj H;obtain ⟨hcz13_0,hcz13_1,hcz13_2,hfz13_0,hfz13_1,hfz13_2⟩:=k3f_ BK297
  go_wp2_with (((with_reducible refine gate_callee (f:=125) rfl ?_);refine gL_ (some 21) Try.func125 #[.string a0_2] ?_;(with_reducible refine (impl_ReadConf.calls k a0_2 t299 t300 _ A12.out).mono ?_);rintro e w14 ⟨v301,rfl,ho0,hb⟩;refine ⟨_,rfl,?_⟩;have n2_:=bS_ HB hb;clear BK297;clear HB;have HB:=n2_;clear n2_;(try clear hb);(try clear ho0)))
  go_ret;exact ⟨ex_,bq_ HB⟩
 rw [if_neg c11] at H;have c11b0:=beq_eq_false_iff_ne.mpr c11;have c11b1:=bne_iff_ne.mpr c11
 by_cases c15 : a0_1 = 3
 ·rw [if_pos c15] at H;have c15b0:=beq_iff_eq.mpr c15;have c15b1:=bne_eq_false_iff_eq.mpr c15;clear c15;obtain rfl:=Option.some.inj H;obtain ⟨hcz16_0,hcz16_1,hcz16_2,hfz16_0,hfz16_1,hfz16_2⟩:=k3f_ BK297;go_wp2;go_ret;exact ⟨ex_,bq_ HB⟩
 rw [if_neg c15] at H;have c15b0:=beq_eq_false_iff_ne.mpr c15;have c15b1:=bne_iff_ne.mpr c15;obtain rfl:=Option.some.inj H;go_wp2;go_ret;exact ⟨ex_,bq_ HB⟩
end Go.Proofs.Ytbcgnncbiblibaa.PFnMessages
