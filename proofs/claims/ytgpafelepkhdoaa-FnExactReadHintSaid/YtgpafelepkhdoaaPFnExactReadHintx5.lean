/- The contracts of the Go functions that this law reaches: what each call returns, by a plain Lean function of its arguments. No conditions but those each contract names. By the kit's print.py, run by this session's wip/gen/pp.py with facts and hand proofs beside it: not to the letter what print.sh prints. -/
import Derived.Test.YtgpafelepkhdoaaPFnExactReadHintx0
import Derived.Test.YtgpafelepkhdoaaPFnExactReadHintx1
import Derived.Test.YtgpafelepkhdoaaPFnExactReadHintx2
import Derived.Test.YtgpafelepkhdoaaPFnExactReadHintx3
import Derived.Test.YtgpafelepkhdoaaPFnExactReadHintx4
namespace Go.Proofs.Ytgpafelepkhdoaa.PFnExactReadHint
open Go.RowKit Go.Proofs.YtgpafelepkhdoaaW.PrintWords Go.Proofs.YtgpafelepkhdoaaW.PrintLast Go.Proofs.YtgpafelepkhdoaaW.PrintMore
attribute [local go_sem] max2_int min2_int max_two min_two max_three min_three max_four min_four
set_option linter.unusedVariables false
set_option linter.unusedSimpArgs false
def spec_l05Short.f (k : Nat) (a0 : ByteArray) : Option (ByteArray) := (spec_l01Var.f k (a0.size : Int)).bind fun t140 => (if t140.size + a0.size ≤ 9223372036854775807 then (some (t140 ++ a0)) else (none))
theorem spec_l05Short.mono : ∀ a0 k, LeO (spec_l05Short.f k a0) (spec_l05Short.f (k + 1) a0) := by
 intro a0 k
 unfold spec_l05Short.f
 repeat' first
   | (with_reducible exact spec_l01Var.mono _ _)
   | (with_reducible exact LeO.refl _)
   | (with_reducible exact LeO.none _)
   | (with_reducible refine LeO.ite ?_ ?_)
   | (with_reducible refine LeO.bind ?_ (fun _ => ?_))
set_option maxHeartbeats 8000000 in
set_option maxRecDepth 100000 in
theorem spec_l05Short.calls (k : Nat) (a0 : ByteArray) (r : ByteArray) (w : World) (h : spec_l05Short.f k a0 = some r) :
  Calls Try.prog 138 #[.string a0] w fun e w' => e = .returned (.string r) ∧ Below w.heap.size w w':=by
 have HB:=A_ (Below.refl w.heap.size w);unfold spec_l05Short.f at h;have H:=h;clear h;replace H:=ob_.mp H;obtain ⟨t140,A20,H⟩:=H;(try dsimp only at H);have A2:=A_ A20;clear A20
 by_cases c3 : t140.size + a0.size ≤ 9223372036854775807
 ·rw [if_pos c3] at H;have c3b0:=eq_true c3;have c3b1 : decide (t140.size + a0.size ≤ 9223372036854775807) = true:=de_ c3
  try have c3b2 : (9223372036854775807 < t140.size + a0.size) = False:=eq_false (Nat.not_lt.2 c3)
  obtain rfl:=Option.some.inj H;go_enter Try.func138,Try.ntmps138
  go_wp2_with (first|((with_reducible refine gate_callee (f:=80) rfl ?_);refine gL_ (some 5) Try.func80 #[.int .i64 (a0.size : Int)] ?_;(with_reducible refine (spec_l01Var.calls k (a0.size : Int) t140 _ A2.out).mono ?_);rintro e w4 ⟨rfl,hb⟩;refine ⟨_,rfl,?_⟩;replace HB:=bS_ HB hb;(try clear hb)))
  go_ret;exact ⟨ex_,bq_ HB⟩
 ·rw [if_neg c3] at H;exact absurd H (by simp)
def spec_Sealed.f (k : Nat) (a0 : ByteArray) : Option (ByteArray × Bool) := if (a0.size : Int) > 20000 then (some ((⟨#[]⟩ : ByteArray), false)) else ((spec_SumOf.f k a0).bind fun t141 => ((spec_l02Four.f t141).bind fun t142 => (if a0.size + t142.size ≤ 9223372036854775807 then (some (a0 ++ t142, true)) else (none))))
theorem spec_Sealed.mono : ∀ a0 k, LeO (spec_Sealed.f k a0) (spec_Sealed.f (k + 1) a0) := by
 intro a0 k
 unfold spec_Sealed.f
 repeat' first
   | (with_reducible exact spec_SumOf.mono _ _)
   | (with_reducible exact LeO.refl _)
   | (with_reducible exact LeO.none _)
   | (with_reducible refine LeO.ite ?_ ?_)
   | (with_reducible refine LeO.bind ?_ (fun _ => ?_))
set_option maxHeartbeats 8000000 in
set_option maxRecDepth 100000 in
theorem spec_Sealed.calls (k : Nat) (a0 : ByteArray) (r1 : ByteArray) (r2 : Bool) (w : World) (h : spec_Sealed.f k a0 = some (r1, r2)) :
  Calls Try.prog 155 #[.string a0] w fun e w' => e = .returned (.tuple #[.string r1,.bool r2]) ∧ Below w.heap.size w w':=by
 have HB:=A_ (Below.refl w.heap.size w);unfold spec_Sealed.f at h;have H:=h;clear h
 by_cases c2 : (a0.size : Int) > 20000
 ·rw [if_pos c2] at H;have c2b0 : decide (20000 < (a0.size : Int)) = true:=de_ c2;have c2b1 : decide (20000 < a0.size) = true:=de_ (by omega);clear c2;simp only [Option.some.injEq,Prod.mk.injEq] at H;obtain ⟨rfl,rfl⟩:=H;go_enter Try.func155,Try.ntmps155;go_wp2;go_ret2;exact ⟨ex_,bq_ HB⟩
 ·rw [if_neg c2] at H;have c2b0 : decide (20000 < (a0.size : Int)) = false:=decide_eq_false c2;have c2b1 : decide (20000 < a0.size) = false:=decide_eq_false (by omega);clear c2;replace H:=ob_.mp H;obtain ⟨t141,A30,H⟩:=H;(try dsimp only at H);have A3:=A_ A30;clear A30;replace H:=ob_.mp H;obtain ⟨t142,A40,H⟩:=H;(try dsimp only at H);have A4:=A_ A40;clear A40
  by_cases c5 : a0.size + t142.size ≤ 9223372036854775807
  ·rw [if_pos c5] at H;have c5b0:=eq_true c5;have c5b1 : decide (a0.size + t142.size ≤ 9223372036854775807) = true:=de_ c5
   try have c5b2 : (9223372036854775807 < a0.size + t142.size) = False:=eq_false (Nat.not_lt.2 c5)
   simp only [Option.some.injEq,Prod.mk.injEq] at H;obtain ⟨rfl,rfl⟩:=H;go_enter Try.func155,Try.ntmps155
   go_wp2_with (first|((with_reducible refine gate_callee (f:=145) rfl ?_);refine gL_ (some 9) Try.func145 #[.string a0] ?_;(with_reducible refine (spec_SumOf.calls k a0 t141 _ A3.out).mono ?_);rintro e w' ⟨rfl,⟨nd,rfl⟩⟩;refine ⟨_,rfl,?_⟩)|((with_reducible refine gate_callee (f:=144) rfl ?_);refine gL_ (some 10) Try.func144 #[.int .u32 t141] ?_;(with_reducible refine (spec_l02Four.calls t141 t142 _ A4.out).mono ?_);rintro e w6 ⟨rfl,hb⟩;refine ⟨_,rfl,?_⟩;replace HB:=bS_ HB hb;(try clear hb)))
   go_ret2;exact ⟨ex_,bq_ HB⟩
  ·rw [if_neg c5] at H;exact absurd H (by simp)
def spec_HintText.l0 : Nat → List (S127) → ByteArray → Int → Option (ByteArray × Bool)
 | 0,_,_,_ => none
 | k + 1,x0,x4,x5 => if x5 < (x0.length : Int) then (if 0 ≤ x5 then ((spec_l05Short.f k ((rd_T127 x0 x5).f0)).bind fun t148 => (if x4.size + t148.size ≤ 9223372036854775807 then ((spec_l01Var.f k ((rd_T127 x0 x5).f1)).bind fun t150 => (if (x4 ++ t148).size + t150.size ≤ 9223372036854775807 then ((spec_l01Var.f k ((rd_T127 x0 x5).f2)).bind fun t152 => (if ((x4 ++ t148) ++ t150).size + t152.size ≤ 9223372036854775807 then ((spec_l01Var.f k ((rd_T127 x0 x5).f3)).bind fun t154 => (if (((x4 ++ t148) ++ t150) ++ t152).size + t154.size ≤ 9223372036854775807 then (spec_HintText.l0 k x0 ((((x4 ++ t148) ++ t150) ++ t152) ++ t154) (wrap64 (x5 + 1))) else (none))) else (none))) else (none))) else (none))) else (none)) else ((spec_Sealed.f k x4).bind fun bt145 => (some (bt145.1,bt145.2)))
def spec_HintText.f (k : Nat) (l0 : List (S127)) : Option (ByteArray × Bool) := (spec_DirOk.f k l0).bind fun t143 => (if t143 = true then ((spec_l01Var.f k (l0.length : Int)).bind fun t144 => (spec_HintText.l0 k l0 t144 0)) else (some ((⟨#[]⟩ : ByteArray), false)))
theorem spec_HintText.mono_l : ∀ k, (∀ y0 y1 y2, LeO (spec_HintText.l0 k y0 y1 y2) (spec_HintText.l0 (k + 1) y0 y1 y2))
 | 0 => fun _ _ _ r h => by simp [spec_HintText.l0] at h
 | k + 1 => by
  have ih0:=spec_HintText.mono_l k
  ·intro y0 y1 y2
   unfold spec_HintText.l0
   repeat' first
   | (with_reducible exact ih0 _ _ _)
   | (with_reducible exact spec_DirOk.mono _ _)
   | (with_reducible exact spec_Sealed.mono _ _)
   | (with_reducible exact spec_l01Var.mono _ _)
   | (with_reducible exact spec_l05Short.mono _ _)
   | (with_reducible exact LeO.refl _)
   | (with_reducible exact LeO.none _)
   | (with_reducible refine LeO.ite ?_ ?_)
   | (with_reducible refine LeO.bind ?_ (fun _ => ?_))
theorem spec_HintText.mono : ∀ a0 k, LeO (spec_HintText.f k a0) (spec_HintText.f (k + 1) a0) := by
 intro a0 k;have ih0:=spec_HintText.mono_l k
 unfold spec_HintText.f
 repeat' first
   | (with_reducible exact ih0 _ _ _)
   | (with_reducible exact spec_DirOk.mono _ _)
   | (with_reducible exact spec_Sealed.mono _ _)
   | (with_reducible exact spec_l01Var.mono _ _)
   | (with_reducible exact spec_l05Short.mono _ _)
   | (with_reducible exact LeO.refl _)
   | (with_reducible exact LeO.none _)
   | (with_reducible refine LeO.ite ?_ ?_)
   | (with_reducible refine LeO.bind ?_ (fun _ => ?_))
def spec_HintText.T7 : Bool × List (List Nat × List Nat) := (true, [([], []), ([], []), ([], []), ([1, 2], [1, 2]), ([3], [3]), ([4], [4]), ([5], [5]), ([0, 6], [0, 6]), ([], []), ([], []), ([8, 9], [8, 9]), ([10], [10]), ([11], [11]), ([12, 6], [12]), ([7, 13], [7, 13]), ([], []), ([], []), ([15, 16], [15, 16]), ([17], [17]), ([18], [18]), ([19, 13], [19]), ([14, 20], [14, 20]), ([], []), ([], []), ([22, 23], [22, 23]), ([24], [24]), ([25], [25]), ([26, 20], [26]), ([21, 27], [21, 27]), ([28, 27, 0, 1, 2, 3, 4, 5, 6, 7, 8, 9, 10, 11, 12, 13, 14, 15, 16, 17, 18, 19, 20, 21, 22, 23, 24, 25, 26, 27, 28], [0, 28])])
def spec_HintText.B7 : List Nat := [0, 0, 0, 6, 14, 30, 62, 127, 0, 0, 768, 1792, 3840, 8062, 16383, 0, 0, 98304, 229376, 491520, 1032062, 2097151, 0, 0, 12582912, 29360128, 62914560, 132104062, 268435455, 536870911]
theorem spec_HintText.tab7 : rtab .any (opsOf Try.f108 7) = spec_HintText.T7 := by kernel_rfl
theorem spec_HintText.bits7 : waitsOk spec_HintText.T7.2 spec_HintText.B7 = true := by kernel_rfl
set_option maxHeartbeats 8000000 in
set_option maxRecDepth 100000 in
theorem spec_HintText.calls (k : Nat) (A0 : Option Addr) (c0 : Nat) (l0 : List (S127)) (r1 : ByteArray) (r2 : Bool) (w : World) (hr0 : Kd.C k127 w A0 l0.length l0) (hc0 : l0.length ≤ c0) (h : spec_HintText.f k l0 = some (r1, r2)) :
  Calls Try.prog 108 #[.slice A0 l0.length c0] w fun e w' => e = .returned (.tuple #[.string r1,.bool r2]) ∧ Below w.heap.size w w':=by
 have HR0:=A_ hr0;have HC0:=A_ hc0;clear hr0 hc0;have HB:=A_ (Below.refl w.heap.size w);unfold spec_HintText.f at h;have H:=h;clear h;replace H:=ob_.mp H;obtain ⟨t143,A20,H⟩:=H;(try dsimp only at H);have A2:=A_ A20;clear A20
 by_cases c3 : t143 = true
 ·subst c3
  rw [if_pos rfl] at H;replace H:=ob_.mp H;obtain ⟨t144,A40,H⟩:=H;(try dsimp only at H);have A4:=A_ A40;clear A40;have H':=A_ H;clear H;go_enter Try.func108,Try.ntmps108
  go_wp2_with (first|((with_reducible refine gate_callee (f:=120) rfl ?_);refine gL_ (some 7) Try.func120 #[.slice A0 l0.length c0] ?_;(with_reducible refine (spec_DirOk.calls k _ _ l0 true _ ?side1 ?side2 A2.out).mono ?_);(case side1 => repeat (first|exact HR0.out|(with_reducible refine Kd.C_alloc ?_ _)|(with_reducible refine Kd.C_drewN ?_ _)|(with_reducible refine Kd.C_drew ?_)));(case side2 => exact HC0.out);rintro e w5 ⟨rfl,hb⟩;refine ⟨_,rfl,?_⟩;replace HB:=bS_ HB hb;(try clear hb))|((with_reducible refine gate_callee (f:=80) rfl ?_);refine gL_ (some 11) Try.func80 #[.int .i64 (l0.length : Int)] ?_;(with_reducible refine (spec_l01Var.calls k (l0.length : Int) t144 _ A4.out).mono ?_);rintro e w6 ⟨rfl,hb⟩;refine ⟨_,rfl,?_⟩;replace HB:=bS_ HB hb;(try clear hb)))
  go_loopg [4,5] k (fun kq v4 v5 w' => ∃ (x4_1 : ByteArray) (x5_1 : Int),v4 = .string x4_1 ∧ v5 = .int .i64 x5_1 ∧ Aside0 (spec_HintText.l0 kq l0 x4_1 x5_1 = some (r1,r2)) ∧ Aside0 (kq ≤ k) ∧ Aside0 (Below w.heap.size w w'))
  case atStart => exact ⟨(t144),(0),(by first|rfl|(simp;done)|(simp [*];done)),(by first|rfl|(simp;done)|(simp [*];done)),H',⟨Nat.le_refl _⟩,⟨bq_ HB⟩⟩
  case round =>
   clear H'
   try clear c1
   try clear p2
   try clear c3
   obtain ⟨x4_1,x5_1,rfl,rfl,HA,HK1,HB⟩:=hrel
   cases gk with
   | zero => exact absurd HA.out (by simp [spec_HintText.l0])
   | succ k1 =>
    have H:=HA.out;clear HA;simp only [spec_HintText.l0] at H
    by_cases c7 : x5_1 < (l0.length : Int)
    ·rw [if_pos c7] at H;have c7b0 : decide (x5_1 < (l0.length : Int)) = true:=de_ c7;clear c7
     by_cases c8 : 0 ≤ x5_1
     ·rw [if_pos c8] at H;have c8b0 : decide (0 ≤ x5_1) = true:=de_ c8;clear c8;replace H:=ob_.mp H;obtain ⟨t148,A90,H⟩:=H;(try dsimp only at H);have A9:=A_ A90;clear A90
      by_cases c10 : x4_1.size + t148.size ≤ 9223372036854775807
      ·rw [if_pos c10] at H;have c10b0:=eq_true c10;have c10b1 : decide (x4_1.size + t148.size ≤ 9223372036854775807) = true:=de_ c10
       try have c10b2 : (9223372036854775807 < x4_1.size + t148.size) = False:=eq_false (Nat.not_lt.2 c10)
       replace H:=ob_.mp H;obtain ⟨t150,A110,H⟩:=H;(try dsimp only at H);have A11:=A_ A110;clear A110
       by_cases c12 : (x4_1 ++ t148).size + t150.size ≤ 9223372036854775807
       ·rw [if_pos c12] at H;have c12b0:=eq_true c12;have c12b1 : decide ((x4_1 ++ t148).size + t150.size ≤ 9223372036854775807) = true:=de_ c12
        try have c12b2 : (9223372036854775807 < (x4_1 ++ t148).size + t150.size) = False:=eq_false (Nat.not_lt.2 c12)
        try have c12b3 : (9223372036854775807 < x4_1.size + t148.size + t150.size) = False:=eq_false (by have h_:=c12;simp only [ByteArray.size_append,show ∀ x_ : UInt8,(⟨#[x_]⟩ : ByteArray).size = 1 from fun _ => rfl] at h_;omega)
        replace H:=ob_.mp H;obtain ⟨t152,A130,H⟩:=H;(try dsimp only at H);have A13:=A_ A130;clear A130
        by_cases c14 : ((x4_1 ++ t148) ++ t150).size + t152.size ≤ 9223372036854775807
        ·rw [if_pos c14] at H;have c14b0:=eq_true c14;have c14b1 : decide (((x4_1 ++ t148) ++ t150).size + t152.size ≤ 9223372036854775807) = true:=de_ c14
         try have c14b2 : (9223372036854775807 < ((x4_1 ++ t148) ++ t150).size + t152.size) = False:=eq_false (Nat.not_lt.2 c14)
         try have c14b3 : (9223372036854775807 < x4_1.size + t148.size + t150.size + t152.size) = False:=eq_false (by have h_:=c14;simp only [ByteArray.size_append,show ∀ x_ : UInt8,(⟨#[x_]⟩ : ByteArray).size = 1 from fun _ => rfl] at h_;omega)
         replace H:=ob_.mp H;obtain ⟨t154,A150,H⟩:=H;(try dsimp only at H);have A15:=A_ A150;clear A150
         by_cases c16 : (((x4_1 ++ t148) ++ t150) ++ t152).size + t154.size ≤ 9223372036854775807
         ·rw [if_pos c16] at H;have c16b0:=eq_true c16;have c16b1 : decide ((((x4_1 ++ t148) ++ t150) ++ t152).size + t154.size ≤ 9223372036854775807) = true:=de_ c16
          try have c16b2 : (9223372036854775807 < (((x4_1 ++ t148) ++ t150) ++ t152).size + t154.size) = False:=eq_false (Nat.not_lt.2 c16)
          try have c16b3 : (9223372036854775807 < x4_1.size + t148.size + t150.size + t152.size + t154.size) = False:=eq_false (by have h_:=c16;simp only [ByteArray.size_append,show ∀ x_ : UInt8,(⟨#[x_]⟩ : ByteArray).size = 1 from fun _ => rfl] at h_;omega)
          have H':=A_ H;clear H
          try go_wp2
          replace HB:=A_ (pd_ HB.out);have p147 : 0 ≤ (x5_1 : Int):=oda_;have q147 : x5_1 < (l0.length : Int):=oda_;obtain ⟨ad147,e147,hx147_0,hx147_1,hx147_2,hx147_3⟩:=at_T127 HR0.out x5_1 p147 q147;have hw147_3:=hx147_3;have hw147_2:=hx147_2;have hw147_1:=hx147_1;have hw147_0:=hx147_0
          cases e147
          replace hx147_0:=(HB.out.cell (wb_ w _ hx147_0)).trans hx147_0;replace hx147_1:=(HB.out.cell (wb_ w _ hx147_1)).trans hx147_1;replace hx147_2:=(HB.out.cell (wb_ w _ hx147_2)).trans hx147_2;replace hx147_3:=(HB.out.cell (wb_ w _ hx147_3)).trans hx147_3;replace p147:=eq_true p147;replace q147:=eq_true q147;have p149 : 0 ≤ (x5_1 : Int):=oda_;have q149 : x5_1 < (l0.length : Int):=oda_;obtain ⟨ad149,e149,hx149_0,hx149_1,hx149_2,hx149_3⟩:=at_T127 HR0.out x5_1 p149 q149;have hw149_3:=hx149_3;have hw149_2:=hx149_2;have hw149_1:=hx149_1;have hw149_0:=hx149_0;obtain rfl : ad147 = ad149:=(by injection e149);replace hx149_0:=(HB.out.cell (wb_ w _ hx149_0)).trans hx149_0;replace hx149_1:=(HB.out.cell (wb_ w _ hx149_1)).trans hx149_1;replace hx149_2:=(HB.out.cell (wb_ w _ hx149_2)).trans hx149_2;replace hx149_3:=(HB.out.cell (wb_ w _ hx149_3)).trans hx149_3;replace p149:=eq_true p149;replace q149:=eq_true q149;have p151 : 0 ≤ (x5_1 : Int):=oda_;have q151 : x5_1 < (l0.length : Int):=oda_;obtain ⟨ad151,e151,hx151_0,hx151_1,hx151_2,hx151_3⟩:=at_T127 HR0.out x5_1 p151 q151;have hw151_3:=hx151_3;have hw151_2:=hx151_2;have hw151_1:=hx151_1;have hw151_0:=hx151_0;obtain rfl : ad147 = ad151:=(by injection e151);replace hx151_0:=(HB.out.cell (wb_ w _ hx151_0)).trans hx151_0;replace hx151_1:=(HB.out.cell (wb_ w _ hx151_1)).trans hx151_1;replace hx151_2:=(HB.out.cell (wb_ w _ hx151_2)).trans hx151_2;replace hx151_3:=(HB.out.cell (wb_ w _ hx151_3)).trans hx151_3;replace p151:=eq_true p151;replace q151:=eq_true q151;have p153 : 0 ≤ (x5_1 : Int):=oda_;have q153 : x5_1 < (l0.length : Int):=oda_;obtain ⟨ad153,e153,hx153_0,hx153_1,hx153_2,hx153_3⟩:=at_T127 HR0.out x5_1 p153 q153;have hw153_3:=hx153_3;have hw153_2:=hx153_2;have hw153_1:=hx153_1;have hw153_0:=hx153_0;obtain rfl : ad147 = ad153:=(by injection e153);replace hx153_0:=(HB.out.cell (wb_ w _ hx153_0)).trans hx153_0;replace hx153_1:=(HB.out.cell (wb_ w _ hx153_1)).trans hx153_1;replace hx153_2:=(HB.out.cell (wb_ w _ hx153_2)).trans hx153_2;replace hx153_3:=(HB.out.cell (wb_ w _ hx153_3)).trans hx153_3;replace p153:=eq_true p153;replace q153:=eq_true q153;refine start_ (n:=30) (S:=fun w' => w'.cell? (ad147.add ((x5_1).toNat * 4)) = some (.string ((rd_T127 l0 x5_1).f0)) ∧ w'.cell? ⟨(ad147.add ((x5_1).toNat * 4)).block,(ad147.add ((x5_1).toNat * 4)).off + 1,none⟩ = some (.int .i64 ((rd_T127 l0 x5_1).f1)) ∧ w'.cell? ⟨(ad147.add ((x5_1).toNat * 4)).block,(ad147.add ((x5_1).toNat * 4)).off + 2,none⟩ = some (.int .i64 ((rd_T127 l0 x5_1).f2)) ∧ w'.cell? ⟨(ad147.add ((x5_1).toNat * 4)).block,(ad147.add ((x5_1).toNat * 4)).off + 3,none⟩ = some (.int .i64 ((rd_T127 l0 x5_1).f3)) ∧ w'.cell? (ad147.add ((x5_1).toNat * 4)) = some (.string ((rd_T127 l0 x5_1).f0)) ∧ w'.cell? ⟨(ad147.add ((x5_1).toNat * 4)).block,(ad147.add ((x5_1).toNat * 4)).off + 1,none⟩ = some (.int .i64 ((rd_T127 l0 x5_1).f1)) ∧ w'.cell? ⟨(ad147.add ((x5_1).toNat * 4)).block,(ad147.add ((x5_1).toNat * 4)).off + 2,none⟩ = some (.int .i64 ((rd_T127 l0 x5_1).f2)) ∧ w'.cell? ⟨(ad147.add ((x5_1).toNat * 4)).block,(ad147.add ((x5_1).toNat * 4)).off + 3,none⟩ = some (.int .i64 ((rd_T127 l0 x5_1).f3)) ∧ w'.cell? (ad147.add ((x5_1).toNat * 4)) = some (.string ((rd_T127 l0 x5_1).f0)) ∧ w'.cell? ⟨(ad147.add ((x5_1).toNat * 4)).block,(ad147.add ((x5_1).toNat * 4)).off + 1,none⟩ = some (.int .i64 ((rd_T127 l0 x5_1).f1)) ∧ w'.cell? ⟨(ad147.add ((x5_1).toNat * 4)).block,(ad147.add ((x5_1).toNat * 4)).off + 2,none⟩ = some (.int .i64 ((rd_T127 l0 x5_1).f2)) ∧ w'.cell? ⟨(ad147.add ((x5_1).toNat * 4)).block,(ad147.add ((x5_1).toNat * 4)).off + 3,none⟩ = some (.int .i64 ((rd_T127 l0 x5_1).f3)) ∧ w'.cell? (ad147.add ((x5_1).toNat * 4)) = some (.string ((rd_T127 l0 x5_1).f0)) ∧ w'.cell? ⟨(ad147.add ((x5_1).toNat * 4)).block,(ad147.add ((x5_1).toNat * 4)).off + 1,none⟩ = some (.int .i64 ((rd_T127 l0 x5_1).f1)) ∧ w'.cell? ⟨(ad147.add ((x5_1).toNat * 4)).block,(ad147.add ((x5_1).toNat * 4)).off + 2,none⟩ = some (.int .i64 ((rd_T127 l0 x5_1).f2)) ∧ w'.cell? ⟨(ad147.add ((x5_1).toNat * 4)).block,(ad147.add ((x5_1).toNat * 4)).off + 3,none⟩ = some (.int .i64 ((rd_T127 l0 x5_1).f3))) (ds:=[]) #[false,false,false,false,false,false,false,false,false,false,false,false,false,false,false,false,false,false,false,false,false,false,false,false,false,false,false,false,false,false] (by kernel_rfl) rfl rfl ⟨((HB.out.cell (wb_ w _ hw147_0)).trans hw147_0),((HB.out.cell (wb_ w _ hw147_1)).trans hw147_1),((HB.out.cell (wb_ w _ hw147_2)).trans hw147_2),((HB.out.cell (wb_ w _ hw147_3)).trans hw147_3),((HB.out.cell (wb_ w _ hw149_0)).trans hw149_0),((HB.out.cell (wb_ w _ hw149_1)).trans hw149_1),((HB.out.cell (wb_ w _ hw149_2)).trans hw149_2),((HB.out.cell (wb_ w _ hw149_3)).trans hw149_3),((HB.out.cell (wb_ w _ hw151_0)).trans hw151_0),((HB.out.cell (wb_ w _ hw151_1)).trans hw151_1),((HB.out.cell (wb_ w _ hw151_2)).trans hw151_2),((HB.out.cell (wb_ w _ hw151_3)).trans hw151_3),((HB.out.cell (wb_ w _ hw153_0)).trans hw153_0),((HB.out.cell (wb_ w _ hw153_1)).trans hw153_1),((HB.out.cell (wb_ w _ hw153_2)).trans hw153_2),((HB.out.cell (wb_ w _ hw153_3)).trans hw153_3)⟩ (fun hHeld => ?_);refine with_tabW spec_HintText.tab7 spec_HintText.bits7 (fun HT_ HW_ => ?_);generalize wr.drew = w17 at HB hx147_0 hx147_1 hx147_2 hx147_3 hx149_0 hx149_1 hx149_2 hx149_3 hx151_0 hx151_1 hx151_2 hx151_3 hx153_0 hx153_1 hx153_2 hx153_3 hHeld ⊢;refine pU_ 0 (some 18) ?_
          refine pU_ 1 (some 19) ?_
          refine pU_ 2 (some 20) ?_
          refine pU_ 3 (some 21) ?_
          refine pU_ 4 (some 22) ?_
          refine pU_ 8 (some 26) ?_
          refine pU_ 9 (some 27) ?_
          refine pU_ 10 (some 28) ?_
          refine pU_ 11 (some 29) ?_
          refine pU_ 15 (some 33) ?_
          refine pU_ 16 (some 34) ?_
          refine pU_ 17 (some 35) ?_
          refine pU_ 18 (some 36) ?_
          refine pU_ 22 (some 40) ?_
          refine pU_ 23 (some 41) ?_
          refine pU_ 24 (some 42) ?_
          refine pU_ 25 (some 43) ?_
          refine tK_ 5 (some 23) hHeld ?_
          refine tK_ 12 (some 30) hHeld ?_
          refine tK_ 19 (some 37) hHeld ?_
          refine tK_ 26 (some 44) hHeld ?_
          refine oN_ 6 (some 24) (fun K hK => ?_);refine gs_ Try.func138 #[.string ((rd_T127 l0 x5_1).f0)] ?_;with_reducible refine (spec_l05Short.calls k1 ((rd_T127 l0 x5_1).f0) t148 _ A9.out).mono ?_;rintro e w18 ⟨rfl,hb⟩;refine ⟨_,rfl,?_⟩;replace HB:=bS_ HB hb
          (try clear hb)
          refine hK.out _ _ ⟨((HB.out.cell (wb_ w _ hw147_0)).trans hw147_0),((HB.out.cell (wb_ w _ hw147_1)).trans hw147_1),((HB.out.cell (wb_ w _ hw147_2)).trans hw147_2),((HB.out.cell (wb_ w _ hw147_3)).trans hw147_3),((HB.out.cell (wb_ w _ hw149_0)).trans hw149_0),((HB.out.cell (wb_ w _ hw149_1)).trans hw149_1),((HB.out.cell (wb_ w _ hw149_2)).trans hw149_2),((HB.out.cell (wb_ w _ hw149_3)).trans hw149_3),((HB.out.cell (wb_ w _ hw151_0)).trans hw151_0),((HB.out.cell (wb_ w _ hw151_1)).trans hw151_1),((HB.out.cell (wb_ w _ hw151_2)).trans hw151_2),((HB.out.cell (wb_ w _ hw151_3)).trans hw151_3),((HB.out.cell (wb_ w _ hw153_0)).trans hw153_0),((HB.out.cell (wb_ w _ hw153_1)).trans hw153_1),((HB.out.cell (wb_ w _ hw153_2)).trans hw153_2),((HB.out.cell (wb_ w _ hw153_3)).trans hw153_3)⟩ (fun hHeld => ?_);clear hK K;refine nX_ (some 24) ?_
          refine pU_ 7 (some 25) ?_
          refine oN_ 13 (some 31) (fun K hK => ?_);refine gs_ Try.func80 #[.int .i64 ((rd_T127 l0 x5_1).f1)] ?_;with_reducible refine (spec_l01Var.calls k1 ((rd_T127 l0 x5_1).f1) t150 _ A11.out).mono ?_;rintro e w19 ⟨rfl,hb⟩;refine ⟨_,rfl,?_⟩;replace HB:=bS_ HB hb
          (try clear hb)
          refine hK.out _ _ ⟨((HB.out.cell (wb_ w _ hw147_0)).trans hw147_0),((HB.out.cell (wb_ w _ hw147_1)).trans hw147_1),((HB.out.cell (wb_ w _ hw147_2)).trans hw147_2),((HB.out.cell (wb_ w _ hw147_3)).trans hw147_3),((HB.out.cell (wb_ w _ hw149_0)).trans hw149_0),((HB.out.cell (wb_ w _ hw149_1)).trans hw149_1),((HB.out.cell (wb_ w _ hw149_2)).trans hw149_2),((HB.out.cell (wb_ w _ hw149_3)).trans hw149_3),((HB.out.cell (wb_ w _ hw151_0)).trans hw151_0),((HB.out.cell (wb_ w _ hw151_1)).trans hw151_1),((HB.out.cell (wb_ w _ hw151_2)).trans hw151_2),((HB.out.cell (wb_ w _ hw151_3)).trans hw151_3),((HB.out.cell (wb_ w _ hw153_0)).trans hw153_0),((HB.out.cell (wb_ w _ hw153_1)).trans hw153_1),((HB.out.cell (wb_ w _ hw153_2)).trans hw153_2),((HB.out.cell (wb_ w _ hw153_3)).trans hw153_3)⟩ (fun hHeld => ?_);clear hK K;refine nX_ (some 31) ?_
          refine pU_ 14 (some 32) ?_
          refine oN_ 20 (some 38) (fun K hK => ?_);refine gs_ Try.func80 #[.int .i64 ((rd_T127 l0 x5_1).f2)] ?_;with_reducible refine (spec_l01Var.calls k1 ((rd_T127 l0 x5_1).f2) t152 _ A13.out).mono ?_;rintro e w20 ⟨rfl,hb⟩;refine ⟨_,rfl,?_⟩;replace HB:=bS_ HB hb
          (try clear hb)
          refine hK.out _ _ ⟨((HB.out.cell (wb_ w _ hw147_0)).trans hw147_0),((HB.out.cell (wb_ w _ hw147_1)).trans hw147_1),((HB.out.cell (wb_ w _ hw147_2)).trans hw147_2),((HB.out.cell (wb_ w _ hw147_3)).trans hw147_3),((HB.out.cell (wb_ w _ hw149_0)).trans hw149_0),((HB.out.cell (wb_ w _ hw149_1)).trans hw149_1),((HB.out.cell (wb_ w _ hw149_2)).trans hw149_2),((HB.out.cell (wb_ w _ hw149_3)).trans hw149_3),((HB.out.cell (wb_ w _ hw151_0)).trans hw151_0),((HB.out.cell (wb_ w _ hw151_1)).trans hw151_1),((HB.out.cell (wb_ w _ hw151_2)).trans hw151_2),((HB.out.cell (wb_ w _ hw151_3)).trans hw151_3),((HB.out.cell (wb_ w _ hw153_0)).trans hw153_0),((HB.out.cell (wb_ w _ hw153_1)).trans hw153_1),((HB.out.cell (wb_ w _ hw153_2)).trans hw153_2),((HB.out.cell (wb_ w _ hw153_3)).trans hw153_3)⟩ (fun hHeld => ?_);clear hK K;refine nX_ (some 38) ?_
          refine pU_ 21 (some 39) ?_
          refine oN_ 27 (some 45) (fun K hK => ?_);refine gs_ Try.func80 #[.int .i64 ((rd_T127 l0 x5_1).f3)] ?_;with_reducible refine (spec_l01Var.calls k1 ((rd_T127 l0 x5_1).f3) t154 _ A15.out).mono ?_;rintro e w21 ⟨rfl,hb⟩;refine ⟨_,rfl,?_⟩;replace HB:=bS_ HB hb
          (try clear hb)
          refine hK.out _ _ ⟨((HB.out.cell (wb_ w _ hw147_0)).trans hw147_0),((HB.out.cell (wb_ w _ hw147_1)).trans hw147_1),((HB.out.cell (wb_ w _ hw147_2)).trans hw147_2),((HB.out.cell (wb_ w _ hw147_3)).trans hw147_3),((HB.out.cell (wb_ w _ hw149_0)).trans hw149_0),((HB.out.cell (wb_ w _ hw149_1)).trans hw149_1),((HB.out.cell (wb_ w _ hw149_2)).trans hw149_2),((HB.out.cell (wb_ w _ hw149_3)).trans hw149_3),((HB.out.cell (wb_ w _ hw151_0)).trans hw151_0),((HB.out.cell (wb_ w _ hw151_1)).trans hw151_1),((HB.out.cell (wb_ w _ hw151_2)).trans hw151_2),((HB.out.cell (wb_ w _ hw151_3)).trans hw151_3),((HB.out.cell (wb_ w _ hw153_0)).trans hw153_0),((HB.out.cell (wb_ w _ hw153_1)).trans hw153_1),((HB.out.cell (wb_ w _ hw153_2)).trans hw153_2),((HB.out.cell (wb_ w _ hw153_3)).trans hw153_3)⟩ (fun hHeld => ?_);clear hK K;refine nX_ (some 45) ?_
          refine pU_ 28 (some 46) ?_
          refine pU_ 29 (some 4) ?_
          refine done_ (done_of HT_.out (by kernel_rfl)) ?_
          try go_wp2
          go_roundg k1
          case measure => have:=HK1.out;omega
          case rel => exact ⟨((((x4_1 ++ t148) ++ t150) ++ t152) ++ t154),(wrap64 (x5_1 + 1)),(by first|rfl|(simp;done)|(simp [*];done)),(by first|rfl|(simp;done)|(simp [*];done)),H',⟨by have:=HK1.out;omega⟩,⟨bq_ HB⟩⟩
         ·rw [if_neg c16] at H;exact absurd H (by simp)
        ·rw [if_neg c14] at H;exact absurd H (by simp)
       ·rw [if_neg c12] at H;exact absurd H (by simp)
      ·rw [if_neg c10] at H;exact absurd H (by simp)
     ·rw [if_neg c8] at H;exact absurd H (by simp)
    ·rw [if_neg c7] at H;have c7b0 : decide (x5_1 < (l0.length : Int)) = false:=decide_eq_false c7;clear c7;replace H:=ob_.mp H;obtain ⟨⟨t145,t146⟩,A220,H⟩:=H;(try dsimp only at H);have A22:=A_ A220;clear A220;simp only [Option.some.injEq,Prod.mk.injEq] at H;obtain ⟨rfl,rfl⟩:=H
     go_wp2_with (first|((with_reducible refine gate_callee (f:=155) rfl ?_);refine gL_ (some 48) Try.func155 #[.string x4_1] ?_;(with_reducible refine (spec_Sealed.calls k1 x4_1 t145 t146 _ A22.out).mono ?_);rintro e w23 ⟨rfl,hb⟩;refine ⟨_,rfl,?_⟩;replace HB:=bS_ HB hb;(try clear hb)))
     go_ret2;exact ⟨ex_,bq_ HB⟩
 ·replace c3:=Bool.eq_false_iff.mpr c3;subst c3
  have H1 : (some ((⟨#[]⟩ : ByteArray),false)) = some (r1,r2):=by rw [if_neg (show ¬ (false = true) by decide)] at H;exact H
  clear H;have H:=H1;clear H1;simp only [Option.some.injEq,Prod.mk.injEq] at H;obtain ⟨rfl,rfl⟩:=H;go_enter Try.func108,Try.ntmps108
  go_wp2_with (first|((with_reducible refine gate_callee (f:=120) rfl ?_);refine gL_ (some 7) Try.func120 #[.slice A0 l0.length c0] ?_;(with_reducible refine (spec_DirOk.calls k _ _ l0 false _ ?side1 ?side2 A2.out).mono ?_);(case side1 => repeat (first|exact HR0.out|(with_reducible refine Kd.C_alloc ?_ _)|(with_reducible refine Kd.C_drewN ?_ _)|(with_reducible refine Kd.C_drew ?_)));(case side2 => exact HC0.out);rintro e w24 ⟨rfl,hb⟩;refine ⟨_,rfl,?_⟩;replace HB:=bS_ HB hb;(try clear hb)))
  go_ret2;exact ⟨ex_,bq_ HB⟩
end Go.Proofs.Ytgpafelepkhdoaa.PFnExactReadHint
