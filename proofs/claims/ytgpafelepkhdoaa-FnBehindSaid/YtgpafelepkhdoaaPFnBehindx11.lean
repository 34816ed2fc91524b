/- The contracts of the Go functions that this law reaches: what each call returns, by a plain Lean function of its arguments. No conditions but those each contract names. By the kit's print.py, run by this session's wip/gen/pp.py with facts and hand proofs beside it: not to the letter what print.sh prints. -/
import Derived.Test.YtgpafelepkhdoaaPFnBehindx0
import Derived.Test.YtgpafelepkhdoaaPFnBehindx1
import Derived.Test.YtgpafelepkhdoaaPFnBehindx6
import Derived.Test.YtgpafelepkhdoaaPFnBehindx7
import Derived.Test.YtgpafelepkhdoaaPFnBehindx10
namespace Go.Proofs.Ytgpafelepkhdoaa.PFnBehind
open Go.RowKit Go.Proofs.YtgpafelepkhdoaaW.PrintWords Go.Proofs.YtgpafelepkhdoaaW.PrintLast Go.Proofs.YtgpafelepkhdoaaW.PrintMore
attribute [local go_sem] max2_int min2_int max_two min_two max_three min_three max_four min_four
set_option linter.unusedVariables false
set_option linter.unusedSimpArgs false
attribute [local go_sem high] eqA31
def spec_l01Below.f (s0_0 : List Int) (s0_1 : Int) (s0_2 : Int) (a1 : Int) : Option (Int × Int × Int) := if a1 ≤ 0 then (some (0, s0_1, s0_2)) else (if a1 ≤ 256 then ((spec_l01Byte.f s0_0 s0_1 s0_2).bind fun bt230 => (if a1 = 0 then (none) else (some (Int.tmod bt230.1 a1, bt230.2.1, bt230.2.2)))) else ((spec_l01Byte.f s0_0 s0_1 s0_2).bind fun bt233 => ((spec_l01Byte.f s0_0 bt233.2.1 bt233.2.2).bind fun bt236 => ((spec_l01Byte.f s0_0 bt236.2.1 bt236.2.2).bind fun bt239 => ((spec_l01Byte.f s0_0 bt239.2.1 bt239.2.2).bind fun bt242 => (if a1 = 0 then (none) else (some (Int.tmod (wrap64 ((wrap64 ((wrap64 ((wrap64 (bt233.1 * 16777216)) + (wrap64 (bt236.1 * 65536)))) + (wrap64 (bt239.1 * 256)))) + bt242.1)) a1, bt242.2.1, bt242.2.2))))))))
set_option maxHeartbeats 8000000 in
set_option maxRecDepth 100000 in
theorem spec_l01Below.calls (g : Nat) (s0_0 : List Int) (s0_1 : Int) (s0_2 : Int) (a1 : Int) (r1 : Int) (r2 : Int) (r3 : Int) (w0 w : World) (hI : IsS155 w0 w g s0_0 s0_1 s0_2) (hB : Below w0.heap.size w0 w) (h : spec_l01Below.f s0_0 s0_1 s0_2 a1 = some (r1, r2, r3)) :
  Calls Try.prog 71 #[.pointer (some ⟨g,0,none⟩),.int .i64 a1] w fun e w' => e = .returned (.int .i64 r1) ∧ IsS155 w0 w' g s0_0 r2 r3 ∧ Below w0.heap.size w0 w' ∧ KeepBut w w' g none:=by
 have HI0:=A_ hI;have HK:=A_ (KeepBut.refl w g none);have HL:=A_ hB.size;clear hI;have HW0:=A_ hB.size;have HB:=A_ hB;clear hB;have H : (if a1 ≤ 0 then (some (0,s0_1,s0_2)) else (if a1 ≤ 256 then ((spec_l01Byte.f s0_0 s0_1 s0_2).bind fun bt230 => (if a1 = 0 then (none) else (some (Int.tmod bt230.1 a1,bt230.2.1,bt230.2.2)))) else ((spec_l01Byte.f s0_0 s0_1 s0_2).bind fun bt233 => ((spec_l01Byte.f s0_0 bt233.2.1 bt233.2.2).bind fun bt236 => ((spec_l01Byte.f s0_0 bt236.2.1 bt236.2.2).bind fun bt239 => ((spec_l01Byte.f s0_0 bt239.2.1 bt239.2.2).bind fun bt242 => (if a1 = 0 then (none) else (some (Int.tmod (wrap64 ((wrap64 ((wrap64 ((wrap64 (bt233.1 * 16777216)) + (wrap64 (bt236.1 * 65536)))) + (wrap64 (bt239.1 * 256)))) + bt242.1)) a1,bt242.2.1,bt242.2.2))))))))) = some (r1,r2,r3):=h;clear h
 by_cases c3 : a1 ≤ 0
 ·rw [if_pos c3] at H;have c3b0 : decide (a1 ≤ 0) = true:=de_ c3;clear c3;simp only [Option.some.injEq,Prod.mk.injEq] at H;obtain ⟨rfl,rfl,rfl⟩:=H;go_enter Try.func71,Try.ntmps71;go_wp2;go_ret;exact ⟨ex_,iq155_ HI0,bi_ HB (IsS155.ge HI0.out),hq_ HK⟩
 ·rw [if_neg c3] at H;have c3b0 : decide (a1 ≤ 0) = false:=decide_eq_false c3;clear c3
  by_cases c4 : a1 ≤ 256
  ·rw [if_pos c4] at H;have c4b0 : decide (a1 ≤ 256) = true:=de_ c4;clear c4;replace H:=ob_.mp H;obtain ⟨⟨t230,t231,t232⟩,A50,H⟩:=H;replace H : (if a1 = 0 then (none) else (some (Int.tmod t230 a1,t231,t232))) = some (r1,r2,r3):=H;have A5:=A_ A50;clear A50
   by_cases c6 : a1 = 0
   ·rw [if_pos c6] at H;exact absurd H (by simp)
   ·rw [if_neg c6] at H;have c6b0 : (a1 == 0) = false:=beq_eq_false_iff_ne.mpr c6;have c6b1 : (a1 != 0) = true:=bne_iff_ne.mpr c6;simp only [Option.some.injEq,Prod.mk.injEq] at H;obtain ⟨rfl,rfl,rfl⟩:=H;go_enter Try.func71,Try.ntmps71
    go_wp2_with (first|((with_reducible refine gate_callee (f:=135) rfl ?_);refine goesL_ (some 14) rfl rfl Try.func135 (by kernel_rfl) rfl #[.pointer (some ⟨g,0,none⟩)] rfl aq_ ?_;(with_reducible refine (spec_l01Byte.calls g s0_0 s0_1 s0_2 t230 t231 t232 w0 _ ?side1 ?side2 A5.out).mono ?_);(case side1 => exact iq155_ HI0);(case side2 => exact bi_ HB (IsS155.ge HI0.out));rintro e w7 ⟨rfl,hi,hb,hk⟩;refine ⟨_,rfl,?_⟩;replace HK:=A_ (KeepBut.trans (hq_ HK) hk (.inl rfl));replace HB:=A_ (hb);replace HI0:=A_ (hi);(try clear hb);(try clear hb2);(try clear hk);(try clear hi)))
    go_ret;exact ⟨ex_,iq155_ HI0,bi_ HB (IsS155.ge HI0.out),hq_ HK⟩
  ·rw [if_neg c4] at H;have c4b0 : decide (a1 ≤ 256) = false:=decide_eq_false c4;clear c4;replace H:=ob_.mp H;obtain ⟨⟨t233,t234,t235⟩,A80,H⟩:=H;replace H : ((spec_l01Byte.f s0_0 t234 t235).bind fun bt236 => ((spec_l01Byte.f s0_0 bt236.2.1 bt236.2.2).bind fun bt239 => ((spec_l01Byte.f s0_0 bt239.2.1 bt239.2.2).bind fun bt242 => (if a1 = 0 then (none) else (some (Int.tmod (wrap64 ((wrap64 ((wrap64 ((wrap64 (t233 * 16777216)) + (wrap64 (bt236.1 * 65536)))) + (wrap64 (bt239.1 * 256)))) + bt242.1)) a1,bt242.2.1,bt242.2.2)))))) = some (r1,r2,r3):=H;have A8:=A_ A80;clear A80;replace H:=ob_.mp H;obtain ⟨⟨t236,t237,t238⟩,A90,H⟩:=H;replace H : ((spec_l01Byte.f s0_0 t237 t238).bind fun bt239 => ((spec_l01Byte.f s0_0 bt239.2.1 bt239.2.2).bind fun bt242 => (if a1 = 0 then (none) else (some (Int.tmod (wrap64 ((wrap64 ((wrap64 ((wrap64 (t233 * 16777216)) + (wrap64 (t236 * 65536)))) + (wrap64 (bt239.1 * 256)))) + bt242.1)) a1,bt242.2.1,bt242.2.2))))) = some (r1,r2,r3):=H;have A9:=A_ A90;clear A90;replace H:=ob_.mp H;obtain ⟨⟨t239,t240,t241⟩,A100,H⟩:=H;replace H : ((spec_l01Byte.f s0_0 t240 t241).bind fun bt242 => (if a1 = 0 then (none) else (some (Int.tmod (wrap64 ((wrap64 ((wrap64 ((wrap64 (t233 * 16777216)) + (wrap64 (t236 * 65536)))) + (wrap64 (t239 * 256)))) + bt242.1)) a1,bt242.2.1,bt242.2.2)))) = some (r1,r2,r3):=H;have A10:=A_ A100;clear A100;replace H:=ob_.mp H;obtain ⟨⟨t242,t243,t244⟩,A110,H⟩:=H;replace H : (if a1 = 0 then (none) else (some (Int.tmod (wrap64 ((wrap64 ((wrap64 ((wrap64 (t233 * 16777216)) + (wrap64 (t236 * 65536)))) + (wrap64 (t239 * 256)))) + t242)) a1,t243,t244))) = some (r1,r2,r3):=H;have A11:=A_ A110;clear A110
   by_cases c12 : a1 = 0
   ·rw [if_pos c12] at H;exact absurd H (by simp)
   ·rw [if_neg c12] at H;have c12b0 : (a1 == 0) = false:=beq_eq_false_iff_ne.mpr c12;have c12b1 : (a1 != 0) = true:=bne_iff_ne.mpr c12;simp only [Option.some.injEq,Prod.mk.injEq] at H;obtain ⟨rfl,rfl,rfl⟩:=H;go_enter Try.func71,Try.ntmps71
    go_wp2_with (first|((with_reducible refine gate_callee (f:=135) rfl ?_);refine goesL_ (some 18) rfl rfl Try.func135 (by kernel_rfl) rfl #[.pointer (some ⟨g,0,none⟩)] rfl aq_ ?_;(with_reducible refine (spec_l01Byte.calls g s0_0 s0_1 s0_2 t233 t234 t235 w0 _ ?side1 ?side2 A8.out).mono ?_);(case side1 => exact iq155_ HI0);(case side2 => exact bi_ HB (IsS155.ge HI0.out));rintro e w13 ⟨rfl,hi,hb,hk⟩;refine ⟨_,rfl,?_⟩;replace HK:=A_ (KeepBut.trans (hq_ HK) hk (.inl rfl));replace HB:=A_ (hb);replace HI0:=A_ (hi);(try clear hb);(try clear hb2);(try clear hk);(try clear hi))|((with_reducible refine gate_callee (f:=135) rfl ?_);refine goesL_ (some 20) rfl rfl Try.func135 (by kernel_rfl) rfl #[.pointer (some ⟨g,0,none⟩)] rfl aq_ ?_;(with_reducible refine (spec_l01Byte.calls g s0_0 t234 t235 t236 t237 t238 w0 _ ?side1 ?side2 A9.out).mono ?_);(case side1 => exact iq155_ HI0);(case side2 => exact bi_ HB (IsS155.ge HI0.out));rintro e w14 ⟨rfl,hi,hb,hk⟩;refine ⟨_,rfl,?_⟩;replace HK:=A_ (KeepBut.trans (hq_ HK) hk (.inl rfl));replace HB:=A_ (hb);replace HI0:=A_ (hi);(try clear hb);(try clear hb2);(try clear hk);(try clear hi))|((with_reducible refine gate_callee (f:=135) rfl ?_);refine goesL_ (some 22) rfl rfl Try.func135 (by kernel_rfl) rfl #[.pointer (some ⟨g,0,none⟩)] rfl aq_ ?_;(with_reducible refine (spec_l01Byte.calls g s0_0 t237 t238 t239 t240 t241 w0 _ ?side1 ?side2 A10.out).mono ?_);(case side1 => exact iq155_ HI0);(case side2 => exact bi_ HB (IsS155.ge HI0.out));rintro e w15 ⟨rfl,hi,hb,hk⟩;refine ⟨_,rfl,?_⟩;replace HK:=A_ (KeepBut.trans (hq_ HK) hk (.inl rfl));replace HB:=A_ (hb);replace HI0:=A_ (hi);(try clear hb);(try clear hb2);(try clear hk);(try clear hi))|((with_reducible refine gate_callee (f:=135) rfl ?_);refine goesL_ (some 24) rfl rfl Try.func135 (by kernel_rfl) rfl #[.pointer (some ⟨g,0,none⟩)] rfl aq_ ?_;(with_reducible refine (spec_l01Byte.calls g s0_0 t240 t241 t242 t243 t244 w0 _ ?side1 ?side2 A11.out).mono ?_);(case side1 => exact iq155_ HI0);(case side2 => exact bi_ HB (IsS155.ge HI0.out));rintro e w16 ⟨rfl,hi,hb,hk⟩;refine ⟨_,rfl,?_⟩;replace HK:=A_ (KeepBut.trans (hq_ HK) hk (.inl rfl));replace HB:=A_ (hb);replace HI0:=A_ (hi);(try clear hb);(try clear hb2);(try clear hk);(try clear hi)))
    go_ret;exact ⟨ex_,iq155_ HI0,bi_ HB (IsS155.ge HI0.out),hq_ HK⟩
def spec_l01Once.f (s0_0 : List Int) (s0_1 : Int) (s0_2 : Int) (a1 : Int) : Option (Bool × Int × Int) := (spec_l01Below.f s0_0 s0_1 s0_2 a1).bind fun bt245 => (some ((bt245.1 == 0), bt245.2.1, bt245.2.2))
set_option maxHeartbeats 8000000 in
set_option maxRecDepth 100000 in
theorem spec_l01Once.calls (g : Nat) (s0_0 : List Int) (s0_1 : Int) (s0_2 : Int) (a1 : Int) (r1 : Bool) (r2 : Int) (r3 : Int) (w0 w : World) (hI : IsS155 w0 w g s0_0 s0_1 s0_2) (hB : Below w0.heap.size w0 w) (h : spec_l01Once.f s0_0 s0_1 s0_2 a1 = some (r1, r2, r3)) :
  Calls Try.prog 72 #[.pointer (some ⟨g,0,none⟩),.int .i64 a1] w fun e w' => e = .returned (.bool r1) ∧ IsS155 w0 w' g s0_0 r2 r3 ∧ Below w0.heap.size w0 w' ∧ KeepBut w w' g none:=by
 have HI0:=A_ hI;have HK:=A_ (KeepBut.refl w g none);have HL:=A_ hB.size;clear hI;have HW0:=A_ hB.size;have HB:=A_ hB;clear hB;have H : ((spec_l01Below.f s0_0 s0_1 s0_2 a1).bind fun bt245 => (some ((bt245.1 == 0),bt245.2.1,bt245.2.2))) = some (r1,r2,r3):=h;clear h;replace H:=ob_.mp H;obtain ⟨⟨t245,t246,t247⟩,A30,H⟩:=H;replace H : (some ((t245 == 0),t246,t247)) = some (r1,r2,r3):=H;have A3:=A_ A30;clear A30;simp only [Option.some.injEq,Prod.mk.injEq] at H;obtain ⟨rfl,rfl,rfl⟩:=H;go_enter Try.func72,Try.ntmps72
 go_wp2_with (first|((with_reducible refine gate_callee (f:=71) rfl ?_);refine goesL_ (some 7) rfl rfl Try.func71 (by kernel_rfl) rfl #[.pointer (some ⟨g,0,none⟩),.int .i64 a1] rfl aq_ ?_;(with_reducible refine (spec_l01Below.calls g s0_0 s0_1 s0_2 a1 t245 t246 t247 w0 _ ?side1 ?side2 A3.out).mono ?_);(case side1 => exact iq155_ HI0);(case side2 => exact bi_ HB (IsS155.ge HI0.out));rintro e w4 ⟨rfl,hi,hb,hk⟩;refine ⟨_,rfl,?_⟩;replace HK:=A_ (KeepBut.trans (hq_ HK) hk (.inl rfl));replace HB:=A_ (hb);replace HI0:=A_ (hi);(try clear hb);(try clear hb2);(try clear hk);(try clear hi)))
 go_ret;exact ⟨ex_,iq155_ HI0,bi_ HB (IsS155.ge HI0.out),hq_ HK⟩
def spec_l01PickInt.f (s0_0 : List Int) (s0_1 : Int) (s0_2 : Int) (l1 : List Int) : Option (Int × Int × Int) := (spec_l01Below.f s0_0 s0_1 s0_2 (l1.length : Int)).bind fun bt248 => (if 0 ≤ bt248.1 then (if bt248.1 < (l1.length : Int) then (some (rd l1 bt248.1, bt248.2.1, bt248.2.2)) else (none)) else (none))
set_option maxHeartbeats 8000000 in
set_option maxRecDepth 100000 in
theorem spec_l01PickInt.calls (g : Nat) (s0_0 : List Int) (s0_1 : Int) (s0_2 : Int) (A1 : Option Addr) (c1 : Nat) (l1 : List Int) (r1 : Int) (r2 : Int) (r3 : Int) (w0 w : World) (hI : IsS155 w0 w g s0_0 s0_1 s0_2) (hB : Below w0.heap.size w0 w) (hr1 : Kd.C (Kd.int .i64) w A1 l1.length l1) (hc1 : l1.length ≤ c1) (hf1 : ∀ ad, A1 = some ad → 0 < l1.length → ad.block ≠ g) (h : spec_l01PickInt.f s0_0 s0_1 s0_2 l1 = some (r1, r2, r3)) :
  Calls Try.prog 73 #[.pointer (some ⟨g,0,none⟩),.slice A1 l1.length c1] w fun e w' => e = .returned (.int .i64 r1) ∧ IsS155 w0 w' g s0_0 r2 r3 ∧ Below w0.heap.size w0 w' ∧ KeepBut w w' g none:=by
 have HR1:=A_ hr1;have HC1:=A_ hc1;clear hr1 hc1;have HI0:=A_ hI;have HK:=A_ (KeepBut.refl w g none);have HL:=A_ hB.size;clear hI;have HW0:=A_ hB.size;have HB:=A_ hB;clear hB;have H : ((spec_l01Below.f s0_0 s0_1 s0_2 (l1.length : Int)).bind fun bt248 => (if 0 ≤ bt248.1 then (if bt248.1 < (l1.length : Int) then (some (rd l1 bt248.1,bt248.2.1,bt248.2.2)) else (none)) else (none))) = some (r1,r2,r3):=h;clear h;replace H:=ob_.mp H;obtain ⟨⟨t248,t249,t250⟩,A30,H⟩:=H;replace H : (if 0 ≤ t248 then (if t248 < (l1.length : Int) then (some (rd l1 t248,t249,t250)) else (none)) else (none)) = some (r1,r2,r3):=H;have A3:=A_ A30;clear A30
 by_cases c4 : 0 ≤ t248
 ·rw [if_pos c4] at H;have c4b0 : decide (0 ≤ t248) = true:=de_ c4;clear c4
  by_cases c5 : t248 < (l1.length : Int)
  ·rw [if_pos c5] at H;have c5b0 : decide (t248 < (l1.length : Int)) = true:=de_ c5;clear c5;simp only [Option.some.injEq,Prod.mk.injEq] at H;obtain ⟨rfl,rfl,rfl⟩:=H;go_enter Try.func73,Try.ntmps73
   go_wp2_with (first|((with_reducible refine gate_callee (f:=71) rfl ?_);refine goesL_ (some 9) rfl rfl Try.func71 (by kernel_rfl) rfl #[.pointer (some ⟨g,0,none⟩),.int .i64 (l1.length : Int)] rfl aq_ ?_;(with_reducible refine (spec_l01Below.calls g s0_0 s0_1 s0_2 (l1.length : Int) t248 t249 t250 w0 _ ?side1 ?side2 A3.out).mono ?_);(case side1 => exact iq155_ HI0);(case side2 => exact bi_ HB (IsS155.ge HI0.out));rintro e w6 ⟨rfl,hi,hb,hk⟩;refine ⟨_,rfl,?_⟩;replace HK:=A_ (KeepBut.trans (hq_ HK) hk (.inl rfl));replace HB:=A_ (hb);replace HI0:=A_ (hi);(try clear hb);(try clear hb2);(try clear hk);(try clear hi);have p251 : 0 ≤ (t248 : Int):=oda_;have q251 : t248 < (l1.length : Int):=oda_;obtain ⟨ad251,e251,hx251_0⟩:=Kd.at_int HR1.out t248 p251 q251;cases e251;replace hx251_0:=keep_cell HK.out hx251_0 (by first|(rw [add_block];exact hf1 _ rfl (by omega))|exact hf1 _ rfl (by omega)|exact hf1 ad251 rfl (by omega));replace p251:=eq_true p251;replace q251:=eq_true q251))
   go_ret;exact ⟨ex_,iq155_ HI0,bi_ HB (IsS155.ge HI0.out),hq_ HK⟩
  ·rw [if_neg c5] at H;exact absurd H (by simp)
 ·rw [if_neg c4] at H;exact absurd H (by simp)
mutual
def spec_CommandOk.j0 : Nat → Bool → Int → Int → Int → ByteArray → ByteArray → ByteArray → Option (Bool)
 | 0,_,_,_,_,_,_,_ => none
 | k + 1,x30,x253000,x253001,x253002,x253003,x253004,x253005 => if x30 = true then (some false) else (if x253000 = 1 then (some (x253000 == 1 && (x253001 == 0 && (x253002 == 0 && (x253003.toList == ([] : List UInt8) && (x253004.toList == ([] : List UInt8) && (x253005.toList == ([] : List UInt8)))))))) else ((spec_l01In.f (x253003.size : Int) 1 9).bind fun t256 => (if t256 = true then (if x253000 = 2 then (spec_CommandOk.j1 k x253000 (x253000 == 2) x253000 x253001 x253002 x253003 x253004 x253005) else (spec_CommandOk.j1 k x253000 (x253000 == 4) x253000 x253001 x253002 x253003 x253004 x253005)) else (some false))))
def spec_CommandOk.j1 : Nat → Int → Bool → Int → Int → Int → ByteArray → ByteArray → ByteArray → Option (Bool)
 | 0,_,_,_,_,_,_,_,_ => none
 | k + 1,x43,x44,x253000,x253001,x253002,x253003,x253004,x253005 => if x44 = true then (if x253004.toList = ([] : List UInt8) then (some (x253005.toList == ([] : List UInt8))) else (some false)) else (if x43 = 3 then (some (x253005.toList == ([] : List UInt8))) else (some true))
end
def spec_CommandOk.f (k : Nat) (a0_0 : Int) (a0_1 : Int) (a0_2 : Int) (a0_3 : ByteArray) (a0_4 : ByteArray) (a0_5 : ByteArray) : Option (Bool) := (spec_l01In.f a0_0 1 5).bind fun t253 => (if t253 = true then ((spec_l01In.f a0_1 0 100000).bind fun t254 => (if t254 = true then ((spec_l01In.f a0_2 0 100000).bind fun t255 => (if t255 = true then (if (a0_4.size : Int) > 12 then (spec_CommandOk.j0 k true a0_0 a0_1 a0_2 a0_3 a0_4 a0_5) else (spec_CommandOk.j0 k (decide ((a0_5.size : Int) > 12)) a0_0 a0_1 a0_2 a0_3 a0_4 a0_5)) else (spec_CommandOk.j0 k true a0_0 a0_1 a0_2 a0_3 a0_4 a0_5))) else (spec_CommandOk.j0 k true a0_0 a0_1 a0_2 a0_3 a0_4 a0_5))) else (spec_CommandOk.j0 k true a0_0 a0_1 a0_2 a0_3 a0_4 a0_5))
theorem spec_CommandOk.mono_l : ∀ k, (∀ y0 y1 y2 y3 y4 y5 y6, LeO (spec_CommandOk.j0 k y0 y1 y2 y3 y4 y5 y6) (spec_CommandOk.j0 (k + 1) y0 y1 y2 y3 y4 y5 y6)) ∧ (∀ y0 y1 y2 y3 y4 y5 y6 y7, LeO (spec_CommandOk.j1 k y0 y1 y2 y3 y4 y5 y6 y7) (spec_CommandOk.j1 (k + 1) y0 y1 y2 y3 y4 y5 y6 y7))
 | 0 => ⟨fun _ _ _ _ _ _ _ r h => by simp [spec_CommandOk.j0] at h,fun _ _ _ _ _ _ _ _ r h => by simp [spec_CommandOk.j1] at h⟩
 | k + 1 => by
  obtain ⟨ih0,ih1⟩:=spec_CommandOk.mono_l k;refine ⟨?_,?_⟩
  ·intro y0 y1 y2 y3 y4 y5 y6
   unfold spec_CommandOk.j0
   repeat' first
   | (with_reducible exact ih0 _ _ _ _ _ _ _)
   | (with_reducible exact ih1 _ _ _ _ _ _ _ _)
   | (with_reducible exact LeO.refl _)
   | (with_reducible exact LeO.none _)
   | (with_reducible refine LeO.ite ?_ ?_)
   | (with_reducible refine LeO.bind ?_ (fun _ => ?_))
  ·intro y0 y1 y2 y3 y4 y5 y6 y7
   unfold spec_CommandOk.j1
   repeat' first
   | (with_reducible exact ih0 _ _ _ _ _ _ _)
   | (with_reducible exact ih1 _ _ _ _ _ _ _ _)
   | (with_reducible exact LeO.refl _)
   | (with_reducible exact LeO.none _)
   | (with_reducible refine LeO.ite ?_ ?_)
   | (with_reducible refine LeO.bind ?_ (fun _ => ?_))
theorem spec_CommandOk.mono : ∀ a0 a1 a2 a3 a4 a5 k, LeO (spec_CommandOk.f k a0 a1 a2 a3 a4 a5) (spec_CommandOk.f (k + 1) a0 a1 a2 a3 a4 a5) := by
 intro a0 a1 a2 a3 a4 a5 k;obtain ⟨ih0,ih1⟩:=spec_CommandOk.mono_l k
 unfold spec_CommandOk.f
 repeat' first
   | (with_reducible exact ih0 _ _ _ _ _ _ _)
   | (with_reducible exact ih1 _ _ _ _ _ _ _ _)
   | (with_reducible exact LeO.refl _)
   | (with_reducible exact LeO.none _)
   | (with_reducible refine LeO.ite ?_ ?_)
   | (with_reducible refine LeO.bind ?_ (fun _ => ?_))
set_option maxHeartbeats 8000000 in
set_option maxRecDepth 100000 in
theorem spec_CommandOk.calls (k : Nat) (a0_0 : Int) (a0_1 : Int) (a0_2 : Int) (a0_3 : ByteArray) (a0_4 : ByteArray) (a0_5 : ByteArray) (r : Bool) (w : World) (h : spec_CommandOk.f k a0_0 a0_1 a0_2 a0_3 a0_4 a0_5 = some r) :
  Calls Try.prog 28 #[.agg #[.int .i64 a0_0,.int .i64 a0_1,.int .i64 a0_2,.string a0_3,.string a0_4,.string a0_5]] w fun e w' => e = .returned (.bool r) ∧ Below w.heap.size w w':=by
 have hu31:=Try.underlying31;have HB:=A_ (Below.refl w.heap.size w);have H : ((spec_l01In.f a0_0 1 5).bind fun t253 => (if t253 = true then ((spec_l01In.f a0_1 0 100000).bind fun t254 => (if t254 = true then ((spec_l01In.f a0_2 0 100000).bind fun t255 => (if t255 = true then (if (a0_4.size : Int) > 12 then (spec_CommandOk.j0 k true a0_0 a0_1 a0_2 a0_3 a0_4 a0_5) else (spec_CommandOk.j0 k (decide ((a0_5.size : Int) > 12)) a0_0 a0_1 a0_2 a0_3 a0_4 a0_5)) else (spec_CommandOk.j0 k true a0_0 a0_1 a0_2 a0_3 a0_4 a0_5))) else (spec_CommandOk.j0 k true a0_0 a0_1 a0_2 a0_3 a0_4 a0_5))) else (spec_CommandOk.j0 k true a0_0 a0_1 a0_2 a0_3 a0_4 a0_5))) = some r:=h;clear h;have HC2:=A_ H;clear H;go_enter Try.func28,Try.ntmps28
 go_upto_region 1 with (first|((with_reducible refine gate_dst (N:=1) rfl ?_);(try (refine gate_guard (by rfl) ?_;dsimp only));refine box_event ?hg (N:=1) ?hd (cs:=#[.int .i64 a0_0,.int .i64 a0_1,.int .i64 a0_2,.string a0_3,.string a0_4,.string a0_5]) (t:=31) ?hr ?_;(case hd => rfl);(case hg => rfl);(case hr => exact gx_);intro gb252 hg w3 hbox hb;have BK252:=A_ (hbox);have GW252:=A_ ((by rw [hg];exact (bz_ (bq_ HB)) : w.heap.size ≤ gb252));have GE252:=A_ ((by rw [hg];exact (bz_ (bq_ HB)) : w.heap.size ≤ gb252));replace HB:=A_ (bs_ (bq_ HB) hb);clear hb hbox hg))
 (try simp only [Act.put,s1_,s2_,s3_])
 go_cut [30] (fun v30 wc => ∃ (kq : Nat) (x30_1 : Bool),v30 = .bool x30_1 ∧ Aside0 (spec_CommandOk.j0 kq x30_1 a0_0 a0_1 a0_2 a0_3 a0_4 a0_5 = some r) ∧ Aside0 (kq ≤ k) ∧ Aside0 (wc.heap[gb252]? = some (.cells #[.int .i64 a0_0,.int .i64 a0_1,.int .i64 a0_2,.string a0_3,.string a0_4,.string a0_5] 31 (0,0))) ∧ Aside0 (Below w.heap.size w wc))
 case first =>
  have H:=HC2.out;clear HC2;replace H:=ob_.mp H;obtain ⟨t253,A40,H⟩:=H;replace H : (if t253 = true then ((spec_l01In.f a0_1 0 100000).bind fun t254 => (if t254 = true then ((spec_l01In.f a0_2 0 100000).bind fun t255 => (if t255 = true then (if (a0_4.size : Int) > 12 then (spec_CommandOk.j0 k true a0_0 a0_1 a0_2 a0_3 a0_4 a0_5) else (spec_CommandOk.j0 k (decide ((a0_5.size : Int) > 12)) a0_0 a0_1 a0_2 a0_3 a0_4 a0_5)) else (spec_CommandOk.j0 k true a0_0 a0_1 a0_2 a0_3 a0_4 a0_5))) else (spec_CommandOk.j0 k true a0_0 a0_1 a0_2 a0_3 a0_4 a0_5))) else (spec_CommandOk.j0 k true a0_0 a0_1 a0_2 a0_3 a0_4 a0_5)) = some r:=H;have A4:=A_ A40;clear A40
  by_cases c5 : t253 = true
  ·subst c5
   have H1 : ((spec_l01In.f a0_1 0 100000).bind fun t254 => (if t254 = true then ((spec_l01In.f a0_2 0 100000).bind fun t255 => (if t255 = true then (if (a0_4.size : Int) > 12 then (spec_CommandOk.j0 k true a0_0 a0_1 a0_2 a0_3 a0_4 a0_5) else (spec_CommandOk.j0 k (decide ((a0_5.size : Int) > 12)) a0_0 a0_1 a0_2 a0_3 a0_4 a0_5)) else (spec_CommandOk.j0 k true a0_0 a0_1 a0_2 a0_3 a0_4 a0_5))) else (spec_CommandOk.j0 k true a0_0 a0_1 a0_2 a0_3 a0_4 a0_5))) = some r:=by rw [if_pos rfl] at H;exact H
   clear H;have H:=H1;clear H1;replace H:=ob_.mp H;obtain ⟨t254,A60,H⟩:=H;replace H : (if t254 = true then ((spec_l01In.f a0_2 0 100000).bind fun t255 => (if t255 = true then (if (a0_4.size : Int) > 12 then (spec_CommandOk.j0 k true a0_0 a0_1 a0_2 a0_3 a0_4 a0_5) else (spec_CommandOk.j0 k (decide ((a0_5.size : Int) > 12)) a0_0 a0_1 a0_2 a0_3 a0_4 a0_5)) else (spec_CommandOk.j0 k true a0_0 a0_1 a0_2 a0_3 a0_4 a0_5))) else (spec_CommandOk.j0 k true a0_0 a0_1 a0_2 a0_3 a0_4 a0_5)) = some r:=H;have A6:=A_ A60;clear A60
   by_cases c7 : t254 = true
   ·subst c7
    have H1 : ((spec_l01In.f a0_2 0 100000).bind fun t255 => (if t255 = true then (if (a0_4.size : Int) > 12 then (spec_CommandOk.j0 k true a0_0 a0_1 a0_2 a0_3 a0_4 a0_5) else (spec_CommandOk.j0 k (decide ((a0_5.size : Int) > 12)) a0_0 a0_1 a0_2 a0_3 a0_4 a0_5)) else (spec_CommandOk.j0 k true a0_0 a0_1 a0_2 a0_3 a0_4 a0_5))) = some r:=by rw [if_pos rfl] at H;exact H
    clear H;have H:=H1;clear H1;replace H:=ob_.mp H;obtain ⟨t255,A80,H⟩:=H;replace H : (if t255 = true then (if (a0_4.size : Int) > 12 then (spec_CommandOk.j0 k true a0_0 a0_1 a0_2 a0_3 a0_4 a0_5) else (spec_CommandOk.j0 k (decide ((a0_5.size : Int) > 12)) a0_0 a0_1 a0_2 a0_3 a0_4 a0_5)) else (spec_CommandOk.j0 k true a0_0 a0_1 a0_2 a0_3 a0_4 a0_5)) = some r:=H;have A8:=A_ A80;clear A80
    by_cases c9 : t255 = true
    ·subst c9
     have H1 : (if (a0_4.size : Int) > 12 then (spec_CommandOk.j0 k true a0_0 a0_1 a0_2 a0_3 a0_4 a0_5) else (spec_CommandOk.j0 k (decide ((a0_5.size : Int) > 12)) a0_0 a0_1 a0_2 a0_3 a0_4 a0_5)) = some r:=by rw [if_pos rfl] at H;exact H
     clear H;have H:=H1;clear H1
     by_cases c10 : (a0_4.size : Int) > 12
     ·rw [if_pos c10] at H;have c10b0 : decide (12 < (a0_4.size : Int)) = true:=de_ c10;have c10b1 : decide (12 < a0_4.size) = true:=de_ (by omega);clear c10
      (first|rw [c10b0]|(simp only [i64_w,i32_w];rw [c10b0])|skip)
      have H':=A_ H;clear H;have hcz11_0:=kC_ BK252 0;have hcz11_1:=kC_ BK252 1;have hcz11_2:=kC_ BK252 2;have hcz11_3:=kC_ BK252 3;have hcz11_4:=kC_ BK252 4;have hcz11_5:=kC_ BK252 5;have hfz11_0:=kf_ BK252.out 0;have hfz11_1:=kf_ BK252.out 1;have hfz11_2:=kf_ BK252.out 2;have hfz11_3:=kf_ BK252.out 3;have hfz11_4:=kf_ BK252.out 4;have hfz11_5:=kf_ BK252.out 5
      go_wp2_with (first|((with_reducible refine gate_callee (f:=78) rfl ?_);refine goesL_ (some 5) rfl rfl Try.func78 (by kernel_rfl) rfl #[.int .i64 a0_0,.int .i64 1,.int .i64 5] rfl aq_ ?_;(with_reducible refine (spec_l01In.calls a0_0 1 5 true _ A4.out).mono ?_);rintro e w' ⟨rfl,⟨nd,rfl⟩⟩;refine ⟨_,rfl,?_⟩)|(go_at_call 78;(with_reducible refine (spec_l01In.calls a0_1 0 100000 true _ A6.out).mono ?_);rintro e w' ⟨rfl,⟨nd,rfl⟩⟩)|(go_at_call 78;(with_reducible refine (spec_l01In.calls a0_2 0 100000 true _ A8.out).mono ?_);rintro e w' ⟨rfl,⟨nd,rfl⟩⟩))
      go_meet
      case rel => exact ⟨_,(true),(by first|rfl|(simp;done)|(simp [*];done)),H',⟨by first|omega|exact Nat.le_refl _⟩,⟨kq_ BK252⟩,⟨bq_ HB⟩⟩
     ·rw [if_neg c10] at H;have c10b0 : decide (12 < (a0_4.size : Int)) = false:=decide_eq_false c10;have c10b1 : decide (12 < a0_4.size) = false:=decide_eq_false (by omega);clear c10
      (first|rw [c10b0]|(simp only [i64_w,i32_w];rw [c10b0])|skip)
      have H':=A_ H;clear H;have hcz12_0:=kC_ BK252 0;have hcz12_1:=kC_ BK252 1;have hcz12_2:=kC_ BK252 2;have hcz12_3:=kC_ BK252 3;have hcz12_4:=kC_ BK252 4;have hcz12_5:=kC_ BK252 5;have hfz12_0:=kf_ BK252.out 0;have hfz12_1:=kf_ BK252.out 1;have hfz12_2:=kf_ BK252.out 2;have hfz12_3:=kf_ BK252.out 3;have hfz12_4:=kf_ BK252.out 4;have hfz12_5:=kf_ BK252.out 5
      go_wp2_with (first|((with_reducible refine gate_callee (f:=78) rfl ?_);refine goesL_ (some 5) rfl rfl Try.func78 (by kernel_rfl) rfl #[.int .i64 a0_0,.int .i64 1,.int .i64 5] rfl aq_ ?_;(with_reducible refine (spec_l01In.calls a0_0 1 5 true _ A4.out).mono ?_);rintro e w' ⟨rfl,⟨nd,rfl⟩⟩;refine ⟨_,rfl,?_⟩)|(go_at_call 78;(with_reducible refine (spec_l01In.calls a0_1 0 100000 true _ A6.out).mono ?_);rintro e w' ⟨rfl,⟨nd,rfl⟩⟩)|(go_at_call 78;(with_reducible refine (spec_l01In.calls a0_2 0 100000 true _ A8.out).mono ?_);rintro e w' ⟨rfl,⟨nd,rfl⟩⟩))
      go_meet
      case rel => exact ⟨_,(decide ((a0_5.size : Int) > 12)),(by first|rfl|(simp;done)|(simp [*];done)),H',⟨by first|omega|exact Nat.le_refl _⟩,⟨kq_ BK252⟩,⟨bq_ HB⟩⟩
    ·replace c9:=Bool.eq_false_iff.mpr c9;subst c9
     have H1 : (spec_CommandOk.j0 k true a0_0 a0_1 a0_2 a0_3 a0_4 a0_5) = some r:=by rw [if_neg (show ¬ (false = true) by decide)] at H;exact H
     clear H;have H:=H1;clear H1;have H':=A_ H;clear H;have hcz13_0:=kC_ BK252 0;have hcz13_1:=kC_ BK252 1;have hcz13_2:=kC_ BK252 2;have hcz13_3:=kC_ BK252 3;have hcz13_4:=kC_ BK252 4;have hcz13_5:=kC_ BK252 5;have hfz13_0:=kf_ BK252.out 0;have hfz13_1:=kf_ BK252.out 1;have hfz13_2:=kf_ BK252.out 2;have hfz13_3:=kf_ BK252.out 3;have hfz13_4:=kf_ BK252.out 4;have hfz13_5:=kf_ BK252.out 5
     go_wp2_with (first|((with_reducible refine gate_callee (f:=78) rfl ?_);refine goesL_ (some 5) rfl rfl Try.func78 (by kernel_rfl) rfl #[.int .i64 a0_0,.int .i64 1,.int .i64 5] rfl aq_ ?_;(with_reducible refine (spec_l01In.calls a0_0 1 5 true _ A4.out).mono ?_);rintro e w' ⟨rfl,⟨nd,rfl⟩⟩;refine ⟨_,rfl,?_⟩)|(go_at_call 78;(with_reducible refine (spec_l01In.calls a0_1 0 100000 true _ A6.out).mono ?_);rintro e w' ⟨rfl,⟨nd,rfl⟩⟩)|(go_at_call 78;(with_reducible refine (spec_l01In.calls a0_2 0 100000 false _ A8.out).mono ?_);rintro e w' ⟨rfl,⟨nd,rfl⟩⟩))
     go_meet
     case rel => exact ⟨_,(true),(by first|rfl|(simp;done)|(simp [*];done)),H',⟨by first|omega|exact Nat.le_refl _⟩,⟨kq_ BK252⟩,⟨bq_ HB⟩⟩
   ·replace c7:=Bool.eq_false_iff.mpr c7;subst c7
    have H1 : (spec_CommandOk.j0 k true a0_0 a0_1 a0_2 a0_3 a0_4 a0_5) = some r:=by rw [if_neg (show ¬ (false = true) by decide)] at H;exact H
    clear H;have H:=H1;clear H1;have H':=A_ H;clear H;have hcz14_0:=kC_ BK252 0;have hcz14_1:=kC_ BK252 1;have hcz14_2:=kC_ BK252 2;have hcz14_3:=kC_ BK252 3;have hcz14_4:=kC_ BK252 4;have hcz14_5:=kC_ BK252 5;have hfz14_0:=kf_ BK252.out 0;have hfz14_1:=kf_ BK252.out 1;have hfz14_2:=kf_ BK252.out 2;have hfz14_3:=kf_ BK252.out 3;have hfz14_4:=kf_ BK252.out 4;have hfz14_5:=kf_ BK252.out 5
    go_wp2_with (first|((with_reducible refine gate_callee (f:=78) rfl ?_);refine goesL_ (some 5) rfl rfl Try.func78 (by kernel_rfl) rfl #[.int .i64 a0_0,.int .i64 1,.int .i64 5] rfl aq_ ?_;(with_reducible refine (spec_l01In.calls a0_0 1 5 true _ A4.out).mono ?_);rintro e w' ⟨rfl,⟨nd,rfl⟩⟩;refine ⟨_,rfl,?_⟩)|(go_at_call 78;(with_reducible refine (spec_l01In.calls a0_1 0 100000 false _ A6.out).mono ?_);rintro e w' ⟨rfl,⟨nd,rfl⟩⟩))
    go_meet
    case rel => exact ⟨_,(true),(by first|rfl|(simp;done)|(simp [*];done)),H',⟨by first|omega|exact Nat.le_refl _⟩,⟨kq_ BK252⟩,⟨bq_ HB⟩⟩
  ·replace c5:=Bool.eq_false_iff.mpr c5;subst c5
   have H1 : (spec_CommandOk.j0 k true a0_0 a0_1 a0_2 a0_3 a0_4 a0_5) = some r:=by rw [if_neg (show ¬ (false = true) by decide)] at H;exact H
   clear H;have H:=H1;clear H1;have H':=A_ H;clear H;have hcz15_0:=kC_ BK252 0;have hcz15_1:=kC_ BK252 1;have hcz15_2:=kC_ BK252 2;have hcz15_3:=kC_ BK252 3;have hcz15_4:=kC_ BK252 4;have hcz15_5:=kC_ BK252 5;have hfz15_0:=kf_ BK252.out 0;have hfz15_1:=kf_ BK252.out 1;have hfz15_2:=kf_ BK252.out 2;have hfz15_3:=kf_ BK252.out 3;have hfz15_4:=kf_ BK252.out 4;have hfz15_5:=kf_ BK252.out 5
   go_wp2_with (first|((with_reducible refine gate_callee (f:=78) rfl ?_);refine goesL_ (some 5) rfl rfl Try.func78 (by kernel_rfl) rfl #[.int .i64 a0_0,.int .i64 1,.int .i64 5] rfl aq_ ?_;(with_reducible refine (spec_l01In.calls a0_0 1 5 false _ A4.out).mono ?_);rintro e w' ⟨rfl,⟨nd,rfl⟩⟩;refine ⟨_,rfl,?_⟩))
   go_meet
   case rel => exact ⟨_,(true),(by first|rfl|(simp;done)|(simp [*];done)),H',⟨by first|omega|exact Nat.le_refl _⟩,⟨kq_ BK252⟩,⟨bq_ HB⟩⟩
 case rest =>
  clear HC2
  try clear c1
  try clear c2
  try clear p2
  try clear c5
  try clear c7
  try clear c9
  try clear c10
  try clear c10b0
  try clear c10b1
  try clear hcz11_0
  try clear hcz11_1
  try clear hcz11_2
  try clear hcz11_3
  try clear hcz11_4
  try clear hcz11_5
  try clear hcz12_0
  try clear hcz12_1
  try clear hcz12_2
  try clear hcz12_3
  try clear hcz12_4
  try clear hcz12_5
  try clear hcz13_0
  try clear hcz13_1
  try clear hcz13_2
  try clear hcz13_3
  try clear hcz13_4
  try clear hcz13_5
  try clear hcz14_0
  try clear hcz14_1
  try clear hcz14_2
  try clear hcz14_3
  try clear hcz14_4
  try clear hcz14_5
  try clear hcz15_0
  try clear hcz15_1
  try clear hcz15_2
  try clear hcz15_3
  try clear hcz15_4
  try clear hcz15_5
  try clear hfz11_0
  try clear hfz11_1
  try clear hfz11_2
  try clear hfz11_3
  try clear hfz11_4
  try clear hfz11_5
  try clear hfz12_0
  try clear hfz12_1
  try clear hfz12_2
  try clear hfz12_3
  try clear hfz12_4
  try clear hfz12_5
  try clear hfz13_0
  try clear hfz13_1
  try clear hfz13_2
  try clear hfz13_3
  try clear hfz13_4
  try clear hfz13_5
  try clear hfz14_0
  try clear hfz14_1
  try clear hfz14_2
  try clear hfz14_3
  try clear hfz14_4
  try clear hfz14_5
  try clear hfz15_0
  try clear hfz15_1
  try clear hfz15_2
  try clear hfz15_3
  try clear hfz15_4
  try clear hfz15_5
  obtain ⟨kq,x30_1,rfl,HA,HJ1,BK252,HB⟩:=hcut
  cases kq with
  | zero => exact absurd HA.out (by simp [spec_CommandOk.j0])
  | succ kj1 =>
   have H:=HA.out;clear HA;simp only [spec_CommandOk.j0] at H
   by_cases c16 : x30_1 = true
   ·subst c16
    have H1 : (some false) = some r:=by rw [if_pos rfl] at H;exact H
    clear H;have H:=H1;clear H1;obtain rfl:=Option.some.inj H;go_wp2;go_ret;exact ⟨ex_,bq_ HB⟩
   ·replace c16:=Bool.eq_false_iff.mpr c16;subst c16
    have H1 : (if a0_0 = 1 then (some (a0_0 == 1 && (a0_1 == 0 && (a0_2 == 0 && (a0_3.toList == ([] : List UInt8) && (a0_4.toList == ([] : List UInt8) && (a0_5.toList == ([] : List UInt8)))))))) else ((spec_l01In.f (a0_3.size : Int) 1 9).bind fun t256 => (if t256 = true then (if a0_0 = 2 then (spec_CommandOk.j1 kj1 a0_0 (a0_0 == 2) a0_0 a0_1 a0_2 a0_3 a0_4 a0_5) else (spec_CommandOk.j1 kj1 a0_0 (a0_0 == 4) a0_0 a0_1 a0_2 a0_3 a0_4 a0_5)) else (some false)))) = some r:=by rw [if_neg (show ¬ (false = true) by decide)] at H;exact H
    clear H;have H:=H1;clear H1
    by_cases c17 : a0_0 = 1
    ·rw [if_pos c17] at H;have c17b0 : (a0_0 == 1) = true:=beq_iff_eq.mpr c17;have c17b1 : (a0_0 != 1) = false:=bne_eq_false_iff_eq.mpr c17;clear c17;obtain rfl:=Option.some.inj H;have hcz18_0:=kC_ BK252 0;have hcz18_1:=kC_ BK252 1;have hcz18_2:=kC_ BK252 2;have hcz18_3:=kC_ BK252 3;have hcz18_4:=kC_ BK252 4;have hcz18_5:=kC_ BK252 5;have hfz18_0:=kf_ BK252.out 0;have hfz18_1:=kf_ BK252.out 1;have hfz18_2:=kf_ BK252.out 2;have hfz18_3:=kf_ BK252.out 3;have hfz18_4:=kf_ BK252.out 4;have hfz18_5:=kf_ BK252.out 5;go_wp2;go_ret;exact ⟨ex_,bq_ HB⟩
    ·rw [if_neg c17] at H;have c17b0 : (a0_0 == 1) = false:=beq_eq_false_iff_ne.mpr c17;have c17b1 : (a0_0 != 1) = true:=bne_iff_ne.mpr c17;replace H:=ob_.mp H;obtain ⟨t256,A190,H⟩:=H;replace H : (if t256 = true then (if a0_0 = 2 then (spec_CommandOk.j1 kj1 a0_0 (a0_0 == 2) a0_0 a0_1 a0_2 a0_3 a0_4 a0_5) else (spec_CommandOk.j1 kj1 a0_0 (a0_0 == 4) a0_0 a0_1 a0_2 a0_3 a0_4 a0_5)) else (some false)) = some r:=H;have A19:=A_ A190;clear A190
     by_cases c20 : t256 = true
     ·subst c20
      have H1 : (if a0_0 = 2 then (spec_CommandOk.j1 kj1 a0_0 (a0_0 == 2) a0_0 a0_1 a0_2 a0_3 a0_4 a0_5) else (spec_CommandOk.j1 kj1 a0_0 (a0_0 == 4) a0_0 a0_1 a0_2 a0_3 a0_4 a0_5)) = some r:=by rw [if_pos rfl] at H;exact H
      clear H;have H:=H1;clear H1;have HC21:=A_ H;clear H;have hcz22_0:=kC_ BK252 0;have hcz22_1:=kC_ BK252 1;have hcz22_2:=kC_ BK252 2;have hcz22_3:=kC_ BK252 3;have hcz22_4:=kC_ BK252 4;have hcz22_5:=kC_ BK252 5;have hfz22_0:=kf_ BK252.out 0;have hfz22_1:=kf_ BK252.out 1;have hfz22_2:=kf_ BK252.out 2;have hfz22_3:=kf_ BK252.out 3;have hfz22_4:=kf_ BK252.out 4;have hfz22_5:=kf_ BK252.out 5
      go_upto_if 44 with (first|((with_reducible refine gate_callee (f:=78) rfl ?_);refine goesL_ (some 40) rfl rfl Try.func78 (by kernel_rfl) rfl #[.int .i64 (a0_3.size : Int),.int .i64 1,.int .i64 9] rfl aq_ ?_;(with_reducible refine (spec_l01In.calls (a0_3.size : Int) 1 9 true _ A19.out).mono ?_);rintro e w' ⟨rfl,⟨nd,rfl⟩⟩;refine ⟨_,rfl,?_⟩))
      (try simp only [Act.put,s1_,s2_,s3_])
      go_cut [44] (fun v44 wc => ∃ (kq : Nat) (x44_20 : Bool),v44 = .bool x44_20 ∧ Aside0 (spec_CommandOk.j1 kq a0_0 x44_20 a0_0 a0_1 a0_2 a0_3 a0_4 a0_5 = some r) ∧ Aside0 (kq ≤ kj1) ∧ Aside0 (wc.heap[gb252]? = some (.cells #[.int .i64 a0_0,.int .i64 a0_1,.int .i64 a0_2,.string a0_3,.string a0_4,.string a0_5] 31 (0,0))) ∧ Aside0 (Below w.heap.size w wc))
      case first =>
       have H:=HC21.out;clear HC21
       by_cases c23 : a0_0 = 2
       ·rw [if_pos c23] at H;have c23b0 : (a0_0 == 2) = true:=beq_iff_eq.mpr c23;have c23b1 : (a0_0 != 2) = false:=bne_eq_false_iff_eq.mpr c23;clear c23
        (first|rw [c23b0]|(simp only [i64_w,i32_w];rw [c23b0])|skip)
        have H':=A_ H;clear H;go_wp2
        go_meet
        case rel => exact ⟨_,((a0_0 == 2)),(by first|rfl|(simp;done)|(simp [*];done)),H',⟨by have:=HJ1.out;first|omega|exact Nat.le_refl _⟩,⟨kq_ BK252⟩,⟨bq_ HB⟩⟩
       ·rw [if_neg c23] at H;have c23b0 : (a0_0 == 2) = false:=beq_eq_false_iff_ne.mpr c23;have c23b1 : (a0_0 != 2) = true:=bne_iff_ne.mpr c23
        (first|rw [c23b0]|(simp only [i64_w,i32_w];rw [c23b0])|skip)
        have H':=A_ H;clear H;go_wp2
        go_meet
        case rel => exact ⟨_,((a0_0 == 4)),(by first|rfl|(simp;done)|(simp [*];done)),H',⟨by have:=HJ1.out;first|omega|exact Nat.le_refl _⟩,⟨kq_ BK252⟩,⟨bq_ HB⟩⟩
      case rest =>
       clear HC21
       try clear c1
       try clear c2
       try clear p2
       try clear c5
       try clear c7
       try clear c9
       try clear c10
       try clear c10b0
       try clear c10b1
       try clear c16
       try clear c17
       try clear c17b0
       try clear c17b1
       try clear c20
       try clear c23
       try clear c23b0
       try clear c23b1
       try clear hcz11_0
       try clear hcz11_1
       try clear hcz11_2
       try clear hcz11_3
       try clear hcz11_4
       try clear hcz11_5
       try clear hcz12_0
       try clear hcz12_1
       try clear hcz12_2
       try clear hcz12_3
       try clear hcz12_4
       try clear hcz12_5
       try clear hcz13_0
       try clear hcz13_1
       try clear hcz13_2
       try clear hcz13_3
       try clear hcz13_4
       try clear hcz13_5
       try clear hcz14_0
       try clear hcz14_1
       try clear hcz14_2
       try clear hcz14_3
       try clear hcz14_4
       try clear hcz14_5
       try clear hcz15_0
       try clear hcz15_1
       try clear hcz15_2
       try clear hcz15_3
       try clear hcz15_4
       try clear hcz15_5
       try clear hcz18_0
       try clear hcz18_1
       try clear hcz18_2
       try clear hcz18_3
       try clear hcz18_4
       try clear hcz18_5
       try clear hcz22_0
       try clear hcz22_1
       try clear hcz22_2
       try clear hcz22_3
       try clear hcz22_4
       try clear hcz22_5
       try clear hfz11_0
       try clear hfz11_1
       try clear hfz11_2
       try clear hfz11_3
       try clear hfz11_4
       try clear hfz11_5
       try clear hfz12_0
       try clear hfz12_1
       try clear hfz12_2
       try clear hfz12_3
       try clear hfz12_4
       try clear hfz12_5
       try clear hfz13_0
       try clear hfz13_1
       try clear hfz13_2
       try clear hfz13_3
       try clear hfz13_4
       try clear hfz13_5
       try clear hfz14_0
       try clear hfz14_1
       try clear hfz14_2
       try clear hfz14_3
       try clear hfz14_4
       try clear hfz14_5
       try clear hfz15_0
       try clear hfz15_1
       try clear hfz15_2
       try clear hfz15_3
       try clear hfz15_4
       try clear hfz15_5
       try clear hfz18_0
       try clear hfz18_1
       try clear hfz18_2
       try clear hfz18_3
       try clear hfz18_4
       try clear hfz18_5
       try clear hfz22_0
       try clear hfz22_1
       try clear hfz22_2
       try clear hfz22_3
       try clear hfz22_4
       try clear hfz22_5
       try clear p2
       obtain ⟨kq,x44_20,rfl,HA,HJ20,BK252,HB⟩:=hcut
       cases kq with
       | zero => exact absurd HA.out (by simp [spec_CommandOk.j1])
       | succ kj20 =>
        have H:=HA.out;clear HA;simp only [spec_CommandOk.j1] at H
        by_cases c24 : x44_20 = true
        ·subst c24
         have H1 : (if a0_4.toList = ([] : List UInt8) then (some (a0_5.toList == ([] : List UInt8))) else (some false)) = some r:=by rw [if_pos rfl] at H;exact H
         clear H;have H:=H1;clear H1
         by_cases c25 : a0_4.toList = ([] : List UInt8)
         ·rw [if_pos c25] at H;have c25b0 : (a0_4.toList == ([] : List UInt8)) = true:=beq_iff_eq.mpr c25;have c25b1 : (a0_4.toList != ([] : List UInt8)) = false:=bne_eq_false_iff_eq.mpr c25;clear c25;obtain rfl:=Option.some.inj H;have hcz26_0:=kC_ BK252 0;have hcz26_1:=kC_ BK252 1;have hcz26_2:=kC_ BK252 2;have hcz26_3:=kC_ BK252 3;have hcz26_4:=kC_ BK252 4;have hcz26_5:=kC_ BK252 5;have hfz26_0:=kf_ BK252.out 0;have hfz26_1:=kf_ BK252.out 1;have hfz26_2:=kf_ BK252.out 2;have hfz26_3:=kf_ BK252.out 3;have hfz26_4:=kf_ BK252.out 4;have hfz26_5:=kf_ BK252.out 5;go_wp2;go_ret;exact ⟨ex_,bq_ HB⟩
         ·rw [if_neg c25] at H;have c25b0 : (a0_4.toList == ([] : List UInt8)) = false:=beq_eq_false_iff_ne.mpr c25;have c25b1 : (a0_4.toList != ([] : List UInt8)) = true:=bne_iff_ne.mpr c25;obtain rfl:=Option.some.inj H;have hcz27_0:=kC_ BK252 0;have hcz27_1:=kC_ BK252 1;have hcz27_2:=kC_ BK252 2;have hcz27_3:=kC_ BK252 3;have hcz27_4:=kC_ BK252 4;have hcz27_5:=kC_ BK252 5;have hfz27_0:=kf_ BK252.out 0;have hfz27_1:=kf_ BK252.out 1;have hfz27_2:=kf_ BK252.out 2;have hfz27_3:=kf_ BK252.out 3;have hfz27_4:=kf_ BK252.out 4;have hfz27_5:=kf_ BK252.out 5;go_wp2;go_ret;exact ⟨ex_,bq_ HB⟩
        ·replace c24:=Bool.eq_false_iff.mpr c24;subst c24
         have H1 : (if a0_0 = 3 then (some (a0_5.toList == ([] : List UInt8))) else (some true)) = some r:=by rw [if_neg (show ¬ (false = true) by decide)] at H;exact H
         clear H;have H:=H1;clear H1
         by_cases c28 : a0_0 = 3
         ·rw [if_pos c28] at H;have c28b0 : (a0_0 == 3) = true:=beq_iff_eq.mpr c28;have c28b1 : (a0_0 != 3) = false:=bne_eq_false_iff_eq.mpr c28;clear c28;obtain rfl:=Option.some.inj H;have hcz29_0:=kC_ BK252 0;have hcz29_1:=kC_ BK252 1;have hcz29_2:=kC_ BK252 2;have hcz29_3:=kC_ BK252 3;have hcz29_4:=kC_ BK252 4;have hcz29_5:=kC_ BK252 5;have hfz29_0:=kf_ BK252.out 0;have hfz29_1:=kf_ BK252.out 1;have hfz29_2:=kf_ BK252.out 2;have hfz29_3:=kf_ BK252.out 3;have hfz29_4:=kf_ BK252.out 4;have hfz29_5:=kf_ BK252.out 5;go_wp2;go_ret;exact ⟨ex_,bq_ HB⟩
         ·rw [if_neg c28] at H;have c28b0 : (a0_0 == 3) = false:=beq_eq_false_iff_ne.mpr c28;have c28b1 : (a0_0 != 3) = true:=bne_iff_ne.mpr c28;obtain rfl:=Option.some.inj H;go_wp2;go_ret;exact ⟨ex_,bq_ HB⟩
     ·replace c20:=Bool.eq_false_iff.mpr c20;subst c20
      have H1 : (some false) = some r:=by rw [if_neg (show ¬ (false = true) by decide)] at H;exact H
      clear H;have H:=H1;clear H1;obtain rfl:=Option.some.inj H;have hcz30_0:=kC_ BK252 0;have hcz30_1:=kC_ BK252 1;have hcz30_2:=kC_ BK252 2;have hcz30_3:=kC_ BK252 3;have hcz30_4:=kC_ BK252 4;have hcz30_5:=kC_ BK252 5;have hfz30_0:=kf_ BK252.out 0;have hfz30_1:=kf_ BK252.out 1;have hfz30_2:=kf_ BK252.out 2;have hfz30_3:=kf_ BK252.out 3;have hfz30_4:=kf_ BK252.out 4;have hfz30_5:=kf_ BK252.out 5
      go_wp2_with (first|((with_reducible refine gate_callee (f:=78) rfl ?_);refine goesL_ (some 40) rfl rfl Try.func78 (by kernel_rfl) rfl #[.int .i64 (a0_3.size : Int),.int .i64 1,.int .i64 9] rfl aq_ ?_;(with_reducible refine (spec_l01In.calls (a0_3.size : Int) 1 9 false _ A19.out).mono ?_);rintro e w' ⟨rfl,⟨nd,rfl⟩⟩;refine ⟨_,rfl,?_⟩))
      go_ret;exact ⟨ex_,bq_ HB⟩
def spec_l05Short.f (k : Nat) (a0 : ByteArray) : Option (ByteArray) := (spec_l01Var.f k (a0.size : Int)).bind fun t257 => (if t257.size + a0.size ≤ 9223372036854775807 then (some (t257 ++ a0)) else (none))
theorem spec_l05Short.mono : ∀ a0 k, LeO (spec_l05Short.f k a0) (spec_l05Short.f (k + 1) a0) := by
 intro a0 k
 unfold spec_l05Short.f
 repeat' first
   | (with_reducible exact spec_l01Var.mono _ _)
   | (with_reducible exact LeO.refl _)
   | (with_reducible exact LeO.none _)
   | (with_reducible refine LeO.ite ?_ ?_)
   | (with_reducible refine LeO.bind ?_ (fun _ => ?_))
set_option maxHeartbeats 8000000 in
set_option maxRecDepth 100000 in
theorem spec_l05Short.calls (k : Nat) (a0 : ByteArray) (r : ByteArray) (w : World) (h : spec_l05Short.f k a0 = some r) :
  Calls Try.prog 138 #[.string a0] w fun e w' => e = .returned (.string r) ∧ Below w.heap.size w w':=by
 have HB:=A_ (Below.refl w.heap.size w);have H : ((spec_l01Var.f k (a0.size : Int)).bind fun t257 => (if t257.size + a0.size ≤ 9223372036854775807 then (some (t257 ++ a0)) else (none))) = some r:=h;clear h;replace H:=ob_.mp H;obtain ⟨t257,A20,H⟩:=H;replace H : (if t257.size + a0.size ≤ 9223372036854775807 then (some (t257 ++ a0)) else (none)) = some r:=H;have A2:=A_ A20;clear A20
 by_cases c3 : t257.size + a0.size ≤ 9223372036854775807
 ·rw [if_pos c3] at H;have c3b0:=eq_true c3;have c3b1 : decide (t257.size + a0.size ≤ 9223372036854775807) = true:=de_ c3
  try have c3b2 : (9223372036854775807 < t257.size + a0.size) = False:=eq_false (Nat.not_lt.2 c3)
  obtain rfl:=Option.some.inj H;go_enter Try.func138,Try.ntmps138
  go_wp2_with (first|((with_reducible refine gate_callee (f:=80) rfl ?_);refine goesL_ (some 5) rfl rfl Try.func80 (by kernel_rfl) rfl #[.int .i64 (a0.size : Int)] rfl aq_ ?_;(with_reducible refine (spec_l01Var.calls k (a0.size : Int) t257 _ A2.out).mono ?_);rintro e w4 ⟨rfl,hb⟩;refine ⟨_,rfl,?_⟩;replace HB:=A_ (bs_ (bq_ HB) hb);(try clear hb);(try clear hb2);(try clear hk);(try clear hi)))
  go_ret;exact ⟨ex_,bq_ HB⟩
 ·rw [if_neg c3] at H;exact absurd H (by simp)
end Go.Proofs.Ytgpafelepkhdoaa.PFnBehind
