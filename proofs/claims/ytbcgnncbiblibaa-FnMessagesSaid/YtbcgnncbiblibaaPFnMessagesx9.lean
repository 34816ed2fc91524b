/- The contracts of Go functions that this law reaches: what each call returns, by a plain Lean function of its arguments, under the conditions that each names. By the kit's print.py, run by this repo's wip/gen/pp.py: not to the letter what print.sh prints. -/
import Derived.Test.YtbcgnncbiblibaaPFnMessagesx0
import Derived.Test.YtbcgnncbiblibaaPFnMessagesx3
import Derived.Test.YtbcgnncbiblibaaPFnMessagesx4
namespace Go.Proofs.Ytbcgnncbiblibaa.PFnMessages
open Go.RowKit Go.Proofs.YtbcgnncbiblibaaW.PrintWords Go.Proofs.YtbcgnncbiblibaaW.PrintLast Go.Proofs.YtbcgnncbiblibaaW.PrintMore
attribute [local go_sem] max2_int min2_int max_two min_two max_three min_three max_four min_four
set_option linter.unusedVariables false
set_option linter.unusedSimpArgs false
def spec_l05Short.f (k : Nat) (a0 : ByteArray) : Option (ByteArray) := (spec_l01Var.f k (a0.size : Int)).bind fun t198 => (if t198.size + a0.size ≤ 9223372036854775807 then (some (t198 ++ a0)) else (none))
theorem spec_l05Short.mono : ∀ a0 k, LeO (spec_l05Short.f k a0) (spec_l05Short.f (k + 1) a0) := by
 intro a0 k
 unfold spec_l05Short.f
 repeat' first
   | (with_reducible exact spec_l01Var.mono _ _)
   | (with_reducible exact LeO.refl _)
   | (with_reducible refine LeO.bind ?_ (fun _ => ?_))
set_option maxHeartbeats 8000000 in
set_option maxRecDepth 100000 in
theorem spec_l05Short.calls (k : Nat) (a0 r : ByteArray) (w : World) (h : spec_l05Short.f k a0 = some r) :
  Calls Try.prog 55 #[.string a0] w fun e w' => e = .returned (.string r) ∧ Below w.heap.size w w':=by
 have HB:=A_ (Below.refl w.heap.size w);unfold spec_l05Short.f at h;have H:=h;clear h;replace H:=ob_.mp H;obtain ⟨t198,A20,H⟩:=H;have A2:=A_ A20;clear A20
 by_cases c3 : t198.size + a0.size ≤ 9223372036854775807
 ·rw [if_pos c3] at H;have c3b0:=eq_true c3;have c3b1:=de_ c3
  try have c3b2 : (9223372036854775807 < t198.size + a0.size) = False:=eq_false (Nat.not_lt.2 c3)
  obtain rfl:=Option.some.inj H;go_enter Try.func55,Try.ntmps55
  go_wp2_with (((with_reducible refine gate_callee (f:=54) rfl ?_);refine gL_ (some 5) Try.func54 #[.int .i64 (a0.size : Int)] ?_;(with_reducible refine (spec_l01Var.calls k (a0.size : Int) t198 _ A2.out).mono ?_);rintro e w4 ⟨rfl,hb⟩;refine ⟨_,rfl,?_⟩;replace HB:=bS_ HB hb;(try clear hb)))
  go_ret;exact ⟨ex_,bq_ HB⟩
 rw [if_neg c3] at H;exact absurd H (by simp)
def spec_l14Flag.f (a0 : Bool) : Option (ByteArray) := if a0 = true then (some (⟨#[1]⟩ : ByteArray)) else (some (⟨#[0]⟩ : ByteArray))
set_option maxHeartbeats 8000000 in
set_option maxRecDepth 100000 in
theorem spec_l14Flag.calls (a0 : Bool) (r : ByteArray) (w : World) (h : spec_l14Flag.f a0 = some r) :
  Calls Try.prog 107 #[.bool a0] w fun e w' => e = .returned (.string r) ∧ Drawn0 w w':=by
 unfold spec_l14Flag.f at h;have H:=h;clear h
 by_cases c2 : a0 = true
 ·subst c2
  rw [if_pos rfl] at H;obtain rfl:=Option.some.inj H;go_enter Try.func107,Try.ntmps107;go_wp2;go_ret;exact ⟨by rfl,by repeat (exact Drawn0.refl _)⟩
 replace c2:=Bool.eq_false_iff.mpr c2;subst c2
 have H1 : (some (⟨#[0]⟩ : ByteArray)) = some r:=by rw [if_neg (show ¬ (false = true) by decide)] at H;exact H
 clear H;have H:=H1;clear H1;obtain rfl:=Option.some.inj H;go_enter Try.func107,Try.ntmps107;go_wp2;go_ret;exact ⟨by rfl,by repeat (exact Drawn0.refl _)⟩
def spec_ConfText.l0 : Nat → List Int → List Int → Int → Option (ByteArray × Bool)
 | 0,_,_,_ => none
 | k + 1,x0,x4,x5 => if x5 < (x0.length : Int) then (if 0 ≤ x5 then (if x4.length < 140737488355328 then (spec_ConfText.l0 k x0 (x4 ++ [(rd x0 x5) % 256]) (wrap64 (x5 + 1))) else (none)) else (none)) else (some (strOfNums x4,true))
def spec_ConfText.f (k : Nat) (l0 : List Int) : Option (ByteArray × Bool) := (spec_ConfOk.f k l0).bind fun t199 => (if t199 = true then (spec_ConfText.l0 k l0 (([] : List Int)) 0) else (some ((⟨#[]⟩ : ByteArray), false)))
theorem spec_ConfText.mono_l : ∀ k, (∀ y0 y1 y2, LeO (spec_ConfText.l0 k y0 y1 y2) (spec_ConfText.l0 (k + 1) y0 y1 y2))
 | 0 => fun _ _ _ r h => by simp [spec_ConfText.l0] at h
 | k + 1 => by
  have ih0:=spec_ConfText.mono_l k
  ·intro y0 y1 y2
   unfold spec_ConfText.l0
   repeat' first
   | (with_reducible exact ih0 _ _ _)
   | (with_reducible exact LeO.refl _)
   | (with_reducible refine LeO.ite ?_ ?_)
theorem spec_ConfText.mono : ∀ a0 k, LeO (spec_ConfText.f k a0) (spec_ConfText.f (k + 1) a0) := by
 intro a0 k;have ih0:=spec_ConfText.mono_l k
 unfold spec_ConfText.f
 repeat' first
   | (with_reducible exact ih0 _ _ _)
   | (with_reducible exact spec_ConfOk.mono _ _)
   | (with_reducible exact LeO.refl _)
   | (with_reducible refine LeO.ite ?_ ?_)
   | (with_reducible refine LeO.bind ?_ (fun _ => ?_))
set_option maxHeartbeats 8000000 in
set_option maxRecDepth 100000 in
theorem spec_ConfText.calls (k : Nat) (A0 : Option Addr) (c0 : Nat) (l0 : List Int) (r1 : ByteArray) (r2 : Bool) (w : World) (hr0 : Kd.C (Kd.int .i64) w A0 l0.length l0) (hc0 : l0.length ≤ c0) (h : spec_ConfText.f k l0 = some (r1, r2)) :
  Calls Try.prog 108 #[.slice A0 l0.length c0] w fun e w' => e = .returned (.tuple #[.string r1,.bool r2]) ∧ Below w.heap.size w w':=by
 have HR0:=A_ hr0;have HC0:=A_ hc0;clear hr0 hc0;have HB:=A_ (Below.refl w.heap.size w);unfold spec_ConfText.f at h;have H:=h;clear h;replace H:=ob_.mp H;obtain ⟨t199,A20,H⟩:=H;have A2:=A_ A20;clear A20;have HC3:=A_ H;clear H;go_enter Try.func108,Try.ntmps108
 go_upto_if 8 with (((with_reducible refine gate_callee (f:=83) rfl ?_);refine gL_ (some 7) Try.func83 #[.slice A0 l0.length c0] ?_;(with_reducible refine (spec_ConfOk.calls k _ _ l0 t199 _ ?side1 ?side2 A2.out).mono ?_);(case side1 => repeat (exact HR0.out));(case side2 => exact HC0.out);rintro e w' ⟨rfl,⟨nd,rfl⟩⟩;refine ⟨_,rfl,?_⟩))
 have H:=HC3.out;clear HC3
 by_cases c4 : t199 = true;rotate_left
 ·replace c4:=Bool.eq_false_iff.mpr c4;subst c4
  have H1 : (some ((⟨#[]⟩ : ByteArray),false)) = some (r1,r2):=by rw [if_neg (show ¬ (false = true) by decide)] at H;exact H
  clear H;have H:=H1;clear H1;simp only [Option.some.injEq,Prod.mk.injEq] at H;obtain ⟨rfl,rfl⟩:=H;go_wp2;go_ret2;exact ⟨ex_,bq_ HB⟩
 subst c4
 rw [if_pos rfl] at H;obtain ⟨y200,hy200⟩ : ∃ y_ : List Int,y_ = (([] : List Int)):=⟨_,rfl⟩
 replace H : (spec_ConfText.l0 k l0 y200 0) = some (r1,r2):=by (rw [hy200];with_reducible exact H)
 have Ny200:=A_ hy200;clear hy200;have H':=A_ H;clear H
 go_wp2_with (((with_reducible refine gate_dst (N:=9) rfl ?_);refine rX_ (d:=(Kd.int .u8)) (e:=5) (xs:=([] : List Int)) (inner:=[]) (ok:=fun _ => True) (okp:=fun _ => True) 9 (Reps.none _ _) ?_;intro v201 w5 ho6 hb hg_ hnew_;clear hg_ hnew_;(rw [← Ny200.out] at ho6);have HO202:=A_ (rw_ ho6 (bz_ (bq_ HB)));replace HB:=bS_ HB hb;clear hb ho6))
 go_loopg [4,5] k (fun kq v4 v5 w' => ∃ (x4_1 : List Int) (x5_1 : Int),v5 = .int .i64 x5_1 ∧ Aside0 (spec_ConfText.l0 kq l0 x4_1 x5_1 = some (r1,r2)) ∧ Aside0 (kq ≤ k) ∧ Aside0 (Kd.R (Kd.int .u8) 5 w' w.heap.size (fun _ => True) v4 x4_1) ∧ Aside0 (Below w.heap.size w w'))
 case atStart => exact ⟨(y200),(0),(by rfl),H',⟨Nat.le_refl _⟩,⟨HO202.out⟩,⟨bq_ HB⟩⟩
 case round =>
  clear H'
  (try clear c1);(try clear p2);(try clear c4)
  obtain ⟨x4_1,x5_1,rfl,HA,HK1,HO_4,HB⟩:=hrel
  cases gk with
  | zero => exact absurd HA.out (by simp [spec_ConfText.l0])
  | succ k1 =>
   have H:=HA.out;clear HA;simp only [spec_ConfText.l0] at H
   by_cases c7 : x5_1 < (l0.length : Int)
   ·rw [if_pos c7] at H;have c7b0:=de_ c7;clear c7
    (skip)
    by_cases c8 : 0 ≤ x5_1
    ·rw [if_pos c8] at H;have c8b0:=de_ c8;clear c8
     by_cases c9 : x4_1.length < 140737488355328
     ·rw [if_pos c9] at H;have LMc9:=A_ c9;clear c9;obtain ⟨y204,hy204⟩ : ∃ y_ : List Int,y_ = (x4_1 ++ [(rd l0 x5_1) % 256]):=⟨_,rfl⟩
      replace H : (spec_ConfText.l0 k1 l0 y204 (wrap64 (x5_1 + 1))) = some (r1,r2):=by (rw [hy204];with_reducible exact H)
      have Ny204:=A_ hy204;clear hy204;have H':=A_ H;clear H;have p203 : 0 ≤ (x5_1 : Int):=oda_;have q203 : x5_1 < (l0.length : Int):=oda_;obtain ⟨ad203,e203,hx203_0⟩:=Kd.at_int HR0.out x5_1 p203 q203
      cases e203
      replace hx203_0:=(HB.out.cell (wb_ w _ hx203_0)).trans hx203_0;replace p203:=eq_true p203;replace q203:=eq_true q203
      go_wp2_with (((with_reducible refine gate_builtin (b:=.append) (xs:=#[.tmp 16,.tmp 22]) rfl ?_);at_builtin;refine Kd.R_append (Kd.int .u8) (w0:=w) w.heap.size rfl (.tmp 16) (.tmp 22) 46 5 (.int .u8 0) 1 rfl Try.underlying46 info5 rfl (by decide) (by omega) u4 x4_1 ((rd l0 x5_1) % 256) [.int .u8 ((rd l0 x5_1) % 256)] (fun _ => True) (fun _ => False) rfl rfl ?aP (fun _ hk => hk.elim) ?aF ?aO ?aB ?aS ?aL ?_;(case aP => exact rfl);(case aB => exact (bq_ HB));(case aF => exact (fun _ _ => trivial));(case aO => exact (rq_ HO_4));(case aS => exact (bz_ (bq_ HB)));(case aL => have:=LMc9.out;omega);intro v205 w10 ho hb hg hat;rw [← Ny204.out] at ho;replace HB:=A_ hb;have HO206:=A_ ho;clear HO_4;clear ho hb hg hat))
      go_roundg k1
      case measure => have:=HK1.out;omega
      case rel => exact ⟨(y204),(wrap64 (x5_1 + 1)),(by rfl),H',⟨by have:=HK1.out;omega⟩,⟨HO206.out⟩,⟨bq_ HB⟩⟩
     rw [if_neg c9] at H;exact absurd H (by simp)
    rw [if_neg c8] at H;exact absurd H (by simp)
   rw [if_neg c7] at H;have c7b0:=decide_eq_false c7;clear c7
   (skip)
   simp only [Option.some.injEq,Prod.mk.injEq] at H;obtain ⟨rfl,rfl⟩:=H;have hcv11:=own_string (P:=Try.prog) Try.underlying46 Try.underlying5 Try.underlying9 (Kd.own_of_R HO_4.out);go_wp2;go_ret2;exact ⟨ex_,bq_ HB⟩
end Go.Proofs.Ytbcgnncbiblibaa.PFnMessages
