/- The contracts of Go functions that this law reaches: what each call returns, by a plain Lean function of its arguments, under the conditions that each names. By the kit's print.py, run by this repo's wip/gen/pp.py: not to the letter what print.sh prints. -/
import Derived.Test.YtbcgnncbiblibaaPFnMessagesx0
import Derived.Test.YtbcgnncbiblibaaPFnMessagesx3
import Derived.Test.YtbcgnncbiblibaaPFnMessagesx4
namespace Go.Proofs.Ytbcgnncbiblibaa.PFnMessages
open Go.RowKit Go.Proofs.YtbcgnncbiblibaaW.PrintWords Go.Proofs.YtbcgnncbiblibaaW.PrintLast Go.Proofs.YtbcgnncbiblibaaW.PrintMore
attribute [local go_sem] max2_int min2_int max_two min_two max_three min_three max_four min_four
set_option linter.unusedVariables false
set_option linter.unusedSimpArgs false
def spec_EntryOk.f (k : Nat) (a0_0 a0_1 : Int) (a0_2 : ByteArray) : Option (Bool) := (spec_l01In.f a0_0 0 100000).bind fun t142 => (if t142 = true then (if a0_1 = 1 then (some (a0_2.toList == ([] : List UInt8))) else (if a0_1 = 2 then ((spec_ReadConf.f k a0_2).bind fun bt143 => (some bt143.2)) else (if a0_1 = 3 then (some (decide ((a0_2.size : Int) ≤ 120))) else (some false)))) else (some false))
theorem spec_EntryOk.mono : ∀ a0 a1 a2 k, LeO (spec_EntryOk.f k a0 a1 a2) (spec_EntryOk.f (k + 1) a0 a1 a2) := by
 intro a0 a1 a2 k
 unfold spec_EntryOk.f
 repeat' first
   | (with_reducible exact spec_ReadConf.mono _ _)
   | (with_reducible exact LeO.refl _)
   | (with_reducible refine LeO.ite ?_ ?_)
   | (with_reducible refine LeO.bind ?_ (fun _ => ?_))
set_option maxHeartbeats 8000000 in
set_option maxRecDepth 100000 in
theorem spec_EntryOk.calls (k : Nat) (a0_0 a0_1 : Int) (a0_2 : ByteArray) (r : Bool) (w : World) (h : spec_EntryOk.f k a0_0 a0_1 a0_2 = some r) :
  Calls Try.prog 82 #[.agg #[.int .i64 a0_0,.int .i64 a0_1,.string a0_2]] w fun e w' => e = .returned (.bool r) ∧ Below w.heap.size w w':=by
 have hu69:=Try.underlying69;have HB:=A_ (Below.refl w.heap.size w);unfold spec_EntryOk.f at h;have H:=h;clear h;replace H:=ob_.mp H;obtain ⟨t142,A20,H⟩:=H;have A2:=A_ A20;clear A20;have HC3:=A_ H;clear H;go_enter Try.func82,Try.ntmps82
 go_upto_if 8 with (first|((with_reducible refine gate_dst (N:=1) rfl ?_);refine bE_ 1 #[.int .i64 a0_0,.int .i64 a0_1,.string a0_2] 69 ?_;intro gb141 hg w4 hbox hb;have n0_:=bS_ HB hb;have n1_:=A_ hbox;have n3_:=gE_ hg HB;clear HB;have HB:=n0_;have BK141:=n1_;have GE141:=n3_;clear n0_ n1_ n3_;clear hb hbox hg;obtain ⟨hcz5_0,hcz5_1,hcz5_2,hfz5_0,hfz5_1,hfz5_2⟩:=k3f_ BK141)|((with_reducible refine gate_callee (f:=81) rfl ?_);refine gL_ (some 7) Try.func81 #[.int .i64 a0_0,.int .i64 0,.int .i64 100000] ?_;(with_reducible refine (spec_l01In.calls a0_0 0 100000 t142 _ A2.out).mono ?_);rintro e w' ⟨rfl,⟨nd,rfl⟩⟩;refine ⟨_,rfl,?_⟩))
 have H:=HC3.out;clear HC3
 by_cases c6 : t142 = true;rotate_left
 ·replace c6:=Bool.eq_false_iff.mpr c6;subst c6
  have H1 : (some false) = some r:=by rw [if_neg (show ¬ (false = true) by decide)] at H;exact H
  clear H;have H:=H1;clear H1;obtain rfl:=Option.some.inj H;go_wp2;go_ret;exact ⟨ex_,bq_ HB⟩
 subst c6
 rw [if_pos rfl] at H;have HC7:=A_ H;clear H;obtain ⟨hcz8_0,hcz8_1,hcz8_2,hfz8_0,hfz8_1,hfz8_2⟩:=k3f_ BK141
 go_upto_if 11 with (fail)
 have H:=HC7.out;clear HC7
 by_cases c9 : a0_1 = 1
 ·rw [if_pos c9] at H;have c9b0:=beq_iff_eq.mpr c9;have c9b1:=bne_eq_false_iff_eq.mpr c9;clear c9
  (rw [c9b0])
  obtain rfl:=Option.some.inj H;obtain ⟨hcz10_0,hcz10_1,hcz10_2,hfz10_0,hfz10_1,hfz10_2⟩:=k3f_ BK141;go_wp2;go_ret;exact ⟨ex_,bq_ HB⟩
 rw [if_neg c9] at H;have c9b0:=beq_eq_false_iff_ne.mpr c9;have c9b1:=bne_iff_ne.mpr c9
 (rw [c9b0])
 by_cases c11 : a0_1 = 2
 ·rw [if_pos c11] at H;have c11b0:=beq_iff_eq.mpr c11;have c11b1:=bne_eq_false_iff_eq.mpr c11;clear c11;obtain ⟨⟨t143,t144⟩,A12,H⟩:=oB_ H;(try dsimp only at H);obtain rfl:=Option.some.inj H;obtain ⟨hcz13_0,hcz13_1,hcz13_2,hfz13_0,hfz13_1,hfz13_2⟩:=k3f_ BK141
  go_wp2_with (((with_reducible refine gate_callee (f:=63) rfl ?_);refine gL_ (some 21) Try.func63 #[.string a0_2] ?_;(with_reducible refine (spec_ReadConf.calls k a0_2 t143 t144 _ A12.out).mono ?_);rintro e w14 ⟨v145,rfl,ho0,hb⟩;refine ⟨_,rfl,?_⟩;have n2_:=bS_ HB hb;clear BK141;clear HB;have HB:=n2_;clear n2_;(try clear hb);(try clear ho0)))
  go_ret;exact ⟨ex_,bq_ HB⟩
 rw [if_neg c11] at H;have c11b0:=beq_eq_false_iff_ne.mpr c11;have c11b1:=bne_iff_ne.mpr c11
 by_cases c15 : a0_1 = 3
 ·rw [if_pos c15] at H;have c15b0:=beq_iff_eq.mpr c15;have c15b1:=bne_eq_false_iff_eq.mpr c15;clear c15;obtain rfl:=Option.some.inj H;obtain ⟨hcz16_0,hcz16_1,hcz16_2,hfz16_0,hfz16_1,hfz16_2⟩:=k3f_ BK141;go_wp2;go_ret;exact ⟨ex_,bq_ HB⟩
 rw [if_neg c15] at H;have c15b0:=beq_eq_false_iff_ne.mpr c15;have c15b1:=bne_iff_ne.mpr c15;obtain rfl:=Option.some.inj H;go_wp2;go_ret;exact ⟨ex_,bq_ HB⟩
end Go.Proofs.Ytbcgnncbiblibaa.PFnMessages
