/- The contracts of the Go functions that this law reaches: what each call returns, by a plain Lean function of its arguments. No conditions but those each contract names. By the kit's print.py, run by this session's wip/gen/pp.py with facts and hand proofs beside it: not to the letter what print.sh prints. -/
import Derived.Test.YtbcgnncbiblibaaPFnExactLogStepsx0
import Derived.Test.YtbcgnncbiblibaaPFnExactLogStepsx14
import Derived.Test.YtbcgnncbiblibaaPFnExactLogStepsx17
import Derived.Test.YtbcgnncbiblibaaPFnExactLogStepsx18
import Derived.Test.YtbcgnncbiblibaaPFnExactLogStepsx19
namespace Go.Proofs.Ytbcgnncbiblibaa.PFnExactLogSteps
open Go.RowKit Go.Proofs.YtbcgnncbiblibaaW.PrintWords Go.Proofs.YtbcgnncbiblibaaW.PrintLast Go.Proofs.YtbcgnncbiblibaaW.PrintMore
attribute [local go_sem] max2_int min2_int max_two min_two max_three min_three max_four min_four
set_option linter.unusedVariables false
set_option linter.unusedSimpArgs false
def impl_EntryText.f (k : Nat) (a0 : Int) (a1_0 : Int) (a1_1 : Int) (a1_2 : ByteArray) : Option (ByteArray × Bool) := (impl_EntryOk.f k a1_0 a1_1 a1_2).bind fun t507 => (if t507 = true then ((impl_within.f a0 1 100000).bind fun t508 => (if t508 = true then ((impl_vars.f k (([a0, a1_0] : List Int))).bind fun bt512 => (if 1 + bt512.1.size ≤ 9223372036854775807 then ((some (([(a1_1) % 256] : List Int) : List Int)).bind fun y514 => (if ((⟨#[69]⟩ : ByteArray) ++ bt512.1).size + (strOfNums y514).size ≤ 9223372036854775807 then (if (((⟨#[69]⟩ : ByteArray) ++ bt512.1) ++ (strOfNums y514)).size + a1_2.size ≤ 9223372036854775807 then (some ((((⟨#[69]⟩ : ByteArray) ++ bt512.1) ++ (strOfNums y514)) ++ a1_2, true)) else (none)) else (none))) else (none))) else (some ((⟨#[]⟩ : ByteArray), false)))) else (some ((⟨#[]⟩ : ByteArray), false)))
theorem impl_EntryText.mono : ∀ a0 a1 a2 a3 k, LeO (impl_EntryText.f k a0 a1 a2 a3) (impl_EntryText.f (k + 1) a0 a1 a2 a3) := by
 intro a0 a1 a2 a3 k
 unfold impl_EntryText.f
 repeat' first
   | (with_reducible exact impl_EntryOk.mono _ _ _ _)
   | (with_reducible exact impl_vars.mono _ _)
   | (with_reducible exact LeO.refl _)
   | (with_reducible refine LeO.ite ?_ ?_)
   | (with_reducible refine LeO.bind ?_ (fun _ => ?_))
set_option maxHeartbeats 8000000 in
set_option maxRecDepth 100000 in
theorem impl_EntryText.calls (k : Nat) (a0 : Int) (a1_0 : Int) (a1_1 : Int) (a1_2 : ByteArray) (r1 : ByteArray) (r2 : Bool) (w : World) (h : impl_EntryText.f k a0 a1_0 a1_1 a1_2 = some (r1, r2)) :
  Calls Try.prog 79 #[.int .i64 a0,.agg #[.int .i64 a1_0,.int .i64 a1_1,.string a1_2]] w fun e w' => e = .returned (.tuple #[.string r1,.bool r2]) ∧ Below w.heap.size w w':=by
 have hu69:=Try.underlying69;have HB:=A_ (Below.refl w.heap.size w);unfold impl_EntryText.f at h;have H:=h;clear h;replace H:=ob_.mp H;obtain ⟨t507,A30,H⟩:=H;have A3:=A_ A30;clear A30
 by_cases c4 : t507 = true
 ·subst c4
  rw [if_pos rfl] at H;replace H:=ob_.mp H;obtain ⟨t508,A50,H⟩:=H;have A5:=A_ A50;clear A50
  by_cases c6 : t508 = true
  ·subst c6
   rw [if_pos rfl] at H;obtain ⟨y509,hy509⟩ : ∃ y_ : List Int,y_ = (([a0,a1_0] : List Int)):=⟨_,rfl⟩
   replace H : ((impl_vars.f k y509).bind fun bt512 => (if 1 + bt512.1.size ≤ 9223372036854775807 then ((some (([(a1_1) % 256] : List Int) : List Int)).bind fun y514 => (if ((⟨#[69]⟩ : ByteArray) ++ bt512.1).size + (strOfNums y514).size ≤ 9223372036854775807 then (if (((⟨#[69]⟩ : ByteArray) ++ bt512.1) ++ (strOfNums y514)).size + a1_2.size ≤ 9223372036854775807 then (some ((((⟨#[69]⟩ : ByteArray) ++ bt512.1) ++ (strOfNums y514)) ++ a1_2,true)) else (none)) else (none))) else (none))) = some (r1,r2):=by (rw [hy509];with_reducible exact H)
   have Ny509:=A_ hy509;clear hy509;replace H:=ob_.mp H;obtain ⟨⟨t512,t513⟩,A70,H⟩:=H;(try dsimp only at H);have A7:=A_ A70;clear A70
   by_cases c8 : 1 + t512.size ≤ 9223372036854775807
   ·rw [if_pos c8] at H;have c8b0:=eq_true c8;have c8b1 : decide (1 + t512.size ≤ 9223372036854775807) = true:=de_ c8
    try have c8b2 : (9223372036854775807 < 1 + t512.size) = False:=eq_false (Nat.not_lt.2 c8)
    obtain ⟨y514,hy514⟩ : ∃ y_ : List Int,y_ = (([(a1_1) % 256] : List Int)):=⟨_,rfl⟩
    replace H : (if ((⟨#[69]⟩ : ByteArray) ++ t512).size + (strOfNums y514).size ≤ 9223372036854775807 then (if (((⟨#[69]⟩ : ByteArray) ++ t512) ++ (strOfNums y514)).size + a1_2.size ≤ 9223372036854775807 then (some ((((⟨#[69]⟩ : ByteArray) ++ t512) ++ (strOfNums y514)) ++ a1_2,true)) else (none)) else (none)) = some (r1,r2):=by (have H2_:=(Option.bind_some _ _).symm.trans H;rw [hy514];with_reducible exact H2_)
    have Ny514:=A_ hy514;clear hy514
    by_cases c9 : ((⟨#[69]⟩ : ByteArray) ++ t512).size + (strOfNums y514).size ≤ 9223372036854775807
    ·rw [if_pos c9] at H;have c9b0:=eq_true c9;have c9b1 : decide (((⟨#[69]⟩ : ByteArray) ++ t512).size + (strOfNums y514).size ≤ 9223372036854775807) = true:=de_ c9
     try have c9b2 : (9223372036854775807 < ((⟨#[69]⟩ : ByteArray) ++ t512).size + (strOfNums y514).size) = False:=eq_false (Nat.not_lt.2 c9)
     try have c9b3 : (9223372036854775807 < 1 + t512.size + (strOfNums y514).size) = False:=eq_false (by have h_:=c9;simp only [ByteArray.size_append,show ∀ x_ : UInt8,(⟨#[x_]⟩ : ByteArray).size = 1 from fun _ => rfl] at h_;omega)
     by_cases c10 : (((⟨#[69]⟩ : ByteArray) ++ t512) ++ (strOfNums y514)).size + a1_2.size ≤ 9223372036854775807
     ·rw [if_pos c10] at H;have c10b0:=eq_true c10;have c10b1 : decide ((((⟨#[69]⟩ : ByteArray) ++ t512) ++ (strOfNums y514)).size + a1_2.size ≤ 9223372036854775807) = true:=de_ c10
      try have c10b2 : (9223372036854775807 < (((⟨#[69]⟩ : ByteArray) ++ t512) ++ (strOfNums y514)).size + a1_2.size) = False:=eq_false (Nat.not_lt.2 c10)
      try have c10b3 : (9223372036854775807 < 1 + t512.size + (strOfNums y514).size + a1_2.size) = False:=eq_false (by have h_:=c10;simp only [ByteArray.size_append,show ∀ x_ : UInt8,(⟨#[x_]⟩ : ByteArray).size = 1 from fun _ => rfl] at h_;omega)
      simp only [Option.some.injEq,Prod.mk.injEq] at H;obtain ⟨rfl,rfl⟩:=H;go_enter Try.func79,Try.ntmps79
      go_wp2_with (first|((with_reducible refine gate_dst (N:=3) rfl ?_);refine bE_ 3 #[.int .i64 a1_0,.int .i64 a1_1,.string a1_2] 69 ?_;intro gb506 hg w11 hbox hb;have BK506:=A_ (hbox);have GW506:=gE_ hg HB;have GE506:=gE_ hg HB;replace HB:=bS_ HB hb;clear hb hbox hg;obtain ⟨hcz12_0,hcz12_1,hcz12_2,hfz12_0,hfz12_1,hfz12_2⟩:=k3f_ BK506)|((with_reducible refine gate_callee (f:=100) rfl ?_);refine gL_ (some 9) Try.func100 #[.agg #[.int .i64 a1_0,.int .i64 a1_1,.string a1_2]] ?_;(with_reducible refine (impl_EntryOk.calls k a1_0 a1_1 a1_2 true _ A3.out).mono ?_);rintro e w13 ⟨rfl,hb⟩;refine ⟨_,rfl,?_⟩;replace BK506:=kB_ BK506 hb;replace HB:=bS_ HB hb;(try clear hb))|(go_at_call 47;(with_reducible refine (impl_within.calls a0 1 100000 true _ A5.out).mono ?_);rintro e w' ⟨rfl,⟨nd,rfl⟩⟩;obtain ⟨hcz14_0,hcz14_1,hcz14_2,hfz14_0,hfz14_1,hfz14_2⟩:=k3f_ BK506)|((with_reducible refine gate_dst (N:=20) rfl ?_);refine rX_ (d:=(Kd.int .i64)) (e:=3) (xs:=([a0,a1_0] : List Int)) (inner:=[.int .i64 a0,.int .i64 a1_0]) (ok:=fun _ => True) (okp:=fun _ => True) 20 (Reps.one (show Kd.M (Kd.int .i64) _ _ _ a0 [.int .i64 a0] from rfl) (Reps.one (show Kd.M (Kd.int .i64) _ _ _ a1_0 [.int .i64 a1_0] from rfl) (Reps.none _ _))) ?_;intro v510 w15 ho16 hb hg_ hnew_;clear hg_ hnew_;(rw [← Ny509.out] at ho16);have HO511:=A_ (rw_ ho16 (bz_ (bq_ HB)));replace BK506:=kB_ BK506 hb;replace HB:=bS_ HB hb;clear hb ho16;obtain ⟨Ao17,co17,eo17⟩:=Kd.R_slice HO511.out;subst eo17)|((with_reducible refine gate_callee (f:=76) rfl ?_);refine gL_ (some 21) Try.func76 #[.slice Ao17 y509.length co17] ?_;(with_reducible refine (impl_vars.calls k _ _ y509 t512 t513 _ ?side1 ?side2 A7.out).mono ?_);(case side1 => repeat (exact (Kd.R_reads' HO511.out).2.2));(case side2 => exact (Kd.R_reads' HO511.out).2.1);rintro e w18 ⟨rfl,hb⟩;refine ⟨_,rfl,?_⟩;replace HO511:=rB_ HO511 hb;replace BK506:=kB_ BK506 hb;replace HB:=bS_ HB hb;(try clear hb);obtain ⟨hcz19_0,hcz19_1,hcz19_2,hfz19_0,hfz19_1,hfz19_2⟩:=k3f_ BK506)|((with_reducible refine gate_dst (N:=29) rfl ?_);refine rX_ (d:=(Kd.int .u8)) (e:=5) (xs:=([(a1_1) % 256] : List Int)) (inner:=[.int .u8 ((a1_1) % 256)]) (ok:=fun _ => True) (okp:=fun _ => True) 29 (Reps.one (show Kd.M (Kd.int .u8) _ _ _ ((a1_1) % 256) [.int .u8 ((a1_1) % 256)] from rfl) (Reps.none _ _)) ?_;intro v515 w20 ho21 hb hg_ hnew_;clear hg_ hnew_;(rw [← Ny514.out] at ho21);replace HO511:=rB_ HO511 hb;have HO516:=A_ (rw_ ho21 (bz_ (bq_ HB)));replace BK506:=kB_ BK506 hb;replace HB:=bS_ HB hb;clear hb ho21;have hcv22:=own_string (P:=Try.prog) Try.underlying46 Try.underlying5 Try.underlying9 (Kd.own_of_R HO516.out);obtain ⟨hcz23_0,hcz23_1,hcz23_2,hfz23_0,hfz23_1,hfz23_2⟩:=k3f_ BK506))
      go_ret2;exact ⟨ex_,bq_ HB⟩
     ·rw [if_neg c10] at H;exact absurd H (by simp)
    ·rw [if_neg c9] at H;exact absurd H (by simp)
   ·rw [if_neg c8] at H;exact absurd H (by simp)
  ·replace c6:=Bool.eq_false_iff.mpr c6;subst c6
   have H1 : (some ((⟨#[]⟩ : ByteArray),false)) = some (r1,r2):=by rw [if_neg (show ¬ (false = true) by decide)] at H;exact H
   clear H;have H:=H1;clear H1;simp only [Option.some.injEq,Prod.mk.injEq] at H;obtain ⟨rfl,rfl⟩:=H;go_enter Try.func79,Try.ntmps79
   go_wp2_with (first|((with_reducible refine gate_dst (N:=3) rfl ?_);refine bE_ 3 #[.int .i64 a1_0,.int .i64 a1_1,.string a1_2] 69 ?_;intro gb506 hg w24 hbox hb;have BK506:=A_ (hbox);have GW506:=gE_ hg HB;have GE506:=gE_ hg HB;replace HB:=bS_ HB hb;clear hb hbox hg;obtain ⟨hcz25_0,hcz25_1,hcz25_2,hfz25_0,hfz25_1,hfz25_2⟩:=k3f_ BK506)|((with_reducible refine gate_callee (f:=100) rfl ?_);refine gL_ (some 9) Try.func100 #[.agg #[.int .i64 a1_0,.int .i64 a1_1,.string a1_2]] ?_;(with_reducible refine (impl_EntryOk.calls k a1_0 a1_1 a1_2 true _ A3.out).mono ?_);rintro e w26 ⟨rfl,hb⟩;refine ⟨_,rfl,?_⟩;replace BK506:=kB_ BK506 hb;replace HB:=bS_ HB hb;(try clear hb))|(go_at_call 47;(with_reducible refine (impl_within.calls a0 1 100000 false _ A5.out).mono ?_);rintro e w' ⟨rfl,⟨nd,rfl⟩⟩))
   go_ret2;exact ⟨ex_,bq_ HB⟩
 ·replace c4:=Bool.eq_false_iff.mpr c4;subst c4
  have H1 : (some ((⟨#[]⟩ : ByteArray),false)) = some (r1,r2):=by rw [if_neg (show ¬ (false = true) by decide)] at H;exact H
  clear H;have H:=H1;clear H1;simp only [Option.some.injEq,Prod.mk.injEq] at H;obtain ⟨rfl,rfl⟩:=H;go_enter Try.func79,Try.ntmps79
  go_wp2_with (first|((with_reducible refine gate_dst (N:=3) rfl ?_);refine bE_ 3 #[.int .i64 a1_0,.int .i64 a1_1,.string a1_2] 69 ?_;intro gb506 hg w27 hbox hb;have BK506:=A_ (hbox);have GW506:=gE_ hg HB;have GE506:=gE_ hg HB;replace HB:=bS_ HB hb;clear hb hbox hg;obtain ⟨hcz28_0,hcz28_1,hcz28_2,hfz28_0,hfz28_1,hfz28_2⟩:=k3f_ BK506)|((with_reducible refine gate_callee (f:=100) rfl ?_);refine gL_ (some 9) Try.func100 #[.agg #[.int .i64 a1_0,.int .i64 a1_1,.string a1_2]] ?_;(with_reducible refine (impl_EntryOk.calls k a1_0 a1_1 a1_2 false _ A3.out).mono ?_);rintro e w29 ⟨rfl,hb⟩;refine ⟨_,rfl,?_⟩;replace BK506:=kB_ BK506 hb;replace HB:=bS_ HB hb;(try clear hb)))
  go_ret2;exact ⟨ex_,bq_ HB⟩
def impl_framed.f (k : Nat) (a0 : ByteArray) : Option (ByteArray) := (impl_Frame.f k a0).bind fun bt517 => (some bt517.1)
theorem impl_framed.mono : ∀ a0 k, LeO (impl_framed.f k a0) (impl_framed.f (k + 1) a0) := by
 intro a0 k
 unfold impl_framed.f
 repeat' first
   | (with_reducible exact impl_Frame.mono _ _)
   | (with_reducible exact LeO.refl _)
   | (with_reducible refine LeO.bind ?_ (fun _ => ?_))
set_option maxHeartbeats 8000000 in
set_option maxRecDepth 100000 in
theorem impl_framed.calls (k : Nat) (a0 : ByteArray) (r : ByteArray) (w : World) (h : impl_framed.f k a0 = some r) :
  Calls Try.prog 122 #[.string a0] w fun e w' => e = .returned (.string r) ∧ Below w.heap.size w w':=by
 have HB:=A_ (Below.refl w.heap.size w);unfold impl_framed.f at h;have H:=h;clear h;replace H:=ob_.mp H;obtain ⟨⟨t517,t518⟩,A20,H⟩:=H;(try dsimp only at H);have A2:=A_ A20;clear A20;obtain rfl:=Option.some.inj H;go_enter Try.func122,Try.ntmps122
 go_wp2_with (((with_reducible refine gate_callee (f:=98) rfl ?_);refine gL_ (some 7) Try.func98 #[.string a0] ?_;(with_reducible refine (impl_Frame.calls k a0 t517 t518 _ A2.out).mono ?_);rintro e w3 ⟨rfl,hb⟩;refine ⟨_,rfl,?_⟩;replace HB:=bS_ HB hb;(try clear hb)))
 go_ret;exact ⟨ex_,bq_ HB⟩
def impl_entryFrames.l0 : Nat → List Int → Int → Int → Int → List (S69) → Option (ByteArray)
 | 0,_,_,_,_,_ => none
 | k + 1,x5,x6,x520000,x520001,x520002 => if x6 < (x520002.length : Int) then (if 0 ≤ x6 then ((impl_EntryText.f k (wrap64 ((wrap64 (x520000 + 1)) + x6)) ((rd_T69 x520002 x6).f0) ((rd_T69 x520002 x6).f1) ((rd_T69 x520002 x6).f2)).bind fun bt521 => ((impl_framed.f k bt521.1).bind fun t523 => (if x5.length + t523.size < 140737488355328 then (impl_entryFrames.l0 k (x5 ++ bytesOf t523) (wrap64 (x6 + 1)) x520000 x520001 x520002) else (none)))) else (none)) else (some (strOfNums x5))
def impl_entryFrames.f (k : Nat) (a0_0 : Int) (a0_1 : Int) (l0_2 : List (S69)) (a1 : Int) : Option (ByteArray) := impl_entryFrames.l0 k ([] : List Int) a1 a0_0 a0_1 l0_2
theorem impl_entryFrames.mono_l : ∀ k, (∀ y0 y1 y2 y3 y4, LeO (impl_entryFrames.l0 k y0 y1 y2 y3 y4) (impl_entryFrames.l0 (k + 1) y0 y1 y2 y3 y4))
 | 0 => fun _ _ _ _ _ r h => by simp [impl_entryFrames.l0] at h
 | k + 1 => by
  have ih0:=impl_entryFrames.mono_l k
  ·intro y0 y1 y2 y3 y4
   unfold impl_entryFrames.l0
   repeat' first
   | (with_reducible exact ih0 _ _ _ _ _)
   | (with_reducible exact impl_EntryText.mono _ _ _ _ _)
   | (with_reducible exact impl_framed.mono _ _)
   | (with_reducible exact LeO.refl _)
   | (with_reducible refine LeO.ite ?_ ?_)
   | (with_reducible refine LeO.bind ?_ (fun _ => ?_))
theorem impl_entryFrames.mono : ∀ a0 a1 a2 a3 k, LeO (impl_entryFrames.f k a0 a1 a2 a3) (impl_entryFrames.f (k + 1) a0 a1 a2 a3) := by
 intro a0 a1 a2 a3 k;have ih0:=impl_entryFrames.mono_l k
 unfold impl_entryFrames.f
 repeat' first
   | (with_reducible exact ih0 _ _ _ _ _)
def impl_entryFrames.T5 : Bool × List (List Nat × List Nat) := (true, [([], []), ([0], [0]), ([1], [1]), ([], []), ([2, 3], [2, 3]), ([], []), ([5], [5]), ([], []), ([6, 7], [6, 7]), ([8], [8]), ([4, 9], [4, 9]), ([10], [10]), ([11], [11]), ([11], [11]), ([12, 10, 0, 1, 2, 3, 4, 5, 6, 7, 8, 9, 10, 11, 12], [12]), ([13, 14, 0, 1, 2, 3, 4, 5, 6, 7, 8, 9, 10, 11, 12, 13, 14], [13])])
def impl_entryFrames.B5 : List Nat := [0, 1, 3, 0, 15, 0, 32, 0, 224, 480, 1023, 2047, 4095, 4095, 8191, 32767]
theorem impl_entryFrames.tab5 : rtab .any (opsOf Try.f93 5) = impl_entryFrames.T5 := by kernel_rfl
theorem impl_entryFrames.bits5 : waitsOk impl_entryFrames.T5.2 impl_entryFrames.B5 = true := by kernel_rfl
set_option maxHeartbeats 8000000 in
set_option maxRecDepth 100000 in
theorem impl_entryFrames.calls (k : Nat) (a0_0 : Int) (a0_1 : Int) (A0_2 : Option Addr) (c0_2 : Nat) (l0_2 : List (S69)) (a1 : Int) (r : ByteArray) (w : World) (hr0_2 : Kd.C k69 w A0_2 l0_2.length l0_2) (hc0_2 : l0_2.length ≤ c0_2) (h : impl_entryFrames.f k a0_0 a0_1 l0_2 a1 = some r) :
  Calls Try.prog 93 #[.agg #[.int .i64 a0_0,.int .i64 a0_1,.slice A0_2 l0_2.length c0_2],.int .i64 a1] w fun e w' => e = .returned (.string r) ∧ Below w.heap.size w w':=by
 have hu24:=Try.underlying24;have hu69:=Try.underlying69;have HR0_2:=A_ hr0_2;have HC0_2:=A_ hc0_2;clear hr0_2 hc0_2;have HB:=A_ (Below.refl w.heap.size w);unfold impl_entryFrames.f at h;have H:=h;clear h;have H':=A_ H;clear H;go_enter Try.func93,Try.ntmps93
 go_wp2_with (((with_reducible refine gate_dst (N:=2) rfl ?_);refine bE_ 2 #[.int .i64 a0_0,.int .i64 a0_1,.slice A0_2 l0_2.length c0_2] 24 ?_;intro gb519 hg w3 hbox hb;have BK519:=A_ (hbox);have GW519:=gE_ hg HB;have GE519:=gE_ hg HB;replace HB:=bS_ HB hb;clear hb hbox hg))
 go_loopg [5,6] k (fun kq v5 v6 w' => ∃ (x5_1 : List Int) (x6_1 : Int),v6 = .int .i64 x6_1 ∧ Aside0 (impl_entryFrames.l0 kq x5_1 x6_1 a0_0 a0_1 l0_2 = some r) ∧ Aside0 (kq ≤ k) ∧ Aside0 (Kd.R (Kd.int .u8) 5 w' w.heap.size (fun _ => True) v5 x5_1) ∧ Aside0 (w'.heap[gb519]? = some (.cells #[.int .i64 a0_0,.int .i64 a0_1,(.slice A0_2 l0_2.length c0_2)] 24 (0,0))) ∧ Aside0 (Below w.heap.size w w'))
 case atStart => exact ⟨(([] : List Int)),(a1),(by rfl),H',⟨Nat.le_refl _⟩,⟨by exact Kd.R_nil _ _ _ _ _⟩,⟨kq_ BK519⟩,⟨bq_ HB⟩⟩
 case round =>
  clear H'
  try clear p2
  obtain ⟨x5_1,x6_1,rfl,HA,HK1,HO_5,BK519,HB⟩:=hrel
  cases gk with
  | zero => exact absurd HA.out (by simp [impl_entryFrames.l0])
  | succ k1 =>
   have H:=HA.out;clear HA;simp only [impl_entryFrames.l0] at H
   by_cases c4 : x6_1 < (l0_2.length : Int)
   ·rw [if_pos c4] at H;have c4b0 : decide (x6_1 < (l0_2.length : Int)) = true:=de_ c4;clear c4
    by_cases c5 : 0 ≤ x6_1
    ·rw [if_pos c5] at H;have c5b0 : decide (0 ≤ x6_1) = true:=de_ c5;clear c5;replace H:=ob_.mp H;obtain ⟨⟨t521,t522⟩,A60,H⟩:=H;(try dsimp only at H);have A6:=A_ A60;clear A60;replace H:=ob_.mp H;obtain ⟨t523,A70,H⟩:=H;have A7:=A_ A70;clear A70
     by_cases c8 : x5_1.length + t523.size < 140737488355328
     ·rw [if_pos c8] at H;have LMc8:=A_ c8;clear c8;obtain ⟨y524,hy524⟩ : ∃ y_ : List Int,y_ = (x5_1 ++ bytesOf t523):=⟨_,rfl⟩
      replace H : (impl_entryFrames.l0 k1 y524 (wrap64 (x6_1 + 1)) a0_0 a0_1 l0_2) = some r:=by (rw [hy524];with_reducible exact H)
      have Ny524:=A_ hy524;clear hy524;have H':=A_ H;clear H;obtain ⟨hcz9_0,hcz9_1,hcz9_2,hfz9_0,hfz9_1,hfz9_2⟩:=k3f_ BK519
      try go_wp2
      replace HO_5:=A_ (Rd_ HO_5.out);replace BK519:=A_ (kd_ BK519.out);replace HB:=A_ (pd_ HB.out);have p520 : 0 ≤ (x6_1 : Int):=oda_;have q520 : x6_1 < (l0_2.length : Int):=oda_;obtain ⟨ad520,e520,hx520_0,hx520_1,hx520_2⟩:=at_T69 HR0_2.out x6_1 p520 q520;have hw520_2:=hx520_2;have hw520_1:=hx520_1;have hw520_0:=hx520_0
      cases e520
      replace hx520_0:=(HB.out.cell (wb_ w _ hx520_0)).trans hx520_0;replace hx520_1:=(HB.out.cell (wb_ w _ hx520_1)).trans hx520_1;replace hx520_2:=(HB.out.cell (wb_ w _ hx520_2)).trans hx520_2;replace p520:=eq_true p520;replace q520:=eq_true q520;refine start_ (n:=16) (S:=fun w' => w'.cell? ⟨gb519,0,none⟩ = some (.int .i64 a0_0) ∧ w'.cell? ⟨gb519,1,none⟩ = some (.int .i64 a0_1) ∧ w'.cell? ⟨gb519,2,none⟩ = some (.slice (some ad520) l0_2.length c0_2) ∧ w'.cell? (ad520.add ((x6_1).toNat * 3)) = some (.int .i64 ((rd_T69 l0_2 x6_1).f0)) ∧ w'.cell? ⟨(ad520.add ((x6_1).toNat * 3)).block,(ad520.add ((x6_1).toNat * 3)).off + 1,none⟩ = some (.int .i64 ((rd_T69 l0_2 x6_1).f1)) ∧ w'.cell? ⟨(ad520.add ((x6_1).toNat * 3)).block,(ad520.add ((x6_1).toNat * 3)).off + 2,none⟩ = some (.string ((rd_T69 l0_2 x6_1).f2))) (ds:=[]) #[false,false,false,false,false,false,false,false,false,false,false,false,false,false,false,false] (by kernel_rfl) rfl rfl ⟨kC_ BK519 0,kC_ BK519 1,kC_ BK519 2,((HB.out.cell (wb_ w _ hw520_0)).trans hw520_0),((HB.out.cell (wb_ w _ hw520_1)).trans hw520_1),((HB.out.cell (wb_ w _ hw520_2)).trans hw520_2)⟩ (fun hHeld => ?_);refine with_tabW impl_entryFrames.tab5 impl_entryFrames.bits5 (fun HT_ HW_ => ?_);generalize wr.drew = w10 at HO_5 BK519 HB hx520_0 hx520_1 hx520_2 hHeld ⊢;refine pU_ 0 (some 18) ?_
      refine pU_ 3 (some 21) ?_
      refine pU_ 5 (some 23) ?_
      refine pU_ 7 (some 25) ?_
      refine tK_ 1 (some 19) hHeld ?_
      refine pU_ 2 (some 20) ?_
      refine pU_ 4 (some 22) ?_
      refine tK_ 6 (some 24) hHeld ?_
      refine pU_ 8 (some 26) ?_
      refine tK_ 9 (some 27) hHeld ?_
      refine oN_ 10 (some 28) (fun K hK => ?_);refine gs_ Try.func79 #[.int .i64 (wrap64 ((wrap64 (a0_0 + 1)) + x6_1)),.agg #[.int .i64 ((rd_T69 l0_2 x6_1).f0),.int .i64 ((rd_T69 l0_2 x6_1).f1),.string ((rd_T69 l0_2 x6_1).f2)]] ?_;with_reducible refine (impl_EntryText.calls k1 (wrap64 ((wrap64 (a0_0 + 1)) + x6_1)) ((rd_T69 l0_2 x6_1).f0) ((rd_T69 l0_2 x6_1).f1) ((rd_T69 l0_2 x6_1).f2) t521 t522 _ A6.out).mono ?_;rintro e w11 ⟨rfl,hb⟩;refine ⟨_,rfl,?_⟩;replace HO_5:=rB_ HO_5 hb;replace BK519:=kB_ BK519 hb;replace HB:=bS_ HB hb
      (try clear hb)
      refine hK.out _ _ ⟨kC_ BK519 0,kC_ BK519 1,kC_ BK519 2,((HB.out.cell (wb_ w _ hw520_0)).trans hw520_0),((HB.out.cell (wb_ w _ hw520_1)).trans hw520_1),((HB.out.cell (wb_ w _ hw520_2)).trans hw520_2)⟩ (fun hHeld => ?_);clear hK K;refine nX_ (some 28) ?_
      refine pU_ 11 (some 17) ?_
      refine pU_ 12 (some 29) ?_
      refine pU_ 13 (some 30) ?_
      refine pU_ 14 (some 7) ?_
      refine pU_ 15 (some 8) ?_
      refine done_ (done_of HT_.out (by kernel_rfl)) ?_
      try go_wp2_with (first|((with_reducible refine gate_callee (f:=122) rfl ?_);refine gL_ (some 33) Try.func122 #[.string t521] ?_;(with_reducible refine (impl_framed.calls k1 t521 t523 _ A7.out).mono ?_);rintro e w12 ⟨rfl,hb⟩;refine ⟨_,rfl,?_⟩;replace HO_5:=rB_ HO_5 hb;replace BK519:=kB_ BK519 hb;replace HB:=bS_ HB hb;(try clear hb))|(at_builtin;refine print_append_str (w0:=w) w.heap.size rfl (.tmp 31) _ 46 9 5 rfl Try.underlying46 Try.underlying9 info5 u5 x5_1 t523 rfl rfl ?aO ?aB ?aS ?aL ?_;(case aB => exact (bq_ HB));(case aO => exact (Kd.own_of_R (rq_ HO_5)));(case aS => exact (bz_ (bq_ HB)));(case aL => have:=LMc8.out;omega);intro v525 w13 ho0 hb hg;have ho:=Kd.R_of_own (h1:=fun _ => rfl) (ok:=fun _ => True) ho0 (fun _ _ => trivial);clear ho0;have hat:=True.intro;rw [← Ny524.out] at ho;change Kd.R (Kd.int .u8) 5 w13 w.heap.size (fun _ => True) v525 y524 at ho;replace BK519:=kG_ BK519 hg HO_5;replace HB:=A_ (hb);have HO526:=A_ (ho);clear HO_5;clear ho hb hg hat))
      go_roundg k1
      case measure => have:=HK1.out;omega
      case rel => exact ⟨(y524),(wrap64 (x6_1 + 1)),(by rfl),H',⟨by have:=HK1.out;omega⟩,⟨HO526.out⟩,⟨kq_ BK519⟩,⟨bq_ HB⟩⟩
     ·rw [if_neg c8] at H;exact absurd H (by simp)
    ·rw [if_neg c5] at H;exact absurd H (by simp)
   ·rw [if_neg c4] at H;have c4b0 : decide (x6_1 < (l0_2.length : Int)) = false:=decide_eq_false c4;clear c4;obtain rfl:=Option.some.inj H;obtain ⟨hcz14_0,hcz14_1,hcz14_2,hfz14_0,hfz14_1,hfz14_2⟩:=k3f_ BK519;have hcv15:=own_string (P:=Try.prog) Try.underlying46 Try.underlying5 Try.underlying9 (Kd.own_of_R HO_5.out);go_wp2;go_ret;exact ⟨ex_,bq_ HB⟩
def impl_LogFile.f (k : Nat) (a0_0 : Int) (a0_1 : Int) (l0_2 : List (S69)) : Option (ByteArray × Bool) := (impl_LogOk.f k a0_0 a0_1 l0_2).bind fun t528 => (if t528 = true then ((impl_vars.f k (([a0_0, a0_1] : List Int))).bind fun bt532 => (if 1 + bt532.1.size ≤ 9223372036854775807 then ((impl_framed.f k ((⟨#[83]⟩ : ByteArray) ++ bt532.1)).bind fun t534 => ((impl_entryFrames.f k a0_0 a0_1 l0_2 0).bind fun t535 => (if t534.size + t535.size ≤ 9223372036854775807 then (if ((t534 ++ t535).size : Int) > 20000 then (some ((⟨#[]⟩ : ByteArray), false)) else (some (t534 ++ t535, true))) else (none)))) else (none))) else (some ((⟨#[]⟩ : ByteArray), false)))
theorem impl_LogFile.mono : ∀ a0 a1 a2 k, LeO (impl_LogFile.f k a0 a1 a2) (impl_LogFile.f (k + 1) a0 a1 a2) := by
 intro a0 a1 a2 k
 unfold impl_LogFile.f
 repeat' first
   | (with_reducible exact impl_LogOk.mono _ _ _ _)
   | (with_reducible exact impl_entryFrames.mono _ _ _ _ _)
   | (with_reducible exact impl_framed.mono _ _)
   | (with_reducible exact impl_vars.mono _ _)
   | (with_reducible exact LeO.refl _)
   | (with_reducible refine LeO.ite ?_ ?_)
   | (with_reducible refine LeO.bind ?_ (fun _ => ?_))
set_option maxHeartbeats 8000000 in
set_option maxRecDepth 100000 in
theorem impl_LogFile.calls (k : Nat) (a0_0 : Int) (a0_1 : Int) (A0_2 : Option Addr) (c0_2 : Nat) (l0_2 : List (S69)) (r1 : ByteArray) (r2 : Bool) (w : World) (hr0_2 : Kd.C k69 w A0_2 l0_2.length l0_2) (hc0_2 : l0_2.length ≤ c0_2) (h : impl_LogFile.f k a0_0 a0_1 l0_2 = some (r1, r2)) :
  Calls Try.prog 91 #[.agg #[.int .i64 a0_0,.int .i64 a0_1,.slice A0_2 l0_2.length c0_2]] w fun e w' => e = .returned (.tuple #[.string r1,.bool r2]) ∧ Below w.heap.size w w':=by
 have hu24:=Try.underlying24;have HR0_2:=A_ hr0_2;have HC0_2:=A_ hc0_2;clear hr0_2 hc0_2;have HB:=A_ (Below.refl w.heap.size w);unfold impl_LogFile.f at h;have H:=h;clear h;replace H:=ob_.mp H;obtain ⟨t528,A20,H⟩:=H;have A2:=A_ A20;clear A20
 by_cases c3 : t528 = true
 ·subst c3
  rw [if_pos rfl] at H;obtain ⟨y529,hy529⟩ : ∃ y_ : List Int,y_ = (([a0_0,a0_1] : List Int)):=⟨_,rfl⟩
  replace H : ((impl_vars.f k y529).bind fun bt532 => (if 1 + bt532.1.size ≤ 9223372036854775807 then ((impl_framed.f k ((⟨#[83]⟩ : ByteArray) ++ bt532.1)).bind fun t534 => ((impl_entryFrames.f k a0_0 a0_1 l0_2 0).bind fun t535 => (if t534.size + t535.size ≤ 9223372036854775807 then (if ((t534 ++ t535).size : Int) > 20000 then (some ((⟨#[]⟩ : ByteArray),false)) else (some (t534 ++ t535,true))) else (none)))) else (none))) = some (r1,r2):=by (rw [hy529];with_reducible exact H)
  have Ny529:=A_ hy529;clear hy529;replace H:=ob_.mp H;obtain ⟨⟨t532,t533⟩,A40,H⟩:=H;(try dsimp only at H);have A4:=A_ A40;clear A40
  by_cases c5 : 1 + t532.size ≤ 9223372036854775807
  ·rw [if_pos c5] at H;have c5b0:=eq_true c5;have c5b1 : decide (1 + t532.size ≤ 9223372036854775807) = true:=de_ c5
   try have c5b2 : (9223372036854775807 < 1 + t532.size) = False:=eq_false (Nat.not_lt.2 c5)
   replace H:=ob_.mp H;obtain ⟨t534,A60,H⟩:=H;have A6:=A_ A60;clear A60;replace H:=ob_.mp H;obtain ⟨t535,A70,H⟩:=H;have A7:=A_ A70;clear A70
   by_cases c8 : t534.size + t535.size ≤ 9223372036854775807
   ·rw [if_pos c8] at H;have c8b0:=eq_true c8;have c8b1 : decide (t534.size + t535.size ≤ 9223372036854775807) = true:=de_ c8
    try have c8b2 : (9223372036854775807 < t534.size + t535.size) = False:=eq_false (Nat.not_lt.2 c8)
    by_cases c9 : ((t534 ++ t535).size : Int) > 20000
    ·rw [if_pos c9] at H;have c9b0 : decide (20000 < ((t534 ++ t535).size : Int)) = true:=de_ c9;have c9b9:=c9b0
     try simp only [ByteArray.size_append,Int.natCast_add] at c9b9
     have c9b1 : decide (20000 < (t534 ++ t535).size) = true:=de_ (by omega);clear c9;simp only [Option.some.injEq,Prod.mk.injEq] at H;obtain ⟨rfl,rfl⟩:=H;go_enter Try.func91,Try.ntmps91
     try go_wp2_with (first|((with_reducible refine gate_dst (N:=1) rfl ?_);refine bE_ 1 #[.int .i64 a0_0,.int .i64 a0_1,.slice A0_2 l0_2.length c0_2] 24 ?_;intro gb527 hg w10 hbox hb;have BK527:=A_ (hbox);have GW527:=gE_ hg HB;have GE527:=gE_ hg HB;replace HB:=bS_ HB hb;clear hb hbox hg;obtain ⟨hcz11_0,hcz11_1,hcz11_2,hfz11_0,hfz11_1,hfz11_2⟩:=k3f_ BK527)|((with_reducible refine gate_callee (f:=48) rfl ?_);refine gL_ (some 8) Try.func48 #[.agg #[.int .i64 a0_0,.int .i64 a0_1,.slice A0_2 l0_2.length c0_2]] ?_;(with_reducible refine (impl_LogOk.calls k a0_0 a0_1 _ _ l0_2 true _ ?side1 ?side2 A2.out).mono ?_);(case side1 => repeat (exact (Kd.C_below HR0_2.out HB.out)));(case side2 => exact HC0_2.out);rintro e w12 ⟨rfl,hb⟩;refine ⟨_,rfl,?_⟩;replace BK527:=kB_ BK527 hb;replace HB:=bS_ HB hb;(try clear hb);obtain ⟨hcz13_0,hcz13_1,hcz13_2,hfz13_0,hfz13_1,hfz13_2⟩:=k3f_ BK527)|((with_reducible refine gate_dst (N:=15) rfl ?_);refine rX_ (d:=(Kd.int .i64)) (e:=3) (xs:=([a0_0,a0_1] : List Int)) (inner:=[.int .i64 a0_0,.int .i64 a0_1]) (ok:=fun _ => True) (okp:=fun _ => True) 15 (Reps.one (show Kd.M (Kd.int .i64) _ _ _ a0_0 [.int .i64 a0_0] from rfl) (Reps.one (show Kd.M (Kd.int .i64) _ _ _ a0_1 [.int .i64 a0_1] from rfl) (Reps.none _ _))) ?_;intro v530 w14 ho15 hb hg_ hnew_;clear hg_ hnew_;(rw [← Ny529.out] at ho15);have HO531:=A_ (rw_ ho15 (bz_ (bq_ HB)));replace BK527:=kB_ BK527 hb;replace HB:=bS_ HB hb;clear hb ho15;obtain ⟨Ao16,co16,eo16⟩:=Kd.R_slice HO531.out;subst eo16)|((with_reducible refine gate_callee (f:=76) rfl ?_);refine gL_ (some 16) Try.func76 #[.slice Ao16 y529.length co16] ?_;(with_reducible refine (impl_vars.calls k _ _ y529 t532 t533 _ ?side1 ?side2 A4.out).mono ?_);(case side1 => repeat (exact (Kd.R_reads' HO531.out).2.2));(case side2 => exact (Kd.R_reads' HO531.out).2.1);rintro e w17 ⟨rfl,hb⟩;refine ⟨_,rfl,?_⟩;replace HO531:=rB_ HO531 hb;replace BK527:=kB_ BK527 hb;replace HB:=bS_ HB hb;(try clear hb)))
     replace HO531:=A_ (Rd_ HO531.out);replace BK527:=A_ (kd_ BK527.out);replace HB:=A_ (pd_ HB.out);refine start_ (n:=7) (S:=fun w' => w'.cell? ⟨gb527,0,none⟩ = some (.int .i64 a0_0) ∧ w'.cell? ⟨gb527,1,none⟩ = some (.int .i64 a0_1) ∧ w'.cell? ⟨gb527,2,none⟩ = some (.slice A0_2 l0_2.length c0_2)) (ds:=[]) #[false,false,false,false,false,false,false] (by kernel_rfl) rfl rfl ⟨kC_ BK527 0,kC_ BK527 1,kC_ BK527 2⟩ (fun hHeld => ?_);generalize w17.drew = w18 at HO531 BK527 HB hHeld ⊢;refine pure_ (i:=0) (N:=some 19) (v:=?_) (a':=?_) #[true,false,false,false,false,false,false] rfl rfl (by kernel_rfl) (fun _ _ _ h => h) (Or.inl ⟨by rfl,?_⟩) ?_ ?_;rotate_left
     ·intro w';go_simp;with_reducible rfl
     rotate_left
     ·exact ux_
     refine pure_ (i:=1) (N:=some 20) (v:=?_) (a':=?_) #[true,true,false,false,false,false,false] rfl rfl (by kernel_rfl) (fun _ _ _ h => h) (Or.inl ⟨by rfl,?_⟩) ?_ ?_;rotate_left
     ·intro w';go_simp;with_reducible rfl
     rotate_left
     ·exact ux_
     refine take_ (i:=3) (N:=some 22) (v:=?_) (a':=?_) #[true,true,false,true,false,false,false] rfl rfl (by kernel_rfl) (fun _ _ _ h => h) (Or.inl ⟨by rfl,?_⟩) hHeld ?_ ?_;rotate_left
     ·rintro w' ⟨s0,s1,s2⟩;go_simp;with_reducible rfl
     rotate_left
     ·exact ux_
     refine one_ (i:=2) (N:=some 21) #[true,true,true,true,false,false,false] rfl rfl (by kernel_rfl) (by decide) (fun K hK => ?_);refine gs_ Try.func122 #[.string ((⟨#[83]⟩ : ByteArray) ++ t532)] ?_;with_reducible refine (impl_framed.calls k ((⟨#[83]⟩ : ByteArray) ++ t532) t534 _ A6.out).mono ?_;rintro e w19 ⟨rfl,hb⟩;refine ⟨_,rfl,?_⟩;replace HO531:=rB_ HO531 hb;replace BK527:=kB_ BK527 hb;replace HB:=bS_ HB hb
     (try clear hb)
     refine hK.out _ _ ⟨kC_ BK527 0,kC_ BK527 1,kC_ BK527 2⟩ (fun hHeld => ?_);clear hK K;refine nX_ (some 21) ?_
     refine one_ (i:=4) (N:=some 23) #[true,true,true,true,true,false,false] rfl rfl (by kernel_rfl) (by decide) (fun K hK => ?_);refine gs_ Try.func93 #[.agg #[.int .i64 a0_0,.int .i64 a0_1,.slice A0_2 l0_2.length c0_2],.int .i64 0] ?_;with_reducible refine (impl_entryFrames.calls k a0_0 a0_1 _ _ l0_2 0 t535 _ ?side1 ?side2 A7.out).mono ?_
     (case side1 => repeat (exact (Kd.C_below HR0_2.out HB.out)))
     (case side2 => exact HC0_2.out)
     rintro e w20 ⟨rfl,hb⟩;refine ⟨_,rfl,?_⟩;replace HO531:=rB_ HO531 hb;replace BK527:=kB_ BK527 hb;replace HB:=bS_ HB hb
     (try clear hb)
     refine hK.out _ _ ⟨kC_ BK527 0,kC_ BK527 1,kC_ BK527 2⟩ (fun hHeld => ?_);clear hK K;refine nX_ (some 23) ?_
     refine pure_ (i:=5) (N:=some 24) (v:=?_) (a':=?_) #[true,true,true,true,true,true,false] rfl rfl (by kernel_rfl) (fun _ _ _ h => h) (Or.inl ⟨by rfl,?_⟩) ?_ ?_;rotate_left
     ·intro w';go_simp;with_reducible rfl
     rotate_left
     ·exact ux_
     refine pure_ (i:=6) (N:=some 6) (v:=?_) (a':=?_) #[true,true,true,true,true,true,true] rfl rfl (by kernel_rfl) (fun _ _ _ h => h) (Or.inl ⟨by rfl,?_⟩) ?_ ?_;rotate_left
     ·intro w';go_simp;with_reducible rfl
     rotate_left
     ·exact ux_
     refine done_ (by kernel_rfl) ?_
     try go_wp2
     go_ret2;exact ⟨ex_,bq_ HB⟩
    ·rw [if_neg c9] at H;have c9b0 : decide (20000 < ((t534 ++ t535).size : Int)) = false:=decide_eq_false c9;have c9b9:=c9b0
     try simp only [ByteArray.size_append,Int.natCast_add] at c9b9
     have c9b1 : decide (20000 < (t534 ++ t535).size) = false:=decide_eq_false (by omega);clear c9;simp only [Option.some.injEq,Prod.mk.injEq] at H;obtain ⟨rfl,rfl⟩:=H;go_enter Try.func91,Try.ntmps91
     try go_wp2_with (first|((with_reducible refine gate_dst (N:=1) rfl ?_);refine bE_ 1 #[.int .i64 a0_0,.int .i64 a0_1,.slice A0_2 l0_2.length c0_2] 24 ?_;intro gb527 hg w21 hbox hb;have BK527:=A_ (hbox);have GW527:=gE_ hg HB;have GE527:=gE_ hg HB;replace HB:=bS_ HB hb;clear hb hbox hg;obtain ⟨hcz22_0,hcz22_1,hcz22_2,hfz22_0,hfz22_1,hfz22_2⟩:=k3f_ BK527)|((with_reducible refine gate_callee (f:=48) rfl ?_);refine gL_ (some 8) Try.func48 #[.agg #[.int .i64 a0_0,.int .i64 a0_1,.slice A0_2 l0_2.length c0_2]] ?_;(with_reducible refine (impl_LogOk.calls k a0_0 a0_1 _ _ l0_2 true _ ?side1 ?side2 A2.out).mono ?_);(case side1 => repeat (exact (Kd.C_below HR0_2.out HB.out)));(case side2 => exact HC0_2.out);rintro e w23 ⟨rfl,hb⟩;refine ⟨_,rfl,?_⟩;replace BK527:=kB_ BK527 hb;replace HB:=bS_ HB hb;(try clear hb);obtain ⟨hcz24_0,hcz24_1,hcz24_2,hfz24_0,hfz24_1,hfz24_2⟩:=k3f_ BK527)|((with_reducible refine gate_dst (N:=15) rfl ?_);refine rX_ (d:=(Kd.int .i64)) (e:=3) (xs:=([a0_0,a0_1] : List Int)) (inner:=[.int .i64 a0_0,.int .i64 a0_1]) (ok:=fun _ => True) (okp:=fun _ => True) 15 (Reps.one (show Kd.M (Kd.int .i64) _ _ _ a0_0 [.int .i64 a0_0] from rfl) (Reps.one (show Kd.M (Kd.int .i64) _ _ _ a0_1 [.int .i64 a0_1] from rfl) (Reps.none _ _))) ?_;intro v530 w25 ho26 hb hg_ hnew_;clear hg_ hnew_;(rw [← Ny529.out] at ho26);have HO531:=A_ (rw_ ho26 (bz_ (bq_ HB)));replace BK527:=kB_ BK527 hb;replace HB:=bS_ HB hb;clear hb ho26;obtain ⟨Ao27,co27,eo27⟩:=Kd.R_slice HO531.out;subst eo27)|((with_reducible refine gate_callee (f:=76) rfl ?_);refine gL_ (some 16) Try.func76 #[.slice Ao27 y529.length co27] ?_;(with_reducible refine (impl_vars.calls k _ _ y529 t532 t533 _ ?side1 ?side2 A4.out).mono ?_);(case side1 => repeat (exact (Kd.R_reads' HO531.out).2.2));(case side2 => exact (Kd.R_reads' HO531.out).2.1);rintro e w28 ⟨rfl,hb⟩;refine ⟨_,rfl,?_⟩;replace HO531:=rB_ HO531 hb;replace BK527:=kB_ BK527 hb;replace HB:=bS_ HB hb;(try clear hb)))
     replace HO531:=A_ (Rd_ HO531.out);replace BK527:=A_ (kd_ BK527.out);replace HB:=A_ (pd_ HB.out);refine start_ (n:=7) (S:=fun w' => w'.cell? ⟨gb527,0,none⟩ = some (.int .i64 a0_0) ∧ w'.cell? ⟨gb527,1,none⟩ = some (.int .i64 a0_1) ∧ w'.cell? ⟨gb527,2,none⟩ = some (.slice A0_2 l0_2.length c0_2)) (ds:=[]) #[false,false,false,false,false,false,false] (by kernel_rfl) rfl rfl ⟨kC_ BK527 0,kC_ BK527 1,kC_ BK527 2⟩ (fun hHeld => ?_);generalize w28.drew = w29 at HO531 BK527 HB hHeld ⊢;refine pure_ (i:=0) (N:=some 19) (v:=?_) (a':=?_) #[true,false,false,false,false,false,false] rfl rfl (by kernel_rfl) (fun _ _ _ h => h) (Or.inl ⟨by rfl,?_⟩) ?_ ?_;rotate_left
     ·intro w';go_simp;with_reducible rfl
     rotate_left
     ·exact ux_
     refine pure_ (i:=1) (N:=some 20) (v:=?_) (a':=?_) #[true,true,false,false,false,false,false] rfl rfl (by kernel_rfl) (fun _ _ _ h => h) (Or.inl ⟨by rfl,?_⟩) ?_ ?_;rotate_left
     ·intro w';go_simp;with_reducible rfl
     rotate_left
     ·exact ux_
     refine take_ (i:=3) (N:=some 22) (v:=?_) (a':=?_) #[true,true,false,true,false,false,false] rfl rfl (by kernel_rfl) (fun _ _ _ h => h) (Or.inl ⟨by rfl,?_⟩) hHeld ?_ ?_;rotate_left
     ·rintro w' ⟨s0,s1,s2⟩;go_simp;with_reducible rfl
     rotate_left
     ·exact ux_
     refine one_ (i:=2) (N:=some 21) #[true,true,true,true,false,false,false] rfl rfl (by kernel_rfl) (by decide) (fun K hK => ?_);refine gs_ Try.func122 #[.string ((⟨#[83]⟩ : ByteArray) ++ t532)] ?_;with_reducible refine (impl_framed.calls k ((⟨#[83]⟩ : ByteArray) ++ t532) t534 _ A6.out).mono ?_;rintro e w30 ⟨rfl,hb⟩;refine ⟨_,rfl,?_⟩;replace HO531:=rB_ HO531 hb;replace BK527:=kB_ BK527 hb;replace HB:=bS_ HB hb
     (try clear hb)
     refine hK.out _ _ ⟨kC_ BK527 0,kC_ BK527 1,kC_ BK527 2⟩ (fun hHeld => ?_);clear hK K;refine nX_ (some 21) ?_
     refine one_ (i:=4) (N:=some 23) #[true,true,true,true,true,false,false] rfl rfl (by kernel_rfl) (by decide) (fun K hK => ?_);refine gs_ Try.func93 #[.agg #[.int .i64 a0_0,.int .i64 a0_1,.slice A0_2 l0_2.length c0_2],.int .i64 0] ?_;with_reducible refine (impl_entryFrames.calls k a0_0 a0_1 _ _ l0_2 0 t535 _ ?side1 ?side2 A7.out).mono ?_
     (case side1 => repeat (exact (Kd.C_below HR0_2.out HB.out)))
     (case side2 => exact HC0_2.out)
     rintro e w31 ⟨rfl,hb⟩;refine ⟨_,rfl,?_⟩;replace HO531:=rB_ HO531 hb;replace BK527:=kB_ BK527 hb;replace HB:=bS_ HB hb
     (try clear hb)
     refine hK.out _ _ ⟨kC_ BK527 0,kC_ BK527 1,kC_ BK527 2⟩ (fun hHeld => ?_);clear hK K;refine nX_ (some 23) ?_
     refine pure_ (i:=5) (N:=some 24) (v:=?_) (a':=?_) #[true,true,true,true,true,true,false] rfl rfl (by kernel_rfl) (fun _ _ _ h => h) (Or.inl ⟨by rfl,?_⟩) ?_ ?_;rotate_left
     ·intro w';go_simp;with_reducible rfl
     rotate_left
     ·exact ux_
     refine pure_ (i:=6) (N:=some 6) (v:=?_) (a':=?_) #[true,true,true,true,true,true,true] rfl rfl (by kernel_rfl) (fun _ _ _ h => h) (Or.inl ⟨by rfl,?_⟩) ?_ ?_;rotate_left
     ·intro w';go_simp;with_reducible rfl
     rotate_left
     ·exact ux_
     refine done_ (by kernel_rfl) ?_
     try go_wp2
     go_ret2;exact ⟨ex_,bq_ HB⟩
   ·rw [if_neg c8] at H;exact absurd H (by simp)
  ·rw [if_neg c5] at H;exact absurd H (by simp)
 ·replace c3:=Bool.eq_false_iff.mpr c3;subst c3
  have H1 : (some ((⟨#[]⟩ : ByteArray),false)) = some (r1,r2):=by rw [if_neg (show ¬ (false = true) by decide)] at H;exact H
  clear H;have H:=H1;clear H1;simp only [Option.some.injEq,Prod.mk.injEq] at H;obtain ⟨rfl,rfl⟩:=H;go_enter Try.func91,Try.ntmps91
  go_wp2_with (first|((with_reducible refine gate_dst (N:=1) rfl ?_);refine bE_ 1 #[.int .i64 a0_0,.int .i64 a0_1,.slice A0_2 l0_2.length c0_2] 24 ?_;intro gb527 hg w32 hbox hb;have BK527:=A_ (hbox);have GW527:=gE_ hg HB;have GE527:=gE_ hg HB;replace HB:=bS_ HB hb;clear hb hbox hg;obtain ⟨hcz33_0,hcz33_1,hcz33_2,hfz33_0,hfz33_1,hfz33_2⟩:=k3f_ BK527)|((with_reducible refine gate_callee (f:=48) rfl ?_);refine gL_ (some 8) Try.func48 #[.agg #[.int .i64 a0_0,.int .i64 a0_1,.slice A0_2 l0_2.length c0_2]] ?_;(with_reducible refine (impl_LogOk.calls k a0_0 a0_1 _ _ l0_2 false _ ?side1 ?side2 A2.out).mono ?_);(case side1 => repeat (exact (Kd.C_below HR0_2.out HB.out)));(case side2 => exact HC0_2.out);rintro e w34 ⟨rfl,hb⟩;refine ⟨_,rfl,?_⟩;replace BK527:=kB_ BK527 hb;replace HB:=bS_ HB hb;(try clear hb)))
  go_ret2;exact ⟨ex_,bq_ HB⟩
end Go.Proofs.Ytbcgnncbiblibaa.PFnExactLogSteps
