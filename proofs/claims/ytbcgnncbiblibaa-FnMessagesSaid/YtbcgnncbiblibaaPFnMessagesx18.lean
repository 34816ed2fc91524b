/- The contracts of Go functions that this law reaches: what each call returns, by a plain Lean function of its arguments, under the conditions that each names. By the kit's print.py, run by this repo's wip/gen/pp.py: not to the letter what print.sh prints. -/
import Derived.Test.YtbcgnncbiblibaaPFnMessagesx0
import Derived.Test.YtbcgnncbiblibaaPFnMessagesx16
import Derived.Test.YtbcgnncbiblibaaPFnMessagesx17
namespace Go.Proofs.Ytbcgnncbiblibaa.PFnMessages
open Go.RowKit Go.Proofs.YtbcgnncbiblibaaW.PrintWords Go.Proofs.YtbcgnncbiblibaaW.PrintLast Go.Proofs.YtbcgnncbiblibaaW.PrintMore
attribute [local go_sem] max2_int min2_int max_two min_two max_three min_three max_four min_four
set_option linter.unusedVariables false
set_option linter.unusedSimpArgs false
def impl_reader_text.f (k : Nat) (s0_0 : ByteArray) (s0_1 : Int) (s0_2 : Bool) : Option (ByteArray × ByteArray × Int × Bool) := (impl_ReadShort.f k s0_0 s0_1).bind fun bt400 => (if s0_2 = true then (some ((⟨#[]⟩ : ByteArray), s0_0, s0_1, true)) else (if bt400.2.2 = true then (some (bt400.1, s0_0, bt400.2.1, s0_2)) else (some ((⟨#[]⟩ : ByteArray), s0_0, s0_1, true))))
theorem impl_reader_text.mono : ∀ a0 a1 a2 k, LeO (impl_reader_text.f k a0 a1 a2) (impl_reader_text.f (k + 1) a0 a1 a2) := by
 intro a0 a1 a2 k
 unfold impl_reader_text.f
 repeat' first
   | (with_reducible exact impl_ReadShort.mono _ _ _)
   | (with_reducible exact LeO.refl _)
   | (with_reducible refine LeO.bind ?_ (fun _ => ?_))
def impl_reader_text.T1 : Bool × List (List Nat × List Nat) := (true, [([], []), ([0], [0]), ([1], [1]), ([2], [2]), ([], []), ([4], [4]), ([5], [5]), ([6], [6]), ([3, 7], [3, 7]), ([8], [8]), ([9], [9]), ([9], [9]), ([9], [9]), ([10, 8, 0, 1, 2, 3, 4, 5, 6, 7, 8, 9, 10], [10]), ([11, 13, 0, 1, 2, 3, 4, 5, 6, 7, 8, 9, 10, 11, 13], [11]), ([12, 14, 0, 1, 2, 3, 4, 5, 6, 7, 8, 9, 10, 11, 12, 13, 14], [12])])
def impl_reader_text.B1 : List Nat := [0, 1, 3, 7, 0, 16, 48, 112, 255, 511, 1023, 1023, 1023, 2047, 12287, 32767]
theorem impl_reader_text.tab1 : rtab .any (opsOf Try.f69 1) = impl_reader_text.T1 := by kernel_rfl
theorem impl_reader_text.bits1 : waitsOk impl_reader_text.T1.2 impl_reader_text.B1 = true := by kernel_rfl
set_option maxHeartbeats 8000000 in
set_option maxRecDepth 100000 in
theorem impl_reader_text.calls (k g : Nat) (s0_0 : ByteArray) (s0_1 : Int) (s0_2 : Bool) (r1 r2 : ByteArray) (r3 : Int) (r4 : Bool) (w0 w : World) (hI : IsS106 w0 w g s0_0 s0_1 s0_2) (hB : Below w0.heap.size w0 w) (h : impl_reader_text.f k s0_0 s0_1 s0_2 = some (r1, r2, r3, r4)) :
  Calls Try.prog 69 #[.pointer (some ⟨g,0,none⟩)] w fun e w' => e = .returned (.string r1) ∧ IsS106 w0 w' g r2 r3 r4 ∧ Below w0.heap.size w0 w' ∧ KeepBut w w' g none:=by
 have HI0:=A_ hI;have HK:=A_ (KeepBut.refl w g none);have HL:=A_ hB.size;clear hI;have HW0:=A_ hB.size;have HB:=A_ hB;clear hB;unfold impl_reader_text.f at h;have H:=h;clear h;obtain ⟨⟨t400,t401,t402⟩,A2,H⟩:=oB_ H;(try dsimp only at H)
 by_cases c3 : s0_2 = true;rotate_left
 ·replace c3:=Bool.eq_false_iff.mpr c3;subst c3
  have H1 : (if t402 = true then (some (t400,s0_0,t401,false)) else (some ((⟨#[]⟩ : ByteArray),s0_0,s0_1,true))) = some (r1,r2,r3,r4):=by rw [if_neg (show ¬ (false = true) by decide)] at H;exact H
  clear H;have H:=H1;clear H1;have HC7:=A_ H;clear H;go_enter Try.func69,Try.ntmps69
  try go_wp2
  replace HI0:=A_ (IsS106.drew HI0.out);replace HK:=A_ (keep_drew HK.out);replace HB:=A_ (pd_ HB.out);refine start_ (n:=16) (S:=fun w' => w'.cell? ⟨g,0,none⟩ = some (.string s0_0) ∧ w'.cell? ⟨g,1,none⟩ = some (.int .i64 s0_1) ∧ w'.cell? ⟨g,2,none⟩ = some (.bool false)) (ds:=[]) #[false,false,false,false,false,false,false,false,false,false,false,false,false,false,false,false] (by kernel_rfl) rfl rfl ⟨cellS106_0 HI0.out.1,cellS106_1 HI0.out.1,cellS106_2 HI0.out.1⟩ (fun hHeld => ?_);refine with_tabW impl_reader_text.tab1 impl_reader_text.bits1 (fun HT_ HW_ => ?_);generalize w.drew = w8 at HI0 HK HB hHeld ⊢;refine pU_ 0 (some 7) ?_
  refine pU_ 1 (some 8) ?_
  refine pU_ 2 (some 9) ?_
  refine pU_ 4 (some 11) ?_
  refine pU_ 5 (some 12) ?_
  refine pU_ 6 (some 13) ?_
  refine tK_ 3 (some 10) hHeld ?_
  refine tK_ 7 (some 14) hHeld ?_
  refine oN_ 8 (some 15) (fun K hK => ?_);refine gs_ Try.func109 #[.string s0_0,.int .i64 s0_1] ?_;with_reducible refine (impl_ReadShort.calls k s0_0 s0_1 t400 t401 t402 _ A2.out).mono ?_;rintro e w9 ⟨rfl,hb⟩;refine ⟨_,rfl,?_⟩;replace HK:=hU_ HK hb;replace HB:=A_ (bs_ (bi_ HB (IsS106.ge HI0.out)) hb);replace HI0:=A_ (IsS106.below (iq106_ HI0) hb)
  (try clear hb)
  refine hK.out _ _ ⟨cellS106_0 HI0.out.1,cellS106_1 HI0.out.1,cellS106_2 HI0.out.1⟩ (fun hHeld => ?_);clear hK K;refine nX_ (some 15) ?_
  refine pU_ 9 (some 6) ?_
  refine pU_ 10 (some 16) ?_
  refine pU_ 11 (some 17) ?_
  refine pU_ 12 (some 18) ?_
  refine pU_ 13 (some 3) ?_
  refine pU_ 14 (some 4) ?_
  refine pU_ 15 (some 5) ?_
  refine done_ (done_of HT_.out (by kernel_rfl)) ?_;obtain ⟨HGz10,hgz10⟩:=HI0.out;have hcz10_0:=cellS106_0 HGz10;have hcz10_1:=cellS106_1 HGz10;have hcz10_2:=cellS106_2 HGz10;have hfz10_0:=kf_ HGz10 0;have hfz10_1:=kf_ HGz10 1;have hfz10_2:=kf_ HGz10 2;clear HGz10 hgz10
  go_upto_if 26 with (fail)
  have H:=HC7.out;clear HC7
  by_cases c11 : t402 = true
  ·subst c11
   rw [if_pos rfl] at H;simp only [Option.some.injEq,Prod.mk.injEq] at H;obtain ⟨rfl,rfl,rfl,rfl⟩:=H;obtain ⟨HGz12,hgz12⟩:=HI0.out;have hcz12_0:=cellS106_0 HGz12;have hcz12_1:=cellS106_1 HGz12;have hcz12_2:=cellS106_2 HGz12;have hfz12_0:=kf_ HGz12 0;have hfz12_1:=kf_ HGz12 1;have hfz12_2:=kf_ HGz12 2;clear HGz12 hgz12;go_wp2;go_ret;exact ⟨ex_,iq106_ HI0,bi_ HB (IsS106.ge HI0.out),hq_ HK⟩
  replace c11:=Bool.eq_false_iff.mpr c11;subst c11
  have H1 : (some ((⟨#[]⟩ : ByteArray),s0_0,s0_1,true)) = some (r1,r2,r3,r4):=by rw [if_neg (show ¬ (false = true) by decide)] at H;exact H
  clear H;have H:=H1;clear H1;simp only [Option.some.injEq,Prod.mk.injEq] at H;obtain ⟨rfl,rfl,rfl,rfl⟩:=H;obtain ⟨HGz13,hgz13⟩:=HI0.out;have hcz13_0:=cellS106_0 HGz13;have hcz13_1:=cellS106_1 HGz13;have hcz13_2:=cellS106_2 HGz13;have hfz13_0:=kf_ HGz13 0;have hfz13_1:=kf_ HGz13 1;have hfz13_2:=kf_ HGz13 2;clear HGz13 hgz13;go_wp2;go_ret;exact ⟨ex_,iq106_ HI0,bi_ HB (IsS106.ge HI0.out),hq_ HK⟩
 subst c3
 rw [if_pos rfl] at H;simp only [Option.some.injEq,Prod.mk.injEq] at H;obtain ⟨rfl,rfl,rfl,rfl⟩:=H;go_enter Try.func69,Try.ntmps69
 try go_wp2
 replace HI0:=A_ (IsS106.drew HI0.out);replace HK:=A_ (keep_drew HK.out);replace HB:=A_ (pd_ HB.out);refine start_ (n:=16) (S:=fun w' => w'.cell? ⟨g,0,none⟩ = some (.string s0_0) ∧ w'.cell? ⟨g,1,none⟩ = some (.int .i64 s0_1) ∧ w'.cell? ⟨g,2,none⟩ = some (.bool true)) (ds:=[]) #[false,false,false,false,false,false,false,false,false,false,false,false,false,false,false,false] (by kernel_rfl) rfl rfl ⟨cellS106_0 HI0.out.1,cellS106_1 HI0.out.1,cellS106_2 HI0.out.1⟩ (fun hHeld => ?_);refine with_tabW impl_reader_text.tab1 impl_reader_text.bits1 (fun HT_ HW_ => ?_);generalize w.drew = w4 at HI0 HK HB hHeld ⊢;refine pU_ 0 (some 7) ?_
 refine pU_ 1 (some 8) ?_
 refine pU_ 2 (some 9) ?_
 refine pU_ 4 (some 11) ?_
 refine pU_ 5 (some 12) ?_
 refine pU_ 6 (some 13) ?_
 refine tK_ 3 (some 10) hHeld ?_
 refine tK_ 7 (some 14) hHeld ?_
 refine oN_ 8 (some 15) (fun K hK => ?_);refine gs_ Try.func109 #[.string s0_0,.int .i64 s0_1] ?_;with_reducible refine (impl_ReadShort.calls k s0_0 s0_1 t400 t401 t402 _ A2.out).mono ?_;rintro e w5 ⟨rfl,hb⟩;refine ⟨_,rfl,?_⟩;replace HK:=hU_ HK hb;replace HB:=A_ (bs_ (bi_ HB (IsS106.ge HI0.out)) hb);replace HI0:=A_ (IsS106.below (iq106_ HI0) hb)
 (try clear hb)
 refine hK.out _ _ ⟨cellS106_0 HI0.out.1,cellS106_1 HI0.out.1,cellS106_2 HI0.out.1⟩ (fun hHeld => ?_);clear hK K;refine nX_ (some 15) ?_
 refine pU_ 9 (some 6) ?_
 refine pU_ 10 (some 16) ?_
 refine pU_ 11 (some 17) ?_
 refine pU_ 12 (some 18) ?_
 refine pU_ 13 (some 3) ?_
 refine pU_ 14 (some 4) ?_
 refine pU_ 15 (some 5) ?_
 refine done_ (done_of HT_.out (by kernel_rfl)) ?_;obtain ⟨HGz6,hgz6⟩:=HI0.out;have hcz6_0:=cellS106_0 HGz6;have hcz6_1:=cellS106_1 HGz6;have hcz6_2:=cellS106_2 HGz6;have hfz6_0:=kf_ HGz6 0;have hfz6_1:=kf_ HGz6 1;have hfz6_2:=kf_ HGz6 2;clear HGz6 hgz6
 try go_wp2
 go_ret;exact ⟨ex_,iq106_ HI0,bi_ HB (IsS106.ge HI0.out),hq_ HK⟩
end Go.Proofs.Ytbcgnncbiblibaa.PFnMessages
