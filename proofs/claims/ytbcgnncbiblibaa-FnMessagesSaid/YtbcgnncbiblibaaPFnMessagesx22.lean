/- The contracts of Go functions that this law reaches: what each call returns, by a plain Lean function of its arguments, under the conditions that each names. By the kit's print.py, run by this repo's wip/gen/pp.py: not to the letter what print.sh prints. -/
import Derived.Test.YtbcgnncbiblibaaPFnMessagesx0
import Derived.Test.YtbcgnncbiblibaaPFnMessagesx3
import Derived.Test.YtbcgnncbiblibaaPFnMessagesx9
import Derived.Test.YtbcgnncbiblibaaPFnMessagesx21
namespace Go.Proofs.Ytbcgnncbiblibaa.PFnMessages
open Go.RowKit Go.Proofs.YtbcgnncbiblibaaW.PrintWords Go.Proofs.YtbcgnncbiblibaaW.PrintLast Go.Proofs.YtbcgnncbiblibaaW.PrintMore
attribute [local go_sem] max2_int min2_int max_two min_two max_three min_three max_four min_four
set_option linter.unusedVariables false
set_option linter.unusedSimpArgs false
def spec_CommandText.f (k : Nat) (a0_0 a0_1 a0_2 : Int) (a0_3 a0_4 a0_5 : ByteArray) : Option (ByteArray × Bool) := (spec_CommandOk.f k a0_0 a0_1 a0_2 a0_3 a0_4 a0_5).bind fun t453 => (if t453 = true then ((some (([(a0_0) % 256] : List Int) : List Int)).bind fun y454 => ((spec_l01Var.f k a0_1).bind fun t457 => (if (strOfNums y454).size + t457.size ≤ 9223372036854775807 then ((spec_l01Var.f k a0_2).bind fun t458 => (if ((strOfNums y454) ++ t457).size + t458.size ≤ 9223372036854775807 then ((spec_l05Short.f k a0_3).bind fun t459 => (if (((strOfNums y454) ++ t457) ++ t458).size + t459.size ≤ 9223372036854775807 then ((spec_l05Short.f k a0_4).bind fun t460 => (if ((((strOfNums y454) ++ t457) ++ t458) ++ t459).size + t460.size ≤ 9223372036854775807 then ((spec_l05Short.f k a0_5).bind fun t461 => (if (((((strOfNums y454) ++ t457) ++ t458) ++ t459) ++ t460).size + t461.size ≤ 9223372036854775807 then (some ((((((strOfNums y454) ++ t457) ++ t458) ++ t459) ++ t460) ++ t461, true)) else (none))) else (none))) else (none))) else (none))) else (none)))) else (some ((⟨#[]⟩ : ByteArray), false)))
theorem spec_CommandText.mono : ∀ a0 a1 a2 a3 a4 a5 k, LeO (spec_CommandText.f k a0 a1 a2 a3 a4 a5) (spec_CommandText.f (k + 1) a0 a1 a2 a3 a4 a5) := by
 intro a0 a1 a2 a3 a4 a5 k
 unfold spec_CommandText.f
 repeat' first
   | (with_reducible exact spec_CommandOk.mono _ _ _ _ _ _ _)
   | (with_reducible exact spec_l01Var.mono _ _)
   | (with_reducible exact spec_l05Short.mono _ _)
   | (with_reducible exact LeO.refl _)
   | (with_reducible refine LeO.ite ?_ ?_)
   | (with_reducible refine LeO.bind ?_ (fun _ => ?_))
def spec_CommandText.T3 : Bool × List (List Nat × List Nat) := (true, [([], []), ([0], [0]), ([1], [1]), ([2], [2]), ([3], [3]), ([], []), ([5], [5]), ([6], [6]), ([4, 7], [4, 7]), ([], []), ([9], [9]), ([10, 7], [10]), ([8, 11], [8, 11]), ([], []), ([13], [13]), ([14, 11], [14]), ([12, 15], [12, 15]), ([], []), ([17], [17]), ([18, 15], [18]), ([16, 19], [16, 19]), ([], []), ([21], [21]), ([22, 19], [22]), ([20, 23], [20, 23]), ([24, 23, 0, 1, 2, 3, 4, 5, 6, 7, 8, 9, 10, 11, 12, 13, 14, 15, 16, 17, 18, 19, 20, 21, 22, 23, 24], [24]), ([25, 0, 1, 2, 3, 4, 5, 6, 7, 8, 9, 10, 11, 12, 13, 14, 15, 16, 17, 18, 19, 20, 21, 22, 23, 24, 25], [])])
def spec_CommandText.B3 : List Nat := [0, 1, 3, 7, 15, 0, 32, 96, 255, 0, 512, 1760, 4095, 0, 8192, 28384, 65535, 0, 131072, 454368, 1048575, 0, 2097152, 7270112, 16777215, 33554431, 67108863]
theorem spec_CommandText.tab3 : rtab .any (opsOf Try.f137 3) = spec_CommandText.T3 := by kernel_rfl
theorem spec_CommandText.bits3 : waitsOk spec_CommandText.T3.2 spec_CommandText.B3 = true := by kernel_rfl
abbrev j22_0 (w_ : World) (g_ : Nat) (a0_0 a0_1 a0_2 : Int) (a0_3 a0_4 a0_5 : ByteArray) : Prop := w_.cell? ⟨g_,0,none⟩ = some (.int .i64 a0_0) ∧ w_.cell? ⟨g_,1,none⟩ = some (.int .i64 a0_1) ∧ w_.cell? ⟨g_,2,none⟩ = some (.int .i64 a0_2) ∧ w_.cell? ⟨g_,3,none⟩ = some (.string a0_3) ∧ w_.cell? ⟨g_,4,none⟩ = some (.string a0_4) ∧ w_.cell? ⟨g_,5,none⟩ = some (.string a0_5)
abbrev j22_1 (w_ : World) (g_ : Nat) (a0_0 a0_1 a0_2 : Int) (a0_3 a0_4 a0_5 : ByteArray) : Prop := w_.heap[g_]? = some (.cells #[.int .i64 a0_0,.int .i64 a0_1,.int .i64 a0_2,.string a0_3,.string a0_4,.string a0_5] 161 (0,0))
set_option maxHeartbeats 8000000 in
set_option maxRecDepth 100000 in
theorem spec_CommandText.calls (k : Nat) (a0_0 a0_1 a0_2 : Int) (a0_3 a0_4 a0_5 r1 : ByteArray) (r2 : Bool) (w : World) (h : spec_CommandText.f k a0_0 a0_1 a0_2 a0_3 a0_4 a0_5 = some (r1, r2)) :
  Calls Try.prog 137 #[.agg #[.int .i64 a0_0,.int .i64 a0_1,.int .i64 a0_2,.string a0_3,.string a0_4,.string a0_5]] w fun e w' => e = .returned (.tuple #[.string r1,.bool r2]) ∧ Below w.heap.size w w':=by
 have hu161:=Try.underlying161;have HB:=A_ (Below.refl w.heap.size w);unfold spec_CommandText.f at h;have H:=h;clear h;replace H:=ob_.mp H;obtain ⟨t453,A20,H⟩:=H;have A2:=A_ A20;clear A20;have HC3:=A_ H;clear H;go_enter Try.func137,Try.ntmps137
 go_upto_if 6 with (first|((with_reducible refine gate_dst (N:=1) rfl ?_);refine bE_ 1 #[.int .i64 a0_0,.int .i64 a0_1,.int .i64 a0_2,.string a0_3,.string a0_4,.string a0_5] 161 ?_;intro gb452 hg w4 hbox hb;have n0_:=bS_ HB hb;have n1_:=A_ hbox;have n2_:=gE_ hg HB;have n3_:=gE_ hg HB;clear HB;have HB:=n0_;have BK452:=n1_;have GE452:=n3_;clear n0_ n1_ n2_ n3_;clear hb hbox hg;obtain ⟨hcz5_0,hcz5_1,hcz5_2,hcz5_3,hcz5_4,hcz5_5,hfz5_0,hfz5_1,hfz5_2,hfz5_3,hfz5_4,hfz5_5⟩:=k6f_ BK452)|((with_reducible refine gate_callee (f:=140) rfl ?_);refine gL_ (some 5) Try.func140 #[.agg #[.int .i64 a0_0,.int .i64 a0_1,.int .i64 a0_2,.string a0_3,.string a0_4,.string a0_5]] ?_;(with_reducible refine (spec_CommandOk.calls k a0_0 a0_1 a0_2 a0_3 a0_4 a0_5 t453 _ A2.out).mono ?_);rintro e w6 ⟨rfl,hb⟩;refine ⟨_,rfl,?_⟩;replace BK452:=kB_ BK452 hb;replace HB:=bS_ HB hb;(try clear hb)))
 have H:=HC3.out;clear HC3
 by_cases c7 : t453 = true;rotate_left
 ·replace c7:=Bool.eq_false_iff.mpr c7;subst c7
  have H1 : (some ((⟨#[]⟩ : ByteArray),false)) = some (r1,r2):=by rw [if_neg (show ¬ (false = true) by decide)] at H;exact H
  clear H;have H:=H1;clear H1;simp only [Option.some.injEq,Prod.mk.injEq] at H;obtain ⟨rfl,rfl⟩:=H;go_wp2;go_ret2;exact ⟨ex_,bq_ HB⟩
 subst c7
 rw [if_pos rfl] at H;obtain ⟨y454,hy454⟩ : ∃ y_ : List Int,y_ = (([(a0_0) % 256] : List Int)):=⟨_,rfl⟩
 replace H : ((spec_l01Var.f k a0_1).bind fun t457 => (if (strOfNums y454).size + t457.size ≤ 9223372036854775807 then ((spec_l01Var.f k a0_2).bind fun t458 => (if ((strOfNums y454) ++ t457).size + t458.size ≤ 9223372036854775807 then ((spec_l05Short.f k a0_3).bind fun t459 => (if (((strOfNums y454) ++ t457) ++ t458).size + t459.size ≤ 9223372036854775807 then ((spec_l05Short.f k a0_4).bind fun t460 => (if ((((strOfNums y454) ++ t457) ++ t458) ++ t459).size + t460.size ≤ 9223372036854775807 then ((spec_l05Short.f k a0_5).bind fun t461 => (if (((((strOfNums y454) ++ t457) ++ t458) ++ t459) ++ t460).size + t461.size ≤ 9223372036854775807 then (some ((((((strOfNums y454) ++ t457) ++ t458) ++ t459) ++ t460) ++ t461,true)) else (none))) else (none))) else (none))) else (none))) else (none))) = some (r1,r2):=by (have H2_:=(Option.bind_some _ _).symm.trans H;rw [hy454];with_reducible exact H2_)
 have Ny454:=A_ hy454;clear hy454;replace H:=ob_.mp H;obtain ⟨t457,A80,H⟩:=H;have A8:=A_ A80;clear A80
 by_cases c9 : (strOfNums y454).size + t457.size ≤ 9223372036854775807;rotate_left
 ·rw [if_neg c9] at H;exact absurd H (by simp)
 rw [if_pos c9] at H;have c9b0:=eq_true c9;have c9b1:=de_ c9
 try have c9b2 : (9223372036854775807 < (strOfNums y454).size + t457.size) = False:=eq_false (Nat.not_lt.2 c9)
 replace H:=ob_.mp H;obtain ⟨t458,A100,H⟩:=H;have A10:=A_ A100;clear A100
 by_cases c11 : ((strOfNums y454) ++ t457).size + t458.size ≤ 9223372036854775807;rotate_left
 ·rw [if_neg c11] at H;exact absurd H (by simp)
 rw [if_pos c11] at H;have c11b0:=eq_true c11;have c11b1:=de_ c11
 try have c11b2 : (9223372036854775807 < ((strOfNums y454) ++ t457).size + t458.size) = False:=eq_false (Nat.not_lt.2 c11)
 try have c11b3 : (9223372036854775807 < (strOfNums y454).size + t457.size + t458.size) = False:=eq_false (by have h_:=c11;simp only [ByteArray.size_append,show ∀ x_ : UInt8,(⟨#[x_]⟩ : ByteArray).size = 1 from fun _ => rfl] at h_;omega)
 replace H:=ob_.mp H;obtain ⟨t459,A120,H⟩:=H;have A12:=A_ A120;clear A120
 by_cases c13 : (((strOfNums y454) ++ t457) ++ t458).size + t459.size ≤ 9223372036854775807;rotate_left
 ·rw [if_neg c13] at H;exact absurd H (by simp)
 rw [if_pos c13] at H;have c13b0:=eq_true c13;have c13b1:=de_ c13
 try have c13b2 : (9223372036854775807 < (((strOfNums y454) ++ t457) ++ t458).size + t459.size) = False:=eq_false (Nat.not_lt.2 c13)
 try have c13b3 : (9223372036854775807 < (strOfNums y454).size + t457.size + t458.size + t459.size) = False:=eq_false (by have h_:=c13;simp only [ByteArray.size_append,show ∀ x_ : UInt8,(⟨#[x_]⟩ : ByteArray).size = 1 from fun _ => rfl] at h_;omega)
 replace H:=ob_.mp H;obtain ⟨t460,A140,H⟩:=H;have A14:=A_ A140;clear A140
 by_cases c15 : ((((strOfNums y454) ++ t457) ++ t458) ++ t459).size + t460.size ≤ 9223372036854775807;rotate_left
 ·rw [if_neg c15] at H;exact absurd H (by simp)
 rw [if_pos c15] at H;have c15b0:=eq_true c15;have c15b1:=de_ c15
 try have c15b2 : (9223372036854775807 < ((((strOfNums y454) ++ t457) ++ t458) ++ t459).size + t460.size) = False:=eq_false (Nat.not_lt.2 c15)
 try have c15b3 : (9223372036854775807 < (strOfNums y454).size + t457.size + t458.size + t459.size + t460.size) = False:=eq_false (by have h_:=c15;simp only [ByteArray.size_append,show ∀ x_ : UInt8,(⟨#[x_]⟩ : ByteArray).size = 1 from fun _ => rfl] at h_;omega)
 replace H:=ob_.mp H;obtain ⟨t461,A160,H⟩:=H;have A16:=A_ A160;clear A160
 by_cases c17 : (((((strOfNums y454) ++ t457) ++ t458) ++ t459) ++ t460).size + t461.size ≤ 9223372036854775807;rotate_left
 ·rw [if_neg c17] at H;exact absurd H (by simp)
 rw [if_pos c17] at H;have c17b0:=eq_true c17;have c17b1:=de_ c17
 try have c17b2 : (9223372036854775807 < (((((strOfNums y454) ++ t457) ++ t458) ++ t459) ++ t460).size + t461.size) = False:=eq_false (Nat.not_lt.2 c17)
 try have c17b3 : (9223372036854775807 < (strOfNums y454).size + t457.size + t458.size + t459.size + t460.size + t461.size) = False:=eq_false (by have h_:=c17;simp only [ByteArray.size_append,show ∀ x_ : UInt8,(⟨#[x_]⟩ : ByteArray).size = 1 from fun _ => rfl] at h_;omega)
 simp only [Option.some.injEq,Prod.mk.injEq] at H;obtain ⟨rfl,rfl⟩:=H
 try go_wp2
 replace BK452:=A_ (kd_ BK452.out);replace HB:=A_ (pd_ HB.out);refine start_ (n:=27) (S:=fun w' => w'.cell? ⟨gb452,0,none⟩ = some (.int .i64 a0_0) ∧ w'.cell? ⟨gb452,1,none⟩ = some (.int .i64 a0_1) ∧ w'.cell? ⟨gb452,2,none⟩ = some (.int .i64 a0_2) ∧ w'.cell? ⟨gb452,3,none⟩ = some (.string a0_3) ∧ w'.cell? ⟨gb452,4,none⟩ = some (.string a0_4) ∧ w'.cell? ⟨gb452,5,none⟩ = some (.string a0_5)) (ds:=[]) #[false,false,false,false,false,false,false,false,false,false,false,false,false,false,false,false,false,false,false,false,false,false,false,false,false,false,false] (by kernel_rfl) rfl rfl (kJ6_ BK452) (fun hHeld => ?_);refine with_tabW spec_CommandText.tab3 spec_CommandText.bits3 (fun HT_ HW_ => ?_);generalize w6.drew = w18 at BK452 HB hHeld ⊢;refine pU_ 0 (some 7) ?_
 refine pU_ 5 (some 12) ?_
 refine pU_ 9 (some 16) ?_
 refine pU_ 13 (some 20) ?_
 refine pU_ 17 (some 24) ?_
 refine pU_ 21 (some 28) ?_
 refine tK_ 1 (some 8) hHeld ?_
 refine pU_ 2 (some 9) ?_
 refine tK_ 6 (some 13) hHeld ?_
 refine tK_ 10 (some 17) hHeld ?_
 refine tK_ 14 (some 21) hHeld ?_
 refine tK_ 18 (some 25) hHeld ?_
 refine tK_ 22 (some 29) hHeld ?_
 refine join_ (σ:=Value) 3 #[true,true,true,true,true,true,true,true,true,true,true,true,true,true,true,true,true,true,true,true,true,true,true,true,false,false,false] (fun s_ => [(10,s_),(11,.string (strOfNums y454)),(14,.string t457),(18,.string t458),(22,.string t459),(26,.string t460),(30,.string t461),(15,.string ((strOfNums y454) ++ t457)),(19,.string (((strOfNums y454) ++ t457) ++ t458)),(23,.string ((((strOfNums y454) ++ t457) ++ t458) ++ t459)),(27,.string (((((strOfNums y454) ++ t457) ++ t458) ++ t459) ++ t460))]) (fun s_ w' => (j22_0 w' gb452 a0_0 a0_1 a0_2 a0_3 a0_4 a0_5) ∧ (Kd.R (Kd.int .u8) 5 w' w.heap.size (fun _ => True) s_ y454) ∧ (j22_1 w' gb452 a0_0 a0_1 a0_2 a0_3 a0_4 a0_5) ∧ (Below w.heap.size w w')) ?_ ?_;rotate_left
 ·intro hJ3_4_7_11_15_19_23;refine join_ (σ:=Value) 4 #[true,true,true,true,true,true,true,true,true,true,true,true,true,true,true,true,true,true,true,true,true,true,true,false,false,false,false] (fun s_ => [(10,s_),(11,.string (strOfNums y454)),(14,.string t457),(18,.string t458),(22,.string t459),(26,.string t460),(15,.string ((strOfNums y454) ++ t457)),(19,.string (((strOfNums y454) ++ t457) ++ t458)),(23,.string ((((strOfNums y454) ++ t457) ++ t458) ++ t459)),(27,.string (((((strOfNums y454) ++ t457) ++ t458) ++ t459) ++ t460))]) (fun s_ w' => (j22_0 w' gb452 a0_0 a0_1 a0_2 a0_3 a0_4 a0_5) ∧ (Kd.R (Kd.int .u8) 5 w' w.heap.size (fun _ => True) s_ y454) ∧ (j22_1 w' gb452 a0_0 a0_1 a0_2 a0_3 a0_4 a0_5) ∧ (Below w.heap.size w w')) ?_ ?_;rotate_left
  ·intro hJ3_4_7_11_15_19;refine join_ (σ:=Value) 8 #[true,true,true,true,false,true,true,true,false,true,true,true,false,true,true,true,false,true,true,true,false,true,true,true,false,false,false] (fun s_ => [(10,s_),(14,.string t457),(18,.string t458),(22,.string t459),(26,.string t460),(30,.string t461)]) (fun s_ w' => (j22_0 w' gb452 a0_0 a0_1 a0_2 a0_3 a0_4 a0_5) ∧ (Kd.R (Kd.int .u8) 5 w' w.heap.size (fun _ => True) s_ y454) ∧ (j22_1 w' gb452 a0_0 a0_1 a0_2 a0_3 a0_4 a0_5) ∧ (Below w.heap.size w w')) ?_ ?_;rotate_left
   ·intro hJ3_7_11_15_19_23;refine join_ (σ:=Value) 6 #[true,true,true,true,true,true,true,true,true,true,true,true,true,true,true,true,true,true,true,false,false,true,true,false,false,false,false] (fun s_ => [(10,s_),(11,.string (strOfNums y454)),(14,.string t457),(18,.string t458),(22,.string t459),(15,.string ((strOfNums y454) ++ t457)),(19,.string (((strOfNums y454) ++ t457) ++ t458)),(23,.string ((((strOfNums y454) ++ t457) ++ t458) ++ t459))]) (fun s_ w' => (j22_0 w' gb452 a0_0 a0_1 a0_2 a0_3 a0_4 a0_5) ∧ (Kd.R (Kd.int .u8) 5 w' w.heap.size (fun _ => True) s_ y454) ∧ (j22_1 w' gb452 a0_0 a0_1 a0_2 a0_3 a0_4 a0_5) ∧ (Below w.heap.size w w')) ?_ ?_;rotate_left
    ·intro hJ3_4_7_11_15;refine join_ (σ:=Value) 9 #[true,true,true,true,false,true,true,true,false,true,true,true,false,true,true,true,false,true,true,true,false,true,true,false,false,false,false] (fun s_ => [(10,s_),(14,.string t457),(18,.string t458),(22,.string t459),(26,.string t460)]) (fun s_ w' => (j22_0 w' gb452 a0_0 a0_1 a0_2 a0_3 a0_4 a0_5) ∧ (Kd.R (Kd.int .u8) 5 w' w.heap.size (fun _ => True) s_ y454) ∧ (j22_1 w' gb452 a0_0 a0_1 a0_2 a0_3 a0_4 a0_5) ∧ (Below w.heap.size w w')) ?_ ?_;rotate_left
     ·intro hJ3_7_11_15_19;refine join_ (σ:=Unit) 9 #[true,true,true,false,false,true,true,true,false,true,true,true,false,true,true,true,false,true,true,true,false,true,true,true,false,false,false] (fun s_ => [(14,.string t457),(18,.string t458),(22,.string t459),(26,.string t460),(30,.string t461)]) (fun s_ w' => (j22_0 w' gb452 a0_0 a0_1 a0_2 a0_3 a0_4 a0_5) ∧ (j22_1 w' gb452 a0_0 a0_1 a0_2 a0_3 a0_4 a0_5) ∧ (Below w.heap.size w w')) ?_ ?_;rotate_left
      ·intro hJ7_11_15_19_23;refine join_ (σ:=Value) 8 #[true,true,true,true,true,true,true,true,true,true,true,true,true,true,true,false,false,true,true,false,false,true,true,false,false,false,false] (fun s_ => [(10,s_),(11,.string (strOfNums y454)),(14,.string t457),(18,.string t458),(15,.string ((strOfNums y454) ++ t457)),(19,.string (((strOfNums y454) ++ t457) ++ t458))]) (fun s_ w' => (j22_0 w' gb452 a0_0 a0_1 a0_2 a0_3 a0_4 a0_5) ∧ (Kd.R (Kd.int .u8) 5 w' w.heap.size (fun _ => True) s_ y454) ∧ (j22_1 w' gb452 a0_0 a0_1 a0_2 a0_3 a0_4 a0_5) ∧ (Below w.heap.size w w')) ?_ ?_;rotate_left
       ·intro hJ3_4_7_11;refine join_ (σ:=Value) 10 #[true,true,true,true,false,true,true,true,false,true,true,true,false,true,true,true,false,true,true,false,false,true,true,false,false,false,false] (fun s_ => [(10,s_),(14,.string t457),(18,.string t458),(22,.string t459)]) (fun s_ w' => (j22_0 w' gb452 a0_0 a0_1 a0_2 a0_3 a0_4 a0_5) ∧ (Kd.R (Kd.int .u8) 5 w' w.heap.size (fun _ => True) s_ y454) ∧ (j22_1 w' gb452 a0_0 a0_1 a0_2 a0_3 a0_4 a0_5) ∧ (Below w.heap.size w w')) ?_ ?_;rotate_left
        ·intro hJ3_7_11_15;refine join_ (σ:=Unit) 10 #[true,true,true,false,false,true,true,true,false,true,true,true,false,true,true,true,false,true,true,true,false,true,true,false,false,false,false] (fun s_ => [(14,.string t457),(18,.string t458),(22,.string t459),(26,.string t460)]) (fun s_ w' => (j22_0 w' gb452 a0_0 a0_1 a0_2 a0_3 a0_4 a0_5) ∧ (j22_1 w' gb452 a0_0 a0_1 a0_2 a0_3 a0_4 a0_5) ∧ (Below w.heap.size w w')) ?_ ?_;rotate_left
         ·intro hJ7_11_15_19;refine join_ (σ:=Value) 10 #[true,true,true,true,true,true,true,true,true,true,true,false,false,true,true,false,false,true,true,false,false,true,true,false,false,false,false] (fun s_ => [(10,s_),(11,.string (strOfNums y454)),(14,.string t457),(15,.string ((strOfNums y454) ++ t457))]) (fun s_ w' => (j22_0 w' gb452 a0_0 a0_1 a0_2 a0_3 a0_4 a0_5) ∧ (Kd.R (Kd.int .u8) 5 w' w.heap.size (fun _ => True) s_ y454) ∧ (j22_1 w' gb452 a0_0 a0_1 a0_2 a0_3 a0_4 a0_5) ∧ (Below w.heap.size w w')) ?_ ?_;rotate_left
          ·intro hJ3_4_7;refine join_ (σ:=Value) 11 #[true,true,true,true,false,true,true,true,false,true,true,true,false,true,true,false,false,true,true,false,false,true,true,false,false,false,false] (fun s_ => [(10,s_),(14,.string t457),(18,.string t458)]) (fun s_ w' => (j22_0 w' gb452 a0_0 a0_1 a0_2 a0_3 a0_4 a0_5) ∧ (Kd.R (Kd.int .u8) 5 w' w.heap.size (fun _ => True) s_ y454) ∧ (j22_1 w' gb452 a0_0 a0_1 a0_2 a0_3 a0_4 a0_5) ∧ (Below w.heap.size w w')) ?_ ?_;rotate_left
           ·intro hJ3_7_11;refine join_ (σ:=Unit) 11 #[true,true,true,false,false,true,true,true,false,true,true,true,false,true,true,true,false,true,true,false,false,true,true,false,false,false,false] (fun s_ => [(14,.string t457),(18,.string t458),(22,.string t459)]) (fun s_ w' => (j22_0 w' gb452 a0_0 a0_1 a0_2 a0_3 a0_4 a0_5) ∧ (j22_1 w' gb452 a0_0 a0_1 a0_2 a0_3 a0_4 a0_5) ∧ (Below w.heap.size w w')) ?_ ?_;rotate_left
            ·intro hJ7_11_15;refine join_ (σ:=Value) 12 #[true,true,true,true,true,true,true,false,false,true,true,false,false,true,true,false,false,true,true,false,false,true,true,false,false,false,false] (fun s_ => [(10,s_),(11,.string (strOfNums y454))]) (fun s_ w' => (j22_0 w' gb452 a0_0 a0_1 a0_2 a0_3 a0_4 a0_5) ∧ (Kd.R (Kd.int .u8) 5 w' w.heap.size (fun _ => True) s_ y454) ∧ (j22_1 w' gb452 a0_0 a0_1 a0_2 a0_3 a0_4 a0_5) ∧ (Below w.heap.size w w')) ?_ ?_;rotate_left
             ·intro hJ3_4;refine join_ (σ:=Value) 12 #[true,true,true,true,false,true,true,true,false,true,true,false,false,true,true,false,false,true,true,false,false,true,true,false,false,false,false] (fun s_ => [(10,s_),(14,.string t457)]) (fun s_ w' => (j22_0 w' gb452 a0_0 a0_1 a0_2 a0_3 a0_4 a0_5) ∧ (Kd.R (Kd.int .u8) 5 w' w.heap.size (fun _ => True) s_ y454) ∧ (j22_1 w' gb452 a0_0 a0_1 a0_2 a0_3 a0_4 a0_5) ∧ (Below w.heap.size w w')) ?_ ?_;rotate_left
              ·intro hJ3_7;refine join_ (σ:=Unit) 12 #[true,true,true,false,false,true,true,true,false,true,true,true,false,true,true,false,false,true,true,false,false,true,true,false,false,false,false] (fun s_ => [(14,.string t457),(18,.string t458)]) (fun s_ w' => (j22_0 w' gb452 a0_0 a0_1 a0_2 a0_3 a0_4 a0_5) ∧ (j22_1 w' gb452 a0_0 a0_1 a0_2 a0_3 a0_4 a0_5) ∧ (Below w.heap.size w w')) ?_ ?_;rotate_left
               ·intro hJ7_11;refine join_ (σ:=Value) 13 #[true,true,true,true,false,true,true,false,false,true,true,false,false,true,true,false,false,true,true,false,false,true,true,false,false,false,false] (fun s_ => [(10,s_)]) (fun s_ w' => (j22_0 w' gb452 a0_0 a0_1 a0_2 a0_3 a0_4 a0_5) ∧ (Kd.R (Kd.int .u8) 5 w' w.heap.size (fun _ => True) s_ y454) ∧ (j22_1 w' gb452 a0_0 a0_1 a0_2 a0_3 a0_4 a0_5) ∧ (Below w.heap.size w w')) ?_ ?_;rotate_left
                ·intro hJ3;refine join_ (σ:=Unit) 13 #[true,true,true,false,false,true,true,true,false,true,true,false,false,true,true,false,false,true,true,false,false,true,true,false,false,false,false] (fun s_ => [(14,.string t457)]) (fun s_ w' => (j22_0 w' gb452 a0_0 a0_1 a0_2 a0_3 a0_4 a0_5) ∧ (j22_1 w' gb452 a0_0 a0_1 a0_2 a0_3 a0_4 a0_5) ∧ (Below w.heap.size w w')) ?_ ?_;rotate_left
                 ·intro hJ7;refine two_ (i:=3) (j:=7) (Ni:=some 10) (Nj:=some 14) #[true,true,true,true,false,true,true,false,false,true,true,false,false,true,true,false,false,true,true,false,false,true,true,false,false,false,false] #[true,true,true,false,false,true,true,true,false,true,true,false,false,true,true,false,false,true,true,false,false,true,true,false,false,false,false] rfl rfl rfl rfl (two_of HT_.out (by kernel_rfl)) (by decide) (by decide) (fun K hK => ?_) (fun K hK => ?_)
                  ·skip
                   refine Kd.R_lit_step (Kd.int .u8) _ 5 ?hg (N:=10) ?hd (xs:=([(a0_0) % 256] : List Int)) (inner:=[.int .u8 ((a0_0) % 256)]) (ok:=fun _ => True) (okp:=fun _ => True) ?hr ?hp (fun _ hk => hk) trivial (Below.refl _ _) (Nat.le_refl _) (by simp) ?_;(case hd => rfl);(case hg => rfl);(case hr => exact gx_);(case hp => exact (Reps.one (show Kd.M (Kd.int .u8) _ _ _ ((a0_0) % 256) [.int .u8 ((a0_0) % 256)] from rfl) (Reps.none _ _)));intro v455 w19 ho20 hb hg_ hnew_;clear hg_ hnew_
                   (rw [← Ny454.out] at ho20)
                   have HO456:=A_ (rw_ ho20 (bz_ (bq_ HB)));replace BK452:=kB_ BK452 hb;replace HB:=bS_ HB hb;clear hb ho20;refine hK.out _ _ (kJ6_ BK452) (fun hHeld => ?_);clear hK K;refine nX_ (some 10) ?_
                   exact norm_ (by (simp only [putAll,Act.put,s1_,s2_,s3_];done)) (hJ3 (v455) _ ⟨hHeld,(rq_ HO456),(kq_ BK452),(bq_ HB)⟩)
                  skip
                  refine gs_ Try.func54 #[.int .i64 a0_1] ?_;with_reducible refine (spec_l01Var.calls k a0_1 t457 _ A8.out).mono ?_;rintro e w19 ⟨rfl,hb⟩;refine ⟨_,rfl,?_⟩;replace BK452:=kB_ BK452 hb;replace HB:=bS_ HB hb
                  (try clear hb)
                  refine hK.out _ _ (kJ6_ BK452) (fun hHeld => ?_);clear hK K;refine nX_ (some 14) ?_
                  exact norm_ (by (simp only [putAll,Act.put,s1_,s2_,s3_];done)) (hJ7 () _ ⟨hHeld,(kq_ BK452),(bq_ HB)⟩)
                 skip
                 rintro _ w20 ⟨hS_,h0_,h1_⟩;have n0_ : Aside0 (j22_1 w20 gb452 a0_0 a0_1 a0_2 a0_3 a0_4 a0_5):=⟨h0_⟩;have n1_ : Aside0 (Below w.heap.size w w20):=⟨h1_⟩;clear BK452;clear HB;clear h0_ h1_;have BK452:=n0_;have HB:=n1_;have hHeld : j22_0 w20 gb452 a0_0 a0_1 a0_2 a0_3 a0_4 a0_5:=hS_;refine norm_ (a':=?_) ?_ ?_;rotate_left
                 ·simp only [putAll,Act.put,s1_,s2_,s3_];rfl
                 refine two_ (i:=3) (j:=11) (Ni:=some 10) (Nj:=some 18) #[true,true,true,true,false,true,true,true,false,true,true,false,false,true,true,false,false,true,true,false,false,true,true,false,false,false,false] #[true,true,true,false,false,true,true,true,false,true,true,true,false,true,true,false,false,true,true,false,false,true,true,false,false,false,false] rfl rfl rfl rfl (two_of HT_.out (by kernel_rfl)) (by decide) (by decide) (fun K hK => ?_) (fun K hK => ?_)
                 ·skip
                  refine Kd.R_lit_step (Kd.int .u8) _ 5 ?hg (N:=10) ?hd (xs:=([(a0_0) % 256] : List Int)) (inner:=[.int .u8 ((a0_0) % 256)]) (ok:=fun _ => True) (okp:=fun _ => True) ?hr ?hp (fun _ hk => hk) trivial (Below.refl _ _) (Nat.le_refl _) (by simp) ?_;(case hd => rfl);(case hg => rfl);(case hr => exact gx_);(case hp => exact (Reps.one (show Kd.M (Kd.int .u8) _ _ _ ((a0_0) % 256) [.int .u8 ((a0_0) % 256)] from rfl) (Reps.none _ _)));intro v455 w21 ho22 hb hg_ hnew_;clear hg_ hnew_
                  (rw [← Ny454.out] at ho22)
                  have HO456:=A_ (rw_ ho22 (bz_ (bq_ HB)));replace BK452:=kB_ BK452 hb;replace HB:=bS_ HB hb;clear hb ho22;refine hK.out _ _ (kJ6_ BK452) (fun hHeld => ?_);clear hK K;refine nX_ (some 10) ?_
                  exact norm_ (by (simp only [putAll,Act.put,s1_,s2_,s3_];done)) (hJ3_7 (v455) _ ⟨hHeld,(rq_ HO456),(kq_ BK452),(bq_ HB)⟩)
                 skip
                 refine gs_ Try.func54 #[.int .i64 a0_2] ?_;with_reducible refine (spec_l01Var.calls k a0_2 t458 _ A10.out).mono ?_;rintro e w21 ⟨rfl,hb⟩;refine ⟨_,rfl,?_⟩;replace BK452:=kB_ BK452 hb;replace HB:=bS_ HB hb
                 (try clear hb)
                 refine hK.out _ _ (kJ6_ BK452) (fun hHeld => ?_);clear hK K;refine nX_ (some 18) ?_
                 exact norm_ (by (simp only [putAll,Act.put,s1_,s2_,s3_];done)) (hJ7_11 () _ ⟨hHeld,(kq_ BK452),(bq_ HB)⟩)
                skip
                rintro v455 w21 ⟨hS_,h0_,h1_,h2_⟩;have n0_ : Aside0 (Kd.R (Kd.int .u8) 5 w21 w.heap.size (fun _ => True) v455 y454):=⟨h0_⟩;have n1_ : Aside0 (j22_1 w21 gb452 a0_0 a0_1 a0_2 a0_3 a0_4 a0_5):=⟨h1_⟩;have n2_ : Aside0 (Below w.heap.size w w21):=⟨h2_⟩;clear BK452;clear HB;clear h0_ h1_ h2_;have HO456:=n0_;have BK452:=n1_;have HB:=n2_;have hHeld : j22_0 w21 gb452 a0_0 a0_1 a0_2 a0_3 a0_4 a0_5:=hS_;refine norm_ (a':=?_) ?_ ?_;rotate_left
                ·simp only [putAll,Act.put,s1_,s2_,s3_];rfl
                refine two_ (i:=4) (j:=7) (Ni:=some 11) (Nj:=some 14) #[true,true,true,true,true,true,true,false,false,true,true,false,false,true,true,false,false,true,true,false,false,true,true,false,false,false,false] #[true,true,true,true,false,true,true,true,false,true,true,false,false,true,true,false,false,true,true,false,false,true,true,false,false,false,false] rfl rfl rfl rfl (two_of HT_.out (by kernel_rfl)) (by decide) (by decide) (fun K hK => ?_) (fun K hK => ?_)
                ·skip
                 have hcv22:=own_string (P:=Try.prog) Try.underlying46 Try.underlying5 Try.underlying9 (Kd.own_of_R HO456.out);refine value_ (w1:=?_) (v:=?_) (by rfl) rfl ?_ ?_;rotate_left 2
                 ·go_simp
                  constructor
                  ·rfl
                  rfl
                 clear hcv22;refine hK.out _ _ (kJ6_ BK452) (fun hHeld => ?_);clear hK K;refine nX_ (some 11) ?_
                 exact norm_ (by (simp only [putAll,Act.put,s1_,s2_,s3_];done)) (hJ3_4 (v455) _ ⟨hHeld,(rq_ HO456),(kq_ BK452),(bq_ HB)⟩)
                skip
                refine gs_ Try.func54 #[.int .i64 a0_1] ?_;with_reducible refine (spec_l01Var.calls k a0_1 t457 _ A8.out).mono ?_;rintro e w22 ⟨rfl,hb⟩;refine ⟨_,rfl,?_⟩;replace HO456:=rB_ HO456 hb;replace BK452:=kB_ BK452 hb;replace HB:=bS_ HB hb
                (try clear hb)
                refine hK.out _ _ (kJ6_ BK452) (fun hHeld => ?_);clear hK K;refine nX_ (some 14) ?_
                exact norm_ (by (simp only [putAll,Act.put,s1_,s2_,s3_];done)) (hJ3_7 (v455) _ ⟨hHeld,(rq_ HO456),(kq_ BK452),(bq_ HB)⟩)
               skip
               rintro _ w21 ⟨hS_,h0_,h1_⟩;have n0_ : Aside0 (j22_1 w21 gb452 a0_0 a0_1 a0_2 a0_3 a0_4 a0_5):=⟨h0_⟩;have n1_ : Aside0 (Below w.heap.size w w21):=⟨h1_⟩;clear BK452;clear HB;clear h0_ h1_;have BK452:=n0_;have HB:=n1_;have hHeld : j22_0 w21 gb452 a0_0 a0_1 a0_2 a0_3 a0_4 a0_5:=hS_;refine norm_ (a':=?_) ?_ ?_;rotate_left
               ·simp only [putAll,Act.put,s1_,s2_,s3_];rfl
               refine two_ (i:=3) (j:=15) (Ni:=some 10) (Nj:=some 22) #[true,true,true,true,false,true,true,true,false,true,true,true,false,true,true,false,false,true,true,false,false,true,true,false,false,false,false] #[true,true,true,false,false,true,true,true,false,true,true,true,false,true,true,true,false,true,true,false,false,true,true,false,false,false,false] rfl rfl rfl rfl (two_of HT_.out (by kernel_rfl)) (by decide) (by decide) (fun K hK => ?_) (fun K hK => ?_)
               ·skip
                refine Kd.R_lit_step (Kd.int .u8) _ 5 ?hg (N:=10) ?hd (xs:=([(a0_0) % 256] : List Int)) (inner:=[.int .u8 ((a0_0) % 256)]) (ok:=fun _ => True) (okp:=fun _ => True) ?hr ?hp (fun _ hk => hk) trivial (Below.refl _ _) (Nat.le_refl _) (by simp) ?_;(case hd => rfl);(case hg => rfl);(case hr => exact gx_);(case hp => exact (Reps.one (show Kd.M (Kd.int .u8) _ _ _ ((a0_0) % 256) [.int .u8 ((a0_0) % 256)] from rfl) (Reps.none _ _)));intro v455 w22 ho23 hb hg_ hnew_;clear hg_ hnew_
                (rw [← Ny454.out] at ho23)
                have HO456:=A_ (rw_ ho23 (bz_ (bq_ HB)));replace BK452:=kB_ BK452 hb;replace HB:=bS_ HB hb;clear hb ho23;refine hK.out _ _ (kJ6_ BK452) (fun hHeld => ?_);clear hK K;refine nX_ (some 10) ?_
                exact norm_ (by (simp only [putAll,Act.put,s1_,s2_,s3_];done)) (hJ3_7_11 (v455) _ ⟨hHeld,(rq_ HO456),(kq_ BK452),(bq_ HB)⟩)
               skip
               refine gs_ Try.func55 #[.string a0_3] ?_;with_reducible refine (spec_l05Short.calls k a0_3 t459 _ A12.out).mono ?_;rintro e w22 ⟨rfl,hb⟩;refine ⟨_,rfl,?_⟩;replace BK452:=kB_ BK452 hb;replace HB:=bS_ HB hb
               (try clear hb)
               refine hK.out _ _ (kJ6_ BK452) (fun hHeld => ?_);clear hK K;refine nX_ (some 22) ?_
               exact norm_ (by (simp only [putAll,Act.put,s1_,s2_,s3_];done)) (hJ7_11_15 () _ ⟨hHeld,(kq_ BK452),(bq_ HB)⟩)
              skip
              rintro v455 w22 ⟨hS_,h0_,h1_,h2_⟩;have n0_ : Aside0 (Kd.R (Kd.int .u8) 5 w22 w.heap.size (fun _ => True) v455 y454):=⟨h0_⟩;have n1_ : Aside0 (j22_1 w22 gb452 a0_0 a0_1 a0_2 a0_3 a0_4 a0_5):=⟨h1_⟩;have n2_ : Aside0 (Below w.heap.size w w22):=⟨h2_⟩;clear BK452;clear HB;clear h0_ h1_ h2_;have HO456:=n0_;have BK452:=n1_;have HB:=n2_;have hHeld : j22_0 w22 gb452 a0_0 a0_1 a0_2 a0_3 a0_4 a0_5:=hS_;refine norm_ (a':=?_) ?_ ?_;rotate_left
              ·simp only [putAll,Act.put,s1_,s2_,s3_];rfl
              refine two_ (i:=4) (j:=11) (Ni:=some 11) (Nj:=some 18) #[true,true,true,true,true,true,true,true,false,true,true,false,false,true,true,false,false,true,true,false,false,true,true,false,false,false,false] #[true,true,true,true,false,true,true,true,false,true,true,true,false,true,true,false,false,true,true,false,false,true,true,false,false,false,false] rfl rfl rfl rfl (two_of HT_.out (by kernel_rfl)) (by decide) (by decide) (fun K hK => ?_) (fun K hK => ?_)
              ·skip
               have hcv23:=own_string (P:=Try.prog) Try.underlying46 Try.underlying5 Try.underlying9 (Kd.own_of_R HO456.out);refine value_ (w1:=?_) (v:=?_) (by rfl) rfl ?_ ?_;rotate_left 2
               ·go_simp
                constructor
                ·rfl
                rfl
               clear hcv23;refine hK.out _ _ (kJ6_ BK452) (fun hHeld => ?_);clear hK K;refine nX_ (some 11) ?_
               refine pU_ 8 (some 15) ?_
               exact norm_ (by (simp only [putAll,Act.put,s1_,s2_,s3_];done)) (hJ3_4_7 (v455) _ ⟨hHeld,(rq_ HO456),(kq_ BK452),(bq_ HB)⟩)
              skip
              refine gs_ Try.func54 #[.int .i64 a0_2] ?_;with_reducible refine (spec_l01Var.calls k a0_2 t458 _ A10.out).mono ?_;rintro e w23 ⟨rfl,hb⟩;refine ⟨_,rfl,?_⟩;replace HO456:=rB_ HO456 hb;replace BK452:=kB_ BK452 hb;replace HB:=bS_ HB hb
              (try clear hb)
              refine hK.out _ _ (kJ6_ BK452) (fun hHeld => ?_);clear hK K;refine nX_ (some 18) ?_
              exact norm_ (by (simp only [putAll,Act.put,s1_,s2_,s3_];done)) (hJ3_7_11 (v455) _ ⟨hHeld,(rq_ HO456),(kq_ BK452),(bq_ HB)⟩)
             skip
             rintro v455 w22 ⟨hS_,h0_,h1_,h2_⟩;have n0_ : Aside0 (Kd.R (Kd.int .u8) 5 w22 w.heap.size (fun _ => True) v455 y454):=⟨h0_⟩;have n1_ : Aside0 (j22_1 w22 gb452 a0_0 a0_1 a0_2 a0_3 a0_4 a0_5):=⟨h1_⟩;have n2_ : Aside0 (Below w.heap.size w w22):=⟨h2_⟩;clear BK452;clear HB;clear h0_ h1_ h2_;have HO456:=n0_;have BK452:=n1_;have HB:=n2_;have hHeld : j22_0 w22 gb452 a0_0 a0_1 a0_2 a0_3 a0_4 a0_5:=hS_;refine norm_ (a':=?_) ?_ ?_;rotate_left
             ·simp only [putAll,Act.put,s1_,s2_,s3_];rfl
             refine oN_ 7 (some 14) (fun K hK => ?_);refine gs_ Try.func54 #[.int .i64 a0_1] ?_;with_reducible refine (spec_l01Var.calls k a0_1 t457 _ A8.out).mono ?_;rintro e w23 ⟨rfl,hb⟩;refine ⟨_,rfl,?_⟩;replace HO456:=rB_ HO456 hb;replace BK452:=kB_ BK452 hb;replace HB:=bS_ HB hb
             (try clear hb)
             refine hK.out _ _ (kJ6_ BK452) (fun hHeld => ?_);clear hK K;refine nX_ (some 14) ?_
             refine pU_ 8 (some 15) ?_
             exact norm_ (by (simp only [putAll,Act.put,s1_,s2_,s3_];done)) (hJ3_4_7 (v455) _ ⟨hHeld,(rq_ HO456),(kq_ BK452),(bq_ HB)⟩)
            skip
            rintro _ w22 ⟨hS_,h0_,h1_⟩;have n0_ : Aside0 (j22_1 w22 gb452 a0_0 a0_1 a0_2 a0_3 a0_4 a0_5):=⟨h0_⟩;have n1_ : Aside0 (Below w.heap.size w w22):=⟨h1_⟩;clear BK452;clear HB;clear h0_ h1_;have BK452:=n0_;have HB:=n1_;have hHeld : j22_0 w22 gb452 a0_0 a0_1 a0_2 a0_3 a0_4 a0_5:=hS_;refine norm_ (a':=?_) ?_ ?_;rotate_left
            ·simp only [putAll,Act.put,s1_,s2_,s3_];rfl
            refine two_ (i:=3) (j:=19) (Ni:=some 10) (Nj:=some 26) #[true,true,true,true,false,true,true,true,false,true,true,true,false,true,true,true,false,true,true,false,false,true,true,false,false,false,false] #[true,true,true,false,false,true,true,true,false,true,true,true,false,true,true,true,false,true,true,true,false,true,true,false,false,false,false] rfl rfl rfl rfl (two_of HT_.out (by kernel_rfl)) (by decide) (by decide) (fun K hK => ?_) (fun K hK => ?_)
            ·skip
             refine Kd.R_lit_step (Kd.int .u8) _ 5 ?hg (N:=10) ?hd (xs:=([(a0_0) % 256] : List Int)) (inner:=[.int .u8 ((a0_0) % 256)]) (ok:=fun _ => True) (okp:=fun _ => True) ?hr ?hp (fun _ hk => hk) trivial (Below.refl _ _) (Nat.le_refl _) (by simp) ?_;(case hd => rfl);(case hg => rfl);(case hr => exact gx_);(case hp => exact (Reps.one (show Kd.M (Kd.int .u8) _ _ _ ((a0_0) % 256) [.int .u8 ((a0_0) % 256)] from rfl) (Reps.none _ _)));intro v455 w23 ho24 hb hg_ hnew_;clear hg_ hnew_
             (rw [← Ny454.out] at ho24)
             have HO456:=A_ (rw_ ho24 (bz_ (bq_ HB)));replace BK452:=kB_ BK452 hb;replace HB:=bS_ HB hb;clear hb ho24;refine hK.out _ _ (kJ6_ BK452) (fun hHeld => ?_);clear hK K;refine nX_ (some 10) ?_
             exact norm_ (by (simp only [putAll,Act.put,s1_,s2_,s3_];done)) (hJ3_7_11_15 (v455) _ ⟨hHeld,(rq_ HO456),(kq_ BK452),(bq_ HB)⟩)
            skip
            refine gs_ Try.func55 #[.string a0_4] ?_;with_reducible refine (spec_l05Short.calls k a0_4 t460 _ A14.out).mono ?_;rintro e w23 ⟨rfl,hb⟩;refine ⟨_,rfl,?_⟩;replace BK452:=kB_ BK452 hb;replace HB:=bS_ HB hb
            (try clear hb)
            refine hK.out _ _ (kJ6_ BK452) (fun hHeld => ?_);clear hK K;refine nX_ (some 26) ?_
            exact norm_ (by (simp only [putAll,Act.put,s1_,s2_,s3_];done)) (hJ7_11_15_19 () _ ⟨hHeld,(kq_ BK452),(bq_ HB)⟩)
           skip
           rintro v455 w23 ⟨hS_,h0_,h1_,h2_⟩;have n0_ : Aside0 (Kd.R (Kd.int .u8) 5 w23 w.heap.size (fun _ => True) v455 y454):=⟨h0_⟩;have n1_ : Aside0 (j22_1 w23 gb452 a0_0 a0_1 a0_2 a0_3 a0_4 a0_5):=⟨h1_⟩;have n2_ : Aside0 (Below w.heap.size w w23):=⟨h2_⟩;clear BK452;clear HB;clear h0_ h1_ h2_;have HO456:=n0_;have BK452:=n1_;have HB:=n2_;have hHeld : j22_0 w23 gb452 a0_0 a0_1 a0_2 a0_3 a0_4 a0_5:=hS_;refine norm_ (a':=?_) ?_ ?_;rotate_left
           ·simp only [putAll,Act.put,s1_,s2_,s3_];rfl
           refine two_ (i:=4) (j:=15) (Ni:=some 11) (Nj:=some 22) #[true,true,true,true,true,true,true,true,false,true,true,true,false,true,true,false,false,true,true,false,false,true,true,false,false,false,false] #[true,true,true,true,false,true,true,true,false,true,true,true,false,true,true,true,false,true,true,false,false,true,true,false,false,false,false] rfl rfl rfl rfl (two_of HT_.out (by kernel_rfl)) (by decide) (by decide) (fun K hK => ?_) (fun K hK => ?_)
           ·skip
            have hcv24:=own_string (P:=Try.prog) Try.underlying46 Try.underlying5 Try.underlying9 (Kd.own_of_R HO456.out);refine value_ (w1:=?_) (v:=?_) (by rfl) rfl ?_ ?_;rotate_left 2
            ·go_simp
             constructor
             ·rfl
             rfl
            clear hcv24;refine hK.out _ _ (kJ6_ BK452) (fun hHeld => ?_);clear hK K;refine nX_ (some 11) ?_
            refine pU_ 8 (some 15) ?_
            refine pU_ 12 (some 19) ?_
            exact norm_ (by (simp only [putAll,Act.put,s1_,s2_,s3_];done)) (hJ3_4_7_11 (v455) _ ⟨hHeld,(rq_ HO456),(kq_ BK452),(bq_ HB)⟩)
           skip
           refine gs_ Try.func55 #[.string a0_3] ?_;with_reducible refine (spec_l05Short.calls k a0_3 t459 _ A12.out).mono ?_;rintro e w24 ⟨rfl,hb⟩;refine ⟨_,rfl,?_⟩;replace HO456:=rB_ HO456 hb;replace BK452:=kB_ BK452 hb;replace HB:=bS_ HB hb
           (try clear hb)
           refine hK.out _ _ (kJ6_ BK452) (fun hHeld => ?_);clear hK K;refine nX_ (some 22) ?_
           exact norm_ (by (simp only [putAll,Act.put,s1_,s2_,s3_];done)) (hJ3_7_11_15 (v455) _ ⟨hHeld,(rq_ HO456),(kq_ BK452),(bq_ HB)⟩)
          skip
          rintro v455 w23 ⟨hS_,h0_,h1_,h2_⟩;have n0_ : Aside0 (Kd.R (Kd.int .u8) 5 w23 w.heap.size (fun _ => True) v455 y454):=⟨h0_⟩;have n1_ : Aside0 (j22_1 w23 gb452 a0_0 a0_1 a0_2 a0_3 a0_4 a0_5):=⟨h1_⟩;have n2_ : Aside0 (Below w.heap.size w w23):=⟨h2_⟩;clear BK452;clear HB;clear h0_ h1_ h2_;have HO456:=n0_;have BK452:=n1_;have HB:=n2_;have hHeld : j22_0 w23 gb452 a0_0 a0_1 a0_2 a0_3 a0_4 a0_5:=hS_;refine norm_ (a':=?_) ?_ ?_;rotate_left
          ·simp only [putAll,Act.put,s1_,s2_,s3_];rfl
          refine oN_ 11 (some 18) (fun K hK => ?_);refine gs_ Try.func54 #[.int .i64 a0_2] ?_;with_reducible refine (spec_l01Var.calls k a0_2 t458 _ A10.out).mono ?_;rintro e w24 ⟨rfl,hb⟩;refine ⟨_,rfl,?_⟩;replace HO456:=rB_ HO456 hb;replace BK452:=kB_ BK452 hb;replace HB:=bS_ HB hb
          (try clear hb)
          refine hK.out _ _ (kJ6_ BK452) (fun hHeld => ?_);clear hK K;refine nX_ (some 18) ?_
          refine pU_ 12 (some 19) ?_
          exact norm_ (by (simp only [putAll,Act.put,s1_,s2_,s3_];done)) (hJ3_4_7_11 (v455) _ ⟨hHeld,(rq_ HO456),(kq_ BK452),(bq_ HB)⟩)
         skip
         rintro _ w23 ⟨hS_,h0_,h1_⟩;have n0_ : Aside0 (j22_1 w23 gb452 a0_0 a0_1 a0_2 a0_3 a0_4 a0_5):=⟨h0_⟩;have n1_ : Aside0 (Below w.heap.size w w23):=⟨h1_⟩;clear BK452;clear HB;clear h0_ h1_;have BK452:=n0_;have HB:=n1_;have hHeld : j22_0 w23 gb452 a0_0 a0_1 a0_2 a0_3 a0_4 a0_5:=hS_;refine norm_ (a':=?_) ?_ ?_;rotate_left
         ·simp only [putAll,Act.put,s1_,s2_,s3_];rfl
         refine two_ (i:=3) (j:=23) (Ni:=some 10) (Nj:=some 30) #[true,true,true,true,false,true,true,true,false,true,true,true,false,true,true,true,false,true,true,true,false,true,true,false,false,false,false] #[true,true,true,false,false,true,true,true,false,true,true,true,false,true,true,true,false,true,true,true,false,true,true,true,false,false,false] rfl rfl rfl rfl (two_of HT_.out (by kernel_rfl)) (by decide) (by decide) (fun K hK => ?_) (fun K hK => ?_)
         ·skip
          refine Kd.R_lit_step (Kd.int .u8) _ 5 ?hg (N:=10) ?hd (xs:=([(a0_0) % 256] : List Int)) (inner:=[.int .u8 ((a0_0) % 256)]) (ok:=fun _ => True) (okp:=fun _ => True) ?hr ?hp (fun _ hk => hk) trivial (Below.refl _ _) (Nat.le_refl _) (by simp) ?_;(case hd => rfl);(case hg => rfl);(case hr => exact gx_);(case hp => exact (Reps.one (show Kd.M (Kd.int .u8) _ _ _ ((a0_0) % 256) [.int .u8 ((a0_0) % 256)] from rfl) (Reps.none _ _)));intro v455 w24 ho25 hb hg_ hnew_;clear hg_ hnew_
          (rw [← Ny454.out] at ho25)
          have HO456:=A_ (rw_ ho25 (bz_ (bq_ HB)));replace BK452:=kB_ BK452 hb;replace HB:=bS_ HB hb;clear hb ho25;refine hK.out _ _ (kJ6_ BK452) (fun hHeld => ?_);clear hK K;refine nX_ (some 10) ?_
          exact norm_ (by (simp only [putAll,Act.put,s1_,s2_,s3_];done)) (hJ3_7_11_15_19 (v455) _ ⟨hHeld,(rq_ HO456),(kq_ BK452),(bq_ HB)⟩)
         skip
         refine gs_ Try.func55 #[.string a0_5] ?_;with_reducible refine (spec_l05Short.calls k a0_5 t461 _ A16.out).mono ?_;rintro e w24 ⟨rfl,hb⟩;refine ⟨_,rfl,?_⟩;replace BK452:=kB_ BK452 hb;replace HB:=bS_ HB hb
         (try clear hb)
         refine hK.out _ _ (kJ6_ BK452) (fun hHeld => ?_);clear hK K;refine nX_ (some 30) ?_
         exact norm_ (by (simp only [putAll,Act.put,s1_,s2_,s3_];done)) (hJ7_11_15_19_23 () _ ⟨hHeld,(kq_ BK452),(bq_ HB)⟩)
        skip
        rintro v455 w24 ⟨hS_,h0_,h1_,h2_⟩;have n0_ : Aside0 (Kd.R (Kd.int .u8) 5 w24 w.heap.size (fun _ => True) v455 y454):=⟨h0_⟩;have n1_ : Aside0 (j22_1 w24 gb452 a0_0 a0_1 a0_2 a0_3 a0_4 a0_5):=⟨h1_⟩;have n2_ : Aside0 (Below w.heap.size w w24):=⟨h2_⟩;clear BK452;clear HB;clear h0_ h1_ h2_;have HO456:=n0_;have BK452:=n1_;have HB:=n2_;have hHeld : j22_0 w24 gb452 a0_0 a0_1 a0_2 a0_3 a0_4 a0_5:=hS_;refine norm_ (a':=?_) ?_ ?_;rotate_left
        ·simp only [putAll,Act.put,s1_,s2_,s3_];rfl
        refine two_ (i:=4) (j:=19) (Ni:=some 11) (Nj:=some 26) #[true,true,true,true,true,true,true,true,false,true,true,true,false,true,true,true,false,true,true,false,false,true,true,false,false,false,false] #[true,true,true,true,false,true,true,true,false,true,true,true,false,true,true,true,false,true,true,true,false,true,true,false,false,false,false] rfl rfl rfl rfl (two_of HT_.out (by kernel_rfl)) (by decide) (by decide) (fun K hK => ?_) (fun K hK => ?_)
        ·skip
         have hcv25:=own_string (P:=Try.prog) Try.underlying46 Try.underlying5 Try.underlying9 (Kd.own_of_R HO456.out);refine value_ (w1:=?_) (v:=?_) (by rfl) rfl ?_ ?_;rotate_left 2
         ·go_simp
          constructor
          ·rfl
          rfl
         clear hcv25;refine hK.out _ _ (kJ6_ BK452) (fun hHeld => ?_);clear hK K;refine nX_ (some 11) ?_
         refine pU_ 8 (some 15) ?_
         refine pU_ 12 (some 19) ?_
         refine pU_ 16 (some 23) ?_
         exact norm_ (by (simp only [putAll,Act.put,s1_,s2_,s3_];done)) (hJ3_4_7_11_15 (v455) _ ⟨hHeld,(rq_ HO456),(kq_ BK452),(bq_ HB)⟩)
        skip
        refine gs_ Try.func55 #[.string a0_4] ?_;with_reducible refine (spec_l05Short.calls k a0_4 t460 _ A14.out).mono ?_;rintro e w25 ⟨rfl,hb⟩;refine ⟨_,rfl,?_⟩;replace HO456:=rB_ HO456 hb;replace BK452:=kB_ BK452 hb;replace HB:=bS_ HB hb
        (try clear hb)
        refine hK.out _ _ (kJ6_ BK452) (fun hHeld => ?_);clear hK K;refine nX_ (some 26) ?_
        exact norm_ (by (simp only [putAll,Act.put,s1_,s2_,s3_];done)) (hJ3_7_11_15_19 (v455) _ ⟨hHeld,(rq_ HO456),(kq_ BK452),(bq_ HB)⟩)
       skip
       rintro v455 w24 ⟨hS_,h0_,h1_,h2_⟩;have n0_ : Aside0 (Kd.R (Kd.int .u8) 5 w24 w.heap.size (fun _ => True) v455 y454):=⟨h0_⟩;have n1_ : Aside0 (j22_1 w24 gb452 a0_0 a0_1 a0_2 a0_3 a0_4 a0_5):=⟨h1_⟩;have n2_ : Aside0 (Below w.heap.size w w24):=⟨h2_⟩;clear BK452;clear HB;clear h0_ h1_ h2_;have HO456:=n0_;have BK452:=n1_;have HB:=n2_;have hHeld : j22_0 w24 gb452 a0_0 a0_1 a0_2 a0_3 a0_4 a0_5:=hS_;refine norm_ (a':=?_) ?_ ?_;rotate_left
       ·simp only [putAll,Act.put,s1_,s2_,s3_];rfl
       refine oN_ 15 (some 22) (fun K hK => ?_);refine gs_ Try.func55 #[.string a0_3] ?_;with_reducible refine (spec_l05Short.calls k a0_3 t459 _ A12.out).mono ?_;rintro e w25 ⟨rfl,hb⟩;refine ⟨_,rfl,?_⟩;replace HO456:=rB_ HO456 hb;replace BK452:=kB_ BK452 hb;replace HB:=bS_ HB hb
       (try clear hb)
       refine hK.out _ _ (kJ6_ BK452) (fun hHeld => ?_);clear hK K;refine nX_ (some 22) ?_
       refine pU_ 16 (some 23) ?_
       exact norm_ (by (simp only [putAll,Act.put,s1_,s2_,s3_];done)) (hJ3_4_7_11_15 (v455) _ ⟨hHeld,(rq_ HO456),(kq_ BK452),(bq_ HB)⟩)
      skip
      rintro _ w24 ⟨hS_,h0_,h1_⟩;have n0_ : Aside0 (j22_1 w24 gb452 a0_0 a0_1 a0_2 a0_3 a0_4 a0_5):=⟨h0_⟩;have n1_ : Aside0 (Below w.heap.size w w24):=⟨h1_⟩;clear BK452;clear HB;clear h0_ h1_;have BK452:=n0_;have HB:=n1_;have hHeld : j22_0 w24 gb452 a0_0 a0_1 a0_2 a0_3 a0_4 a0_5:=hS_;refine norm_ (a':=?_) ?_ ?_;rotate_left
      ·simp only [putAll,Act.put,s1_,s2_,s3_];rfl
      refine oN_ 3 (some 10) (fun K hK => ?_);refine Kd.R_lit_step (Kd.int .u8) _ 5 ?hg (N:=10) ?hd (xs:=([(a0_0) % 256] : List Int)) (inner:=[.int .u8 ((a0_0) % 256)]) (ok:=fun _ => True) (okp:=fun _ => True) ?hr ?hp (fun _ hk => hk) trivial (Below.refl _ _) (Nat.le_refl _) (by simp) ?_;(case hd => rfl);(case hg => rfl);(case hr => exact gx_);(case hp => exact (Reps.one (show Kd.M (Kd.int .u8) _ _ _ ((a0_0) % 256) [.int .u8 ((a0_0) % 256)] from rfl) (Reps.none _ _)));intro v455 w25 ho26 hb hg_ hnew_;clear hg_ hnew_
      (rw [← Ny454.out] at ho26)
      have HO456:=A_ (rw_ ho26 (bz_ (bq_ HB)));replace BK452:=kB_ BK452 hb;replace HB:=bS_ HB hb;clear hb ho26;refine hK.out _ _ (kJ6_ BK452) (fun hHeld => ?_);clear hK K;refine nX_ (some 10) ?_
      exact norm_ (by (simp only [putAll,Act.put,s1_,s2_,s3_];done)) (hJ3_7_11_15_19_23 (v455) _ ⟨hHeld,(rq_ HO456),(kq_ BK452),(bq_ HB)⟩)
     skip
     rintro v455 w25 ⟨hS_,h0_,h1_,h2_⟩;have n0_ : Aside0 (Kd.R (Kd.int .u8) 5 w25 w.heap.size (fun _ => True) v455 y454):=⟨h0_⟩;have n1_ : Aside0 (j22_1 w25 gb452 a0_0 a0_1 a0_2 a0_3 a0_4 a0_5):=⟨h1_⟩;have n2_ : Aside0 (Below w.heap.size w w25):=⟨h2_⟩;clear BK452;clear HB;clear h0_ h1_ h2_;have HO456:=n0_;have BK452:=n1_;have HB:=n2_;have hHeld : j22_0 w25 gb452 a0_0 a0_1 a0_2 a0_3 a0_4 a0_5:=hS_;refine norm_ (a':=?_) ?_ ?_;rotate_left
     ·simp only [putAll,Act.put,s1_,s2_,s3_];rfl
     refine two_ (i:=4) (j:=23) (Ni:=some 11) (Nj:=some 30) #[true,true,true,true,true,true,true,true,false,true,true,true,false,true,true,true,false,true,true,true,false,true,true,false,false,false,false] #[true,true,true,true,false,true,true,true,false,true,true,true,false,true,true,true,false,true,true,true,false,true,true,true,false,false,false] rfl rfl rfl rfl (two_of HT_.out (by kernel_rfl)) (by decide) (by decide) (fun K hK => ?_) (fun K hK => ?_)
     ·skip
      have hcv26:=own_string (P:=Try.prog) Try.underlying46 Try.underlying5 Try.underlying9 (Kd.own_of_R HO456.out);refine value_ (w1:=?_) (v:=?_) (by rfl) rfl ?_ ?_;rotate_left 2
      ·go_simp
       constructor
       ·rfl
       rfl
      clear hcv26;refine hK.out _ _ (kJ6_ BK452) (fun hHeld => ?_);clear hK K;refine nX_ (some 11) ?_
      refine pU_ 8 (some 15) ?_
      refine pU_ 12 (some 19) ?_
      refine pU_ 16 (some 23) ?_
      refine pU_ 20 (some 27) ?_
      exact norm_ (by (simp only [putAll,Act.put,s1_,s2_,s3_];done)) (hJ3_4_7_11_15_19 (v455) _ ⟨hHeld,(rq_ HO456),(kq_ BK452),(bq_ HB)⟩)
     skip
     refine gs_ Try.func55 #[.string a0_5] ?_;with_reducible refine (spec_l05Short.calls k a0_5 t461 _ A16.out).mono ?_;rintro e w26 ⟨rfl,hb⟩;refine ⟨_,rfl,?_⟩;replace HO456:=rB_ HO456 hb;replace BK452:=kB_ BK452 hb;replace HB:=bS_ HB hb
     (try clear hb)
     refine hK.out _ _ (kJ6_ BK452) (fun hHeld => ?_);clear hK K;refine nX_ (some 30) ?_
     exact norm_ (by (simp only [putAll,Act.put,s1_,s2_,s3_];done)) (hJ3_7_11_15_19_23 (v455) _ ⟨hHeld,(rq_ HO456),(kq_ BK452),(bq_ HB)⟩)
    skip
    rintro v455 w25 ⟨hS_,h0_,h1_,h2_⟩;have n0_ : Aside0 (Kd.R (Kd.int .u8) 5 w25 w.heap.size (fun _ => True) v455 y454):=⟨h0_⟩;have n1_ : Aside0 (j22_1 w25 gb452 a0_0 a0_1 a0_2 a0_3 a0_4 a0_5):=⟨h1_⟩;have n2_ : Aside0 (Below w.heap.size w w25):=⟨h2_⟩;clear BK452;clear HB;clear h0_ h1_ h2_;have HO456:=n0_;have BK452:=n1_;have HB:=n2_;have hHeld : j22_0 w25 gb452 a0_0 a0_1 a0_2 a0_3 a0_4 a0_5:=hS_;refine norm_ (a':=?_) ?_ ?_;rotate_left
    ·simp only [putAll,Act.put,s1_,s2_,s3_];rfl
    refine oN_ 19 (some 26) (fun K hK => ?_);refine gs_ Try.func55 #[.string a0_4] ?_;with_reducible refine (spec_l05Short.calls k a0_4 t460 _ A14.out).mono ?_;rintro e w26 ⟨rfl,hb⟩;refine ⟨_,rfl,?_⟩;replace HO456:=rB_ HO456 hb;replace BK452:=kB_ BK452 hb;replace HB:=bS_ HB hb
    (try clear hb)
    refine hK.out _ _ (kJ6_ BK452) (fun hHeld => ?_);clear hK K;refine nX_ (some 26) ?_
    refine pU_ 20 (some 27) ?_
    exact norm_ (by (simp only [putAll,Act.put,s1_,s2_,s3_];done)) (hJ3_4_7_11_15_19 (v455) _ ⟨hHeld,(rq_ HO456),(kq_ BK452),(bq_ HB)⟩)
   skip
   rintro v455 w26 ⟨hS_,h0_,h1_,h2_⟩;have n0_ : Aside0 (Kd.R (Kd.int .u8) 5 w26 w.heap.size (fun _ => True) v455 y454):=⟨h0_⟩;have n1_ : Aside0 (j22_1 w26 gb452 a0_0 a0_1 a0_2 a0_3 a0_4 a0_5):=⟨h1_⟩;have n2_ : Aside0 (Below w.heap.size w w26):=⟨h2_⟩;clear BK452;clear HB;clear h0_ h1_ h2_;have HO456:=n0_;have BK452:=n1_;have HB:=n2_;have hHeld : j22_0 w26 gb452 a0_0 a0_1 a0_2 a0_3 a0_4 a0_5:=hS_;refine norm_ (a':=?_) ?_ ?_;rotate_left
   ·simp only [putAll,Act.put,s1_,s2_,s3_];rfl
   refine oN_ 4 (some 11) (fun K hK => ?_);have hcv27:=own_string (P:=Try.prog) Try.underlying46 Try.underlying5 Try.underlying9 (Kd.own_of_R HO456.out);refine value_ (w1:=?_) (v:=?_) (by rfl) rfl ?_ ?_;rotate_left 2
   ·go_simp
    constructor
    ·rfl
    rfl
   clear hcv27;refine hK.out _ _ (kJ6_ BK452) (fun hHeld => ?_);clear hK K;refine nX_ (some 11) ?_
   refine pU_ 8 (some 15) ?_
   refine pU_ 12 (some 19) ?_
   refine pU_ 16 (some 23) ?_
   refine pU_ 20 (some 27) ?_
   exact norm_ (by (simp only [putAll,Act.put,s1_,s2_,s3_];done)) (hJ3_4_7_11_15_19_23 (v455) _ ⟨hHeld,(rq_ HO456),(kq_ BK452),(bq_ HB)⟩)
  skip
  rintro v455 w26 ⟨hS_,h0_,h1_,h2_⟩;have n0_ : Aside0 (Kd.R (Kd.int .u8) 5 w26 w.heap.size (fun _ => True) v455 y454):=⟨h0_⟩;have n1_ : Aside0 (j22_1 w26 gb452 a0_0 a0_1 a0_2 a0_3 a0_4 a0_5):=⟨h1_⟩;have n2_ : Aside0 (Below w.heap.size w w26):=⟨h2_⟩;clear BK452;clear HB;clear h0_ h1_ h2_;have HO456:=n0_;have BK452:=n1_;have HB:=n2_;have hHeld : j22_0 w26 gb452 a0_0 a0_1 a0_2 a0_3 a0_4 a0_5:=hS_;refine norm_ (a':=?_) ?_ ?_;rotate_left
  ·simp only [putAll,Act.put,s1_,s2_,s3_];rfl
  refine oN_ 23 (some 30) (fun K hK => ?_);refine gs_ Try.func55 #[.string a0_5] ?_;with_reducible refine (spec_l05Short.calls k a0_5 t461 _ A16.out).mono ?_;rintro e w27 ⟨rfl,hb⟩;refine ⟨_,rfl,?_⟩;replace HO456:=rB_ HO456 hb;replace BK452:=kB_ BK452 hb;replace HB:=bS_ HB hb
  (try clear hb)
  refine hK.out _ _ (kJ6_ BK452) (fun hHeld => ?_);clear hK K;refine nX_ (some 30) ?_
  exact norm_ (by (simp only [putAll,Act.put,s1_,s2_,s3_];done)) (hJ3_4_7_11_15_19_23 (v455) _ ⟨hHeld,(rq_ HO456),(kq_ BK452),(bq_ HB)⟩)
 rintro v455 w27 ⟨hS_,h0_,h1_,h2_⟩;have n0_ : Aside0 (Kd.R (Kd.int .u8) 5 w27 w.heap.size (fun _ => True) v455 y454):=⟨h0_⟩;have n1_ : Aside0 (j22_1 w27 gb452 a0_0 a0_1 a0_2 a0_3 a0_4 a0_5):=⟨h1_⟩;have n2_ : Aside0 (Below w.heap.size w w27):=⟨h2_⟩;clear BK452;clear HB;clear h0_ h1_ h2_;have HB:=n2_;have hHeld : j22_0 w27 gb452 a0_0 a0_1 a0_2 a0_3 a0_4 a0_5:=hS_;refine norm_ (a':=?_) ?_ ?_;rotate_left
 ·simp only [putAll,Act.put,s1_,s2_,s3_];rfl
 refine pU_ 24 (some 31) ?_
 refine pU_ 25 (some 2) ?_
 refine pU_ 26 (some 3) ?_
 refine done_ (done_of HT_.out (by kernel_rfl)) ?_
 try go_wp2
 go_ret2;exact ⟨ex_,bq_ HB⟩
end Go.Proofs.Ytbcgnncbiblibaa.PFnMessages
