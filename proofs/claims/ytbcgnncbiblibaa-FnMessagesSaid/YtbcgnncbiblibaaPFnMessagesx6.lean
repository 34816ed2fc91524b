/- The contracts of Go functions that this law reaches: what each call returns, by a plain Lean function of its arguments, under the conditions that each names. By the kit's print.py, run by this repo's wip/gen/pp.py: not to the letter what print.sh prints. -/
import Derived.Test.YtbcgnncbiblibaaPFnMessagesx0
import Derived.Test.YtbcgnncbiblibaaPFnMessagesx3
import Derived.Test.YtbcgnncbiblibaaPFnMessagesx5
namespace Go.Proofs.Ytbcgnncbiblibaa.PFnMessages
open Go.RowKit Go.Proofs.YtbcgnncbiblibaaW.PrintWords Go.Proofs.YtbcgnncbiblibaaW.PrintLast Go.Proofs.YtbcgnncbiblibaaW.PrintMore
attribute [local go_sem] max2_int min2_int max_two min_two max_three min_three max_four min_four
set_option linter.unusedVariables false
set_option linter.unusedSimpArgs false
def spec_EntryText.j0 : Nat → Int → Bool → Int → Int → ByteArray → Option (ByteArray × Bool)
 | 0,_,_,_,_,_ => none
 | k + 1,x0,x13,x148000,x148001,x148002 => if x13 = true then (some ((⟨#[]⟩ : ByteArray),false)) else ((spec_l01Var.f k x0).bind fun t150 => (if 1 + t150.size ≤ 9223372036854775807 then ((spec_l01Var.f k x148000).bind fun t151 => (if ((⟨#[69]⟩ : ByteArray) ++ t150).size + t151.size ≤ 9223372036854775807 then ((some (([(x148001) % 256] : List Int) : List Int)).bind fun y152 => (if (((⟨#[69]⟩ : ByteArray) ++ t150) ++ t151).size + (strOfNums y152).size ≤ 9223372036854775807 then (if ((((⟨#[69]⟩ : ByteArray) ++ t150) ++ t151) ++ (strOfNums y152)).size + x148002.size ≤ 9223372036854775807 then (some (((((⟨#[69]⟩ : ByteArray) ++ t150) ++ t151) ++ (strOfNums y152)) ++ x148002,true)) else (none)) else (none))) else (none))) else (none)))
def spec_EntryText.f (k : Nat) (a0 a1_0 a1_1 : Int) (a1_2 : ByteArray) : Option (ByteArray × Bool) := (spec_EntryOk.f k a1_0 a1_1 a1_2).bind fun t148 => (if t148 = true then ((spec_l01In.f a0 1 100000).bind fun t149 => (spec_EntryText.j0 k a0 (!t149) a1_0 a1_1 a1_2)) else (spec_EntryText.j0 k a0 true a1_0 a1_1 a1_2))
theorem spec_EntryText.mono_l : ∀ k, (∀ y0 y1 y2 y3 y4, LeO (spec_EntryText.j0 k y0 y1 y2 y3 y4) (spec_EntryText.j0 (k + 1) y0 y1 y2 y3 y4))
 | 0 => fun _ _ _ _ _ r h => by simp [spec_EntryText.j0] at h
 | k + 1 => by
  have ih0:=spec_EntryText.mono_l k
  ·intro y0 y1 y2 y3 y4
   unfold spec_EntryText.j0
   repeat' first
   | (with_reducible exact spec_l01Var.mono _ _)
   | (with_reducible exact LeO.refl _)
   | (with_reducible refine LeO.ite ?_ ?_)
   | (with_reducible refine LeO.bind ?_ (fun _ => ?_))
theorem spec_EntryText.mono : ∀ a0 a1 a2 a3 k, LeO (spec_EntryText.f k a0 a1 a2 a3) (spec_EntryText.f (k + 1) a0 a1 a2 a3) := by
 intro a0 a1 a2 a3 k;have ih0:=spec_EntryText.mono_l k
 unfold spec_EntryText.f
 repeat' first
   | (with_reducible exact ih0 _ _ _ _ _)
   | (with_reducible exact spec_EntryOk.mono _ _ _ _)
   | (with_reducible exact LeO.refl _)
   | (with_reducible refine LeO.ite ?_ ?_)
   | (with_reducible refine LeO.bind ?_ (fun _ => ?_))
def spec_EntryText.T3 : Bool × List (List Nat × List Nat) := (true, [([], []), ([0], [0]), ([1], [1]), ([], []), ([3], [3]), ([4, 1], [4]), ([2, 5], [2, 5]), ([], []), ([7], [7]), ([8], [8]), ([9], [9]), ([10], [10]), ([6, 11], [6, 11]), ([], []), ([13], [13]), ([12, 14], [12, 14]), ([15, 5, 0, 1, 2, 3, 4, 5, 6, 7, 8, 9, 10, 11, 12, 13, 14, 15], [15]), ([16, 0, 1, 2, 3, 4, 5, 6, 7, 8, 9, 10, 11, 12, 13, 14, 15, 16], [])])
def spec_EntryText.B3 : List Nat := [0, 1, 3, 0, 8, 27, 63, 0, 128, 384, 896, 1920, 4095, 0, 8192, 32767, 65535, 131071]
theorem spec_EntryText.tab3 : rtab .any (opsOf Try.f96 3) = spec_EntryText.T3 := by kernel_rfl
theorem spec_EntryText.bits3 : waitsOk spec_EntryText.T3.2 spec_EntryText.B3 = true := by kernel_rfl
abbrev j6_0 (w_ : World) (g_ : Nat) (a1_0 a1_1 : Int) (a1_2 : ByteArray) : Prop := w_.cell? ⟨g_,0,none⟩ = some (.int .i64 a1_0) ∧ w_.cell? ⟨g_,1,none⟩ = some (.int .i64 a1_1) ∧ w_.cell? ⟨g_,2,none⟩ = some (.string a1_2)
abbrev j6_1 (w_ : World) (g_ : Nat) (a1_0 a1_1 : Int) (a1_2 : ByteArray) : Prop := w_.heap[g_]? = some (.cells #[.int .i64 a1_0,.int .i64 a1_1,.string a1_2] 69 (0,0))
set_option maxHeartbeats 8000000 in
set_option maxRecDepth 100000 in
theorem spec_EntryText.calls (k : Nat) (a0 a1_0 a1_1 : Int) (a1_2 r1 : ByteArray) (r2 : Bool) (w : World) (h : spec_EntryText.f k a0 a1_0 a1_1 a1_2 = some (r1, r2)) :
  Calls Try.prog 96 #[.int .i64 a0,.agg #[.int .i64 a1_0,.int .i64 a1_1,.string a1_2]] w fun e w' => e = .returned (.tuple #[.string r1,.bool r2]) ∧ Below w.heap.size w w':=by
 have hu69:=Try.underlying69;have HB:=A_ (Below.refl w.heap.size w);unfold spec_EntryText.f at h;have H:=h;clear h;have HC3:=A_ H;clear H;go_enter Try.func96,Try.ntmps96
 go_upto_region 1 with (((with_reducible refine gate_dst (N:=3) rfl ?_);refine bE_ 3 #[.int .i64 a1_0,.int .i64 a1_1,.string a1_2] 69 ?_;intro gb147 hg w4 hbox hb;have n0_:=bS_ HB hb;have n1_:=A_ hbox;have n2_:=gE_ hg HB;have n3_:=gE_ hg HB;clear HB;have HB:=n0_;have BK147:=n1_;have GE147:=n3_;clear n0_ n1_ n2_ n3_;clear hb hbox hg))
 go_cut [13] (fun v13 wc => ∃ (kq : Nat) (x13_2 : Bool),v13 = .bool x13_2 ∧ Aside0 (spec_EntryText.j0 kq a0 x13_2 a1_0 a1_1 a1_2 = some (r1,r2)) ∧ Aside0 (kq ≤ k) ∧ Aside0 (j6_1 wc gb147 a1_0 a1_1 a1_2) ∧ Aside0 (Below w.heap.size w wc))
 case first =>
  have H:=HC3.out;clear HC3;replace H:=ob_.mp H;obtain ⟨t148,A50,H⟩:=H;have A5:=A_ A50;clear A50
  by_cases c6 : t148 = true
  ·subst c6
   rw [if_pos rfl] at H;replace H:=ob_.mp H;obtain ⟨t149,A70,H⟩:=H;have A7:=A_ A70;clear A70;have H':=A_ H;clear H;obtain ⟨hcz8_0,hcz8_1,hcz8_2,hfz8_0,hfz8_1,hfz8_2⟩:=k3f_ BK147
   go_wp2_with (first|((with_reducible refine gate_callee (f:=82) rfl ?_);refine gL_ (some 7) Try.func82 #[.agg #[.int .i64 a1_0,.int .i64 a1_1,.string a1_2]] ?_;(with_reducible refine (spec_EntryOk.calls k a1_0 a1_1 a1_2 true _ A5.out).mono ?_);rintro e w9 ⟨rfl,hb⟩;refine ⟨_,rfl,?_⟩;replace BK147:=kB_ BK147 hb;replace HB:=bS_ HB hb;(try clear hb))|(go_at_call 81;(with_reducible refine (spec_l01In.calls a0 1 100000 t149 _ A7.out).mono ?_);rintro e w' ⟨rfl,⟨nd,rfl⟩⟩))
   go_meet
   case rel => exact ⟨_,(!t149),(by rfl),H',⟨by omega⟩,⟨kq_ BK147⟩,⟨bq_ HB⟩⟩
  replace c6:=Bool.eq_false_iff.mpr c6;subst c6
  have H1 : (spec_EntryText.j0 k a0 true a1_0 a1_1 a1_2) = some (r1,r2):=by rw [if_neg (show ¬ (false = true) by decide)] at H;exact H
  clear H;have H:=H1;clear H1;have H':=A_ H;clear H;obtain ⟨hcz10_0,hcz10_1,hcz10_2,hfz10_0,hfz10_1,hfz10_2⟩:=k3f_ BK147
  go_wp2_with (((with_reducible refine gate_callee (f:=82) rfl ?_);refine gL_ (some 7) Try.func82 #[.agg #[.int .i64 a1_0,.int .i64 a1_1,.string a1_2]] ?_;(with_reducible refine (spec_EntryOk.calls k a1_0 a1_1 a1_2 false _ A5.out).mono ?_);rintro e w11 ⟨rfl,hb⟩;refine ⟨_,rfl,?_⟩;replace BK147:=kB_ BK147 hb;replace HB:=bS_ HB hb;(try clear hb)))
  go_meet
  case rel => exact ⟨_,(true),(by rfl),H',⟨by omega⟩,⟨kq_ BK147⟩,⟨bq_ HB⟩⟩
 case rest =>
  clear HC3
  (try clear p2);(try clear c6);(try clear c8);(try clear c9);(try clear hcz10_0);(try clear hcz10_1);(try clear hcz10_2);(try clear hcz8_0);(try clear hcz8_1);(try clear hcz8_2);(try clear hfz10_0);(try clear hfz10_1);(try clear hfz10_2);(try clear hfz8_0);(try clear hfz8_1);(try clear hfz8_2)
  obtain ⟨kq,x13_2,rfl,HA,HJ2,BK147,HB⟩:=hcut
  cases kq with
  | zero => exact absurd HA.out (by simp [spec_EntryText.j0])
  | succ kj2 =>
   have H:=HA.out;clear HA;simp only [spec_EntryText.j0] at H
   by_cases c12 : x13_2 = true
   ·subst c12
    rw [if_pos rfl] at H;simp only [Option.some.injEq,Prod.mk.injEq] at H;obtain ⟨rfl,rfl⟩:=H;go_wp2;go_ret2;exact ⟨ex_,bq_ HB⟩
   replace c12:=Bool.eq_false_iff.mpr c12;subst c12
   have H1 : ((spec_l01Var.f kj2 a0).bind fun t150 => (if 1 + t150.size ≤ 9223372036854775807 then ((spec_l01Var.f kj2 a1_0).bind fun t151 => (if ((⟨#[69]⟩ : ByteArray) ++ t150).size + t151.size ≤ 9223372036854775807 then ((some (([(a1_1) % 256] : List Int) : List Int)).bind fun y152 => (if (((⟨#[69]⟩ : ByteArray) ++ t150) ++ t151).size + (strOfNums y152).size ≤ 9223372036854775807 then (if ((((⟨#[69]⟩ : ByteArray) ++ t150) ++ t151) ++ (strOfNums y152)).size + a1_2.size ≤ 9223372036854775807 then (some (((((⟨#[69]⟩ : ByteArray) ++ t150) ++ t151) ++ (strOfNums y152)) ++ a1_2,true)) else (none)) else (none))) else (none))) else (none))) = some (r1,r2):=by rw [if_neg (show ¬ (false = true) by decide)] at H;exact H
   clear H;have H:=H1;clear H1;replace H:=ob_.mp H;obtain ⟨t150,A130,H⟩:=H;have A13:=A_ A130;clear A130
   by_cases c14 : 1 + t150.size ≤ 9223372036854775807;rotate_left
   ·rw [if_neg c14] at H;exact absurd H (by simp)
   rw [if_pos c14] at H;have c14b0:=eq_true c14;have c14b1:=de_ c14
   try have c14b2 : (9223372036854775807 < 1 + t150.size) = False:=eq_false (Nat.not_lt.2 c14)
   replace H:=ob_.mp H;obtain ⟨t151,A150,H⟩:=H;have A15:=A_ A150;clear A150
   by_cases c16 : ((⟨#[69]⟩ : ByteArray) ++ t150).size + t151.size ≤ 9223372036854775807;rotate_left
   ·rw [if_neg c16] at H;exact absurd H (by simp)
   rw [if_pos c16] at H;have c16b0:=eq_true c16;have c16b1:=de_ c16
   try have c16b2 : (9223372036854775807 < ((⟨#[69]⟩ : ByteArray) ++ t150).size + t151.size) = False:=eq_false (Nat.not_lt.2 c16)
   try have c16b3 : (9223372036854775807 < 1 + t150.size + t151.size) = False:=eq_false (by have h_:=c16;simp only [ByteArray.size_append,show ∀ x_ : UInt8,(⟨#[x_]⟩ : ByteArray).size = 1 from fun _ => rfl] at h_;omega)
   obtain ⟨y152,hy152⟩ : ∃ y_ : List Int,y_ = (([(a1_1) % 256] : List Int)):=⟨_,rfl⟩
   replace H : (if (((⟨#[69]⟩ : ByteArray) ++ t150) ++ t151).size + (strOfNums y152).size ≤ 9223372036854775807 then (if ((((⟨#[69]⟩ : ByteArray) ++ t150) ++ t151) ++ (strOfNums y152)).size + a1_2.size ≤ 9223372036854775807 then (some (((((⟨#[69]⟩ : ByteArray) ++ t150) ++ t151) ++ (strOfNums y152)) ++ a1_2,true)) else (none)) else (none)) = some (r1,r2):=by (have H2_:=(Option.bind_some _ _).symm.trans H;rw [hy152];with_reducible exact H2_)
   have Ny152:=A_ hy152;clear hy152
   by_cases c17 : (((⟨#[69]⟩ : ByteArray) ++ t150) ++ t151).size + (strOfNums y152).size ≤ 9223372036854775807;rotate_left
   ·rw [if_neg c17] at H;exact absurd H (by simp)
   rw [if_pos c17] at H;have c17b0:=eq_true c17;have c17b1:=de_ c17
   try have c17b2 : (9223372036854775807 < (((⟨#[69]⟩ : ByteArray) ++ t150) ++ t151).size + (strOfNums y152).size) = False:=eq_false (Nat.not_lt.2 c17)
   try have c17b3 : (9223372036854775807 < 1 + t150.size + t151.size + (strOfNums y152).size) = False:=eq_false (by have h_:=c17;simp only [ByteArray.size_append,show ∀ x_ : UInt8,(⟨#[x_]⟩ : ByteArray).size = 1 from fun _ => rfl] at h_;omega)
   by_cases c18 : ((((⟨#[69]⟩ : ByteArray) ++ t150) ++ t151) ++ (strOfNums y152)).size + a1_2.size ≤ 9223372036854775807;rotate_left
   ·rw [if_neg c18] at H;exact absurd H (by simp)
   rw [if_pos c18] at H;have c18b0:=eq_true c18;have c18b1:=de_ c18
   try have c18b2 : (9223372036854775807 < ((((⟨#[69]⟩ : ByteArray) ++ t150) ++ t151) ++ (strOfNums y152)).size + a1_2.size) = False:=eq_false (Nat.not_lt.2 c18)
   try have c18b3 : (9223372036854775807 < 1 + t150.size + t151.size + (strOfNums y152).size + a1_2.size) = False:=eq_false (by have h_:=c18;simp only [ByteArray.size_append,show ∀ x_ : UInt8,(⟨#[x_]⟩ : ByteArray).size = 1 from fun _ => rfl] at h_;omega)
   simp only [Option.some.injEq,Prod.mk.injEq] at H;obtain ⟨rfl,rfl⟩:=H
   try go_wp2
   replace BK147:=A_ (kd_ BK147.out);replace HB:=A_ (pd_ HB.out);refine start_ (n:=18) (S:=fun w' => w'.cell? ⟨gb147,0,none⟩ = some (.int .i64 a1_0) ∧ w'.cell? ⟨gb147,1,none⟩ = some (.int .i64 a1_1) ∧ w'.cell? ⟨gb147,2,none⟩ = some (.string a1_2)) (ds:=[]) #[false,false,false,false,false,false,false,false,false,false,false,false,false,false,false,false,false,false] (by kernel_rfl) rfl rfl (kJ3_ BK147) (fun hHeld => ?_);refine with_tabW spec_EntryText.tab3 spec_EntryText.bits3 (fun HT_ HW_ => ?_);generalize wc.drew = w19 at BK147 HB hHeld ⊢;refine pU_ 0 (some 14) ?_
   refine pU_ 3 (some 17) ?_
   refine pU_ 7 (some 21) ?_
   refine pU_ 13 (some 27) ?_
   refine tK_ 4 (some 18) hHeld ?_
   refine tK_ 8 (some 22) hHeld ?_
   refine pU_ 9 (some 23) ?_
   refine tK_ 14 (some 28) hHeld ?_
   refine join_ (σ:=Value) 4 #[true,true,true,true,true,true,true,true,true,true,true,true,false,true,true,false,false,false] (fun s_ => [(15,.string t150),(19,.string t151),(24,s_),(25,.string (strOfNums y152)),(16,.string ((⟨#[69]⟩ : ByteArray) ++ t150)),(20,.string (((⟨#[69]⟩ : ByteArray) ++ t150) ++ t151))]) (fun s_ w' => (j6_0 w' gb147 a1_0 a1_1 a1_2) ∧ (Kd.R (Kd.int .u8) 5 w' w.heap.size (fun _ => True) s_ y152) ∧ (j6_1 w' gb147 a1_0 a1_1 a1_2) ∧ (Below w.heap.size w w')) ?_ ?_;rotate_left
   ·intro hJ1_5_10_11;refine join_ (σ:=Value) 5 #[true,true,true,true,true,true,true,true,true,true,true,false,false,true,true,false,false,false] (fun s_ => [(15,.string t150),(19,.string t151),(24,s_),(16,.string ((⟨#[69]⟩ : ByteArray) ++ t150)),(20,.string (((⟨#[69]⟩ : ByteArray) ++ t150) ++ t151))]) (fun s_ w' => (j6_0 w' gb147 a1_0 a1_1 a1_2) ∧ (Kd.R (Kd.int .u8) 5 w' w.heap.size (fun _ => True) s_ y152) ∧ (j6_1 w' gb147 a1_0 a1_1 a1_2) ∧ (Below w.heap.size w w')) ?_ ?_;rotate_left
    ·intro hJ1_5_10;refine join_ (σ:=Value) 6 #[true,true,true,true,true,false,false,true,true,true,true,true,false,true,true,false,false,false] (fun s_ => [(15,.string t150),(24,s_),(25,.string (strOfNums y152)),(16,.string ((⟨#[69]⟩ : ByteArray) ++ t150))]) (fun s_ w' => (j6_0 w' gb147 a1_0 a1_1 a1_2) ∧ (Kd.R (Kd.int .u8) 5 w' w.heap.size (fun _ => True) s_ y152) ∧ (j6_1 w' gb147 a1_0 a1_1 a1_2) ∧ (Below w.heap.size w w')) ?_ ?_;rotate_left
     ·intro hJ1_10_11;refine join_ (σ:=Unit) 6 #[true,true,true,true,true,true,true,true,true,true,false,false,false,true,true,false,false,false] (fun s_ => [(15,.string t150),(19,.string t151),(16,.string ((⟨#[69]⟩ : ByteArray) ++ t150)),(20,.string (((⟨#[69]⟩ : ByteArray) ++ t150) ++ t151))]) (fun s_ w' => (j6_0 w' gb147 a1_0 a1_1 a1_2) ∧ (j6_1 w' gb147 a1_0 a1_1 a1_2) ∧ (Below w.heap.size w w')) ?_ ?_;rotate_left
      ·intro hJ1_5;refine join_ (σ:=Value) 7 #[true,true,true,true,true,false,false,true,true,true,true,false,false,true,true,false,false,false] (fun s_ => [(15,.string t150),(24,s_),(16,.string ((⟨#[69]⟩ : ByteArray) ++ t150))]) (fun s_ w' => (j6_0 w' gb147 a1_0 a1_1 a1_2) ∧ (Kd.R (Kd.int .u8) 5 w' w.heap.size (fun _ => True) s_ y152) ∧ (j6_1 w' gb147 a1_0 a1_1 a1_2) ∧ (Below w.heap.size w w')) ?_ ?_;rotate_left
       ·intro hJ1_10;refine join_ (σ:=Value) 8 #[true,false,false,true,true,false,false,true,true,true,true,true,false,true,true,false,false,false] (fun s_ => [(24,s_),(25,.string (strOfNums y152))]) (fun s_ w' => (j6_0 w' gb147 a1_0 a1_1 a1_2) ∧ (Kd.R (Kd.int .u8) 5 w' w.heap.size (fun _ => True) s_ y152) ∧ (j6_1 w' gb147 a1_0 a1_1 a1_2) ∧ (Below w.heap.size w w')) ?_ ?_;rotate_left
        ·intro hJ10_11;refine join_ (σ:=Unit) 8 #[true,true,true,true,true,false,false,true,true,true,false,false,false,true,true,false,false,false] (fun s_ => [(15,.string t150),(16,.string ((⟨#[69]⟩ : ByteArray) ++ t150))]) (fun s_ w' => (j6_0 w' gb147 a1_0 a1_1 a1_2) ∧ (j6_1 w' gb147 a1_0 a1_1 a1_2) ∧ (Below w.heap.size w w')) ?_ ?_;rotate_left
         ·intro hJ1;refine join_ (σ:=Value) 9 #[true,false,false,true,true,false,false,true,true,true,true,false,false,true,true,false,false,false] (fun s_ => [(24,s_)]) (fun s_ w' => (j6_0 w' gb147 a1_0 a1_1 a1_2) ∧ (Kd.R (Kd.int .u8) 5 w' w.heap.size (fun _ => True) s_ y152) ∧ (j6_1 w' gb147 a1_0 a1_1 a1_2) ∧ (Below w.heap.size w w')) ?_ ?_;rotate_left
          ·intro hJ10;refine two_ (i:=1) (j:=10) (Ni:=some 15) (Nj:=some 24) #[true,true,false,true,true,false,false,true,true,true,false,false,false,true,true,false,false,false] #[true,false,false,true,true,false,false,true,true,true,true,false,false,true,true,false,false,false] rfl rfl rfl rfl (two_of HT_.out (by kernel_rfl)) (by decide) (by decide) (fun K hK => ?_) (fun K hK => ?_)
           ·skip
            refine gs_ Try.func54 #[.int .i64 a0] ?_;with_reducible refine (spec_l01Var.calls kj2 a0 t150 _ A13.out).mono ?_;rintro e w20 ⟨rfl,hb⟩;refine ⟨_,rfl,?_⟩;replace BK147:=kB_ BK147 hb;replace HB:=bS_ HB hb
            (try clear hb)
            refine hK.out _ _ (kJ3_ BK147) (fun hHeld => ?_);clear hK K;refine nX_ (some 15) ?_
            refine pU_ 2 (some 16) ?_
            exact norm_ (by (simp only [putAll,Act.put,s1_,s2_,s3_];done)) (hJ1 () _ ⟨hHeld,(kq_ BK147),(bq_ HB)⟩)
           skip
           refine Kd.R_lit_step (Kd.int .u8) _ 5 ?hg (N:=24) ?hd (xs:=([(a1_1) % 256] : List Int)) (inner:=[.int .u8 ((a1_1) % 256)]) (ok:=fun _ => True) (okp:=fun _ => True) ?hr ?hp (fun _ hk => hk) trivial (Below.refl _ _) (Nat.le_refl _) (by simp) ?_;(case hd => rfl);(case hg => rfl);(case hr => exact gx_);(case hp => exact (Reps.one (show Kd.M (Kd.int .u8) _ _ _ ((a1_1) % 256) [.int .u8 ((a1_1) % 256)] from rfl) (Reps.none _ _)));intro v153 w20 ho21 hb hg_ hnew_;clear hg_ hnew_
           (rw [← Ny152.out] at ho21)
           have HO154:=A_ (rw_ ho21 (bz_ (bq_ HB)));replace BK147:=kB_ BK147 hb;replace HB:=bS_ HB hb;clear hb ho21;refine hK.out _ _ (kJ3_ BK147) (fun hHeld => ?_);clear hK K;refine nX_ (some 24) ?_
           exact norm_ (by (simp only [putAll,Act.put,s1_,s2_,s3_];done)) (hJ10 (v153) _ ⟨hHeld,(rq_ HO154),(kq_ BK147),(bq_ HB)⟩)
          skip
          rintro v153 w22 ⟨hS_,h0_,h1_,h2_⟩;have n0_ : Aside0 (Kd.R (Kd.int .u8) 5 w22 w.heap.size (fun _ => True) v153 y152):=⟨h0_⟩;have n1_ : Aside0 (j6_1 w22 gb147 a1_0 a1_1 a1_2):=⟨h1_⟩;have n2_ : Aside0 (Below w.heap.size w w22):=⟨h2_⟩;clear BK147;clear HB;clear h0_ h1_ h2_;have HO154:=n0_;have BK147:=n1_;have HB:=n2_;have hHeld : j6_0 w22 gb147 a1_0 a1_1 a1_2:=hS_;refine norm_ (a':=?_) ?_ ?_;rotate_left
          ·simp only [putAll,Act.put,s1_,s2_,s3_];rfl
          refine two_ (i:=1) (j:=11) (Ni:=some 15) (Nj:=some 25) #[true,true,false,true,true,false,false,true,true,true,true,false,false,true,true,false,false,false] #[true,false,false,true,true,false,false,true,true,true,true,true,false,true,true,false,false,false] rfl rfl rfl rfl (two_of HT_.out (by kernel_rfl)) (by decide) (by decide) (fun K hK => ?_) (fun K hK => ?_)
          ·skip
           refine gs_ Try.func54 #[.int .i64 a0] ?_;with_reducible refine (spec_l01Var.calls kj2 a0 t150 _ A13.out).mono ?_;rintro e w23 ⟨rfl,hb⟩;refine ⟨_,rfl,?_⟩;replace HO154:=rB_ HO154 hb;replace BK147:=kB_ BK147 hb;replace HB:=bS_ HB hb
           (try clear hb)
           refine hK.out _ _ (kJ3_ BK147) (fun hHeld => ?_);clear hK K;refine nX_ (some 15) ?_
           refine pU_ 2 (some 16) ?_
           exact norm_ (by (simp only [putAll,Act.put,s1_,s2_,s3_];done)) (hJ1_10 (v153) _ ⟨hHeld,(rq_ HO154),(kq_ BK147),(bq_ HB)⟩)
          skip
          have hcv23:=own_string (P:=Try.prog) Try.underlying46 Try.underlying5 Try.underlying9 (Kd.own_of_R HO154.out);refine value_ (w1:=?_) (v:=?_) (by rfl) rfl ?_ ?_;rotate_left 2
          ·go_simp
           constructor
           ·rfl
           rfl
          clear hcv23;refine hK.out _ _ (kJ3_ BK147) (fun hHeld => ?_);clear hK K;refine nX_ (some 25) ?_
          exact norm_ (by (simp only [putAll,Act.put,s1_,s2_,s3_];done)) (hJ10_11 (v153) _ ⟨hHeld,(rq_ HO154),(kq_ BK147),(bq_ HB)⟩)
         skip
         rintro _ w21 ⟨hS_,h0_,h1_⟩;have n0_ : Aside0 (j6_1 w21 gb147 a1_0 a1_1 a1_2):=⟨h0_⟩;have n1_ : Aside0 (Below w.heap.size w w21):=⟨h1_⟩;clear BK147;clear HB;clear h0_ h1_;have BK147:=n0_;have HB:=n1_;have hHeld : j6_0 w21 gb147 a1_0 a1_1 a1_2:=hS_;refine norm_ (a':=?_) ?_ ?_;rotate_left
         ·simp only [putAll,Act.put,s1_,s2_,s3_];rfl
         refine two_ (i:=5) (j:=10) (Ni:=some 19) (Nj:=some 24) #[true,true,true,true,true,true,false,true,true,true,false,false,false,true,true,false,false,false] #[true,true,true,true,true,false,false,true,true,true,true,false,false,true,true,false,false,false] rfl rfl rfl rfl (two_of HT_.out (by kernel_rfl)) (by decide) (by decide) (fun K hK => ?_) (fun K hK => ?_)
         ·skip
          refine gs_ Try.func54 #[.int .i64 a1_0] ?_;with_reducible refine (spec_l01Var.calls kj2 a1_0 t151 _ A15.out).mono ?_;rintro e w22 ⟨rfl,hb⟩;refine ⟨_,rfl,?_⟩;replace BK147:=kB_ BK147 hb;replace HB:=bS_ HB hb
          (try clear hb)
          refine hK.out _ _ (kJ3_ BK147) (fun hHeld => ?_);clear hK K;refine nX_ (some 19) ?_
          refine pU_ 6 (some 20) ?_
          exact norm_ (by (simp only [putAll,Act.put,s1_,s2_,s3_];done)) (hJ1_5 () _ ⟨hHeld,(kq_ BK147),(bq_ HB)⟩)
         skip
         refine Kd.R_lit_step (Kd.int .u8) _ 5 ?hg (N:=24) ?hd (xs:=([(a1_1) % 256] : List Int)) (inner:=[.int .u8 ((a1_1) % 256)]) (ok:=fun _ => True) (okp:=fun _ => True) ?hr ?hp (fun _ hk => hk) trivial (Below.refl _ _) (Nat.le_refl _) (by simp) ?_;(case hd => rfl);(case hg => rfl);(case hr => exact gx_);(case hp => exact (Reps.one (show Kd.M (Kd.int .u8) _ _ _ ((a1_1) % 256) [.int .u8 ((a1_1) % 256)] from rfl) (Reps.none _ _)));intro v153 w22 ho23 hb hg_ hnew_;clear hg_ hnew_
         (rw [← Ny152.out] at ho23)
         have HO154:=A_ (rw_ ho23 (bz_ (bq_ HB)));replace BK147:=kB_ BK147 hb;replace HB:=bS_ HB hb;clear hb ho23;refine hK.out _ _ (kJ3_ BK147) (fun hHeld => ?_);clear hK K;refine nX_ (some 24) ?_
         exact norm_ (by (simp only [putAll,Act.put,s1_,s2_,s3_];done)) (hJ1_10 (v153) _ ⟨hHeld,(rq_ HO154),(kq_ BK147),(bq_ HB)⟩)
        skip
        rintro v153 w23 ⟨hS_,h0_,h1_,h2_⟩;have n0_ : Aside0 (Kd.R (Kd.int .u8) 5 w23 w.heap.size (fun _ => True) v153 y152):=⟨h0_⟩;have n1_ : Aside0 (j6_1 w23 gb147 a1_0 a1_1 a1_2):=⟨h1_⟩;have n2_ : Aside0 (Below w.heap.size w w23):=⟨h2_⟩;clear BK147;clear HB;clear h0_ h1_ h2_;have HO154:=n0_;have BK147:=n1_;have HB:=n2_;have hHeld : j6_0 w23 gb147 a1_0 a1_1 a1_2:=hS_;refine norm_ (a':=?_) ?_ ?_;rotate_left
        ·simp only [putAll,Act.put,s1_,s2_,s3_];rfl
        refine oN_ 1 (some 15) (fun K hK => ?_);refine gs_ Try.func54 #[.int .i64 a0] ?_;with_reducible refine (spec_l01Var.calls kj2 a0 t150 _ A13.out).mono ?_;rintro e w24 ⟨rfl,hb⟩;refine ⟨_,rfl,?_⟩;replace HO154:=rB_ HO154 hb;replace BK147:=kB_ BK147 hb;replace HB:=bS_ HB hb
        (try clear hb)
        refine hK.out _ _ (kJ3_ BK147) (fun hHeld => ?_);clear hK K;refine nX_ (some 15) ?_
        refine pU_ 2 (some 16) ?_
        exact norm_ (by (simp only [putAll,Act.put,s1_,s2_,s3_];done)) (hJ1_10_11 (v153) _ ⟨hHeld,(rq_ HO154),(kq_ BK147),(bq_ HB)⟩)
       skip
       rintro v153 w23 ⟨hS_,h0_,h1_,h2_⟩;have n0_ : Aside0 (Kd.R (Kd.int .u8) 5 w23 w.heap.size (fun _ => True) v153 y152):=⟨h0_⟩;have n1_ : Aside0 (j6_1 w23 gb147 a1_0 a1_1 a1_2):=⟨h1_⟩;have n2_ : Aside0 (Below w.heap.size w w23):=⟨h2_⟩;clear BK147;clear HB;clear h0_ h1_ h2_;have HO154:=n0_;have BK147:=n1_;have HB:=n2_;have hHeld : j6_0 w23 gb147 a1_0 a1_1 a1_2:=hS_;refine norm_ (a':=?_) ?_ ?_;rotate_left
       ·simp only [putAll,Act.put,s1_,s2_,s3_];rfl
       refine two_ (i:=5) (j:=11) (Ni:=some 19) (Nj:=some 25) #[true,true,true,true,true,true,false,true,true,true,true,false,false,true,true,false,false,false] #[true,true,true,true,true,false,false,true,true,true,true,true,false,true,true,false,false,false] rfl rfl rfl rfl (two_of HT_.out (by kernel_rfl)) (by decide) (by decide) (fun K hK => ?_) (fun K hK => ?_)
       ·skip
        refine gs_ Try.func54 #[.int .i64 a1_0] ?_;with_reducible refine (spec_l01Var.calls kj2 a1_0 t151 _ A15.out).mono ?_;rintro e w24 ⟨rfl,hb⟩;refine ⟨_,rfl,?_⟩;replace HO154:=rB_ HO154 hb;replace BK147:=kB_ BK147 hb;replace HB:=bS_ HB hb
        (try clear hb)
        refine hK.out _ _ (kJ3_ BK147) (fun hHeld => ?_);clear hK K;refine nX_ (some 19) ?_
        refine pU_ 6 (some 20) ?_
        exact norm_ (by (simp only [putAll,Act.put,s1_,s2_,s3_];done)) (hJ1_5_10 (v153) _ ⟨hHeld,(rq_ HO154),(kq_ BK147),(bq_ HB)⟩)
       skip
       have hcv24:=own_string (P:=Try.prog) Try.underlying46 Try.underlying5 Try.underlying9 (Kd.own_of_R HO154.out);refine value_ (w1:=?_) (v:=?_) (by rfl) rfl ?_ ?_;rotate_left 2
       ·go_simp
        constructor
        ·rfl
        rfl
       clear hcv24;refine hK.out _ _ (kJ3_ BK147) (fun hHeld => ?_);clear hK K;refine nX_ (some 25) ?_
       exact norm_ (by (simp only [putAll,Act.put,s1_,s2_,s3_];done)) (hJ1_10_11 (v153) _ ⟨hHeld,(rq_ HO154),(kq_ BK147),(bq_ HB)⟩)
      skip
      rintro _ w22 ⟨hS_,h0_,h1_⟩;have n0_ : Aside0 (j6_1 w22 gb147 a1_0 a1_1 a1_2):=⟨h0_⟩;have n1_ : Aside0 (Below w.heap.size w w22):=⟨h1_⟩;clear BK147;clear HB;clear h0_ h1_;have BK147:=n0_;have HB:=n1_;have hHeld : j6_0 w22 gb147 a1_0 a1_1 a1_2:=hS_;refine norm_ (a':=?_) ?_ ?_;rotate_left
      ·simp only [putAll,Act.put,s1_,s2_,s3_];rfl
      refine oN_ 10 (some 24) (fun K hK => ?_);refine Kd.R_lit_step (Kd.int .u8) _ 5 ?hg (N:=24) ?hd (xs:=([(a1_1) % 256] : List Int)) (inner:=[.int .u8 ((a1_1) % 256)]) (ok:=fun _ => True) (okp:=fun _ => True) ?hr ?hp (fun _ hk => hk) trivial (Below.refl _ _) (Nat.le_refl _) (by simp) ?_;(case hd => rfl);(case hg => rfl);(case hr => exact gx_);(case hp => exact (Reps.one (show Kd.M (Kd.int .u8) _ _ _ ((a1_1) % 256) [.int .u8 ((a1_1) % 256)] from rfl) (Reps.none _ _)));intro v153 w23 ho24 hb hg_ hnew_;clear hg_ hnew_
      (rw [← Ny152.out] at ho24)
      have HO154:=A_ (rw_ ho24 (bz_ (bq_ HB)));replace BK147:=kB_ BK147 hb;replace HB:=bS_ HB hb;clear hb ho24;refine hK.out _ _ (kJ3_ BK147) (fun hHeld => ?_);clear hK K;refine nX_ (some 24) ?_
      exact norm_ (by (simp only [putAll,Act.put,s1_,s2_,s3_];done)) (hJ1_5_10 (v153) _ ⟨hHeld,(rq_ HO154),(kq_ BK147),(bq_ HB)⟩)
     skip
     rintro v153 w24 ⟨hS_,h0_,h1_,h2_⟩;have n0_ : Aside0 (Kd.R (Kd.int .u8) 5 w24 w.heap.size (fun _ => True) v153 y152):=⟨h0_⟩;have n1_ : Aside0 (j6_1 w24 gb147 a1_0 a1_1 a1_2):=⟨h1_⟩;have n2_ : Aside0 (Below w.heap.size w w24):=⟨h2_⟩;clear BK147;clear HB;clear h0_ h1_ h2_;have HO154:=n0_;have BK147:=n1_;have HB:=n2_;have hHeld : j6_0 w24 gb147 a1_0 a1_1 a1_2:=hS_;refine norm_ (a':=?_) ?_ ?_;rotate_left
     ·simp only [putAll,Act.put,s1_,s2_,s3_];rfl
     refine oN_ 5 (some 19) (fun K hK => ?_);refine gs_ Try.func54 #[.int .i64 a1_0] ?_;with_reducible refine (spec_l01Var.calls kj2 a1_0 t151 _ A15.out).mono ?_;rintro e w25 ⟨rfl,hb⟩;refine ⟨_,rfl,?_⟩;replace HO154:=rB_ HO154 hb;replace BK147:=kB_ BK147 hb;replace HB:=bS_ HB hb
     (try clear hb)
     refine hK.out _ _ (kJ3_ BK147) (fun hHeld => ?_);clear hK K;refine nX_ (some 19) ?_
     refine pU_ 6 (some 20) ?_
     exact norm_ (by (simp only [putAll,Act.put,s1_,s2_,s3_];done)) (hJ1_5_10_11 (v153) _ ⟨hHeld,(rq_ HO154),(kq_ BK147),(bq_ HB)⟩)
    skip
    rintro v153 w24 ⟨hS_,h0_,h1_,h2_⟩;have n0_ : Aside0 (Kd.R (Kd.int .u8) 5 w24 w.heap.size (fun _ => True) v153 y152):=⟨h0_⟩;have n1_ : Aside0 (j6_1 w24 gb147 a1_0 a1_1 a1_2):=⟨h1_⟩;have n2_ : Aside0 (Below w.heap.size w w24):=⟨h2_⟩;clear BK147;clear HB;clear h0_ h1_ h2_;have HO154:=n0_;have BK147:=n1_;have HB:=n2_;have hHeld : j6_0 w24 gb147 a1_0 a1_1 a1_2:=hS_;refine norm_ (a':=?_) ?_ ?_;rotate_left
    ·simp only [putAll,Act.put,s1_,s2_,s3_];rfl
    refine oN_ 11 (some 25) (fun K hK => ?_);have hcv25:=own_string (P:=Try.prog) Try.underlying46 Try.underlying5 Try.underlying9 (Kd.own_of_R HO154.out);refine value_ (w1:=?_) (v:=?_) (by rfl) rfl ?_ ?_;rotate_left 2
    ·go_simp
     constructor
     ·rfl
     rfl
    clear hcv25;refine hK.out _ _ (kJ3_ BK147) (fun hHeld => ?_);clear hK K;refine nX_ (some 25) ?_
    exact norm_ (by (simp only [putAll,Act.put,s1_,s2_,s3_];done)) (hJ1_5_10_11 (v153) _ ⟨hHeld,(rq_ HO154),(kq_ BK147),(bq_ HB)⟩)
   rintro v153 w25 ⟨hS_,h0_,h1_,h2_⟩;have n0_ : Aside0 (Kd.R (Kd.int .u8) 5 w25 w.heap.size (fun _ => True) v153 y152):=⟨h0_⟩;have n1_ : Aside0 (j6_1 w25 gb147 a1_0 a1_1 a1_2):=⟨h1_⟩;have n2_ : Aside0 (Below w.heap.size w w25):=⟨h2_⟩;clear BK147;clear HB;clear h0_ h1_ h2_;have HB:=n2_;have hHeld : j6_0 w25 gb147 a1_0 a1_1 a1_2:=hS_;refine norm_ (a':=?_) ?_ ?_;rotate_left
   ·simp only [putAll,Act.put,s1_,s2_,s3_];rfl
   refine pU_ 12 (some 26) ?_
   refine pU_ 15 (some 29) ?_
   refine pU_ 16 (some 4) ?_
   refine pU_ 17 (some 5) ?_
   refine done_ (done_of HT_.out (by kernel_rfl)) ?_
   try go_wp2
   go_ret2;exact ⟨ex_,bq_ HB⟩
end Go.Proofs.Ytbcgnncbiblibaa.PFnMessages
