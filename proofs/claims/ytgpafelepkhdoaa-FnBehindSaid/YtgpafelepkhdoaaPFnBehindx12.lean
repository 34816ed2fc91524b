/- The contracts of the Go functions that this law reaches: what each call returns, by a plain Lean function of its arguments. No conditions but those each contract names. By the kit's print.py, run by this session's wip/gen/pp.py with facts and hand proofs beside it: not to the letter what print.sh prints. -/
import Derived.Test.YtgpafelepkhdoaaPFnBehindx0
import Derived.Test.YtgpafelepkhdoaaPFnBehindx7
import Derived.Test.YtgpafelepkhdoaaPFnBehindx11
namespace Go.Proofs.Ytgpafelepkhdoaa.PFnBehind
open Go.RowKit Go.Proofs.YtgpafelepkhdoaaW.PrintWords Go.Proofs.YtgpafelepkhdoaaW.PrintLast Go.Proofs.YtgpafelepkhdoaaW.PrintMore
attribute [local go_sem] max2_int min2_int max_two min_two max_three min_three max_four min_four
set_option linter.unusedVariables false
set_option linter.unusedSimpArgs false
def spec_CommandText.f (k : Nat) (a0_0 : Int) (a0_1 : Int) (a0_2 : Int) (a0_3 : ByteArray) (a0_4 : ByteArray) (a0_5 : ByteArray) : Option (ByteArray × Bool) := (spec_CommandOk.f k a0_0 a0_1 a0_2 a0_3 a0_4 a0_5).bind fun t259 => (if t259 = true then ((some (([(a0_0) % 256] : List Int) : List Int)).bind fun y260 => ((spec_l01Var.f k a0_1).bind fun t263 => (if (strOfNums y260).size + t263.size ≤ 9223372036854775807 then ((spec_l01Var.f k a0_2).bind fun t264 => (if ((strOfNums y260) ++ t263).size + t264.size ≤ 9223372036854775807 then ((spec_l05Short.f k a0_3).bind fun t265 => (if (((strOfNums y260) ++ t263) ++ t264).size + t265.size ≤ 9223372036854775807 then ((spec_l05Short.f k a0_4).bind fun t266 => (if ((((strOfNums y260) ++ t263) ++ t264) ++ t265).size + t266.size ≤ 9223372036854775807 then ((spec_l05Short.f k a0_5).bind fun t267 => (if (((((strOfNums y260) ++ t263) ++ t264) ++ t265) ++ t266).size + t267.size ≤ 9223372036854775807 then (some ((((((strOfNums y260) ++ t263) ++ t264) ++ t265) ++ t266) ++ t267, true)) else (none))) else (none))) else (none))) else (none))) else (none)))) else (some ((⟨#[]⟩ : ByteArray), false)))
theorem spec_CommandText.mono : ∀ a0 a1 a2 a3 a4 a5 k, LeO (spec_CommandText.f k a0 a1 a2 a3 a4 a5) (spec_CommandText.f (k + 1) a0 a1 a2 a3 a4 a5) := by
 intro a0 a1 a2 a3 a4 a5 k
 unfold spec_CommandText.f
 repeat' first
   | (with_reducible exact spec_CommandOk.mono _ _ _ _ _ _ _)
   | (with_reducible exact spec_l01Var.mono _ _)
   | (with_reducible exact spec_l05Short.mono _ _)
   | (with_reducible exact LeO.refl _)
   | (with_reducible exact LeO.none _)
   | (with_reducible refine LeO.ite ?_ ?_)
   | (with_reducible refine LeO.bind ?_ (fun _ => ?_))
def spec_CommandText.T3 : Bool × List (List Nat × List Nat) := (true, [([], []), ([0], [0]), ([1], [1]), ([2], [2]), ([3], [3]), ([], []), ([5], [5]), ([6], [6]), ([4, 7], [4, 7]), ([], []), ([9], [9]), ([10, 7], [10]), ([8, 11], [8, 11]), ([], []), ([13], [13]), ([14, 11], [14]), ([12, 15], [12, 15]), ([], []), ([17], [17]), ([18, 15], [18]), ([16, 19], [16, 19]), ([], []), ([21], [21]), ([22, 19], [22]), ([20, 23], [20, 23]), ([24, 23, 0, 1, 2, 3, 4, 5, 6, 7, 8, 9, 10, 11, 12, 13, 14, 15, 16, 17, 18, 19, 20, 21, 22, 23, 24], [24]), ([25, 0, 1, 2, 3, 4, 5, 6, 7, 8, 9, 10, 11, 12, 13, 14, 15, 16, 17, 18, 19, 20, 21, 22, 23, 24, 25], [])])
def spec_CommandText.B3 : List Nat := [0, 1, 3, 7, 15, 0, 32, 96, 255, 0, 512, 1760, 4095, 0, 8192, 28384, 65535, 0, 131072, 454368, 1048575, 0, 2097152, 7270112, 16777215, 33554431, 67108863]
theorem spec_CommandText.tab3 : rtab .any (opsOf Try.f87 3) = spec_CommandText.T3 := by kernel_rfl
theorem spec_CommandText.bits3 : waitsOk spec_CommandText.T3.2 spec_CommandText.B3 = true := by kernel_rfl
set_option maxHeartbeats 8000000 in
set_option maxRecDepth 100000 in
theorem spec_CommandText.calls (k : Nat) (a0_0 : Int) (a0_1 : Int) (a0_2 : Int) (a0_3 : ByteArray) (a0_4 : ByteArray) (a0_5 : ByteArray) (r1 : ByteArray) (r2 : Bool) (w : World) (h : spec_CommandText.f k a0_0 a0_1 a0_2 a0_3 a0_4 a0_5 = some (r1, r2)) :
  Calls Try.prog 87 #[.agg #[.int .i64 a0_0,.int .i64 a0_1,.int .i64 a0_2,.string a0_3,.string a0_4,.string a0_5]] w fun e w' => e = .returned (.tuple #[.string r1,.bool r2]) ∧ Below w.heap.size w w':=by
 have hu31:=Try.underlying31;have HB:=A_ (Below.refl w.heap.size w);have H : ((spec_CommandOk.f k a0_0 a0_1 a0_2 a0_3 a0_4 a0_5).bind fun t259 => (if t259 = true then ((some (([(a0_0) % 256] : List Int) : List Int)).bind fun y260 => ((spec_l01Var.f k a0_1).bind fun t263 => (if (strOfNums y260).size + t263.size ≤ 9223372036854775807 then ((spec_l01Var.f k a0_2).bind fun t264 => (if ((strOfNums y260) ++ t263).size + t264.size ≤ 9223372036854775807 then ((spec_l05Short.f k a0_3).bind fun t265 => (if (((strOfNums y260) ++ t263) ++ t264).size + t265.size ≤ 9223372036854775807 then ((spec_l05Short.f k a0_4).bind fun t266 => (if ((((strOfNums y260) ++ t263) ++ t264) ++ t265).size + t266.size ≤ 9223372036854775807 then ((spec_l05Short.f k a0_5).bind fun t267 => (if (((((strOfNums y260) ++ t263) ++ t264) ++ t265) ++ t266).size + t267.size ≤ 9223372036854775807 then (some ((((((strOfNums y260) ++ t263) ++ t264) ++ t265) ++ t266) ++ t267,true)) else (none))) else (none))) else (none))) else (none))) else (none)))) else (some ((⟨#[]⟩ : ByteArray),false)))) = some (r1,r2):=h;clear h;replace H:=ob_.mp H;obtain ⟨t259,A20,H⟩:=H;replace H : (if t259 = true then ((some (([(a0_0) % 256] : List Int) : List Int)).bind fun y260 => ((spec_l01Var.f k a0_1).bind fun t263 => (if (strOfNums y260).size + t263.size ≤ 9223372036854775807 then ((spec_l01Var.f k a0_2).bind fun t264 => (if ((strOfNums y260) ++ t263).size + t264.size ≤ 9223372036854775807 then ((spec_l05Short.f k a0_3).bind fun t265 => (if (((strOfNums y260) ++ t263) ++ t264).size + t265.size ≤ 9223372036854775807 then ((spec_l05Short.f k a0_4).bind fun t266 => (if ((((strOfNums y260) ++ t263) ++ t264) ++ t265).size + t266.size ≤ 9223372036854775807 then ((spec_l05Short.f k a0_5).bind fun t267 => (if (((((strOfNums y260) ++ t263) ++ t264) ++ t265) ++ t266).size + t267.size ≤ 9223372036854775807 then (some ((((((strOfNums y260) ++ t263) ++ t264) ++ t265) ++ t266) ++ t267,true)) else (none))) else (none))) else (none))) else (none))) else (none)))) else (some ((⟨#[]⟩ : ByteArray),false))) = some (r1,r2):=H;have A2:=A_ A20;clear A20
 by_cases c3 : t259 = true
 ·subst c3
  have H1 : ((some (([(a0_0) % 256] : List Int) : List Int)).bind fun y260 => ((spec_l01Var.f k a0_1).bind fun t263 => (if (strOfNums y260).size + t263.size ≤ 9223372036854775807 then ((spec_l01Var.f k a0_2).bind fun t264 => (if ((strOfNums y260) ++ t263).size + t264.size ≤ 9223372036854775807 then ((spec_l05Short.f k a0_3).bind fun t265 => (if (((strOfNums y260) ++ t263) ++ t264).size + t265.size ≤ 9223372036854775807 then ((spec_l05Short.f k a0_4).bind fun t266 => (if ((((strOfNums y260) ++ t263) ++ t264) ++ t265).size + t266.size ≤ 9223372036854775807 then ((spec_l05Short.f k a0_5).bind fun t267 => (if (((((strOfNums y260) ++ t263) ++ t264) ++ t265) ++ t266).size + t267.size ≤ 9223372036854775807 then (some ((((((strOfNums y260) ++ t263) ++ t264) ++ t265) ++ t266) ++ t267,true)) else (none))) else (none))) else (none))) else (none))) else (none)))) = some (r1,r2):=by rw [if_pos rfl] at H;exact H
  clear H;have H:=H1;clear H1;obtain ⟨y260,hy260⟩ : ∃ y_ : List Int,y_ = (([(a0_0) % 256] : List Int)):=⟨_,rfl⟩
  replace H : ((spec_l01Var.f k a0_1).bind fun t263 => (if (strOfNums y260).size + t263.size ≤ 9223372036854775807 then ((spec_l01Var.f k a0_2).bind fun t264 => (if ((strOfNums y260) ++ t263).size + t264.size ≤ 9223372036854775807 then ((spec_l05Short.f k a0_3).bind fun t265 => (if (((strOfNums y260) ++ t263) ++ t264).size + t265.size ≤ 9223372036854775807 then ((spec_l05Short.f k a0_4).bind fun t266 => (if ((((strOfNums y260) ++ t263) ++ t264) ++ t265).size + t266.size ≤ 9223372036854775807 then ((spec_l05Short.f k a0_5).bind fun t267 => (if (((((strOfNums y260) ++ t263) ++ t264) ++ t265) ++ t266).size + t267.size ≤ 9223372036854775807 then (some ((((((strOfNums y260) ++ t263) ++ t264) ++ t265) ++ t266) ++ t267,true)) else (none))) else (none))) else (none))) else (none))) else (none))) = some (r1,r2):=by first|(rw [hy260];with_reducible exact H)|(have H2_:=(Option.bind_some _ _).symm.trans H;rw [hy260];with_reducible exact H2_)|(have H2_:=(Option.bind_some _ _).symm.trans H;with_reducible exact H2_)|with_reducible exact H|(rw [hy260];exact H)|exact H
  have Ny260:=A_ hy260;clear hy260;replace H:=ob_.mp H;obtain ⟨t263,A40,H⟩:=H;replace H : (if (strOfNums y260).size + t263.size ≤ 9223372036854775807 then ((spec_l01Var.f k a0_2).bind fun t264 => (if ((strOfNums y260) ++ t263).size + t264.size ≤ 9223372036854775807 then ((spec_l05Short.f k a0_3).bind fun t265 => (if (((strOfNums y260) ++ t263) ++ t264).size + t265.size ≤ 9223372036854775807 then ((spec_l05Short.f k a0_4).bind fun t266 => (if ((((strOfNums y260) ++ t263) ++ t264) ++ t265).size + t266.size ≤ 9223372036854775807 then ((spec_l05Short.f k a0_5).bind fun t267 => (if (((((strOfNums y260) ++ t263) ++ t264) ++ t265) ++ t266).size + t267.size ≤ 9223372036854775807 then (some ((((((strOfNums y260) ++ t263) ++ t264) ++ t265) ++ t266) ++ t267,true)) else (none))) else (none))) else (none))) else (none))) else (none)) = some (r1,r2):=H;have A4:=A_ A40;clear A40
  by_cases c5 : (strOfNums y260).size + t263.size ≤ 9223372036854775807
  ·rw [if_pos c5] at H;have c5b0:=eq_true c5;have c5b1 : decide ((strOfNums y260).size + t263.size ≤ 9223372036854775807) = true:=de_ c5
   try have c5b2 : (9223372036854775807 < (strOfNums y260).size + t263.size) = False:=eq_false (Nat.not_lt.2 c5)
   replace H:=ob_.mp H;obtain ⟨t264,A60,H⟩:=H;replace H : (if ((strOfNums y260) ++ t263).size + t264.size ≤ 9223372036854775807 then ((spec_l05Short.f k a0_3).bind fun t265 => (if (((strOfNums y260) ++ t263) ++ t264).size + t265.size ≤ 9223372036854775807 then ((spec_l05Short.f k a0_4).bind fun t266 => (if ((((strOfNums y260) ++ t263) ++ t264) ++ t265).size + t266.size ≤ 9223372036854775807 then ((spec_l05Short.f k a0_5).bind fun t267 => (if (((((strOfNums y260) ++ t263) ++ t264) ++ t265) ++ t266).size + t267.size ≤ 9223372036854775807 then (some ((((((strOfNums y260) ++ t263) ++ t264) ++ t265) ++ t266) ++ t267,true)) else (none))) else (none))) else (none))) else (none)) = some (r1,r2):=H;have A6:=A_ A60;clear A60
   by_cases c7 : ((strOfNums y260) ++ t263).size + t264.size ≤ 9223372036854775807
   ·rw [if_pos c7] at H;have c7b0:=eq_true c7;have c7b1 : decide (((strOfNums y260) ++ t263).size + t264.size ≤ 9223372036854775807) = true:=de_ c7
    try have c7b2 : (9223372036854775807 < ((strOfNums y260) ++ t263).size + t264.size) = False:=eq_false (Nat.not_lt.2 c7)
    try have c7b3 : (9223372036854775807 < (strOfNums y260).size + t263.size + t264.size) = False:=eq_false (by have h_:=c7;simp only [ByteArray.size_append,show ∀ x_ : UInt8,(⟨#[x_]⟩ : ByteArray).size = 1 from fun _ => rfl] at h_;omega)
    replace H:=ob_.mp H;obtain ⟨t265,A80,H⟩:=H;replace H : (if (((strOfNums y260) ++ t263) ++ t264).size + t265.size ≤ 9223372036854775807 then ((spec_l05Short.f k a0_4).bind fun t266 => (if ((((strOfNums y260) ++ t263) ++ t264) ++ t265).size + t266.size ≤ 9223372036854775807 then ((spec_l05Short.f k a0_5).bind fun t267 => (if (((((strOfNums y260) ++ t263) ++ t264) ++ t265) ++ t266).size + t267.size ≤ 9223372036854775807 then (some ((((((strOfNums y260) ++ t263) ++ t264) ++ t265) ++ t266) ++ t267,true)) else (none))) else (none))) else (none)) = some (r1,r2):=H;have A8:=A_ A80;clear A80
    by_cases c9 : (((strOfNums y260) ++ t263) ++ t264).size + t265.size ≤ 9223372036854775807
    ·rw [if_pos c9] at H;have c9b0:=eq_true c9;have c9b1 : decide ((((strOfNums y260) ++ t263) ++ t264).size + t265.size ≤ 9223372036854775807) = true:=de_ c9
     try have c9b2 : (9223372036854775807 < (((strOfNums y260) ++ t263) ++ t264).size + t265.size) = False:=eq_false (Nat.not_lt.2 c9)
     try have c9b3 : (9223372036854775807 < (strOfNums y260).size + t263.size + t264.size + t265.size) = False:=eq_false (by have h_:=c9;simp only [ByteArray.size_append,show ∀ x_ : UInt8,(⟨#[x_]⟩ : ByteArray).size = 1 from fun _ => rfl] at h_;omega)
     replace H:=ob_.mp H;obtain ⟨t266,A100,H⟩:=H;replace H : (if ((((strOfNums y260) ++ t263) ++ t264) ++ t265).size + t266.size ≤ 9223372036854775807 then ((spec_l05Short.f k a0_5).bind fun t267 => (if (((((strOfNums y260) ++ t263) ++ t264) ++ t265) ++ t266).size + t267.size ≤ 9223372036854775807 then (some ((((((strOfNums y260) ++ t263) ++ t264) ++ t265) ++ t266) ++ t267,true)) else (none))) else (none)) = some (r1,r2):=H;have A10:=A_ A100;clear A100
     by_cases c11 : ((((strOfNums y260) ++ t263) ++ t264) ++ t265).size + t266.size ≤ 9223372036854775807
     ·rw [if_pos c11] at H;have c11b0:=eq_true c11;have c11b1 : decide (((((strOfNums y260) ++ t263) ++ t264) ++ t265).size + t266.size ≤ 9223372036854775807) = true:=de_ c11
      try have c11b2 : (9223372036854775807 < ((((strOfNums y260) ++ t263) ++ t264) ++ t265).size + t266.size) = False:=eq_false (Nat.not_lt.2 c11)
      try have c11b3 : (9223372036854775807 < (strOfNums y260).size + t263.size + t264.size + t265.size + t266.size) = False:=eq_false (by have h_:=c11;simp only [ByteArray.size_append,show ∀ x_ : UInt8,(⟨#[x_]⟩ : ByteArray).size = 1 from fun _ => rfl] at h_;omega)
      replace H:=ob_.mp H;obtain ⟨t267,A120,H⟩:=H;replace H : (if (((((strOfNums y260) ++ t263) ++ t264) ++ t265) ++ t266).size + t267.size ≤ 9223372036854775807 then (some ((((((strOfNums y260) ++ t263) ++ t264) ++ t265) ++ t266) ++ t267,true)) else (none)) = some (r1,r2):=H;have A12:=A_ A120;clear A120
      by_cases c13 : (((((strOfNums y260) ++ t263) ++ t264) ++ t265) ++ t266).size + t267.size ≤ 9223372036854775807
      ·rw [if_pos c13] at H;have c13b0:=eq_true c13;have c13b1 : decide ((((((strOfNums y260) ++ t263) ++ t264) ++ t265) ++ t266).size + t267.size ≤ 9223372036854775807) = true:=de_ c13
       try have c13b2 : (9223372036854775807 < (((((strOfNums y260) ++ t263) ++ t264) ++ t265) ++ t266).size + t267.size) = False:=eq_false (Nat.not_lt.2 c13)
       try have c13b3 : (9223372036854775807 < (strOfNums y260).size + t263.size + t264.size + t265.size + t266.size + t267.size) = False:=eq_false (by have h_:=c13;simp only [ByteArray.size_append,show ∀ x_ : UInt8,(⟨#[x_]⟩ : ByteArray).size = 1 from fun _ => rfl] at h_;omega)
       simp only [Option.some.injEq,Prod.mk.injEq] at H;obtain ⟨rfl,rfl⟩:=H;go_enter Try.func87,Try.ntmps87
       try go_wp2_with (first|((with_reducible refine gate_dst (N:=1) rfl ?_);refine box_event ?hg (N:=1) ?hd (cs:=#[.int .i64 a0_0,.int .i64 a0_1,.int .i64 a0_2,.string a0_3,.string a0_4,.string a0_5]) (t:=31) ?hr ?_;(case hd => rfl);(case hg => rfl);(case hr => exact gx_);intro gb258 hg w14 hbox hb;have BK258:=A_ (hbox);have GW258:=A_ ((by rw [hg];exact (bz_ (bq_ HB)) : w.heap.size ≤ gb258));have GE258:=A_ ((by rw [hg];exact (bz_ (bq_ HB)) : w.heap.size ≤ gb258));replace HB:=A_ (bs_ (bq_ HB) hb);clear hb hbox hg;have hcz15_0:=kC_ BK258 0;have hcz15_1:=kC_ BK258 1;have hcz15_2:=kC_ BK258 2;have hcz15_3:=kC_ BK258 3;have hcz15_4:=kC_ BK258 4;have hcz15_5:=kC_ BK258 5;have hfz15_0:=kf_ BK258.out 0;have hfz15_1:=kf_ BK258.out 1;have hfz15_2:=kf_ BK258.out 2;have hfz15_3:=kf_ BK258.out 3;have hfz15_4:=kf_ BK258.out 4;have hfz15_5:=kf_ BK258.out 5)|((with_reducible refine gate_callee (f:=28) rfl ?_);refine goesL_ (some 5) rfl rfl Try.func28 (by kernel_rfl) rfl #[.agg #[.int .i64 a0_0,.int .i64 a0_1,.int .i64 a0_2,.string a0_3,.string a0_4,.string a0_5]] rfl aq_ ?_;(with_reducible refine (spec_CommandOk.calls k a0_0 a0_1 a0_2 a0_3 a0_4 a0_5 true _ A2.out).mono ?_);rintro e w16 ⟨rfl,hb⟩;refine ⟨_,rfl,?_⟩;replace BK258:=A_ (kb_ (kq_ BK258) hb);replace HB:=A_ (bs_ (bq_ HB) hb);(try clear hb);(try clear hb2);(try clear hk);(try clear hi)))
       replace BK258:=A_ (kd_ BK258.out);replace HB:=A_ (pd_ HB.out);refine start_ (n:=27) (S:=fun w' => w'.cell? ⟨gb258,0,none⟩ = some (.int .i64 a0_0) ∧ w'.cell? ⟨gb258,1,none⟩ = some (.int .i64 a0_1) ∧ w'.cell? ⟨gb258,2,none⟩ = some (.int .i64 a0_2) ∧ w'.cell? ⟨gb258,3,none⟩ = some (.string a0_3) ∧ w'.cell? ⟨gb258,4,none⟩ = some (.string a0_4) ∧ w'.cell? ⟨gb258,5,none⟩ = some (.string a0_5)) (ds:=[]) #[false,false,false,false,false,false,false,false,false,false,false,false,false,false,false,false,false,false,false,false,false,false,false,false,false,false,false] (by kernel_rfl) rfl rfl ⟨kC_ BK258 0,kC_ BK258 1,kC_ BK258 2,kC_ BK258 3,kC_ BK258 4,kC_ BK258 5⟩ (fun hHeld => ?_);refine with_tabW spec_CommandText.tab3 spec_CommandText.bits3 (fun HT_ HW_ => ?_);generalize w16.drew = w17 at BK258 HB hHeld ⊢;refine pure_ (i:=0) (N:=some 7) (v:=?_) (a':=?_) #[true,false,false,false,false,false,false,false,false,false,false,false,false,false,false,false,false,false,false,false,false,false,false,false,false,false,false] rfl rfl (any_of HT_.out (by kernel_rfl)) (fun _ _ _ h => h) (Or.inl ⟨by rfl,?_⟩) ?_ ?_;rotate_left
       ·intro w';go_simp;with_reducible rfl
       rotate_left
       ·exact ux_
       refine pure_ (i:=5) (N:=some 12) (v:=?_) (a':=?_) #[true,false,false,false,false,true,false,false,false,false,false,false,false,false,false,false,false,false,false,false,false,false,false,false,false,false,false] rfl rfl (any_of HT_.out (by kernel_rfl)) (fun _ _ _ h => h) (Or.inl ⟨by rfl,?_⟩) ?_ ?_;rotate_left
       ·intro w';go_simp;with_reducible rfl
       rotate_left
       ·exact ux_
       refine pure_ (i:=9) (N:=some 16) (v:=?_) (a':=?_) #[true,false,false,false,false,true,false,false,false,true,false,false,false,false,false,false,false,false,false,false,false,false,false,false,false,false,false] rfl rfl (any_of HT_.out (by kernel_rfl)) (fun _ _ _ h => h) (Or.inl ⟨by rfl,?_⟩) ?_ ?_;rotate_left
       ·intro w';go_simp;with_reducible rfl
       rotate_left
       ·exact ux_
       refine pure_ (i:=13) (N:=some 20) (v:=?_) (a':=?_) #[true,false,false,false,false,true,false,false,false,true,false,false,false,true,false,false,false,false,false,false,false,false,false,false,false,false,false] rfl rfl (any_of HT_.out (by kernel_rfl)) (fun _ _ _ h => h) (Or.inl ⟨by rfl,?_⟩) ?_ ?_;rotate_left
       ·intro w';go_simp;with_reducible rfl
       rotate_left
       ·exact ux_
       refine pure_ (i:=17) (N:=some 24) (v:=?_) (a':=?_) #[true,false,false,false,false,true,false,false,false,true,false,false,false,true,false,false,false,true,false,false,false,false,false,false,false,false,false] rfl rfl (any_of HT_.out (by kernel_rfl)) (fun _ _ _ h => h) (Or.inl ⟨by rfl,?_⟩) ?_ ?_;rotate_left
       ·intro w';go_simp;with_reducible rfl
       rotate_left
       ·exact ux_
       refine pure_ (i:=21) (N:=some 28) (v:=?_) (a':=?_) #[true,false,false,false,false,true,false,false,false,true,false,false,false,true,false,false,false,true,false,false,false,true,false,false,false,false,false] rfl rfl (any_of HT_.out (by kernel_rfl)) (fun _ _ _ h => h) (Or.inl ⟨by rfl,?_⟩) ?_ ?_;rotate_left
       ·intro w';go_simp;with_reducible rfl
       rotate_left
       ·exact ux_
       refine take_ (i:=1) (N:=some 8) (v:=?_) (a':=?_) #[true,true,false,false,false,true,false,false,false,true,false,false,false,true,false,false,false,true,false,false,false,true,false,false,false,false,false] rfl rfl (take_ofW HT_.out HW_.out (by kernel_rfl)) (fun _ _ _ h => h) (Or.inl ⟨by rfl,?_⟩) hHeld ?_ ?_;rotate_left
       ·rintro w' ⟨s0,s1,s2,s3,s4,s5⟩;go_simp;with_reducible rfl
       rotate_left
       ·exact ux_
       refine pure_ (i:=2) (N:=some 9) (v:=?_) (a':=?_) #[true,true,true,false,false,true,false,false,false,true,false,false,false,true,false,false,false,true,false,false,false,true,false,false,false,false,false] rfl rfl (any_of HT_.out (by kernel_rfl)) (fun _ _ _ h => h) (Or.inl ⟨by rfl,?_⟩) ?_ ?_;rotate_left
       ·intro w';go_simp;with_reducible rfl
       rotate_left
       ·exact ux_
       refine take_ (i:=6) (N:=some 13) (v:=?_) (a':=?_) #[true,true,true,false,false,true,true,false,false,true,false,false,false,true,false,false,false,true,false,false,false,true,false,false,false,false,false] rfl rfl (take_ofW HT_.out HW_.out (by kernel_rfl)) (fun _ _ _ h => h) (Or.inl ⟨by rfl,?_⟩) hHeld ?_ ?_;rotate_left
       ·rintro w' ⟨s0,s1,s2,s3,s4,s5⟩;go_simp;with_reducible rfl
       rotate_left
       ·exact ux_
       refine take_ (i:=10) (N:=some 17) (v:=?_) (a':=?_) #[true,true,true,false,false,true,true,false,false,true,true,false,false,true,false,false,false,true,false,false,false,true,false,false,false,false,false] rfl rfl (take_ofW HT_.out HW_.out (by kernel_rfl)) (fun _ _ _ h => h) (Or.inl ⟨by rfl,?_⟩) hHeld ?_ ?_;rotate_left
       ·rintro w' ⟨s0,s1,s2,s3,s4,s5⟩;go_simp;with_reducible rfl
       rotate_left
       ·exact ux_
       refine take_ (i:=14) (N:=some 21) (v:=?_) (a':=?_) #[true,true,true,false,false,true,true,false,false,true,true,false,false,true,true,false,false,true,false,false,false,true,false,false,false,false,false] rfl rfl (take_ofW HT_.out HW_.out (by kernel_rfl)) (fun _ _ _ h => h) (Or.inl ⟨by rfl,?_⟩) hHeld ?_ ?_;rotate_left
       ·rintro w' ⟨s0,s1,s2,s3,s4,s5⟩;go_simp;with_reducible rfl
       rotate_left
       ·exact ux_
       refine take_ (i:=18) (N:=some 25) (v:=?_) (a':=?_) #[true,true,true,false,false,true,true,false,false,true,true,false,false,true,true,false,false,true,true,false,false,true,false,false,false,false,false] rfl rfl (take_ofW HT_.out HW_.out (by kernel_rfl)) (fun _ _ _ h => h) (Or.inl ⟨by rfl,?_⟩) hHeld ?_ ?_;rotate_left
       ·rintro w' ⟨s0,s1,s2,s3,s4,s5⟩;go_simp;with_reducible rfl
       rotate_left
       ·exact ux_
       refine take_ (i:=22) (N:=some 29) (v:=?_) (a':=?_) #[true,true,true,false,false,true,true,false,false,true,true,false,false,true,true,false,false,true,true,false,false,true,true,false,false,false,false] rfl rfl (take_ofW HT_.out HW_.out (by kernel_rfl)) (fun _ _ _ h => h) (Or.inl ⟨by rfl,?_⟩) hHeld ?_ ?_;rotate_left
       ·rintro w' ⟨s0,s1,s2,s3,s4,s5⟩;go_simp;with_reducible rfl
       rotate_left
       ·exact ux_
       refine join_ (σ:=Value) 3 #[true,true,true,true,true,true,true,true,true,true,true,true,true,true,true,true,true,true,true,true,true,true,true,true,false,false,false] (fun s_ => [(10,s_),(11,.string (strOfNums y260)),(14,.string t263),(18,.string t264),(22,.string t265),(26,.string t266),(30,.string t267),(15,.string ((strOfNums y260) ++ t263)),(19,.string (((strOfNums y260) ++ t263) ++ t264)),(23,.string ((((strOfNums y260) ++ t263) ++ t264) ++ t265)),(27,.string (((((strOfNums y260) ++ t263) ++ t264) ++ t265) ++ t266))]) (fun s_ w' => (w'.cell? ⟨gb258,0,none⟩ = some (.int .i64 a0_0) ∧ w'.cell? ⟨gb258,1,none⟩ = some (.int .i64 a0_1) ∧ w'.cell? ⟨gb258,2,none⟩ = some (.int .i64 a0_2) ∧ w'.cell? ⟨gb258,3,none⟩ = some (.string a0_3) ∧ w'.cell? ⟨gb258,4,none⟩ = some (.string a0_4) ∧ w'.cell? ⟨gb258,5,none⟩ = some (.string a0_5)) ∧ (Kd.R (Kd.int .u8) 5 w' w.heap.size (fun _ => True) s_ y260) ∧ (w'.heap[gb258]? = some (.cells #[.int .i64 a0_0,.int .i64 a0_1,.int .i64 a0_2,.string a0_3,.string a0_4,.string a0_5] 31 (0,0))) ∧ (Below w.heap.size w w')) ?_ ?_;rotate_left
       ·intro hJ3_4_7_11_15_19_23;refine join_ (σ:=Value) 4 #[true,true,true,true,true,true,true,true,true,true,true,true,true,true,true,true,true,true,true,true,true,true,true,false,false,false,false] (fun s_ => [(10,s_),(11,.string (strOfNums y260)),(14,.string t263),(18,.string t264),(22,.string t265),(26,.string t266),(15,.string ((strOfNums y260) ++ t263)),(19,.string (((strOfNums y260) ++ t263) ++ t264)),(23,.string ((((strOfNums y260) ++ t263) ++ t264) ++ t265)),(27,.string (((((strOfNums y260) ++ t263) ++ t264) ++ t265) ++ t266))]) (fun s_ w' => (w'.cell? ⟨gb258,0,none⟩ = some (.int .i64 a0_0) ∧ w'.cell? ⟨gb258,1,none⟩ = some (.int .i64 a0_1) ∧ w'.cell? ⟨gb258,2,none⟩ = some (.int .i64 a0_2) ∧ w'.cell? ⟨gb258,3,none⟩ = some (.string a0_3) ∧ w'.cell? ⟨gb258,4,none⟩ = some (.string a0_4) ∧ w'.cell? ⟨gb258,5,none⟩ = some (.string a0_5)) ∧ (Kd.R (Kd.int .u8) 5 w' w.heap.size (fun _ => True) s_ y260) ∧ (w'.heap[gb258]? = some (.cells #[.int .i64 a0_0,.int .i64 a0_1,.int .i64 a0_2,.string a0_3,.string a0_4,.string a0_5] 31 (0,0))) ∧ (Below w.heap.size w w')) ?_ ?_;rotate_left
        ·intro hJ3_4_7_11_15_19;refine join_ (σ:=Value) 8 #[true,true,true,true,false,true,true,true,false,true,true,true,false,true,true,true,false,true,true,true,false,true,true,true,false,false,false] (fun s_ => [(10,s_),(14,.string t263),(18,.string t264),(22,.string t265),(26,.string t266),(30,.string t267)]) (fun s_ w' => (w'.cell? ⟨gb258,0,none⟩ = some (.int .i64 a0_0) ∧ w'.cell? ⟨gb258,1,none⟩ = some (.int .i64 a0_1) ∧ w'.cell? ⟨gb258,2,none⟩ = some (.int .i64 a0_2) ∧ w'.cell? ⟨gb258,3,none⟩ = some (.string a0_3) ∧ w'.cell? ⟨gb258,4,none⟩ = some (.string a0_4) ∧ w'.cell? ⟨gb258,5,none⟩ = some (.string a0_5)) ∧ (Kd.R (Kd.int .u8) 5 w' w.heap.size (fun _ => True) s_ y260) ∧ (w'.heap[gb258]? = some (.cells #[.int .i64 a0_0,.int .i64 a0_1,.int .i64 a0_2,.string a0_3,.string a0_4,.string a0_5] 31 (0,0))) ∧ (Below w.heap.size w w')) ?_ ?_;rotate_left
         ·intro hJ3_7_11_15_19_23;refine join_ (σ:=Value) 6 #[true,true,true,true,true,true,true,true,true,true,true,true,true,true,true,true,true,true,true,false,false,true,true,false,false,false,false] (fun s_ => [(10,s_),(11,.string (strOfNums y260)),(14,.string t263),(18,.string t264),(22,.string t265),(15,.string ((strOfNums y260) ++ t263)),(19,.string (((strOfNums y260) ++ t263) ++ t264)),(23,.string ((((strOfNums y260) ++ t263) ++ t264) ++ t265))]) (fun s_ w' => (w'.cell? ⟨gb258,0,none⟩ = some (.int .i64 a0_0) ∧ w'.cell? ⟨gb258,1,none⟩ = some (.int .i64 a0_1) ∧ w'.cell? ⟨gb258,2,none⟩ = some (.int .i64 a0_2) ∧ w'.cell? ⟨gb258,3,none⟩ = some (.string a0_3) ∧ w'.cell? ⟨gb258,4,none⟩ = some (.string a0_4) ∧ w'.cell? ⟨gb258,5,none⟩ = some (.string a0_5)) ∧ (Kd.R (Kd.int .u8) 5 w' w.heap.size (fun _ => True) s_ y260) ∧ (w'.heap[gb258]? = some (.cells #[.int .i64 a0_0,.int .i64 a0_1,.int .i64 a0_2,.string a0_3,.string a0_4,.string a0_5] 31 (0,0))) ∧ (Below w.heap.size w w')) ?_ ?_;rotate_left
          ·intro hJ3_4_7_11_15;refine join_ (σ:=Value) 9 #[true,true,true,true,false,true,true,true,false,true,true,true,false,true,true,true,false,true,true,true,false,true,true,false,false,false,false] (fun s_ => [(10,s_),(14,.string t263),(18,.string t264),(22,.string t265),(26,.string t266)]) (fun s_ w' => (w'.cell? ⟨gb258,0,none⟩ = some (.int .i64 a0_0) ∧ w'.cell? ⟨gb258,1,none⟩ = some (.int .i64 a0_1) ∧ w'.cell? ⟨gb258,2,none⟩ = some (.int .i64 a0_2) ∧ w'.cell? ⟨gb258,3,none⟩ = some (.string a0_3) ∧ w'.cell? ⟨gb258,4,none⟩ = some (.string a0_4) ∧ w'.cell? ⟨gb258,5,none⟩ = some (.string a0_5)) ∧ (Kd.R (Kd.int .u8) 5 w' w.heap.size (fun _ => True) s_ y260) ∧ (w'.heap[gb258]? = some (.cells #[.int .i64 a0_0,.int .i64 a0_1,.int .i64 a0_2,.string a0_3,.string a0_4,.string a0_5] 31 (0,0))) ∧ (Below w.heap.size w w')) ?_ ?_;rotate_left
           ·intro hJ3_7_11_15_19;refine join_ (σ:=Unit) 9 #[true,true,true,false,false,true,true,true,false,true,true,true,false,true,true,true,false,true,true,true,false,true,true,true,false,false,false] (fun s_ => [(14,.string t263),(18,.string t264),(22,.string t265),(26,.string t266),(30,.string t267)]) (fun s_ w' => (w'.cell? ⟨gb258,0,none⟩ = some (.int .i64 a0_0) ∧ w'.cell? ⟨gb258,1,none⟩ = some (.int .i64 a0_1) ∧ w'.cell? ⟨gb258,2,none⟩ = some (.int .i64 a0_2) ∧ w'.cell? ⟨gb258,3,none⟩ = some (.string a0_3) ∧ w'.cell? ⟨gb258,4,none⟩ = some (.string a0_4) ∧ w'.cell? ⟨gb258,5,none⟩ = some (.string a0_5)) ∧ (w'.heap[gb258]? = some (.cells #[.int .i64 a0_0,.int .i64 a0_1,.int .i64 a0_2,.string a0_3,.string a0_4,.string a0_5] 31 (0,0))) ∧ (Below w.heap.size w w')) ?_ ?_;rotate_left
            ·intro hJ7_11_15_19_23;refine join_ (σ:=Value) 8 #[true,true,true,true,true,true,true,true,true,true,true,true,true,true,true,false,false,true,true,false,false,true,true,false,false,false,false] (fun s_ => [(10,s_),(11,.string (strOfNums y260)),(14,.string t263),(18,.string t264),(15,.string ((strOfNums y260) ++ t263)),(19,.string (((strOfNums y260) ++ t263) ++ t264))]) (fun s_ w' => (w'.cell? ⟨gb258,0,none⟩ = some (.int .i64 a0_0) ∧ w'.cell? ⟨gb258,1,none⟩ = some (.int .i64 a0_1) ∧ w'.cell? ⟨gb258,2,none⟩ = some (.int .i64 a0_2) ∧ w'.cell? ⟨gb258,3,none⟩ = some (.string a0_3) ∧ w'.cell? ⟨gb258,4,none⟩ = some (.string a0_4) ∧ w'.cell? ⟨gb258,5,none⟩ = some (.string a0_5)) ∧ (Kd.R (Kd.int .u8) 5 w' w.heap.size (fun _ => True) s_ y260) ∧ (w'.heap[gb258]? = some (.cells #[.int .i64 a0_0,.int .i64 a0_1,.int .i64 a0_2,.string a0_3,.string a0_4,.string a0_5] 31 (0,0))) ∧ (Below w.heap.size w w')) ?_ ?_;rotate_left
             ·intro hJ3_4_7_11;refine join_ (σ:=Value) 10 #[true,true,true,true,false,true,true,true,false,true,true,true,false,true,true,true,false,true,true,false,false,true,true,false,false,false,false] (fun s_ => [(10,s_),(14,.string t263),(18,.string t264),(22,.string t265)]) (fun s_ w' => (w'.cell? ⟨gb258,0,none⟩ = some (.int .i64 a0_0) ∧ w'.cell? ⟨gb258,1,none⟩ = some (.int .i64 a0_1) ∧ w'.cell? ⟨gb258,2,none⟩ = some (.int .i64 a0_2) ∧ w'.cell? ⟨gb258,3,none⟩ = some (.string a0_3) ∧ w'.cell? ⟨gb258,4,none⟩ = some (.string a0_4) ∧ w'.cell? ⟨gb258,5,none⟩ = some (.string a0_5)) ∧ (Kd.R (Kd.int .u8) 5 w' w.heap.size (fun _ => True) s_ y260) ∧ (w'.heap[gb258]? = some (.cells #[.int .i64 a0_0,.int .i64 a0_1,.int .i64 a0_2,.string a0_3,.string a0_4,.string a0_5] 31 (0,0))) ∧ (Below w.heap.size w w')) ?_ ?_;rotate_left
              ·intro hJ3_7_11_15;refine join_ (σ:=Unit) 10 #[true,true,true,false,false,true,true,true,false,true,true,true,false,true,true,true,false,true,true,true,false,true,true,false,false,false,false] (fun s_ => [(14,.string t263),(18,.string t264),(22,.string t265),(26,.string t266)]) (fun s_ w' => (w'.cell? ⟨gb258,0,none⟩ = some (.int .i64 a0_0) ∧ w'.cell? ⟨gb258,1,none⟩ = some (.int .i64 a0_1) ∧ w'.cell? ⟨gb258,2,none⟩ = some (.int .i64 a0_2) ∧ w'.cell? ⟨gb258,3,none⟩ = some (.string a0_3) ∧ w'.cell? ⟨gb258,4,none⟩ = some (.string a0_4) ∧ w'.cell? ⟨gb258,5,none⟩ = some (.string a0_5)) ∧ (w'.heap[gb258]? = some (.cells #[.int .i64 a0_0,.int .i64 a0_1,.int .i64 a0_2,.string a0_3,.string a0_4,.string a0_5] 31 (0,0))) ∧ (Below w.heap.size w w')) ?_ ?_;rotate_left
               ·intro hJ7_11_15_19;refine join_ (σ:=Value) 10 #[true,true,true,true,true,true,true,true,true,true,true,false,false,true,true,false,false,true,true,false,false,true,true,false,false,false,false] (fun s_ => [(10,s_),(11,.string (strOfNums y260)),(14,.string t263),(15,.string ((strOfNums y260) ++ t263))]) (fun s_ w' => (w'.cell? ⟨gb258,0,none⟩ = some (.int .i64 a0_0) ∧ w'.cell? ⟨gb258,1,none⟩ = some (.int .i64 a0_1) ∧ w'.cell? ⟨gb258,2,none⟩ = some (.int .i64 a0_2) ∧ w'.cell? ⟨gb258,3,none⟩ = some (.string a0_3) ∧ w'.cell? ⟨gb258,4,none⟩ = some (.string a0_4) ∧ w'.cell? ⟨gb258,5,none⟩ = some (.string a0_5)) ∧ (Kd.R (Kd.int .u8) 5 w' w.heap.size (fun _ => True) s_ y260) ∧ (w'.heap[gb258]? = some (.cells #[.int .i64 a0_0,.int .i64 a0_1,.int .i64 a0_2,.string a0_3,.string a0_4,.string a0_5] 31 (0,0))) ∧ (Below w.heap.size w w')) ?_ ?_;rotate_left
                ·intro hJ3_4_7;refine join_ (σ:=Value) 11 #[true,true,true,true,false,true,true,true,false,true,true,true,false,true,true,false,false,true,true,false,false,true,true,false,false,false,false] (fun s_ => [(10,s_),(14,.string t263),(18,.string t264)]) (fun s_ w' => (w'.cell? ⟨gb258,0,none⟩ = some (.int .i64 a0_0) ∧ w'.cell? ⟨gb258,1,none⟩ = some (.int .i64 a0_1) ∧ w'.cell? ⟨gb258,2,none⟩ = some (.int .i64 a0_2) ∧ w'.cell? ⟨gb258,3,none⟩ = some (.string a0_3) ∧ w'.cell? ⟨gb258,4,none⟩ = some (.string a0_4) ∧ w'.cell? ⟨gb258,5,none⟩ = some (.string a0_5)) ∧ (Kd.R (Kd.int .u8) 5 w' w.heap.size (fun _ => True) s_ y260) ∧ (w'.heap[gb258]? = some (.cells #[.int .i64 a0_0,.int .i64 a0_1,.int .i64 a0_2,.string a0_3,.string a0_4,.string a0_5] 31 (0,0))) ∧ (Below w.heap.size w w')) ?_ ?_;rotate_left
                 ·intro hJ3_7_11;refine join_ (σ:=Unit) 11 #[true,true,true,false,false,true,true,true,false,true,true,true,false,true,true,true,false,true,true,false,false,true,true,false,false,false,false] (fun s_ => [(14,.string t263),(18,.string t264),(22,.string t265)]) (fun s_ w' => (w'.cell? ⟨gb258,0,none⟩ = some (.int .i64 a0_0) ∧ w'.cell? ⟨gb258,1,none⟩ = some (.int .i64 a0_1) ∧ w'.cell? ⟨gb258,2,none⟩ = some (.int .i64 a0_2) ∧ w'.cell? ⟨gb258,3,none⟩ = some (.string a0_3) ∧ w'.cell? ⟨gb258,4,none⟩ = some (.string a0_4) ∧ w'.cell? ⟨gb258,5,none⟩ = some (.string a0_5)) ∧ (w'.heap[gb258]? = some (.cells #[.int .i64 a0_0,.int .i64 a0_1,.int .i64 a0_2,.string a0_3,.string a0_4,.string a0_5] 31 (0,0))) ∧ (Below w.heap.size w w')) ?_ ?_;rotate_left
                  ·intro hJ7_11_15;refine join_ (σ:=Value) 12 #[true,true,true,true,true,true,true,false,false,true,true,false,false,true,true,false,false,true,true,false,false,true,true,false,false,false,false] (fun s_ => [(10,s_),(11,.string (strOfNums y260))]) (fun s_ w' => (w'.cell? ⟨gb258,0,none⟩ = some (.int .i64 a0_0) ∧ w'.cell? ⟨gb258,1,none⟩ = some (.int .i64 a0_1) ∧ w'.cell? ⟨gb258,2,none⟩ = some (.int .i64 a0_2) ∧ w'.cell? ⟨gb258,3,none⟩ = some (.string a0_3) ∧ w'.cell? ⟨gb258,4,none⟩ = some (.string a0_4) ∧ w'.cell? ⟨gb258,5,none⟩ = some (.string a0_5)) ∧ (Kd.R (Kd.int .u8) 5 w' w.heap.size (fun _ => True) s_ y260) ∧ (w'.heap[gb258]? = some (.cells #[.int .i64 a0_0,.int .i64 a0_1,.int .i64 a0_2,.string a0_3,.string a0_4,.string a0_5] 31 (0,0))) ∧ (Below w.heap.size w w')) ?_ ?_;rotate_left
                   ·intro hJ3_4;refine join_ (σ:=Value) 12 #[true,true,true,true,false,true,true,true,false,true,true,false,false,true,true,false,false,true,true,false,false,true,true,false,false,false,false] (fun s_ => [(10,s_),(14,.string t263)]) (fun s_ w' => (w'.cell? ⟨gb258,0,none⟩ = some (.int .i64 a0_0) ∧ w'.cell? ⟨gb258,1,none⟩ = some (.int .i64 a0_1) ∧ w'.cell? ⟨gb258,2,none⟩ = some (.int .i64 a0_2) ∧ w'.cell? ⟨gb258,3,none⟩ = some (.string a0_3) ∧ w'.cell? ⟨gb258,4,none⟩ = some (.string a0_4) ∧ w'.cell? ⟨gb258,5,none⟩ = some (.string a0_5)) ∧ (Kd.R (Kd.int .u8) 5 w' w.heap.size (fun _ => True) s_ y260) ∧ (w'.heap[gb258]? = some (.cells #[.int .i64 a0_0,.int .i64 a0_1,.int .i64 a0_2,.string a0_3,.string a0_4,.string a0_5] 31 (0,0))) ∧ (Below w.heap.size w w')) ?_ ?_;rotate_left
                    ·intro hJ3_7;refine join_ (σ:=Unit) 12 #[true,true,true,false,false,true,true,true,false,true,true,true,false,true,true,false,false,true,true,false,false,true,true,false,false,false,false] (fun s_ => [(14,.string t263),(18,.string t264)]) (fun s_ w' => (w'.cell? ⟨gb258,0,none⟩ = some (.int .i64 a0_0) ∧ w'.cell? ⟨gb258,1,none⟩ = some (.int .i64 a0_1) ∧ w'.cell? ⟨gb258,2,none⟩ = some (.int .i64 a0_2) ∧ w'.cell? ⟨gb258,3,none⟩ = some (.string a0_3) ∧ w'.cell? ⟨gb258,4,none⟩ = some (.string a0_4) ∧ w'.cell? ⟨gb258,5,none⟩ = some (.string a0_5)) ∧ (w'.heap[gb258]? = some (.cells #[.int .i64 a0_0,.int .i64 a0_1,.int .i64 a0_2,.string a0_3,.string a0_4,.string a0_5] 31 (0,0))) ∧ (Below w.heap.size w w')) ?_ ?_;rotate_left
                     ·intro hJ7_11;refine join_ (σ:=Value) 13 #[true,true,true,true,false,true,true,false,false,true,true,false,false,true,true,false,false,true,true,false,false,true,true,false,false,false,false] (fun s_ => [(10,s_)]) (fun s_ w' => (w'.cell? ⟨gb258,0,none⟩ = some (.int .i64 a0_0) ∧ w'.cell? ⟨gb258,1,none⟩ = some (.int .i64 a0_1) ∧ w'.cell? ⟨gb258,2,none⟩ = some (.int .i64 a0_2) ∧ w'.cell? ⟨gb258,3,none⟩ = some (.string a0_3) ∧ w'.cell? ⟨gb258,4,none⟩ = some (.string a0_4) ∧ w'.cell? ⟨gb258,5,none⟩ = some (.string a0_5)) ∧ (Kd.R (Kd.int .u8) 5 w' w.heap.size (fun _ => True) s_ y260) ∧ (w'.heap[gb258]? = some (.cells #[.int .i64 a0_0,.int .i64 a0_1,.int .i64 a0_2,.string a0_3,.string a0_4,.string a0_5] 31 (0,0))) ∧ (Below w.heap.size w w')) ?_ ?_;rotate_left
                      ·intro hJ3;refine join_ (σ:=Unit) 13 #[true,true,true,false,false,true,true,true,false,true,true,false,false,true,true,false,false,true,true,false,false,true,true,false,false,false,false] (fun s_ => [(14,.string t263)]) (fun s_ w' => (w'.cell? ⟨gb258,0,none⟩ = some (.int .i64 a0_0) ∧ w'.cell? ⟨gb258,1,none⟩ = some (.int .i64 a0_1) ∧ w'.cell? ⟨gb258,2,none⟩ = some (.int .i64 a0_2) ∧ w'.cell? ⟨gb258,3,none⟩ = some (.string a0_3) ∧ w'.cell? ⟨gb258,4,none⟩ = some (.string a0_4) ∧ w'.cell? ⟨gb258,5,none⟩ = some (.string a0_5)) ∧ (w'.heap[gb258]? = some (.cells #[.int .i64 a0_0,.int .i64 a0_1,.int .i64 a0_2,.string a0_3,.string a0_4,.string a0_5] 31 (0,0))) ∧ (Below w.heap.size w w')) ?_ ?_;rotate_left
                       ·intro hJ7;refine two_ (i:=3) (j:=7) (Ni:=some 10) (Nj:=some 14) #[true,true,true,true,false,true,true,false,false,true,true,false,false,true,true,false,false,true,true,false,false,true,true,false,false,false,false] #[true,true,true,false,false,true,true,true,false,true,true,false,false,true,true,false,false,true,true,false,false,true,true,false,false,false,false] rfl rfl rfl rfl (two_of HT_.out (by kernel_rfl)) (by decide) (by decide) (fun K hK => ?_) (fun K hK => ?_)
                        ·skip
                         refine Kd.R_lit_step (Kd.int .u8) _ 5 ?hg (N:=10) ?hd (xs:=([(a0_0) % 256] : List Int)) (inner:=[.int .u8 ((a0_0) % 256)]) (ok:=fun _ => True) (okp:=fun _ => True) ?hr ?hp (fun _ hk => hk) trivial (Below.refl _ _) (Nat.le_refl _) (by simp) ?_;(case hd => rfl);(case hg => rfl);(case hr => exact gx_);(case hp => exact (Reps.one (show Kd.M (Kd.int .u8) _ _ _ ((a0_0) % 256) [.int .u8 ((a0_0) % 256)] from rfl) (Reps.none _ _)));intro v261 w18 ho19 hb hg_ hnew_;clear hg_ hnew_
                         (first|rw [← Ny260.out] at ho19|(simp only [Int.reduceToNat] at ho19;rw [← Ny260.out] at ho19))
                         have HO262:=A_ (rw_ ho19 (bz_ (bq_ HB)));replace BK258:=A_ (kb_ (kq_ BK258) hb);replace HB:=A_ (bs_ (bq_ HB) hb);clear hb ho19;refine hK.out _ _ ⟨kC_ BK258 0,kC_ BK258 1,kC_ BK258 2,kC_ BK258 3,kC_ BK258 4,kC_ BK258 5⟩ (fun hHeld => ?_);clear hK K;refine norm_ (a':=?_) ?_ ?_;rotate_left
                         ·show Act.put _ (some 10) _ = _;simp only [Act.put,s1_,s2_,s3_,i64_w,i32_w];rfl
                         exact norm_ (by first|(simp only [putAll,Act.put,s1_,s2_,s3_];done)|(simp only [putAll,Act.put,s1_,s2_,s3_];rfl)) (hJ3 (v261) _ ⟨hHeld,(rq_ HO262),(kq_ BK258),(bq_ HB)⟩)
                        ·skip
                         refine goes_ Try.func80 (by kernel_rfl) rfl #[.int .i64 a0_1] (by rfl) rfl rfl aq_ ?_;with_reducible refine (spec_l01Var.calls k a0_1 t263 _ A4.out).mono ?_;rintro e w18 ⟨rfl,hb⟩;refine ⟨_,rfl,?_⟩;replace BK258:=A_ (kb_ (kq_ BK258) hb);replace HB:=A_ (bs_ (bq_ HB) hb)
                         (try clear hb)
                         (try clear hb2)
                         (try clear hk)
                         (try clear hi)
                         refine hK.out _ _ ⟨kC_ BK258 0,kC_ BK258 1,kC_ BK258 2,kC_ BK258 3,kC_ BK258 4,kC_ BK258 5⟩ (fun hHeld => ?_);clear hK K;refine norm_ (a':=?_) ?_ ?_;rotate_left
                         ·show Act.put _ (some 14) _ = _;simp only [Act.put,s1_,s2_,s3_,i64_w,i32_w];rfl
                         exact norm_ (by first|(simp only [putAll,Act.put,s1_,s2_,s3_];done)|(simp only [putAll,Act.put,s1_,s2_,s3_];rfl)) (hJ7 () _ ⟨hHeld,(kq_ BK258),(bq_ HB)⟩)
                       ·skip
                        rintro _ w19 ⟨hS_,h0_,h1_⟩;have n0_ : Aside0 (w19.heap[gb258]? = some (.cells #[.int .i64 a0_0,.int .i64 a0_1,.int .i64 a0_2,.string a0_3,.string a0_4,.string a0_5] 31 (0,0))):=⟨h0_⟩;have n1_ : Aside0 (Below w.heap.size w w19):=⟨h1_⟩;clear BK258;clear HB;clear h0_ h1_;have BK258:=n0_;have HB:=n1_;clear n0_ n1_;have hHeld : w19.cell? ⟨gb258,0,none⟩ = some (.int .i64 a0_0) ∧ w19.cell? ⟨gb258,1,none⟩ = some (.int .i64 a0_1) ∧ w19.cell? ⟨gb258,2,none⟩ = some (.int .i64 a0_2) ∧ w19.cell? ⟨gb258,3,none⟩ = some (.string a0_3) ∧ w19.cell? ⟨gb258,4,none⟩ = some (.string a0_4) ∧ w19.cell? ⟨gb258,5,none⟩ = some (.string a0_5):=hS_;refine norm_ (a':=?_) ?_ ?_;rotate_left
                        ·simp only [putAll,Act.put,s1_,s2_,s3_];rfl
                        refine two_ (i:=3) (j:=11) (Ni:=some 10) (Nj:=some 18) #[true,true,true,true,false,true,true,true,false,true,true,false,false,true,true,false,false,true,true,false,false,true,true,false,false,false,false] #[true,true,true,false,false,true,true,true,false,true,true,true,false,true,true,false,false,true,true,false,false,true,true,false,false,false,false] rfl rfl rfl rfl (two_of HT_.out (by kernel_rfl)) (by decide) (by decide) (fun K hK => ?_) (fun K hK => ?_)
                        ·skip
                         refine Kd.R_lit_step (Kd.int .u8) _ 5 ?hg (N:=10) ?hd (xs:=([(a0_0) % 256] : List Int)) (inner:=[.int .u8 ((a0_0) % 256)]) (ok:=fun _ => True) (okp:=fun _ => True) ?hr ?hp (fun _ hk => hk) trivial (Below.refl _ _) (Nat.le_refl _) (by simp) ?_;(case hd => rfl);(case hg => rfl);(case hr => exact gx_);(case hp => exact (Reps.one (show Kd.M (Kd.int .u8) _ _ _ ((a0_0) % 256) [.int .u8 ((a0_0) % 256)] from rfl) (Reps.none _ _)));intro v261 w20 ho21 hb hg_ hnew_;clear hg_ hnew_
                         (first|rw [← Ny260.out] at ho21|(simp only [Int.reduceToNat] at ho21;rw [← Ny260.out] at ho21))
                         have HO262:=A_ (rw_ ho21 (bz_ (bq_ HB)));replace BK258:=A_ (kb_ (kq_ BK258) hb);replace HB:=A_ (bs_ (bq_ HB) hb);clear hb ho21;refine hK.out _ _ ⟨kC_ BK258 0,kC_ BK258 1,kC_ BK258 2,kC_ BK258 3,kC_ BK258 4,kC_ BK258 5⟩ (fun hHeld => ?_);clear hK K;refine norm_ (a':=?_) ?_ ?_;rotate_left
                         ·show Act.put _ (some 10) _ = _;simp only [Act.put,s1_,s2_,s3_,i64_w,i32_w];rfl
                         exact norm_ (by first|(simp only [putAll,Act.put,s1_,s2_,s3_];done)|(simp only [putAll,Act.put,s1_,s2_,s3_];rfl)) (hJ3_7 (v261) _ ⟨hHeld,(rq_ HO262),(kq_ BK258),(bq_ HB)⟩)
                        ·skip
                         refine goes_ Try.func80 (by kernel_rfl) rfl #[.int .i64 a0_2] (by rfl) rfl rfl aq_ ?_;with_reducible refine (spec_l01Var.calls k a0_2 t264 _ A6.out).mono ?_;rintro e w20 ⟨rfl,hb⟩;refine ⟨_,rfl,?_⟩;replace BK258:=A_ (kb_ (kq_ BK258) hb);replace HB:=A_ (bs_ (bq_ HB) hb)
                         (try clear hb)
                         (try clear hb2)
                         (try clear hk)
                         (try clear hi)
                         refine hK.out _ _ ⟨kC_ BK258 0,kC_ BK258 1,kC_ BK258 2,kC_ BK258 3,kC_ BK258 4,kC_ BK258 5⟩ (fun hHeld => ?_);clear hK K;refine norm_ (a':=?_) ?_ ?_;rotate_left
                         ·show Act.put _ (some 18) _ = _;simp only [Act.put,s1_,s2_,s3_,i64_w,i32_w];rfl
                         exact norm_ (by first|(simp only [putAll,Act.put,s1_,s2_,s3_];done)|(simp only [putAll,Act.put,s1_,s2_,s3_];rfl)) (hJ7_11 () _ ⟨hHeld,(kq_ BK258),(bq_ HB)⟩)
                      ·skip
                       rintro v261 w20 ⟨hS_,h0_,h1_,h2_⟩;have n0_ : Aside0 (Kd.R (Kd.int .u8) 5 w20 w.heap.size (fun _ => True) v261 y260):=⟨h0_⟩;have n1_ : Aside0 (w20.heap[gb258]? = some (.cells #[.int .i64 a0_0,.int .i64 a0_1,.int .i64 a0_2,.string a0_3,.string a0_4,.string a0_5] 31 (0,0))):=⟨h1_⟩;have n2_ : Aside0 (Below w.heap.size w w20):=⟨h2_⟩;clear BK258;clear HB;clear h0_ h1_ h2_;have HO262:=n0_;have BK258:=n1_;have HB:=n2_;clear n0_ n1_ n2_;have hHeld : w20.cell? ⟨gb258,0,none⟩ = some (.int .i64 a0_0) ∧ w20.cell? ⟨gb258,1,none⟩ = some (.int .i64 a0_1) ∧ w20.cell? ⟨gb258,2,none⟩ = some (.int .i64 a0_2) ∧ w20.cell? ⟨gb258,3,none⟩ = some (.string a0_3) ∧ w20.cell? ⟨gb258,4,none⟩ = some (.string a0_4) ∧ w20.cell? ⟨gb258,5,none⟩ = some (.string a0_5):=hS_;refine norm_ (a':=?_) ?_ ?_;rotate_left
                       ·simp only [putAll,Act.put,s1_,s2_,s3_];rfl
                       refine two_ (i:=4) (j:=7) (Ni:=some 11) (Nj:=some 14) #[true,true,true,true,true,true,true,false,false,true,true,false,false,true,true,false,false,true,true,false,false,true,true,false,false,false,false] #[true,true,true,true,false,true,true,true,false,true,true,false,false,true,true,false,false,true,true,false,false,true,true,false,false,false,false] rfl rfl rfl rfl (two_of HT_.out (by kernel_rfl)) (by decide) (by decide) (fun K hK => ?_) (fun K hK => ?_)
                       ·skip
                        have hcv21:=own_string (P:=Try.prog) Try.underlying22 Try.underlying5 Try.underlying9 (Kd.own_of_R HO262.out);refine value_ (w1:=?_) (v:=?_) (by rfl) rfl ?_ ?_;rotate_left 2
                        ·go_simp
                         constructor
                         ·rfl
                         ·rfl
                        clear hcv21;refine hK.out _ _ ⟨kC_ BK258 0,kC_ BK258 1,kC_ BK258 2,kC_ BK258 3,kC_ BK258 4,kC_ BK258 5⟩ (fun hHeld => ?_);clear hK K;refine norm_ (a':=?_) ?_ ?_;rotate_left
                        ·show Act.put _ (some 11) _ = _;simp only [Act.put,s1_,s2_,s3_,i64_w,i32_w];rfl
                        exact norm_ (by first|(simp only [putAll,Act.put,s1_,s2_,s3_];done)|(simp only [putAll,Act.put,s1_,s2_,s3_];rfl)) (hJ3_4 (v261) _ ⟨hHeld,(rq_ HO262),(kq_ BK258),(bq_ HB)⟩)
                       ·skip
                        refine goes_ Try.func80 (by kernel_rfl) rfl #[.int .i64 a0_1] (by rfl) rfl rfl aq_ ?_;with_reducible refine (spec_l01Var.calls k a0_1 t263 _ A4.out).mono ?_;rintro e w21 ⟨rfl,hb⟩;refine ⟨_,rfl,?_⟩;replace HO262:=A_ (rb_ (rq_ HO262) hb);replace BK258:=A_ (kb_ (kq_ BK258) hb);replace HB:=A_ (bs_ (bq_ HB) hb)
                        (try clear hb)
                        (try clear hb2)
                        (try clear hk)
                        (try clear hi)
                        refine hK.out _ _ ⟨kC_ BK258 0,kC_ BK258 1,kC_ BK258 2,kC_ BK258 3,kC_ BK258 4,kC_ BK258 5⟩ (fun hHeld => ?_);clear hK K;refine norm_ (a':=?_) ?_ ?_;rotate_left
                        ·show Act.put _ (some 14) _ = _;simp only [Act.put,s1_,s2_,s3_,i64_w,i32_w];rfl
                        exact norm_ (by first|(simp only [putAll,Act.put,s1_,s2_,s3_];done)|(simp only [putAll,Act.put,s1_,s2_,s3_];rfl)) (hJ3_7 (v261) _ ⟨hHeld,(rq_ HO262),(kq_ BK258),(bq_ HB)⟩)
                     ·skip
                      rintro _ w20 ⟨hS_,h0_,h1_⟩;have n0_ : Aside0 (w20.heap[gb258]? = some (.cells #[.int .i64 a0_0,.int .i64 a0_1,.int .i64 a0_2,.string a0_3,.string a0_4,.string a0_5] 31 (0,0))):=⟨h0_⟩;have n1_ : Aside0 (Below w.heap.size w w20):=⟨h1_⟩;clear BK258;clear HB;clear h0_ h1_;have BK258:=n0_;have HB:=n1_;clear n0_ n1_;have hHeld : w20.cell? ⟨gb258,0,none⟩ = some (.int .i64 a0_0) ∧ w20.cell? ⟨gb258,1,none⟩ = some (.int .i64 a0_1) ∧ w20.cell? ⟨gb258,2,none⟩ = some (.int .i64 a0_2) ∧ w20.cell? ⟨gb258,3,none⟩ = some (.string a0_3) ∧ w20.cell? ⟨gb258,4,none⟩ = some (.string a0_4) ∧ w20.cell? ⟨gb258,5,none⟩ = some (.string a0_5):=hS_;refine norm_ (a':=?_) ?_ ?_;rotate_left
                      ·simp only [putAll,Act.put,s1_,s2_,s3_];rfl
                      refine two_ (i:=3) (j:=15) (Ni:=some 10) (Nj:=some 22) #[true,true,true,true,false,true,true,true,false,true,true,true,false,true,true,false,false,true,true,false,false,true,true,false,false,false,false] #[true,true,true,false,false,true,true,true,false,true,true,true,false,true,true,true,false,true,true,false,false,true,true,false,false,false,false] rfl rfl rfl rfl (two_of HT_.out (by kernel_rfl)) (by decide) (by decide) (fun K hK => ?_) (fun K hK => ?_)
                      ·skip
                       refine Kd.R_lit_step (Kd.int .u8) _ 5 ?hg (N:=10) ?hd (xs:=([(a0_0) % 256] : List Int)) (inner:=[.int .u8 ((a0_0) % 256)]) (ok:=fun _ => True) (okp:=fun _ => True) ?hr ?hp (fun _ hk => hk) trivial (Below.refl _ _) (Nat.le_refl _) (by simp) ?_;(case hd => rfl);(case hg => rfl);(case hr => exact gx_);(case hp => exact (Reps.one (show Kd.M (Kd.int .u8) _ _ _ ((a0_0) % 256) [.int .u8 ((a0_0) % 256)] from rfl) (Reps.none _ _)));intro v261 w21 ho22 hb hg_ hnew_;clear hg_ hnew_
                       (first|rw [← Ny260.out] at ho22|(simp only [Int.reduceToNat] at ho22;rw [← Ny260.out] at ho22))
                       have HO262:=A_ (rw_ ho22 (bz_ (bq_ HB)));replace BK258:=A_ (kb_ (kq_ BK258) hb);replace HB:=A_ (bs_ (bq_ HB) hb);clear hb ho22;refine hK.out _ _ ⟨kC_ BK258 0,kC_ BK258 1,kC_ BK258 2,kC_ BK258 3,kC_ BK258 4,kC_ BK258 5⟩ (fun hHeld => ?_);clear hK K;refine norm_ (a':=?_) ?_ ?_;rotate_left
                       ·show Act.put _ (some 10) _ = _;simp only [Act.put,s1_,s2_,s3_,i64_w,i32_w];rfl
                       exact norm_ (by first|(simp only [putAll,Act.put,s1_,s2_,s3_];done)|(simp only [putAll,Act.put,s1_,s2_,s3_];rfl)) (hJ3_7_11 (v261) _ ⟨hHeld,(rq_ HO262),(kq_ BK258),(bq_ HB)⟩)
                      ·skip
                       refine goes_ Try.func138 (by kernel_rfl) rfl #[.string a0_3] (by rfl) rfl rfl aq_ ?_;with_reducible refine (spec_l05Short.calls k a0_3 t265 _ A8.out).mono ?_;rintro e w21 ⟨rfl,hb⟩;refine ⟨_,rfl,?_⟩;replace BK258:=A_ (kb_ (kq_ BK258) hb);replace HB:=A_ (bs_ (bq_ HB) hb)
                       (try clear hb)
                       (try clear hb2)
                       (try clear hk)
                       (try clear hi)
                       refine hK.out _ _ ⟨kC_ BK258 0,kC_ BK258 1,kC_ BK258 2,kC_ BK258 3,kC_ BK258 4,kC_ BK258 5⟩ (fun hHeld => ?_);clear hK K;refine norm_ (a':=?_) ?_ ?_;rotate_left
                       ·show Act.put _ (some 22) _ = _;simp only [Act.put,s1_,s2_,s3_,i64_w,i32_w];rfl
                       exact norm_ (by first|(simp only [putAll,Act.put,s1_,s2_,s3_];done)|(simp only [putAll,Act.put,s1_,s2_,s3_];rfl)) (hJ7_11_15 () _ ⟨hHeld,(kq_ BK258),(bq_ HB)⟩)
                    ·skip
                     rintro v261 w21 ⟨hS_,h0_,h1_,h2_⟩;have n0_ : Aside0 (Kd.R (Kd.int .u8) 5 w21 w.heap.size (fun _ => True) v261 y260):=⟨h0_⟩;have n1_ : Aside0 (w21.heap[gb258]? = some (.cells #[.int .i64 a0_0,.int .i64 a0_1,.int .i64 a0_2,.string a0_3,.string a0_4,.string a0_5] 31 (0,0))):=⟨h1_⟩;have n2_ : Aside0 (Below w.heap.size w w21):=⟨h2_⟩;clear BK258;clear HB;clear h0_ h1_ h2_;have HO262:=n0_;have BK258:=n1_;have HB:=n2_;clear n0_ n1_ n2_;have hHeld : w21.cell? ⟨gb258,0,none⟩ = some (.int .i64 a0_0) ∧ w21.cell? ⟨gb258,1,none⟩ = some (.int .i64 a0_1) ∧ w21.cell? ⟨gb258,2,none⟩ = some (.int .i64 a0_2) ∧ w21.cell? ⟨gb258,3,none⟩ = some (.string a0_3) ∧ w21.cell? ⟨gb258,4,none⟩ = some (.string a0_4) ∧ w21.cell? ⟨gb258,5,none⟩ = some (.string a0_5):=hS_;refine norm_ (a':=?_) ?_ ?_;rotate_left
                     ·simp only [putAll,Act.put,s1_,s2_,s3_];rfl
                     refine two_ (i:=4) (j:=11) (Ni:=some 11) (Nj:=some 18) #[true,true,true,true,true,true,true,true,false,true,true,false,false,true,true,false,false,true,true,false,false,true,true,false,false,false,false] #[true,true,true,true,false,true,true,true,false,true,true,true,false,true,true,false,false,true,true,false,false,true,true,false,false,false,false] rfl rfl rfl rfl (two_of HT_.out (by kernel_rfl)) (by decide) (by decide) (fun K hK => ?_) (fun K hK => ?_)
                     ·skip
                      have hcv22:=own_string (P:=Try.prog) Try.underlying22 Try.underlying5 Try.underlying9 (Kd.own_of_R HO262.out);refine value_ (w1:=?_) (v:=?_) (by rfl) rfl ?_ ?_;rotate_left 2
                      ·go_simp
                       constructor
                       ·rfl
                       ·rfl
                      clear hcv22;refine hK.out _ _ ⟨kC_ BK258 0,kC_ BK258 1,kC_ BK258 2,kC_ BK258 3,kC_ BK258 4,kC_ BK258 5⟩ (fun hHeld => ?_);clear hK K;refine norm_ (a':=?_) ?_ ?_;rotate_left
                      ·show Act.put _ (some 11) _ = _;simp only [Act.put,s1_,s2_,s3_,i64_w,i32_w];rfl
                      refine pure_ (i:=8) (N:=some 15) (v:=?_) (a':=?_) #[true,true,true,true,true,true,true,true,true,true,true,false,false,true,true,false,false,true,true,false,false,true,true,false,false,false,false] rfl rfl (any_of HT_.out (by kernel_rfl)) (fun _ _ _ h => h) (Or.inl ⟨by rfl,?_⟩) ?_ ?_;rotate_left
                      ·intro w';go_simp;with_reducible rfl
                      rotate_left
                      ·exact ux_
                      exact norm_ (by first|(simp only [putAll,Act.put,s1_,s2_,s3_];done)|(simp only [putAll,Act.put,s1_,s2_,s3_];rfl)) (hJ3_4_7 (v261) _ ⟨hHeld,(rq_ HO262),(kq_ BK258),(bq_ HB)⟩)
                     ·skip
                      refine goes_ Try.func80 (by kernel_rfl) rfl #[.int .i64 a0_2] (by rfl) rfl rfl aq_ ?_;with_reducible refine (spec_l01Var.calls k a0_2 t264 _ A6.out).mono ?_;rintro e w22 ⟨rfl,hb⟩;refine ⟨_,rfl,?_⟩;replace HO262:=A_ (rb_ (rq_ HO262) hb);replace BK258:=A_ (kb_ (kq_ BK258) hb);replace HB:=A_ (bs_ (bq_ HB) hb)
                      (try clear hb)
                      (try clear hb2)
                      (try clear hk)
                      (try clear hi)
                      refine hK.out _ _ ⟨kC_ BK258 0,kC_ BK258 1,kC_ BK258 2,kC_ BK258 3,kC_ BK258 4,kC_ BK258 5⟩ (fun hHeld => ?_);clear hK K;refine norm_ (a':=?_) ?_ ?_;rotate_left
                      ·show Act.put _ (some 18) _ = _;simp only [Act.put,s1_,s2_,s3_,i64_w,i32_w];rfl
                      exact norm_ (by first|(simp only [putAll,Act.put,s1_,s2_,s3_];done)|(simp only [putAll,Act.put,s1_,s2_,s3_];rfl)) (hJ3_7_11 (v261) _ ⟨hHeld,(rq_ HO262),(kq_ BK258),(bq_ HB)⟩)
                   ·skip
                    rintro v261 w21 ⟨hS_,h0_,h1_,h2_⟩;have n0_ : Aside0 (Kd.R (Kd.int .u8) 5 w21 w.heap.size (fun _ => True) v261 y260):=⟨h0_⟩;have n1_ : Aside0 (w21.heap[gb258]? = some (.cells #[.int .i64 a0_0,.int .i64 a0_1,.int .i64 a0_2,.string a0_3,.string a0_4,.string a0_5] 31 (0,0))):=⟨h1_⟩;have n2_ : Aside0 (Below w.heap.size w w21):=⟨h2_⟩;clear BK258;clear HB;clear h0_ h1_ h2_;have HO262:=n0_;have BK258:=n1_;have HB:=n2_;clear n0_ n1_ n2_;have hHeld : w21.cell? ⟨gb258,0,none⟩ = some (.int .i64 a0_0) ∧ w21.cell? ⟨gb258,1,none⟩ = some (.int .i64 a0_1) ∧ w21.cell? ⟨gb258,2,none⟩ = some (.int .i64 a0_2) ∧ w21.cell? ⟨gb258,3,none⟩ = some (.string a0_3) ∧ w21.cell? ⟨gb258,4,none⟩ = some (.string a0_4) ∧ w21.cell? ⟨gb258,5,none⟩ = some (.string a0_5):=hS_;refine norm_ (a':=?_) ?_ ?_;rotate_left
                    ·simp only [putAll,Act.put,s1_,s2_,s3_];rfl
                    refine one_ (i:=7) (N:=some 14) #[true,true,true,true,true,true,true,true,false,true,true,false,false,true,true,false,false,true,true,false,false,true,true,false,false,false,false] rfl rfl (one_of HT_.out (by kernel_rfl)) (by decide) (fun K hK => ?_);refine goes_ Try.func80 (by kernel_rfl) rfl #[.int .i64 a0_1] (by rfl) rfl rfl aq_ ?_;with_reducible refine (spec_l01Var.calls k a0_1 t263 _ A4.out).mono ?_;rintro e w22 ⟨rfl,hb⟩;refine ⟨_,rfl,?_⟩;replace HO262:=A_ (rb_ (rq_ HO262) hb);replace BK258:=A_ (kb_ (kq_ BK258) hb);replace HB:=A_ (bs_ (bq_ HB) hb)
                    (try clear hb)
                    (try clear hb2)
                    (try clear hk)
                    (try clear hi)
                    refine hK.out _ _ ⟨kC_ BK258 0,kC_ BK258 1,kC_ BK258 2,kC_ BK258 3,kC_ BK258 4,kC_ BK258 5⟩ (fun hHeld => ?_);clear hK K;refine norm_ (a':=?_) ?_ ?_;rotate_left
                    ·show Act.put _ (some 14) _ = _;simp only [Act.put,s1_,s2_,s3_,i64_w,i32_w];rfl
                    refine pure_ (i:=8) (N:=some 15) (v:=?_) (a':=?_) #[true,true,true,true,true,true,true,true,true,true,true,false,false,true,true,false,false,true,true,false,false,true,true,false,false,false,false] rfl rfl (any_of HT_.out (by kernel_rfl)) (fun _ _ _ h => h) (Or.inl ⟨by rfl,?_⟩) ?_ ?_;rotate_left
                    ·intro w';go_simp;with_reducible rfl
                    rotate_left
                    ·exact ux_
                    exact norm_ (by first|(simp only [putAll,Act.put,s1_,s2_,s3_];done)|(simp only [putAll,Act.put,s1_,s2_,s3_];rfl)) (hJ3_4_7 (v261) _ ⟨hHeld,(rq_ HO262),(kq_ BK258),(bq_ HB)⟩)
                  ·skip
                   rintro _ w21 ⟨hS_,h0_,h1_⟩;have n0_ : Aside0 (w21.heap[gb258]? = some (.cells #[.int .i64 a0_0,.int .i64 a0_1,.int .i64 a0_2,.string a0_3,.string a0_4,.string a0_5] 31 (0,0))):=⟨h0_⟩;have n1_ : Aside0 (Below w.heap.size w w21):=⟨h1_⟩;clear BK258;clear HB;clear h0_ h1_;have BK258:=n0_;have HB:=n1_;clear n0_ n1_;have hHeld : w21.cell? ⟨gb258,0,none⟩ = some (.int .i64 a0_0) ∧ w21.cell? ⟨gb258,1,none⟩ = some (.int .i64 a0_1) ∧ w21.cell? ⟨gb258,2,none⟩ = some (.int .i64 a0_2) ∧ w21.cell? ⟨gb258,3,none⟩ = some (.string a0_3) ∧ w21.cell? ⟨gb258,4,none⟩ = some (.string a0_4) ∧ w21.cell? ⟨gb258,5,none⟩ = some (.string a0_5):=hS_;refine norm_ (a':=?_) ?_ ?_;rotate_left
                   ·simp only [putAll,Act.put,s1_,s2_,s3_];rfl
                   refine two_ (i:=3) (j:=19) (Ni:=some 10) (Nj:=some 26) #[true,true,true,true,false,true,true,true,false,true,true,true,false,true,true,true,false,true,true,false,false,true,true,false,false,false,false] #[true,true,true,false,false,true,true,true,false,true,true,true,false,true,true,true,false,true,true,true,false,true,true,false,false,false,false] rfl rfl rfl rfl (two_of HT_.out (by kernel_rfl)) (by decide) (by decide) (fun K hK => ?_) (fun K hK => ?_)
                   ·skip
                    refine Kd.R_lit_step (Kd.int .u8) _ 5 ?hg (N:=10) ?hd (xs:=([(a0_0) % 256] : List Int)) (inner:=[.int .u8 ((a0_0) % 256)]) (ok:=fun _ => True) (okp:=fun _ => True) ?hr ?hp (fun _ hk => hk) trivial (Below.refl _ _) (Nat.le_refl _) (by simp) ?_;(case hd => rfl);(case hg => rfl);(case hr => exact gx_);(case hp => exact (Reps.one (show Kd.M (Kd.int .u8) _ _ _ ((a0_0) % 256) [.int .u8 ((a0_0) % 256)] from rfl) (Reps.none _ _)));intro v261 w22 ho23 hb hg_ hnew_;clear hg_ hnew_
                    (first|rw [← Ny260.out] at ho23|(simp only [Int.reduceToNat] at ho23;rw [← Ny260.out] at ho23))
                    have HO262:=A_ (rw_ ho23 (bz_ (bq_ HB)));replace BK258:=A_ (kb_ (kq_ BK258) hb);replace HB:=A_ (bs_ (bq_ HB) hb);clear hb ho23;refine hK.out _ _ ⟨kC_ BK258 0,kC_ BK258 1,kC_ BK258 2,kC_ BK258 3,kC_ BK258 4,kC_ BK258 5⟩ (fun hHeld => ?_);clear hK K;refine norm_ (a':=?_) ?_ ?_;rotate_left
                    ·show Act.put _ (some 10) _ = _;simp only [Act.put,s1_,s2_,s3_,i64_w,i32_w];rfl
                    exact norm_ (by first|(simp only [putAll,Act.put,s1_,s2_,s3_];done)|(simp only [putAll,Act.put,s1_,s2_,s3_];rfl)) (hJ3_7_11_15 (v261) _ ⟨hHeld,(rq_ HO262),(kq_ BK258),(bq_ HB)⟩)
                   ·skip
                    refine goes_ Try.func138 (by kernel_rfl) rfl #[.string a0_4] (by rfl) rfl rfl aq_ ?_;with_reducible refine (spec_l05Short.calls k a0_4 t266 _ A10.out).mono ?_;rintro e w22 ⟨rfl,hb⟩;refine ⟨_,rfl,?_⟩;replace BK258:=A_ (kb_ (kq_ BK258) hb);replace HB:=A_ (bs_ (bq_ HB) hb)
                    (try clear hb)
                    (try clear hb2)
                    (try clear hk)
                    (try clear hi)
                    refine hK.out _ _ ⟨kC_ BK258 0,kC_ BK258 1,kC_ BK258 2,kC_ BK258 3,kC_ BK258 4,kC_ BK258 5⟩ (fun hHeld => ?_);clear hK K;refine norm_ (a':=?_) ?_ ?_;rotate_left
                    ·show Act.put _ (some 26) _ = _;simp only [Act.put,s1_,s2_,s3_,i64_w,i32_w];rfl
                    exact norm_ (by first|(simp only [putAll,Act.put,s1_,s2_,s3_];done)|(simp only [putAll,Act.put,s1_,s2_,s3_];rfl)) (hJ7_11_15_19 () _ ⟨hHeld,(kq_ BK258),(bq_ HB)⟩)
                 ·skip
                  rintro v261 w22 ⟨hS_,h0_,h1_,h2_⟩;have n0_ : Aside0 (Kd.R (Kd.int .u8) 5 w22 w.heap.size (fun _ => True) v261 y260):=⟨h0_⟩;have n1_ : Aside0 (w22.heap[gb258]? = some (.cells #[.int .i64 a0_0,.int .i64 a0_1,.int .i64 a0_2,.string a0_3,.string a0_4,.string a0_5] 31 (0,0))):=⟨h1_⟩;have n2_ : Aside0 (Below w.heap.size w w22):=⟨h2_⟩;clear BK258;clear HB;clear h0_ h1_ h2_;have HO262:=n0_;have BK258:=n1_;have HB:=n2_;clear n0_ n1_ n2_;have hHeld : w22.cell? ⟨gb258,0,none⟩ = some (.int .i64 a0_0) ∧ w22.cell? ⟨gb258,1,none⟩ = some (.int .i64 a0_1) ∧ w22.cell? ⟨gb258,2,none⟩ = some (.int .i64 a0_2) ∧ w22.cell? ⟨gb258,3,none⟩ = some (.string a0_3) ∧ w22.cell? ⟨gb258,4,none⟩ = some (.string a0_4) ∧ w22.cell? ⟨gb258,5,none⟩ = some (.string a0_5):=hS_;refine norm_ (a':=?_) ?_ ?_;rotate_left
                  ·simp only [putAll,Act.put,s1_,s2_,s3_];rfl
                  refine two_ (i:=4) (j:=15) (Ni:=some 11) (Nj:=some 22) #[true,true,true,true,true,true,true,true,false,true,true,true,false,true,true,false,false,true,true,false,false,true,true,false,false,false,false] #[true,true,true,true,false,true,true,true,false,true,true,true,false,true,true,true,false,true,true,false,false,true,true,false,false,false,false] rfl rfl rfl rfl (two_of HT_.out (by kernel_rfl)) (by decide) (by decide) (fun K hK => ?_) (fun K hK => ?_)
                  ·skip
                   have hcv23:=own_string (P:=Try.prog) Try.underlying22 Try.underlying5 Try.underlying9 (Kd.own_of_R HO262.out);refine value_ (w1:=?_) (v:=?_) (by rfl) rfl ?_ ?_;rotate_left 2
                   ·go_simp
                    constructor
                    ·rfl
                    ·rfl
                   clear hcv23;refine hK.out _ _ ⟨kC_ BK258 0,kC_ BK258 1,kC_ BK258 2,kC_ BK258 3,kC_ BK258 4,kC_ BK258 5⟩ (fun hHeld => ?_);clear hK K;refine norm_ (a':=?_) ?_ ?_;rotate_left
                   ·show Act.put _ (some 11) _ = _;simp only [Act.put,s1_,s2_,s3_,i64_w,i32_w];rfl
                   refine pure_ (i:=8) (N:=some 15) (v:=?_) (a':=?_) #[true,true,true,true,true,true,true,true,true,true,true,true,false,true,true,false,false,true,true,false,false,true,true,false,false,false,false] rfl rfl (any_of HT_.out (by kernel_rfl)) (fun _ _ _ h => h) (Or.inl ⟨by rfl,?_⟩) ?_ ?_;rotate_left
                   ·intro w';go_simp;with_reducible rfl
                   rotate_left
                   ·exact ux_
                   refine pure_ (i:=12) (N:=some 19) (v:=?_) (a':=?_) #[true,true,true,true,true,true,true,true,true,true,true,true,true,true,true,false,false,true,true,false,false,true,true,false,false,false,false] rfl rfl (any_of HT_.out (by kernel_rfl)) (fun _ _ _ h => h) (Or.inl ⟨by rfl,?_⟩) ?_ ?_;rotate_left
                   ·intro w';go_simp;with_reducible rfl
                   rotate_left
                   ·exact ux_
                   exact norm_ (by first|(simp only [putAll,Act.put,s1_,s2_,s3_];done)|(simp only [putAll,Act.put,s1_,s2_,s3_];rfl)) (hJ3_4_7_11 (v261) _ ⟨hHeld,(rq_ HO262),(kq_ BK258),(bq_ HB)⟩)
                  ·skip
                   refine goes_ Try.func138 (by kernel_rfl) rfl #[.string a0_3] (by rfl) rfl rfl aq_ ?_;with_reducible refine (spec_l05Short.calls k a0_3 t265 _ A8.out).mono ?_;rintro e w23 ⟨rfl,hb⟩;refine ⟨_,rfl,?_⟩;replace HO262:=A_ (rb_ (rq_ HO262) hb);replace BK258:=A_ (kb_ (kq_ BK258) hb);replace HB:=A_ (bs_ (bq_ HB) hb)
                   (try clear hb)
                   (try clear hb2)
                   (try clear hk)
                   (try clear hi)
                   refine hK.out _ _ ⟨kC_ BK258 0,kC_ BK258 1,kC_ BK258 2,kC_ BK258 3,kC_ BK258 4,kC_ BK258 5⟩ (fun hHeld => ?_);clear hK K;refine norm_ (a':=?_) ?_ ?_;rotate_left
                   ·show Act.put _ (some 22) _ = _;simp only [Act.put,s1_,s2_,s3_,i64_w,i32_w];rfl
                   exact norm_ (by first|(simp only [putAll,Act.put,s1_,s2_,s3_];done)|(simp only [putAll,Act.put,s1_,s2_,s3_];rfl)) (hJ3_7_11_15 (v261) _ ⟨hHeld,(rq_ HO262),(kq_ BK258),(bq_ HB)⟩)
                ·skip
                 rintro v261 w22 ⟨hS_,h0_,h1_,h2_⟩;have n0_ : Aside0 (Kd.R (Kd.int .u8) 5 w22 w.heap.size (fun _ => True) v261 y260):=⟨h0_⟩;have n1_ : Aside0 (w22.heap[gb258]? = some (.cells #[.int .i64 a0_0,.int .i64 a0_1,.int .i64 a0_2,.string a0_3,.string a0_4,.string a0_5] 31 (0,0))):=⟨h1_⟩;have n2_ : Aside0 (Below w.heap.size w w22):=⟨h2_⟩;clear BK258;clear HB;clear h0_ h1_ h2_;have HO262:=n0_;have BK258:=n1_;have HB:=n2_;clear n0_ n1_ n2_;have hHeld : w22.cell? ⟨gb258,0,none⟩ = some (.int .i64 a0_0) ∧ w22.cell? ⟨gb258,1,none⟩ = some (.int .i64 a0_1) ∧ w22.cell? ⟨gb258,2,none⟩ = some (.int .i64 a0_2) ∧ w22.cell? ⟨gb258,3,none⟩ = some (.string a0_3) ∧ w22.cell? ⟨gb258,4,none⟩ = some (.string a0_4) ∧ w22.cell? ⟨gb258,5,none⟩ = some (.string a0_5):=hS_;refine norm_ (a':=?_) ?_ ?_;rotate_left
                 ·simp only [putAll,Act.put,s1_,s2_,s3_];rfl
                 refine one_ (i:=11) (N:=some 18) #[true,true,true,true,true,true,true,true,true,true,true,true,false,true,true,false,false,true,true,false,false,true,true,false,false,false,false] rfl rfl (one_of HT_.out (by kernel_rfl)) (by decide) (fun K hK => ?_);refine goes_ Try.func80 (by kernel_rfl) rfl #[.int .i64 a0_2] (by rfl) rfl rfl aq_ ?_;with_reducible refine (spec_l01Var.calls k a0_2 t264 _ A6.out).mono ?_;rintro e w23 ⟨rfl,hb⟩;refine ⟨_,rfl,?_⟩;replace HO262:=A_ (rb_ (rq_ HO262) hb);replace BK258:=A_ (kb_ (kq_ BK258) hb);replace HB:=A_ (bs_ (bq_ HB) hb)
                 (try clear hb)
                 (try clear hb2)
                 (try clear hk)
                 (try clear hi)
                 refine hK.out _ _ ⟨kC_ BK258 0,kC_ BK258 1,kC_ BK258 2,kC_ BK258 3,kC_ BK258 4,kC_ BK258 5⟩ (fun hHeld => ?_);clear hK K;refine norm_ (a':=?_) ?_ ?_;rotate_left
                 ·show Act.put _ (some 18) _ = _;simp only [Act.put,s1_,s2_,s3_,i64_w,i32_w];rfl
                 refine pure_ (i:=12) (N:=some 19) (v:=?_) (a':=?_) #[true,true,true,true,true,true,true,true,true,true,true,true,true,true,true,false,false,true,true,false,false,true,true,false,false,false,false] rfl rfl (any_of HT_.out (by kernel_rfl)) (fun _ _ _ h => h) (Or.inl ⟨by rfl,?_⟩) ?_ ?_;rotate_left
                 ·intro w';go_simp;with_reducible rfl
                 rotate_left
                 ·exact ux_
                 exact norm_ (by first|(simp only [putAll,Act.put,s1_,s2_,s3_];done)|(simp only [putAll,Act.put,s1_,s2_,s3_];rfl)) (hJ3_4_7_11 (v261) _ ⟨hHeld,(rq_ HO262),(kq_ BK258),(bq_ HB)⟩)
               ·skip
                rintro _ w22 ⟨hS_,h0_,h1_⟩;have n0_ : Aside0 (w22.heap[gb258]? = some (.cells #[.int .i64 a0_0,.int .i64 a0_1,.int .i64 a0_2,.string a0_3,.string a0_4,.string a0_5] 31 (0,0))):=⟨h0_⟩;have n1_ : Aside0 (Below w.heap.size w w22):=⟨h1_⟩;clear BK258;clear HB;clear h0_ h1_;have BK258:=n0_;have HB:=n1_;clear n0_ n1_;have hHeld : w22.cell? ⟨gb258,0,none⟩ = some (.int .i64 a0_0) ∧ w22.cell? ⟨gb258,1,none⟩ = some (.int .i64 a0_1) ∧ w22.cell? ⟨gb258,2,none⟩ = some (.int .i64 a0_2) ∧ w22.cell? ⟨gb258,3,none⟩ = some (.string a0_3) ∧ w22.cell? ⟨gb258,4,none⟩ = some (.string a0_4) ∧ w22.cell? ⟨gb258,5,none⟩ = some (.string a0_5):=hS_;refine norm_ (a':=?_) ?_ ?_;rotate_left
                ·simp only [putAll,Act.put,s1_,s2_,s3_];rfl
                refine two_ (i:=3) (j:=23) (Ni:=some 10) (Nj:=some 30) #[true,true,true,true,false,true,true,true,false,true,true,true,false,true,true,true,false,true,true,true,false,true,true,false,false,false,false] #[true,true,true,false,false,true,true,true,false,true,true,true,false,true,true,true,false,true,true,true,false,true,true,true,false,false,false] rfl rfl rfl rfl (two_of HT_.out (by kernel_rfl)) (by decide) (by decide) (fun K hK => ?_) (fun K hK => ?_)
                ·skip
                 refine Kd.R_lit_step (Kd.int .u8) _ 5 ?hg (N:=10) ?hd (xs:=([(a0_0) % 256] : List Int)) (inner:=[.int .u8 ((a0_0) % 256)]) (ok:=fun _ => True) (okp:=fun _ => True) ?hr ?hp (fun _ hk => hk) trivial (Below.refl _ _) (Nat.le_refl _) (by simp) ?_;(case hd => rfl);(case hg => rfl);(case hr => exact gx_);(case hp => exact (Reps.one (show Kd.M (Kd.int .u8) _ _ _ ((a0_0) % 256) [.int .u8 ((a0_0) % 256)] from rfl) (Reps.none _ _)));intro v261 w23 ho24 hb hg_ hnew_;clear hg_ hnew_
                 (first|rw [← Ny260.out] at ho24|(simp only [Int.reduceToNat] at ho24;rw [← Ny260.out] at ho24))
                 have HO262:=A_ (rw_ ho24 (bz_ (bq_ HB)));replace BK258:=A_ (kb_ (kq_ BK258) hb);replace HB:=A_ (bs_ (bq_ HB) hb);clear hb ho24;refine hK.out _ _ ⟨kC_ BK258 0,kC_ BK258 1,kC_ BK258 2,kC_ BK258 3,kC_ BK258 4,kC_ BK258 5⟩ (fun hHeld => ?_);clear hK K;refine norm_ (a':=?_) ?_ ?_;rotate_left
                 ·show Act.put _ (some 10) _ = _;simp only [Act.put,s1_,s2_,s3_,i64_w,i32_w];rfl
                 exact norm_ (by first|(simp only [putAll,Act.put,s1_,s2_,s3_];done)|(simp only [putAll,Act.put,s1_,s2_,s3_];rfl)) (hJ3_7_11_15_19 (v261) _ ⟨hHeld,(rq_ HO262),(kq_ BK258),(bq_ HB)⟩)
                ·skip
                 refine goes_ Try.func138 (by kernel_rfl) rfl #[.string a0_5] (by rfl) rfl rfl aq_ ?_;with_reducible refine (spec_l05Short.calls k a0_5 t267 _ A12.out).mono ?_;rintro e w23 ⟨rfl,hb⟩;refine ⟨_,rfl,?_⟩;replace BK258:=A_ (kb_ (kq_ BK258) hb);replace HB:=A_ (bs_ (bq_ HB) hb)
                 (try clear hb)
                 (try clear hb2)
                 (try clear hk)
                 (try clear hi)
                 refine hK.out _ _ ⟨kC_ BK258 0,kC_ BK258 1,kC_ BK258 2,kC_ BK258 3,kC_ BK258 4,kC_ BK258 5⟩ (fun hHeld => ?_);clear hK K;refine norm_ (a':=?_) ?_ ?_;rotate_left
                 ·show Act.put _ (some 30) _ = _;simp only [Act.put,s1_,s2_,s3_,i64_w,i32_w];rfl
                 exact norm_ (by first|(simp only [putAll,Act.put,s1_,s2_,s3_];done)|(simp only [putAll,Act.put,s1_,s2_,s3_];rfl)) (hJ7_11_15_19_23 () _ ⟨hHeld,(kq_ BK258),(bq_ HB)⟩)
              ·skip
               rintro v261 w23 ⟨hS_,h0_,h1_,h2_⟩;have n0_ : Aside0 (Kd.R (Kd.int .u8) 5 w23 w.heap.size (fun _ => True) v261 y260):=⟨h0_⟩;have n1_ : Aside0 (w23.heap[gb258]? = some (.cells #[.int .i64 a0_0,.int .i64 a0_1,.int .i64 a0_2,.string a0_3,.string a0_4,.string a0_5] 31 (0,0))):=⟨h1_⟩;have n2_ : Aside0 (Below w.heap.size w w23):=⟨h2_⟩;clear BK258;clear HB;clear h0_ h1_ h2_;have HO262:=n0_;have BK258:=n1_;have HB:=n2_;clear n0_ n1_ n2_;have hHeld : w23.cell? ⟨gb258,0,none⟩ = some (.int .i64 a0_0) ∧ w23.cell? ⟨gb258,1,none⟩ = some (.int .i64 a0_1) ∧ w23.cell? ⟨gb258,2,none⟩ = some (.int .i64 a0_2) ∧ w23.cell? ⟨gb258,3,none⟩ = some (.string a0_3) ∧ w23.cell? ⟨gb258,4,none⟩ = some (.string a0_4) ∧ w23.cell? ⟨gb258,5,none⟩ = some (.string a0_5):=hS_;refine norm_ (a':=?_) ?_ ?_;rotate_left
               ·simp only [putAll,Act.put,s1_,s2_,s3_];rfl
               refine two_ (i:=4) (j:=19) (Ni:=some 11) (Nj:=some 26) #[true,true,true,true,true,true,true,true,false,true,true,true,false,true,true,true,false,true,true,false,false,true,true,false,false,false,false] #[true,true,true,true,false,true,true,true,false,true,true,true,false,true,true,true,false,true,true,true,false,true,true,false,false,false,false] rfl rfl rfl rfl (two_of HT_.out (by kernel_rfl)) (by decide) (by decide) (fun K hK => ?_) (fun K hK => ?_)
               ·skip
                have hcv24:=own_string (P:=Try.prog) Try.underlying22 Try.underlying5 Try.underlying9 (Kd.own_of_R HO262.out);refine value_ (w1:=?_) (v:=?_) (by rfl) rfl ?_ ?_;rotate_left 2
                ·go_simp
                 constructor
                 ·rfl
                 ·rfl
                clear hcv24;refine hK.out _ _ ⟨kC_ BK258 0,kC_ BK258 1,kC_ BK258 2,kC_ BK258 3,kC_ BK258 4,kC_ BK258 5⟩ (fun hHeld => ?_);clear hK K;refine norm_ (a':=?_) ?_ ?_;rotate_left
                ·show Act.put _ (some 11) _ = _;simp only [Act.put,s1_,s2_,s3_,i64_w,i32_w];rfl
                refine pure_ (i:=8) (N:=some 15) (v:=?_) (a':=?_) #[true,true,true,true,true,true,true,true,true,true,true,true,false,true,true,true,false,true,true,false,false,true,true,false,false,false,false] rfl rfl (any_of HT_.out (by kernel_rfl)) (fun _ _ _ h => h) (Or.inl ⟨by rfl,?_⟩) ?_ ?_;rotate_left
                ·intro w';go_simp;with_reducible rfl
                rotate_left
                ·exact ux_
                refine pure_ (i:=12) (N:=some 19) (v:=?_) (a':=?_) #[true,true,true,true,true,true,true,true,true,true,true,true,true,true,true,true,false,true,true,false,false,true,true,false,false,false,false] rfl rfl (any_of HT_.out (by kernel_rfl)) (fun _ _ _ h => h) (Or.inl ⟨by rfl,?_⟩) ?_ ?_;rotate_left
                ·intro w';go_simp;with_reducible rfl
                rotate_left
                ·exact ux_
                refine pure_ (i:=16) (N:=some 23) (v:=?_) (a':=?_) #[true,true,true,true,true,true,true,true,true,true,true,true,true,true,true,true,true,true,true,false,false,true,true,false,false,false,false] rfl rfl (any_of HT_.out (by kernel_rfl)) (fun _ _ _ h => h) (Or.inl ⟨by rfl,?_⟩) ?_ ?_;rotate_left
                ·intro w';go_simp;with_reducible rfl
                rotate_left
                ·exact ux_
                exact norm_ (by first|(simp only [putAll,Act.put,s1_,s2_,s3_];done)|(simp only [putAll,Act.put,s1_,s2_,s3_];rfl)) (hJ3_4_7_11_15 (v261) _ ⟨hHeld,(rq_ HO262),(kq_ BK258),(bq_ HB)⟩)
               ·skip
                refine goes_ Try.func138 (by kernel_rfl) rfl #[.string a0_4] (by rfl) rfl rfl aq_ ?_;with_reducible refine (spec_l05Short.calls k a0_4 t266 _ A10.out).mono ?_;rintro e w24 ⟨rfl,hb⟩;refine ⟨_,rfl,?_⟩;replace HO262:=A_ (rb_ (rq_ HO262) hb);replace BK258:=A_ (kb_ (kq_ BK258) hb);replace HB:=A_ (bs_ (bq_ HB) hb)
                (try clear hb)
                (try clear hb2)
                (try clear hk)
                (try clear hi)
                refine hK.out _ _ ⟨kC_ BK258 0,kC_ BK258 1,kC_ BK258 2,kC_ BK258 3,kC_ BK258 4,kC_ BK258 5⟩ (fun hHeld => ?_);clear hK K;refine norm_ (a':=?_) ?_ ?_;rotate_left
                ·show Act.put _ (some 26) _ = _;simp only [Act.put,s1_,s2_,s3_,i64_w,i32_w];rfl
                exact norm_ (by first|(simp only [putAll,Act.put,s1_,s2_,s3_];done)|(simp only [putAll,Act.put,s1_,s2_,s3_];rfl)) (hJ3_7_11_15_19 (v261) _ ⟨hHeld,(rq_ HO262),(kq_ BK258),(bq_ HB)⟩)
             ·skip
              rintro v261 w23 ⟨hS_,h0_,h1_,h2_⟩;have n0_ : Aside0 (Kd.R (Kd.int .u8) 5 w23 w.heap.size (fun _ => True) v261 y260):=⟨h0_⟩;have n1_ : Aside0 (w23.heap[gb258]? = some (.cells #[.int .i64 a0_0,.int .i64 a0_1,.int .i64 a0_2,.string a0_3,.string a0_4,.string a0_5] 31 (0,0))):=⟨h1_⟩;have n2_ : Aside0 (Below w.heap.size w w23):=⟨h2_⟩;clear BK258;clear HB;clear h0_ h1_ h2_;have HO262:=n0_;have BK258:=n1_;have HB:=n2_;clear n0_ n1_ n2_;have hHeld : w23.cell? ⟨gb258,0,none⟩ = some (.int .i64 a0_0) ∧ w23.cell? ⟨gb258,1,none⟩ = some (.int .i64 a0_1) ∧ w23.cell? ⟨gb258,2,none⟩ = some (.int .i64 a0_2) ∧ w23.cell? ⟨gb258,3,none⟩ = some (.string a0_3) ∧ w23.cell? ⟨gb258,4,none⟩ = some (.string a0_4) ∧ w23.cell? ⟨gb258,5,none⟩ = some (.string a0_5):=hS_;refine norm_ (a':=?_) ?_ ?_;rotate_left
              ·simp only [putAll,Act.put,s1_,s2_,s3_];rfl
              refine one_ (i:=15) (N:=some 22) #[true,true,true,true,true,true,true,true,true,true,true,true,true,true,true,true,false,true,true,false,false,true,true,false,false,false,false] rfl rfl (one_of HT_.out (by kernel_rfl)) (by decide) (fun K hK => ?_);refine goes_ Try.func138 (by kernel_rfl) rfl #[.string a0_3] (by rfl) rfl rfl aq_ ?_;with_reducible refine (spec_l05Short.calls k a0_3 t265 _ A8.out).mono ?_;rintro e w24 ⟨rfl,hb⟩;refine ⟨_,rfl,?_⟩;replace HO262:=A_ (rb_ (rq_ HO262) hb);replace BK258:=A_ (kb_ (kq_ BK258) hb);replace HB:=A_ (bs_ (bq_ HB) hb)
              (try clear hb)
              (try clear hb2)
              (try clear hk)
              (try clear hi)
              refine hK.out _ _ ⟨kC_ BK258 0,kC_ BK258 1,kC_ BK258 2,kC_ BK258 3,kC_ BK258 4,kC_ BK258 5⟩ (fun hHeld => ?_);clear hK K;refine norm_ (a':=?_) ?_ ?_;rotate_left
              ·show Act.put _ (some 22) _ = _;simp only [Act.put,s1_,s2_,s3_,i64_w,i32_w];rfl
              refine pure_ (i:=16) (N:=some 23) (v:=?_) (a':=?_) #[true,true,true,true,true,true,true,true,true,true,true,true,true,true,true,true,true,true,true,false,false,true,true,false,false,false,false] rfl rfl (any_of HT_.out (by kernel_rfl)) (fun _ _ _ h => h) (Or.inl ⟨by rfl,?_⟩) ?_ ?_;rotate_left
              ·intro w';go_simp;with_reducible rfl
              rotate_left
              ·exact ux_
              exact norm_ (by first|(simp only [putAll,Act.put,s1_,s2_,s3_];done)|(simp only [putAll,Act.put,s1_,s2_,s3_];rfl)) (hJ3_4_7_11_15 (v261) _ ⟨hHeld,(rq_ HO262),(kq_ BK258),(bq_ HB)⟩)
            ·skip
             rintro _ w23 ⟨hS_,h0_,h1_⟩;have n0_ : Aside0 (w23.heap[gb258]? = some (.cells #[.int .i64 a0_0,.int .i64 a0_1,.int .i64 a0_2,.string a0_3,.string a0_4,.string a0_5] 31 (0,0))):=⟨h0_⟩;have n1_ : Aside0 (Below w.heap.size w w23):=⟨h1_⟩;clear BK258;clear HB;clear h0_ h1_;have BK258:=n0_;have HB:=n1_;clear n0_ n1_;have hHeld : w23.cell? ⟨gb258,0,none⟩ = some (.int .i64 a0_0) ∧ w23.cell? ⟨gb258,1,none⟩ = some (.int .i64 a0_1) ∧ w23.cell? ⟨gb258,2,none⟩ = some (.int .i64 a0_2) ∧ w23.cell? ⟨gb258,3,none⟩ = some (.string a0_3) ∧ w23.cell? ⟨gb258,4,none⟩ = some (.string a0_4) ∧ w23.cell? ⟨gb258,5,none⟩ = some (.string a0_5):=hS_;refine norm_ (a':=?_) ?_ ?_;rotate_left
             ·simp only [putAll,Act.put,s1_,s2_,s3_];rfl
             refine one_ (i:=3) (N:=some 10) #[true,true,true,true,false,true,true,true,false,true,true,true,false,true,true,true,false,true,true,true,false,true,true,true,false,false,false] rfl rfl (one_of HT_.out (by kernel_rfl)) (by decide) (fun K hK => ?_);refine Kd.R_lit_step (Kd.int .u8) _ 5 ?hg (N:=10) ?hd (xs:=([(a0_0) % 256] : List Int)) (inner:=[.int .u8 ((a0_0) % 256)]) (ok:=fun _ => True) (okp:=fun _ => True) ?hr ?hp (fun _ hk => hk) trivial (Below.refl _ _) (Nat.le_refl _) (by simp) ?_;(case hd => rfl);(case hg => rfl);(case hr => exact gx_);(case hp => exact (Reps.one (show Kd.M (Kd.int .u8) _ _ _ ((a0_0) % 256) [.int .u8 ((a0_0) % 256)] from rfl) (Reps.none _ _)));intro v261 w24 ho25 hb hg_ hnew_;clear hg_ hnew_
             (first|rw [← Ny260.out] at ho25|(simp only [Int.reduceToNat] at ho25;rw [← Ny260.out] at ho25))
             have HO262:=A_ (rw_ ho25 (bz_ (bq_ HB)));replace BK258:=A_ (kb_ (kq_ BK258) hb);replace HB:=A_ (bs_ (bq_ HB) hb);clear hb ho25;refine hK.out _ _ ⟨kC_ BK258 0,kC_ BK258 1,kC_ BK258 2,kC_ BK258 3,kC_ BK258 4,kC_ BK258 5⟩ (fun hHeld => ?_);clear hK K;refine norm_ (a':=?_) ?_ ?_;rotate_left
             ·show Act.put _ (some 10) _ = _;simp only [Act.put,s1_,s2_,s3_,i64_w,i32_w];rfl
             exact norm_ (by first|(simp only [putAll,Act.put,s1_,s2_,s3_];done)|(simp only [putAll,Act.put,s1_,s2_,s3_];rfl)) (hJ3_7_11_15_19_23 (v261) _ ⟨hHeld,(rq_ HO262),(kq_ BK258),(bq_ HB)⟩)
           ·skip
            rintro v261 w24 ⟨hS_,h0_,h1_,h2_⟩;have n0_ : Aside0 (Kd.R (Kd.int .u8) 5 w24 w.heap.size (fun _ => True) v261 y260):=⟨h0_⟩;have n1_ : Aside0 (w24.heap[gb258]? = some (.cells #[.int .i64 a0_0,.int .i64 a0_1,.int .i64 a0_2,.string a0_3,.string a0_4,.string a0_5] 31 (0,0))):=⟨h1_⟩;have n2_ : Aside0 (Below w.heap.size w w24):=⟨h2_⟩;clear BK258;clear HB;clear h0_ h1_ h2_;have HO262:=n0_;have BK258:=n1_;have HB:=n2_;clear n0_ n1_ n2_;have hHeld : w24.cell? ⟨gb258,0,none⟩ = some (.int .i64 a0_0) ∧ w24.cell? ⟨gb258,1,none⟩ = some (.int .i64 a0_1) ∧ w24.cell? ⟨gb258,2,none⟩ = some (.int .i64 a0_2) ∧ w24.cell? ⟨gb258,3,none⟩ = some (.string a0_3) ∧ w24.cell? ⟨gb258,4,none⟩ = some (.string a0_4) ∧ w24.cell? ⟨gb258,5,none⟩ = some (.string a0_5):=hS_;refine norm_ (a':=?_) ?_ ?_;rotate_left
            ·simp only [putAll,Act.put,s1_,s2_,s3_];rfl
            refine two_ (i:=4) (j:=23) (Ni:=some 11) (Nj:=some 30) #[true,true,true,true,true,true,true,true,false,true,true,true,false,true,true,true,false,true,true,true,false,true,true,false,false,false,false] #[true,true,true,true,false,true,true,true,false,true,true,true,false,true,true,true,false,true,true,true,false,true,true,true,false,false,false] rfl rfl rfl rfl (two_of HT_.out (by kernel_rfl)) (by decide) (by decide) (fun K hK => ?_) (fun K hK => ?_)
            ·skip
             have hcv25:=own_string (P:=Try.prog) Try.underlying22 Try.underlying5 Try.underlying9 (Kd.own_of_R HO262.out);refine value_ (w1:=?_) (v:=?_) (by rfl) rfl ?_ ?_;rotate_left 2
             ·go_simp
              constructor
              ·rfl
              ·rfl
             clear hcv25;refine hK.out _ _ ⟨kC_ BK258 0,kC_ BK258 1,kC_ BK258 2,kC_ BK258 3,kC_ BK258 4,kC_ BK258 5⟩ (fun hHeld => ?_);clear hK K;refine norm_ (a':=?_) ?_ ?_;rotate_left
             ·show Act.put _ (some 11) _ = _;simp only [Act.put,s1_,s2_,s3_,i64_w,i32_w];rfl
             refine pure_ (i:=8) (N:=some 15) (v:=?_) (a':=?_) #[true,true,true,true,true,true,true,true,true,true,true,true,false,true,true,true,false,true,true,true,false,true,true,false,false,false,false] rfl rfl (any_of HT_.out (by kernel_rfl)) (fun _ _ _ h => h) (Or.inl ⟨by rfl,?_⟩) ?_ ?_;rotate_left
             ·intro w';go_simp;with_reducible rfl
             rotate_left
             ·exact ux_
             refine pure_ (i:=12) (N:=some 19) (v:=?_) (a':=?_) #[true,true,true,true,true,true,true,true,true,true,true,true,true,true,true,true,false,true,true,true,false,true,true,false,false,false,false] rfl rfl (any_of HT_.out (by kernel_rfl)) (fun _ _ _ h => h) (Or.inl ⟨by rfl,?_⟩) ?_ ?_;rotate_left
             ·intro w';go_simp;with_reducible rfl
             rotate_left
             ·exact ux_
             refine pure_ (i:=16) (N:=some 23) (v:=?_) (a':=?_) #[true,true,true,true,true,true,true,true,true,true,true,true,true,true,true,true,true,true,true,true,false,true,true,false,false,false,false] rfl rfl (any_of HT_.out (by kernel_rfl)) (fun _ _ _ h => h) (Or.inl ⟨by rfl,?_⟩) ?_ ?_;rotate_left
             ·intro w';go_simp;with_reducible rfl
             rotate_left
             ·exact ux_
             refine pure_ (i:=20) (N:=some 27) (v:=?_) (a':=?_) #[true,true,true,true,true,true,true,true,true,true,true,true,true,true,true,true,true,true,true,true,true,true,true,false,false,false,false] rfl rfl (any_of HT_.out (by kernel_rfl)) (fun _ _ _ h => h) (Or.inl ⟨by rfl,?_⟩) ?_ ?_;rotate_left
             ·intro w';go_simp;with_reducible rfl
             rotate_left
             ·exact ux_
             exact norm_ (by first|(simp only [putAll,Act.put,s1_,s2_,s3_];done)|(simp only [putAll,Act.put,s1_,s2_,s3_];rfl)) (hJ3_4_7_11_15_19 (v261) _ ⟨hHeld,(rq_ HO262),(kq_ BK258),(bq_ HB)⟩)
            ·skip
             refine goes_ Try.func138 (by kernel_rfl) rfl #[.string a0_5] (by rfl) rfl rfl aq_ ?_;with_reducible refine (spec_l05Short.calls k a0_5 t267 _ A12.out).mono ?_;rintro e w25 ⟨rfl,hb⟩;refine ⟨_,rfl,?_⟩;replace HO262:=A_ (rb_ (rq_ HO262) hb);replace BK258:=A_ (kb_ (kq_ BK258) hb);replace HB:=A_ (bs_ (bq_ HB) hb)
             (try clear hb)
             (try clear hb2)
             (try clear hk)
             (try clear hi)
             refine hK.out _ _ ⟨kC_ BK258 0,kC_ BK258 1,kC_ BK258 2,kC_ BK258 3,kC_ BK258 4,kC_ BK258 5⟩ (fun hHeld => ?_);clear hK K;refine norm_ (a':=?_) ?_ ?_;rotate_left
             ·show Act.put _ (some 30) _ = _;simp only [Act.put,s1_,s2_,s3_,i64_w,i32_w];rfl
             exact norm_ (by first|(simp only [putAll,Act.put,s1_,s2_,s3_];done)|(simp only [putAll,Act.put,s1_,s2_,s3_];rfl)) (hJ3_7_11_15_19_23 (v261) _ ⟨hHeld,(rq_ HO262),(kq_ BK258),(bq_ HB)⟩)
          ·skip
           rintro v261 w24 ⟨hS_,h0_,h1_,h2_⟩;have n0_ : Aside0 (Kd.R (Kd.int .u8) 5 w24 w.heap.size (fun _ => True) v261 y260):=⟨h0_⟩;have n1_ : Aside0 (w24.heap[gb258]? = some (.cells #[.int .i64 a0_0,.int .i64 a0_1,.int .i64 a0_2,.string a0_3,.string a0_4,.string a0_5] 31 (0,0))):=⟨h1_⟩;have n2_ : Aside0 (Below w.heap.size w w24):=⟨h2_⟩;clear BK258;clear HB;clear h0_ h1_ h2_;have HO262:=n0_;have BK258:=n1_;have HB:=n2_;clear n0_ n1_ n2_;have hHeld : w24.cell? ⟨gb258,0,none⟩ = some (.int .i64 a0_0) ∧ w24.cell? ⟨gb258,1,none⟩ = some (.int .i64 a0_1) ∧ w24.cell? ⟨gb258,2,none⟩ = some (.int .i64 a0_2) ∧ w24.cell? ⟨gb258,3,none⟩ = some (.string a0_3) ∧ w24.cell? ⟨gb258,4,none⟩ = some (.string a0_4) ∧ w24.cell? ⟨gb258,5,none⟩ = some (.string a0_5):=hS_;refine norm_ (a':=?_) ?_ ?_;rotate_left
           ·simp only [putAll,Act.put,s1_,s2_,s3_];rfl
           refine one_ (i:=19) (N:=some 26) #[true,true,true,true,true,true,true,true,true,true,true,true,true,true,true,true,true,true,true,true,false,true,true,false,false,false,false] rfl rfl (one_of HT_.out (by kernel_rfl)) (by decide) (fun K hK => ?_);refine goes_ Try.func138 (by kernel_rfl) rfl #[.string a0_4] (by rfl) rfl rfl aq_ ?_;with_reducible refine (spec_l05Short.calls k a0_4 t266 _ A10.out).mono ?_;rintro e w25 ⟨rfl,hb⟩;refine ⟨_,rfl,?_⟩;replace HO262:=A_ (rb_ (rq_ HO262) hb);replace BK258:=A_ (kb_ (kq_ BK258) hb);replace HB:=A_ (bs_ (bq_ HB) hb)
           (try clear hb)
           (try clear hb2)
           (try clear hk)
           (try clear hi)
           refine hK.out _ _ ⟨kC_ BK258 0,kC_ BK258 1,kC_ BK258 2,kC_ BK258 3,kC_ BK258 4,kC_ BK258 5⟩ (fun hHeld => ?_);clear hK K;refine norm_ (a':=?_) ?_ ?_;rotate_left
           ·show Act.put _ (some 26) _ = _;simp only [Act.put,s1_,s2_,s3_,i64_w,i32_w];rfl
           refine pure_ (i:=20) (N:=some 27) (v:=?_) (a':=?_) #[true,true,true,true,true,true,true,true,true,true,true,true,true,true,true,true,true,true,true,true,true,true,true,false,false,false,false] rfl rfl (any_of HT_.out (by kernel_rfl)) (fun _ _ _ h => h) (Or.inl ⟨by rfl,?_⟩) ?_ ?_;rotate_left
           ·intro w';go_simp;with_reducible rfl
           rotate_left
           ·exact ux_
           exact norm_ (by first|(simp only [putAll,Act.put,s1_,s2_,s3_];done)|(simp only [putAll,Act.put,s1_,s2_,s3_];rfl)) (hJ3_4_7_11_15_19 (v261) _ ⟨hHeld,(rq_ HO262),(kq_ BK258),(bq_ HB)⟩)
         ·skip
          rintro v261 w25 ⟨hS_,h0_,h1_,h2_⟩;have n0_ : Aside0 (Kd.R (Kd.int .u8) 5 w25 w.heap.size (fun _ => True) v261 y260):=⟨h0_⟩;have n1_ : Aside0 (w25.heap[gb258]? = some (.cells #[.int .i64 a0_0,.int .i64 a0_1,.int .i64 a0_2,.string a0_3,.string a0_4,.string a0_5] 31 (0,0))):=⟨h1_⟩;have n2_ : Aside0 (Below w.heap.size w w25):=⟨h2_⟩;clear BK258;clear HB;clear h0_ h1_ h2_;have HO262:=n0_;have BK258:=n1_;have HB:=n2_;clear n0_ n1_ n2_;have hHeld : w25.cell? ⟨gb258,0,none⟩ = some (.int .i64 a0_0) ∧ w25.cell? ⟨gb258,1,none⟩ = some (.int .i64 a0_1) ∧ w25.cell? ⟨gb258,2,none⟩ = some (.int .i64 a0_2) ∧ w25.cell? ⟨gb258,3,none⟩ = some (.string a0_3) ∧ w25.cell? ⟨gb258,4,none⟩ = some (.string a0_4) ∧ w25.cell? ⟨gb258,5,none⟩ = some (.string a0_5):=hS_;refine norm_ (a':=?_) ?_ ?_;rotate_left
          ·simp only [putAll,Act.put,s1_,s2_,s3_];rfl
          refine one_ (i:=4) (N:=some 11) #[true,true,true,true,true,true,true,true,false,true,true,true,false,true,true,true,false,true,true,true,false,true,true,true,false,false,false] rfl rfl (one_of HT_.out (by kernel_rfl)) (by decide) (fun K hK => ?_);have hcv26:=own_string (P:=Try.prog) Try.underlying22 Try.underlying5 Try.underlying9 (Kd.own_of_R HO262.out);refine value_ (w1:=?_) (v:=?_) (by rfl) rfl ?_ ?_;rotate_left 2
          ·go_simp
           constructor
           ·rfl
           ·rfl
          clear hcv26;refine hK.out _ _ ⟨kC_ BK258 0,kC_ BK258 1,kC_ BK258 2,kC_ BK258 3,kC_ BK258 4,kC_ BK258 5⟩ (fun hHeld => ?_);clear hK K;refine norm_ (a':=?_) ?_ ?_;rotate_left
          ·show Act.put _ (some 11) _ = _;simp only [Act.put,s1_,s2_,s3_,i64_w,i32_w];rfl
          refine pure_ (i:=8) (N:=some 15) (v:=?_) (a':=?_) #[true,true,true,true,true,true,true,true,true,true,true,true,false,true,true,true,false,true,true,true,false,true,true,true,false,false,false] rfl rfl (any_of HT_.out (by kernel_rfl)) (fun _ _ _ h => h) (Or.inl ⟨by rfl,?_⟩) ?_ ?_;rotate_left
          ·intro w';go_simp;with_reducible rfl
          rotate_left
          ·exact ux_
          refine pure_ (i:=12) (N:=some 19) (v:=?_) (a':=?_) #[true,true,true,true,true,true,true,true,true,true,true,true,true,true,true,true,false,true,true,true,false,true,true,true,false,false,false] rfl rfl (any_of HT_.out (by kernel_rfl)) (fun _ _ _ h => h) (Or.inl ⟨by rfl,?_⟩) ?_ ?_;rotate_left
          ·intro w';go_simp;with_reducible rfl
          rotate_left
          ·exact ux_
          refine pure_ (i:=16) (N:=some 23) (v:=?_) (a':=?_) #[true,true,true,true,true,true,true,true,true,true,true,true,true,true,true,true,true,true,true,true,false,true,true,true,false,false,false] rfl rfl (any_of HT_.out (by kernel_rfl)) (fun _ _ _ h => h) (Or.inl ⟨by rfl,?_⟩) ?_ ?_;rotate_left
          ·intro w';go_simp;with_reducible rfl
          rotate_left
          ·exact ux_
          refine pure_ (i:=20) (N:=some 27) (v:=?_) (a':=?_) #[true,true,true,true,true,true,true,true,true,true,true,true,true,true,true,true,true,true,true,true,true,true,true,true,false,false,false] rfl rfl (any_of HT_.out (by kernel_rfl)) (fun _ _ _ h => h) (Or.inl ⟨by rfl,?_⟩) ?_ ?_;rotate_left
          ·intro w';go_simp;with_reducible rfl
          rotate_left
          ·exact ux_
          exact norm_ (by first|(simp only [putAll,Act.put,s1_,s2_,s3_];done)|(simp only [putAll,Act.put,s1_,s2_,s3_];rfl)) (hJ3_4_7_11_15_19_23 (v261) _ ⟨hHeld,(rq_ HO262),(kq_ BK258),(bq_ HB)⟩)
        ·skip
         rintro v261 w25 ⟨hS_,h0_,h1_,h2_⟩;have n0_ : Aside0 (Kd.R (Kd.int .u8) 5 w25 w.heap.size (fun _ => True) v261 y260):=⟨h0_⟩;have n1_ : Aside0 (w25.heap[gb258]? = some (.cells #[.int .i64 a0_0,.int .i64 a0_1,.int .i64 a0_2,.string a0_3,.string a0_4,.string a0_5] 31 (0,0))):=⟨h1_⟩;have n2_ : Aside0 (Below w.heap.size w w25):=⟨h2_⟩;clear BK258;clear HB;clear h0_ h1_ h2_;have HO262:=n0_;have BK258:=n1_;have HB:=n2_;clear n0_ n1_ n2_;have hHeld : w25.cell? ⟨gb258,0,none⟩ = some (.int .i64 a0_0) ∧ w25.cell? ⟨gb258,1,none⟩ = some (.int .i64 a0_1) ∧ w25.cell? ⟨gb258,2,none⟩ = some (.int .i64 a0_2) ∧ w25.cell? ⟨gb258,3,none⟩ = some (.string a0_3) ∧ w25.cell? ⟨gb258,4,none⟩ = some (.string a0_4) ∧ w25.cell? ⟨gb258,5,none⟩ = some (.string a0_5):=hS_;refine norm_ (a':=?_) ?_ ?_;rotate_left
         ·simp only [putAll,Act.put,s1_,s2_,s3_];rfl
         refine one_ (i:=23) (N:=some 30) #[true,true,true,true,true,true,true,true,true,true,true,true,true,true,true,true,true,true,true,true,true,true,true,true,false,false,false] rfl rfl (one_of HT_.out (by kernel_rfl)) (by decide) (fun K hK => ?_);refine goes_ Try.func138 (by kernel_rfl) rfl #[.string a0_5] (by rfl) rfl rfl aq_ ?_;with_reducible refine (spec_l05Short.calls k a0_5 t267 _ A12.out).mono ?_;rintro e w26 ⟨rfl,hb⟩;refine ⟨_,rfl,?_⟩;replace HO262:=A_ (rb_ (rq_ HO262) hb);replace BK258:=A_ (kb_ (kq_ BK258) hb);replace HB:=A_ (bs_ (bq_ HB) hb)
         (try clear hb)
         (try clear hb2)
         (try clear hk)
         (try clear hi)
         refine hK.out _ _ ⟨kC_ BK258 0,kC_ BK258 1,kC_ BK258 2,kC_ BK258 3,kC_ BK258 4,kC_ BK258 5⟩ (fun hHeld => ?_);clear hK K;refine norm_ (a':=?_) ?_ ?_;rotate_left
         ·show Act.put _ (some 30) _ = _;simp only [Act.put,s1_,s2_,s3_,i64_w,i32_w];rfl
         exact norm_ (by first|(simp only [putAll,Act.put,s1_,s2_,s3_];done)|(simp only [putAll,Act.put,s1_,s2_,s3_];rfl)) (hJ3_4_7_11_15_19_23 (v261) _ ⟨hHeld,(rq_ HO262),(kq_ BK258),(bq_ HB)⟩)
       rintro v261 w26 ⟨hS_,h0_,h1_,h2_⟩;have n0_ : Aside0 (Kd.R (Kd.int .u8) 5 w26 w.heap.size (fun _ => True) v261 y260):=⟨h0_⟩;have n1_ : Aside0 (w26.heap[gb258]? = some (.cells #[.int .i64 a0_0,.int .i64 a0_1,.int .i64 a0_2,.string a0_3,.string a0_4,.string a0_5] 31 (0,0))):=⟨h1_⟩;have n2_ : Aside0 (Below w.heap.size w w26):=⟨h2_⟩;clear BK258;clear HB;clear h0_ h1_ h2_;have HO262:=n0_;have BK258:=n1_;have HB:=n2_;clear n0_ n1_ n2_;have hHeld : w26.cell? ⟨gb258,0,none⟩ = some (.int .i64 a0_0) ∧ w26.cell? ⟨gb258,1,none⟩ = some (.int .i64 a0_1) ∧ w26.cell? ⟨gb258,2,none⟩ = some (.int .i64 a0_2) ∧ w26.cell? ⟨gb258,3,none⟩ = some (.string a0_3) ∧ w26.cell? ⟨gb258,4,none⟩ = some (.string a0_4) ∧ w26.cell? ⟨gb258,5,none⟩ = some (.string a0_5):=hS_;refine norm_ (a':=?_) ?_ ?_;rotate_left
       ·simp only [putAll,Act.put,s1_,s2_,s3_];rfl
       refine pure_ (i:=24) (N:=some 31) (v:=?_) (a':=?_) #[true,true,true,true,true,true,true,true,true,true,true,true,true,true,true,true,true,true,true,true,true,true,true,true,true,false,false] rfl rfl (any_of HT_.out (by kernel_rfl)) (fun _ _ _ h => h) (Or.inl ⟨by rfl,?_⟩) ?_ ?_;rotate_left
       ·intro w';go_simp;with_reducible rfl
       rotate_left
       ·exact ux_
       refine pure_ (i:=25) (N:=some 2) (v:=?_) (a':=?_) #[true,true,true,true,true,true,true,true,true,true,true,true,true,true,true,true,true,true,true,true,true,true,true,true,true,true,false] rfl rfl (any_of HT_.out (by kernel_rfl)) (fun _ _ _ h => h) (Or.inl ⟨by rfl,?_⟩) ?_ ?_;rotate_left
       ·intro w';go_simp;with_reducible rfl
       rotate_left
       ·exact ux_
       refine pure_ (i:=26) (N:=some 3) (v:=?_) (a':=?_) #[true,true,true,true,true,true,true,true,true,true,true,true,true,true,true,true,true,true,true,true,true,true,true,true,true,true,true] rfl rfl (any_of HT_.out (by kernel_rfl)) (fun _ _ _ h => h) (Or.inl ⟨by rfl,?_⟩) ?_ ?_;rotate_left
       ·intro w';go_simp;with_reducible rfl
       rotate_left
       ·exact ux_
       refine done_ (done_of HT_.out (by kernel_rfl)) ?_
       try go_wp2
       go_ret2;exact ⟨ex_,bq_ HB⟩
      ·rw [if_neg c13] at H;exact absurd H (by simp)
     ·rw [if_neg c11] at H;exact absurd H (by simp)
    ·rw [if_neg c9] at H;exact absurd H (by simp)
   ·rw [if_neg c7] at H;exact absurd H (by simp)
  ·rw [if_neg c5] at H;exact absurd H (by simp)
 ·replace c3:=Bool.eq_false_iff.mpr c3;subst c3
  have H1 : (some ((⟨#[]⟩ : ByteArray),false)) = some (r1,r2):=by rw [if_neg (show ¬ (false = true) by decide)] at H;exact H
  clear H;have H:=H1;clear H1;simp only [Option.some.injEq,Prod.mk.injEq] at H;obtain ⟨rfl,rfl⟩:=H;go_enter Try.func87,Try.ntmps87
  go_wp2_with (first|((with_reducible refine gate_dst (N:=1) rfl ?_);refine box_event ?hg (N:=1) ?hd (cs:=#[.int .i64 a0_0,.int .i64 a0_1,.int .i64 a0_2,.string a0_3,.string a0_4,.string a0_5]) (t:=31) ?hr ?_;(case hd => rfl);(case hg => rfl);(case hr => exact gx_);intro gb258 hg w27 hbox hb;have BK258:=A_ (hbox);have GW258:=A_ ((by rw [hg];exact (bz_ (bq_ HB)) : w.heap.size ≤ gb258));have GE258:=A_ ((by rw [hg];exact (bz_ (bq_ HB)) : w.heap.size ≤ gb258));replace HB:=A_ (bs_ (bq_ HB) hb);clear hb hbox hg;have hcz28_0:=kC_ BK258 0;have hcz28_1:=kC_ BK258 1;have hcz28_2:=kC_ BK258 2;have hcz28_3:=kC_ BK258 3;have hcz28_4:=kC_ BK258 4;have hcz28_5:=kC_ BK258 5;have hfz28_0:=kf_ BK258.out 0;have hfz28_1:=kf_ BK258.out 1;have hfz28_2:=kf_ BK258.out 2;have hfz28_3:=kf_ BK258.out 3;have hfz28_4:=kf_ BK258.out 4;have hfz28_5:=kf_ BK258.out 5)|((with_reducible refine gate_callee (f:=28) rfl ?_);refine goesL_ (some 5) rfl rfl Try.func28 (by kernel_rfl) rfl #[.agg #[.int .i64 a0_0,.int .i64 a0_1,.int .i64 a0_2,.string a0_3,.string a0_4,.string a0_5]] rfl aq_ ?_;(with_reducible refine (spec_CommandOk.calls k a0_0 a0_1 a0_2 a0_3 a0_4 a0_5 false _ A2.out).mono ?_);rintro e w29 ⟨rfl,hb⟩;refine ⟨_,rfl,?_⟩;replace BK258:=A_ (kb_ (kq_ BK258) hb);replace HB:=A_ (bs_ (bq_ HB) hb);(try clear hb);(try clear hb2);(try clear hk);(try clear hi)))
  go_ret2;exact ⟨ex_,bq_ HB⟩
end Go.Proofs.Ytgpafelepkhdoaa.PFnBehind
