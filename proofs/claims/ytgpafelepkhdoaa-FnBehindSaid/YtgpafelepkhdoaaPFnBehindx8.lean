/- The contracts of the Go functions that this law reaches: what each call returns, by a plain Lean function of its arguments. No conditions but those each contract names. By the kit's print.py, run by this session's wip/gen/pp.py with facts and hand proofs beside it: not to the letter what print.sh prints. -/
import Derived.Test.YtgpafelepkhdoaaPFnBehindx0
import Derived.Test.YtgpafelepkhdoaaPFnBehindx7
namespace Go.Proofs.Ytgpafelepkhdoaa.PFnBehind
open Go.RowKit Go.Proofs.YtgpafelepkhdoaaW.PrintWords Go.Proofs.YtgpafelepkhdoaaW.PrintLast Go.Proofs.YtgpafelepkhdoaaW.PrintMore
attribute [local go_sem] max2_int min2_int max_two min_two max_three min_three max_four min_four
set_option linter.unusedVariables false
set_option linter.unusedSimpArgs false
def spec_l12Head.f (k : Nat) (a0_0 : Int) (a0_1 : Int) (l0_2 : List (S37)) : Option (ByteArray) := (spec_l01Var.f k a0_0).bind fun t198 => (if 1 + t198.size ≤ 9223372036854775807 then ((spec_l01Var.f k a0_1).bind fun t199 => (if ((⟨#[83]⟩ : ByteArray) ++ t198).size + t199.size ≤ 9223372036854775807 then ((spec_Frame.f k (((⟨#[83]⟩ : ByteArray) ++ t198) ++ t199)).bind fun bt200 => (some bt200.1)) else (none))) else (none))
theorem spec_l12Head.mono : ∀ a0 a1 a2 k, LeO (spec_l12Head.f k a0 a1 a2) (spec_l12Head.f (k + 1) a0 a1 a2) := by
 intro a0 a1 a2 k
 unfold spec_l12Head.f
 repeat' first
   | (with_reducible exact spec_Frame.mono _ _)
   | (with_reducible exact spec_l01Var.mono _ _)
   | (with_reducible exact LeO.refl _)
   | (with_reducible exact LeO.none _)
   | (with_reducible refine LeO.ite ?_ ?_)
   | (with_reducible refine LeO.bind ?_ (fun _ => ?_))
def spec_l12Head.T1 : Bool × List (List Nat × List Nat) := (true, [([], []), ([0], [0]), ([1], [1]), ([2], [2]), ([], []), ([4], [4]), ([5, 2], [5]), ([3, 6], [3, 6]), ([7, 6], [7]), ([8], [8]), ([9], [9]), ([9], [9]), ([10, 8, 0, 1, 2, 3, 4, 5, 6, 7, 8, 9, 10], [10]), ([11, 12, 0, 1, 2, 3, 4, 5, 6, 7, 8, 9, 10, 11, 12], [11])])
def spec_l12Head.B1 : List Nat := [0, 1, 3, 7, 0, 16, 55, 127, 255, 511, 1023, 1023, 2047, 8191]
theorem spec_l12Head.tab1 : rtab .any (opsOf Try.f115 1) = spec_l12Head.T1 := by kernel_rfl
theorem spec_l12Head.bits1 : waitsOk spec_l12Head.T1.2 spec_l12Head.B1 = true := by kernel_rfl
set_option maxHeartbeats 8000000 in
set_option maxRecDepth 100000 in
theorem spec_l12Head.calls (k : Nat) (a0_0 : Int) (a0_1 : Int) (A0_2 : Option Addr) (c0_2 : Nat) (l0_2 : List (S37)) (r : ByteArray) (w : World) (hr0_2 : Kd.C k37 w A0_2 l0_2.length l0_2) (hc0_2 : l0_2.length ≤ c0_2) (h : spec_l12Head.f k a0_0 a0_1 l0_2 = some r) :
  Calls Try.prog 115 #[.agg #[.int .i64 a0_0,.int .i64 a0_1,.slice A0_2 l0_2.length c0_2]] w fun e w' => e = .returned (.string r) ∧ Below w.heap.size w w':=by
 have hu60:=Try.underlying60;have HR0_2:=A_ hr0_2;have HC0_2:=A_ hc0_2;clear hr0_2 hc0_2;have HB:=A_ (Below.refl w.heap.size w);have H : ((spec_l01Var.f k a0_0).bind fun t198 => (if 1 + t198.size ≤ 9223372036854775807 then ((spec_l01Var.f k a0_1).bind fun t199 => (if ((⟨#[83]⟩ : ByteArray) ++ t198).size + t199.size ≤ 9223372036854775807 then ((spec_Frame.f k (((⟨#[83]⟩ : ByteArray) ++ t198) ++ t199)).bind fun bt200 => (some bt200.1)) else (none))) else (none))) = some r:=h;clear h;replace H:=ob_.mp H;obtain ⟨t198,A20,H⟩:=H;replace H : (if 1 + t198.size ≤ 9223372036854775807 then ((spec_l01Var.f k a0_1).bind fun t199 => (if ((⟨#[83]⟩ : ByteArray) ++ t198).size + t199.size ≤ 9223372036854775807 then ((spec_Frame.f k (((⟨#[83]⟩ : ByteArray) ++ t198) ++ t199)).bind fun bt200 => (some bt200.1)) else (none))) else (none)) = some r:=H;have A2:=A_ A20;clear A20
 by_cases c3 : 1 + t198.size ≤ 9223372036854775807
 ·rw [if_pos c3] at H;have c3b0:=eq_true c3;have c3b1 : decide (1 + t198.size ≤ 9223372036854775807) = true:=de_ c3
  try have c3b2 : (9223372036854775807 < 1 + t198.size) = False:=eq_false (Nat.not_lt.2 c3)
  replace H:=ob_.mp H;obtain ⟨t199,A40,H⟩:=H;replace H : (if ((⟨#[83]⟩ : ByteArray) ++ t198).size + t199.size ≤ 9223372036854775807 then ((spec_Frame.f k (((⟨#[83]⟩ : ByteArray) ++ t198) ++ t199)).bind fun bt200 => (some bt200.1)) else (none)) = some r:=H;have A4:=A_ A40;clear A40
  by_cases c5 : ((⟨#[83]⟩ : ByteArray) ++ t198).size + t199.size ≤ 9223372036854775807
  ·rw [if_pos c5] at H;have c5b0:=eq_true c5;have c5b1 : decide (((⟨#[83]⟩ : ByteArray) ++ t198).size + t199.size ≤ 9223372036854775807) = true:=de_ c5
   try have c5b2 : (9223372036854775807 < ((⟨#[83]⟩ : ByteArray) ++ t198).size + t199.size) = False:=eq_false (Nat.not_lt.2 c5)
   try have c5b3 : (9223372036854775807 < 1 + t198.size + t199.size) = False:=eq_false (by have h_:=c5;simp only [ByteArray.size_append,show ∀ x_ : UInt8,(⟨#[x_]⟩ : ByteArray).size = 1 from fun _ => rfl] at h_;omega)
   replace H:=ob_.mp H;obtain ⟨⟨t200,t201⟩,A60,H⟩:=H;replace H : (some t200) = some r:=H;have A6:=A_ A60;clear A60;obtain rfl:=Option.some.inj H;go_enter Try.func115,Try.ntmps115
   try go_wp2_with (first|((with_reducible refine gate_dst (N:=1) rfl ?_);refine box_event ?hg (N:=1) ?hd (cs:=#[.int .i64 a0_0,.int .i64 a0_1,.slice A0_2 l0_2.length c0_2]) (t:=60) ?hr ?_;(case hd => rfl);(case hg => rfl);(case hr => exact gx_);intro gb197 hg w7 hbox hb;have BK197:=A_ (hbox);have GW197:=A_ ((by rw [hg];exact (bz_ (bq_ HB)) : w.heap.size ≤ gb197));have GE197:=A_ ((by rw [hg];exact (bz_ (bq_ HB)) : w.heap.size ≤ gb197));replace HB:=A_ (bs_ (bq_ HB) hb);clear hb hbox hg))
   replace BK197:=A_ (kd_ BK197.out);replace HB:=A_ (pd_ HB.out);refine start_ (n:=14) (S:=fun w' => w'.cell? ⟨gb197,0,none⟩ = some (.int .i64 a0_0) ∧ w'.cell? ⟨gb197,1,none⟩ = some (.int .i64 a0_1) ∧ w'.cell? ⟨gb197,2,none⟩ = some (.slice A0_2 l0_2.length c0_2)) (ds:=[]) #[false,false,false,false,false,false,false,false,false,false,false,false,false,false] (by kernel_rfl) rfl rfl ⟨kC_ BK197 0,kC_ BK197 1,kC_ BK197 2⟩ (fun hHeld => ?_);refine with_tabW spec_l12Head.tab1 spec_l12Head.bits1 (fun HT_ HW_ => ?_);generalize w7.drew = w8 at BK197 HB hHeld ⊢;refine pure_ (i:=0) (N:=some 6) (v:=?_) (a':=?_) #[true,false,false,false,false,false,false,false,false,false,false,false,false,false] rfl rfl (any_of HT_.out (by kernel_rfl)) (fun _ _ _ h => h) (Or.inl ⟨by rfl,?_⟩) ?_ ?_;rotate_left
   ·intro w';go_simp;with_reducible rfl
   rotate_left
   ·exact ux_
   refine pure_ (i:=4) (N:=some 10) (v:=?_) (a':=?_) #[true,false,false,false,true,false,false,false,false,false,false,false,false,false] rfl rfl (any_of HT_.out (by kernel_rfl)) (fun _ _ _ h => h) (Or.inl ⟨by rfl,?_⟩) ?_ ?_;rotate_left
   ·intro w';go_simp;with_reducible rfl
   rotate_left
   ·exact ux_
   refine take_ (i:=1) (N:=some 7) (v:=?_) (a':=?_) #[true,true,false,false,true,false,false,false,false,false,false,false,false,false] rfl rfl (take_ofW HT_.out HW_.out (by kernel_rfl)) (fun _ _ _ h => h) (Or.inl ⟨by rfl,?_⟩) hHeld ?_ ?_;rotate_left
   ·rintro w' ⟨s0,s1,s2⟩;go_simp;with_reducible rfl
   rotate_left
   ·exact ux_
   refine take_ (i:=5) (N:=some 11) (v:=?_) (a':=?_) #[true,true,false,false,true,true,false,false,false,false,false,false,false,false] rfl rfl (take_ofW HT_.out HW_.out (by kernel_rfl)) (fun _ _ _ h => h) (Or.inl ⟨by rfl,?_⟩) hHeld ?_ ?_;rotate_left
   ·rintro w' ⟨s0,s1,s2⟩;go_simp;with_reducible rfl
   rotate_left
   ·exact ux_
   refine one_ (i:=2) (N:=some 8) #[true,true,true,false,true,true,false,false,false,false,false,false,false,false] rfl rfl (one_of HT_.out (by kernel_rfl)) (by decide) (fun K hK => ?_);refine goes_ Try.func80 (by kernel_rfl) rfl #[.int .i64 a0_0] (by rfl) rfl rfl aq_ ?_;with_reducible refine (spec_l01Var.calls k a0_0 t198 _ A2.out).mono ?_;rintro e w9 ⟨rfl,hb⟩;refine ⟨_,rfl,?_⟩;replace BK197:=A_ (kb_ (kq_ BK197) hb);replace HB:=A_ (bs_ (bq_ HB) hb)
   (try clear hb)
   (try clear hb2)
   (try clear hk)
   (try clear hi)
   refine hK.out _ _ ⟨kC_ BK197 0,kC_ BK197 1,kC_ BK197 2⟩ (fun hHeld => ?_);clear hK K;refine norm_ (a':=?_) ?_ ?_;rotate_left
   ·show Act.put _ (some 8) _ = _;simp only [Act.put,s1_,s2_,s3_,i64_w,i32_w];rfl
   refine pure_ (i:=3) (N:=some 9) (v:=?_) (a':=?_) #[true,true,true,true,true,true,false,false,false,false,false,false,false,false] rfl rfl (any_of HT_.out (by kernel_rfl)) (fun _ _ _ h => h) (Or.inl ⟨by rfl,?_⟩) ?_ ?_;rotate_left
   ·intro w';go_simp;with_reducible rfl
   rotate_left
   ·exact ux_
   refine one_ (i:=6) (N:=some 12) #[true,true,true,true,true,true,true,false,false,false,false,false,false,false] rfl rfl (one_of HT_.out (by kernel_rfl)) (by decide) (fun K hK => ?_);refine goes_ Try.func80 (by kernel_rfl) rfl #[.int .i64 a0_1] (by rfl) rfl rfl aq_ ?_;with_reducible refine (spec_l01Var.calls k a0_1 t199 _ A4.out).mono ?_;rintro e w10 ⟨rfl,hb⟩;refine ⟨_,rfl,?_⟩;replace BK197:=A_ (kb_ (kq_ BK197) hb);replace HB:=A_ (bs_ (bq_ HB) hb)
   (try clear hb)
   (try clear hb2)
   (try clear hk)
   (try clear hi)
   refine hK.out _ _ ⟨kC_ BK197 0,kC_ BK197 1,kC_ BK197 2⟩ (fun hHeld => ?_);clear hK K;refine norm_ (a':=?_) ?_ ?_;rotate_left
   ·show Act.put _ (some 12) _ = _;simp only [Act.put,s1_,s2_,s3_,i64_w,i32_w];rfl
   refine pure_ (i:=7) (N:=some 13) (v:=?_) (a':=?_) #[true,true,true,true,true,true,true,true,false,false,false,false,false,false] rfl rfl (any_of HT_.out (by kernel_rfl)) (fun _ _ _ h => h) (Or.inl ⟨by rfl,?_⟩) ?_ ?_;rotate_left
   ·intro w';go_simp;with_reducible rfl
   rotate_left
   ·exact ux_
   refine one_ (i:=8) (N:=some 14) #[true,true,true,true,true,true,true,true,true,false,false,false,false,false] rfl rfl (one_of HT_.out (by kernel_rfl)) (by decide) (fun K hK => ?_);refine goes_ Try.func79 (by kernel_rfl) rfl #[.string (((⟨#[83]⟩ : ByteArray) ++ t198) ++ t199)] (by rfl) rfl rfl aq_ ?_;with_reducible refine (spec_Frame.calls k (((⟨#[83]⟩ : ByteArray) ++ t198) ++ t199) t200 t201 _ A6.out).mono ?_;rintro e w11 ⟨rfl,hb⟩;refine ⟨_,rfl,?_⟩;replace BK197:=A_ (kb_ (kq_ BK197) hb);replace HB:=A_ (bs_ (bq_ HB) hb)
   (try clear hb)
   (try clear hb2)
   (try clear hk)
   (try clear hi)
   refine hK.out _ _ ⟨kC_ BK197 0,kC_ BK197 1,kC_ BK197 2⟩ (fun hHeld => ?_);clear hK K;refine norm_ (a':=?_) ?_ ?_;rotate_left
   ·show Act.put _ (some 14) _ = _;simp only [Act.put,s1_,s2_,s3_,i64_w,i32_w];rfl
   refine pure_ (i:=9) (N:=some 5) (v:=?_) (a':=?_) #[true,true,true,true,true,true,true,true,true,true,false,false,false,false] rfl rfl (any_of HT_.out (by kernel_rfl)) (fun _ _ _ h => h) (Or.inl ⟨by rfl,?_⟩) ?_ ?_;rotate_left
   ·intro w';go_simp;with_reducible rfl
   rotate_left
   ·exact ux_
   refine pure_ (i:=10) (N:=some 15) (v:=?_) (a':=?_) #[true,true,true,true,true,true,true,true,true,true,true,false,false,false] rfl rfl (any_of HT_.out (by kernel_rfl)) (fun _ _ _ h => h) (Or.inl ⟨by rfl,?_⟩) ?_ ?_;rotate_left
   ·intro w';go_simp;with_reducible rfl
   rotate_left
   ·exact ux_
   refine pure_ (i:=11) (N:=some 16) (v:=?_) (a':=?_) #[true,true,true,true,true,true,true,true,true,true,true,true,false,false] rfl rfl (any_of HT_.out (by kernel_rfl)) (fun _ _ _ h => h) (Or.inl ⟨by rfl,?_⟩) ?_ ?_;rotate_left
   ·intro w';go_simp;with_reducible rfl
   rotate_left
   ·exact ux_
   refine pure_ (i:=12) (N:=some 3) (v:=?_) (a':=?_) #[true,true,true,true,true,true,true,true,true,true,true,true,true,false] rfl rfl (any_of HT_.out (by kernel_rfl)) (fun _ _ _ h => h) (Or.inl ⟨by rfl,?_⟩) ?_ ?_;rotate_left
   ·intro w';go_simp;with_reducible rfl
   rotate_left
   ·exact ux_
   refine pure_ (i:=13) (N:=some 4) (v:=?_) (a':=?_) #[true,true,true,true,true,true,true,true,true,true,true,true,true,true] rfl rfl (any_of HT_.out (by kernel_rfl)) (fun _ _ _ h => h) (Or.inl ⟨by rfl,?_⟩) ?_ ?_;rotate_left
   ·intro w';go_simp;with_reducible rfl
   rotate_left
   ·exact ux_
   refine done_ (done_of HT_.out (by kernel_rfl)) ?_
   try go_wp2
   go_ret;exact ⟨ex_,bq_ HB⟩
  ·rw [if_neg c5] at H;exact absurd H (by simp)
 ·rw [if_neg c3] at H;exact absurd H (by simp)
end Go.Proofs.Ytgpafelepkhdoaa.PFnBehind
