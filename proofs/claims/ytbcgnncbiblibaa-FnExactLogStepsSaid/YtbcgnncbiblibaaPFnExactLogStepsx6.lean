/- The contracts of the Go functions that this law reaches: what each call returns, by a plain Lean function of its arguments. No conditions but those each contract names. By the kit's print.py, run by this session's wip/gen/pp.py with facts and hand proofs beside it: not to the letter what print.sh prints. -/
import Derived.Test.YtbcgnncbiblibaaPFnExactLogStepsx0
import Derived.Test.YtbcgnncbiblibaaPFnExactLogStepsx3
import Derived.Test.YtbcgnncbiblibaaPFnExactLogStepsx5
namespace Go.Proofs.Ytbcgnncbiblibaa.PFnExactLogSteps
open Go.RowKit Go.Proofs.YtbcgnncbiblibaaW.PrintWords Go.Proofs.YtbcgnncbiblibaaW.PrintLast Go.Proofs.YtbcgnncbiblibaaW.PrintMore
attribute [local go_sem] max2_int min2_int max_two min_two max_three min_three max_four min_four
set_option linter.unusedVariables false
set_option linter.unusedSimpArgs false
def spec_l12Start.f (k : Nat) (a0 : ByteArray) : Option (Int × Int × (List (S69)) × Bool) := (spec_l05Take.f a0 0 false 1).bind fun bt159 => ((spec_l05Var.f k bt159.2.1 bt159.2.2.1 bt159.2.2.2).bind fun bt164 => ((spec_l05Var.f k bt164.2.1 bt164.2.2.1 bt164.2.2.2).bind fun bt168 => (if bt168.2.2.2 = true then (some (0, 0, ([] : List (S69)), false)) else ((spec_l01Var.f k bt164.1).bind fun t172 => (if 1 + t172.size ≤ 9223372036854775807 then ((spec_l01Var.f k bt168.1).bind fun t173 => (if ((⟨#[83]⟩ : ByteArray) ++ t172).size + t173.size ≤ 9223372036854775807 then (if (((⟨#[83]⟩ : ByteArray) ++ t172) ++ t173).toList = a0.toList then (some (bt164.1, bt168.1, ([] : List (S69)), true)) else (some (0, 0, ([] : List (S69)), false))) else (none))) else (none))))))
theorem spec_l12Start.mono : ∀ a0 k, LeO (spec_l12Start.f k a0) (spec_l12Start.f (k + 1) a0) := by
 intro a0 k
 unfold spec_l12Start.f
 repeat' first
   | (with_reducible exact spec_l01Var.mono _ _)
   | (with_reducible exact spec_l05Var.mono _ _ _ _)
   | (with_reducible exact LeO.refl _)
   | (with_reducible refine LeO.ite ?_ ?_)
   | (with_reducible refine LeO.bind ?_ (fun _ => ?_))
def spec_l12Start.T6 : Bool × List (List Nat × List Nat) := (true, [([], []), ([0], [0]), ([1], [1]), ([2], [2]), ([3], [3]), ([4], [4]), ([5, 4], [4, 5]), ([6, 4, 4], [4, 6]), ([7, 4], [4, 7]), ([4], [4]), ([9, 4], [4, 9]), ([10, 7, 4], [4, 10]), ([8, 11, 4], [4, 8, 11]), ([4], [4]), ([12, 13, 4], [4, 12, 13]), ([4, 14], [4, 14])])
def spec_l12Start.B6 : List Nat := [0, 1, 3, 7, 15, 31, 63, 127, 255, 31, 543, 1791, 4095, 31, 16383, 32767]
theorem spec_l12Start.tab6 : rtab .any (opsOf Try.f40 6) = spec_l12Start.T6 := by kernel_rfl
theorem spec_l12Start.bits6 : waitsOk spec_l12Start.T6.2 spec_l12Start.B6 = true := by kernel_rfl
set_option maxHeartbeats 8000000 in
set_option maxRecDepth 100000 in
theorem spec_l12Start.calls (k : Nat) (a0 : ByteArray) (r1 : Int) (r2 : Int) (r3 : List (S69)) (r4 : Bool) (w : World) (h : spec_l12Start.f k a0 = some (r1, r2, r3, r4)) :
  Calls Try.prog 40 #[.string a0] w fun e w' => ∃ v2_ : Value,e = .returned (.tuple #[.agg #[.int .i64 r1,.int .i64 r2,v2_],.bool r4]) ∧ Kd.R k69 69 w' w.heap.size (fun _ => True) v2_ r3 ∧ Below w.heap.size w w':=by
 have hu24:=Try.underlying24;have hu98:=Try.underlying98;have HB:=A_ (Below.refl w.heap.size w);unfold spec_l12Start.f at h;have H:=h;clear h;replace H:=ob_.mp H;obtain ⟨⟨t159,t160,t161,t162⟩,A20,H⟩:=H;(try dsimp only at H);have A2:=A_ A20;clear A20;replace H:=ob_.mp H;obtain ⟨⟨t164,t165,t166,t167⟩,A30,H⟩:=H;(try dsimp only at H);have A3:=A_ A30;clear A30;replace H:=ob_.mp H;obtain ⟨⟨t168,t169,t170,t171⟩,A40,H⟩:=H;(try dsimp only at H);have A4:=A_ A40;clear A40
 by_cases c5 : t171 = true
 ·subst c5
  rw [if_pos rfl] at H;simp only [Option.some.injEq,Prod.mk.injEq] at H;obtain ⟨rfl,rfl,rfl,rfl⟩:=H;go_enter Try.func40,Try.ntmps40
  try go_wp2_with (first|((with_reducible refine gate_dst (N:=2) rfl ?_);refine bE_ 2 #[.int .i64 0,.int .i64 0,.slice none 0 0] 24 ?_;intro gb157 hg w6 hbox hb;have BK157:=A_ (hbox);have GW157:=gE_ hg HB;have GE157:=gE_ hg HB;replace HB:=bS_ HB hb;clear hb hbox hg)|((with_reducible refine gate_dst (N:=8) rfl ?_);refine bE_ 8 #[.string a0,.int .i64 0,.bool false] 98 ?_;intro gb158 hg w7 hbox hb;have HI158:=A_ ((show IsS98 w w7 gb158 a0 0 false from ⟨hbox,(by rw [hg];exact (bz_ (bq_ HB)) : w.heap.size ≤ gb158)⟩));replace HB:=bS_ HB hb;have NB157_158:=nB_ hg BK157;have NB158_157:=nC_ hg BK157;replace BK157:=kB_ BK157 hb;clear hb hbox hg)|((with_reducible refine gate_callee (f:=60) rfl ?_);refine gL_ (some 10) Try.func60 #[.pointer (some ⟨gb158,0,none⟩),.int .i64 1] ?_;(with_reducible refine (spec_l05Take.calls gb158 a0 0 false 1 t159 t160 t161 t162 w _ ?side1 ?side2 A2.out).mono ?_);(case side1 => exact iq98_ HI158);(case side2 => exact bi_ HB (IsS98.ge HI158.out));rintro e w8 ⟨rfl,hi,hb,hk⟩;refine ⟨_,rfl,?_⟩;replace BK157:=A_ (KeepBut.blk hk (g':=gb157) (o:=.cells #[.int .i64 0,.int .i64 0,.slice none 0 0] 24 (0,0)) (kq_ BK157) NB157_158.out (by simp));replace HB:=A_ (hb);replace HI158:=A_ (hi);(try clear hb);(try clear hk);(try clear hi))|((with_reducible refine gate_dst (N:=5) rfl ?_);refine bE_ 5 #[.int .i64 0,.int .i64 0,.slice none 0 0] 24 ?_;intro gb163 hg w9 hbox hb;have BK163:=A_ (hbox);have GW163:=A_ ((by rw [hg];exact (bz_ (bi_ HB (IsS98.ge HI158.out))) : w.heap.size ≤ gb163));have GE163:=A_ ((by rw [hg];exact (bz_ (bi_ HB (IsS98.ge HI158.out))) : w.heap.size ≤ gb163));replace HB:=A_ (bs_ (bi_ HB (IsS98.ge HI158.out)) hb);have NB157_163:=nB_ hg BK157;have NB163_157:=nC_ hg BK157;replace BK157:=kB_ BK157 hb;have NB158_163:=A_ ((by rw [hg];exact nl_ (IsS98.lt (show IsS98 w _ gb158 t160 t161 t162 from iq98_ HI158)) : gb158 ≠ gb163));have NB163_158:=A_ ((by rw [hg];exact ng_ (IsS98.lt (show IsS98 w _ gb158 t160 t161 t162 from iq98_ HI158)) : gb163 ≠ gb158));replace HI158:=A_ (IsS98.below (iq98_ HI158) hb);clear hb hbox hg;have hnb10:=NB163_157.out;have hnc10:=NB157_163.out;have hnb11:=NB163_158.out;have hnc11:=NB158_163.out;obtain ⟨hcz12_0,hcz12_1,hcz12_2,hfz12_0,hfz12_1,hfz12_2⟩:=k3f_ BK163)|((with_reducible refine gate_callee (f:=61) rfl ?_);refine gL_ (some 13) Try.func61 #[.pointer (some ⟨gb158,0,none⟩)] ?_;(with_reducible refine (spec_l05Var.calls k gb158 t160 t161 t162 t164 t165 t166 t167 w _ ?side1 ?side2 A3.out).mono ?_);(case side1 => exact iq98_ HI158);(case side2 => exact bi_ HB (IsS98.ge HI158.out));rintro e w13 ⟨rfl,hi,hb,hk⟩;refine ⟨_,rfl,?_⟩;replace BK157:=A_ (KeepBut.blk hk (g':=gb157) (o:=.cells #[.int .i64 0,.int .i64 0,.slice none 0 0] 24 (0,0)) (kz_ BK157) NB157_158.out (by simp));replace BK163:=A_ (KeepBut.blk hk (g':=gb163) (o:=.cells #[.int .i64 0,.int .i64 0,.slice none 0 0] 24 (0,0)) (kz_ BK163) NB163_158.out (by simp));replace HB:=A_ (hb);replace HI158:=A_ (hi);(try clear hb);(try clear hk);(try clear hi);obtain ⟨hcz14_0,hcz14_1,hcz14_2,hfz14_0,hfz14_1,hfz14_2⟩:=k3f_ BK163)|((with_reducible refine gate_callee (f:=61) rfl ?_);refine gL_ (some 16) Try.func61 #[.pointer (some ⟨gb158,0,none⟩)] ?_;(with_reducible refine (spec_l05Var.calls k gb158 t165 t166 t167 t168 t169 t170 true w _ ?side1 ?side2 A4.out).mono ?_);(case side1 => exact iq98_ HI158);(case side2 => exact bi_ HB (IsS98.ge HI158.out));rintro e w15 ⟨rfl,hi,hb,hk⟩;refine ⟨_,rfl,?_⟩;replace BK157:=A_ (KeepBut.blk hk (g':=gb157) (o:=.cells #[.int .i64 0,.int .i64 0,.slice none 0 0] 24 (0,0)) (kz_ BK157) NB157_158.out (by simp));replace BK163:=A_ (KeepBut.blk hk (g':=gb163) (o:=.cells #[.int .i64 t164,.int .i64 0,.slice none 0 0] 24 (0,0)) (kz_ BK163) NB163_158.out (by simp));replace HB:=A_ (hb);replace HI158:=A_ (hi);(try clear hb);(try clear hk);(try clear hi);obtain ⟨hcz16_0,hcz16_1,hcz16_2,hfz16_0,hfz16_1,hfz16_2⟩:=k3f_ BK163))
  have n0_ : Aside0 ((w15.setCell ⟨gb163,1,none⟩ (.int .i64 t168)).heap[gb157]? = some (.cells #[.int .i64 0,.int .i64 0,.slice none 0 0] 24 (0,0))):=⟨kz_ BK157⟩;have n1_ : Aside0 ((w15.setCell ⟨gb163,1,none⟩ (.int .i64 t168)).heap[gb163]? = some (.cells #[.int .i64 t164,.int .i64 t168,.slice none 0 0] 24 (0,0))):=⟨kz_ BK163⟩;have n2_ : Aside0 (IsS98 w (w15.setCell ⟨gb163,1,none⟩ (.int .i64 t168)) gb158 t169 t170 true):=⟨iq98_ HI158⟩;have n3_ : Aside0 (Below w.heap.size w (w15.setCell ⟨gb163,1,none⟩ (.int .i64 t168))):=⟨bi_ HB (IsS98.ge HI158.out)⟩
  (try clear BK157)
  (try clear BK163)
  (try clear HI158)
  (try clear HB)
  generalize (w15.setCell ⟨gb163,1,none⟩ (.int .i64 t168)) = w17 at n0_ n1_ n2_ n3_ ⊢;have BK157:=n0_;have BK163:=n1_;have HI158:=n2_;have HB:=n3_;clear n0_ n1_ n2_ n3_;replace BK157:=A_ (kd_ BK157.out);replace BK163:=A_ (kd_ BK163.out);replace HI158:=A_ (IsS98.drew HI158.out);replace HB:=A_ (pd_ HB.out);refine start_ (n:=16) (S:=fun w' => w'.cell? ⟨gb158,0,none⟩ = some (.string t169) ∧ w'.cell? ⟨gb158,1,none⟩ = some (.int .i64 t170) ∧ w'.cell? ⟨gb158,2,none⟩ = some (.bool true)) (ds:=[]) #[false,false,false,false,false,false,false,false,false,false,false,false,false,false,false,false] (by kernel_rfl) rfl rfl ⟨cellS98_0 HI158.out.1,cellS98_1 HI158.out.1,cellS98_2 HI158.out.1⟩ (fun hHeld => ?_);refine with_tabW spec_l12Start.tab6 spec_l12Start.bits6 (fun HT_ HW_ => ?_);generalize w17.drew = w18 at BK157 BK163 HI158 HB hHeld ⊢;refine pU_ 0 (some 18) ?_
  refine pU_ 1 (some 19) ?_
  refine pU_ 2 (some 20) ?_
  refine tK_ 3 (some 21) hHeld ?_
  refine pU_ 4 (some 22) ?_
  refine pure_ (i:=5) (N:=some 23) (v:=undef) (a':=?_) #[true,true,true,true,true,true,false,false,false,false,false,false,false,false,false,false] rfl rfl (any_of HT_.out (by kernel_rfl)) (fun _ _ _ h => h) (Or.inr ⟨by rfl,rfl⟩) ?_ ?_;rotate_left
  ·exact ux_
  refine pure_ (i:=6) (N:=some 24) (v:=undef) (a':=?_) #[true,true,true,true,true,true,true,false,false,false,false,false,false,false,false,false] rfl rfl (any_of HT_.out (by kernel_rfl)) (fun _ _ _ h => h) (Or.inr ⟨by rfl,rfl⟩) ?_ ?_;rotate_left
  ·exact ux_
  refine pure_ (i:=7) (N:=some 25) (v:=undef) (a':=?_) #[true,true,true,true,true,true,true,true,false,false,false,false,false,false,false,false] rfl rfl (any_of HT_.out (by kernel_rfl)) (fun _ _ _ h => h) (Or.inr ⟨by rfl,rfl⟩) ?_ ?_;rotate_left
  ·exact ux_
  refine pure_ (i:=8) (N:=some 26) (v:=undef) (a':=?_) #[true,true,true,true,true,true,true,true,true,false,false,false,false,false,false,false] rfl rfl (any_of HT_.out (by kernel_rfl)) (fun _ _ _ h => h) (Or.inr ⟨by rfl,rfl⟩) ?_ ?_;rotate_left
  ·exact ux_
  refine pure_ (i:=9) (N:=some 27) (v:=undef) (a':=?_) #[true,true,true,true,true,true,true,true,true,true,false,false,false,false,false,false] rfl rfl (any_of HT_.out (by kernel_rfl)) (fun _ _ _ h => h) (Or.inr ⟨by rfl,rfl⟩) ?_ ?_;rotate_left
  ·exact ux_
  refine pure_ (i:=10) (N:=some 28) (v:=undef) (a':=?_) #[true,true,true,true,true,true,true,true,true,true,true,false,false,false,false,false] rfl rfl (any_of HT_.out (by kernel_rfl)) (fun _ _ _ h => h) (Or.inr ⟨by rfl,rfl⟩) ?_ ?_;rotate_left
  ·exact ux_
  refine pure_ (i:=11) (N:=some 29) (v:=undef) (a':=?_) #[true,true,true,true,true,true,true,true,true,true,true,true,false,false,false,false] rfl rfl (any_of HT_.out (by kernel_rfl)) (fun _ _ _ h => h) (Or.inr ⟨by rfl,rfl⟩) ?_ ?_;rotate_left
  ·exact ux_
  refine pure_ (i:=12) (N:=some 30) (v:=undef) (a':=?_) #[true,true,true,true,true,true,true,true,true,true,true,true,true,false,false,false] rfl rfl (any_of HT_.out (by kernel_rfl)) (fun _ _ _ h => h) (Or.inr ⟨by rfl,rfl⟩) ?_ ?_;rotate_left
  ·exact ux_
  refine pure_ (i:=13) (N:=some 31) (v:=undef) (a':=?_) #[true,true,true,true,true,true,true,true,true,true,true,true,true,true,false,false] rfl rfl (any_of HT_.out (by kernel_rfl)) (fun _ _ _ h => h) (Or.inr ⟨by rfl,rfl⟩) ?_ ?_;rotate_left
  ·exact ux_
  refine pure_ (i:=14) (N:=some 32) (v:=undef) (a':=?_) #[true,true,true,true,true,true,true,true,true,true,true,true,true,true,true,false] rfl rfl (any_of HT_.out (by kernel_rfl)) (fun _ _ _ h => h) (Or.inr ⟨by rfl,rfl⟩) ?_ ?_;rotate_left
  ·exact ux_
  refine pU_ 15 (some 33) ?_
  refine done_ (done_of HT_.out (by kernel_rfl)) ?_;have hnb19:=NB157_158.out;have hnc19:=NB158_157.out;obtain ⟨hcz20_0,hcz20_1,hcz20_2,hfz20_0,hfz20_1,hfz20_2⟩:=k3f_ BK157
  try go_wp2
  refine bodyPost_ret (results_ct rfl _ _ gb157 24 #[.int .i64 0,.int .i64 0,.slice none 0 0] (0,0) _ rfl (kz_ BK157) Try.underlying24 rfl (by kernel_rfl)) rfl ?_;exact ⟨_,by rfl,by exact Kd.R_nil _ _ _ _ _,bi_ HB (IsS98.ge HI158.out)⟩
 ·replace c5:=Bool.eq_false_iff.mpr c5;subst c5
  have H1 : ((spec_l01Var.f k t164).bind fun t172 => (if 1 + t172.size ≤ 9223372036854775807 then ((spec_l01Var.f k t168).bind fun t173 => (if ((⟨#[83]⟩ : ByteArray) ++ t172).size + t173.size ≤ 9223372036854775807 then (if (((⟨#[83]⟩ : ByteArray) ++ t172) ++ t173).toList = a0.toList then (some (t164,t168,([] : List (S69)),true)) else (some (0,0,([] : List (S69)),false))) else (none))) else (none))) = some (r1,r2,r3,r4):=by rw [if_neg (show ¬ (false = true) by decide)] at H;exact H
  clear H;have H:=H1;clear H1;replace H:=ob_.mp H;obtain ⟨t172,A210,H⟩:=H;have A21:=A_ A210;clear A210
  by_cases c22 : 1 + t172.size ≤ 9223372036854775807
  ·rw [if_pos c22] at H;have c22b0:=eq_true c22;have c22b1 : decide (1 + t172.size ≤ 9223372036854775807) = true:=de_ c22
   try have c22b2 : (9223372036854775807 < 1 + t172.size) = False:=eq_false (Nat.not_lt.2 c22)
   replace H:=ob_.mp H;obtain ⟨t173,A230,H⟩:=H;have A23:=A_ A230;clear A230
   by_cases c24 : ((⟨#[83]⟩ : ByteArray) ++ t172).size + t173.size ≤ 9223372036854775807
   ·rw [if_pos c24] at H;have c24b0:=eq_true c24;have c24b1 : decide (((⟨#[83]⟩ : ByteArray) ++ t172).size + t173.size ≤ 9223372036854775807) = true:=de_ c24
    try have c24b2 : (9223372036854775807 < ((⟨#[83]⟩ : ByteArray) ++ t172).size + t173.size) = False:=eq_false (Nat.not_lt.2 c24)
    try have c24b3 : (9223372036854775807 < 1 + t172.size + t173.size) = False:=eq_false (by have h_:=c24;simp only [ByteArray.size_append,show ∀ x_ : UInt8,(⟨#[x_]⟩ : ByteArray).size = 1 from fun _ => rfl] at h_;omega)
    by_cases c25 : (((⟨#[83]⟩ : ByteArray) ++ t172) ++ t173).toList = a0.toList
    ·rw [if_pos c25] at H;have c25b0 : ((((⟨#[83]⟩ : ByteArray) ++ t172) ++ t173).toList == a0.toList) = true:=beq_iff_eq.mpr c25;have c25b1 : ((((⟨#[83]⟩ : ByteArray) ++ t172) ++ t173).toList != a0.toList) = false:=bne_eq_false_iff_eq.mpr c25;clear c25;simp only [Option.some.injEq,Prod.mk.injEq] at H;obtain ⟨rfl,rfl,rfl,rfl⟩:=H;go_enter Try.func40,Try.ntmps40
     try go_wp2_with (first|((with_reducible refine gate_dst (N:=2) rfl ?_);refine bE_ 2 #[.int .i64 0,.int .i64 0,.slice none 0 0] 24 ?_;intro gb157 hg w26 hbox hb;have BK157:=A_ (hbox);have GW157:=gE_ hg HB;have GE157:=gE_ hg HB;replace HB:=bS_ HB hb;clear hb hbox hg)|((with_reducible refine gate_dst (N:=8) rfl ?_);refine bE_ 8 #[.string a0,.int .i64 0,.bool false] 98 ?_;intro gb158 hg w27 hbox hb;have HI158:=A_ ((show IsS98 w w27 gb158 a0 0 false from ⟨hbox,(by rw [hg];exact (bz_ (bq_ HB)) : w.heap.size ≤ gb158)⟩));replace HB:=bS_ HB hb;have NB157_158:=nB_ hg BK157;have NB158_157:=nC_ hg BK157;replace BK157:=kB_ BK157 hb;clear hb hbox hg)|((with_reducible refine gate_callee (f:=60) rfl ?_);refine gL_ (some 10) Try.func60 #[.pointer (some ⟨gb158,0,none⟩),.int .i64 1] ?_;(with_reducible refine (spec_l05Take.calls gb158 a0 0 false 1 t159 t160 t161 t162 w _ ?side1 ?side2 A2.out).mono ?_);(case side1 => exact iq98_ HI158);(case side2 => exact bi_ HB (IsS98.ge HI158.out));rintro e w28 ⟨rfl,hi,hb,hk⟩;refine ⟨_,rfl,?_⟩;replace BK157:=A_ (KeepBut.blk hk (g':=gb157) (o:=.cells #[.int .i64 0,.int .i64 0,.slice none 0 0] 24 (0,0)) (kq_ BK157) NB157_158.out (by simp));replace HB:=A_ (hb);replace HI158:=A_ (hi);(try clear hb);(try clear hk);(try clear hi))|((with_reducible refine gate_dst (N:=5) rfl ?_);refine bE_ 5 #[.int .i64 0,.int .i64 0,.slice none 0 0] 24 ?_;intro gb163 hg w29 hbox hb;have BK163:=A_ (hbox);have GW163:=A_ ((by rw [hg];exact (bz_ (bi_ HB (IsS98.ge HI158.out))) : w.heap.size ≤ gb163));have GE163:=A_ ((by rw [hg];exact (bz_ (bi_ HB (IsS98.ge HI158.out))) : w.heap.size ≤ gb163));replace HB:=A_ (bs_ (bi_ HB (IsS98.ge HI158.out)) hb);have NB157_163:=nB_ hg BK157;have NB163_157:=nC_ hg BK157;replace BK157:=kB_ BK157 hb;have NB158_163:=A_ ((by rw [hg];exact nl_ (IsS98.lt (show IsS98 w _ gb158 t160 t161 t162 from iq98_ HI158)) : gb158 ≠ gb163));have NB163_158:=A_ ((by rw [hg];exact ng_ (IsS98.lt (show IsS98 w _ gb158 t160 t161 t162 from iq98_ HI158)) : gb163 ≠ gb158));replace HI158:=A_ (IsS98.below (iq98_ HI158) hb);clear hb hbox hg;have hnb30:=NB163_157.out;have hnc30:=NB157_163.out;have hnb31:=NB163_158.out;have hnc31:=NB158_163.out;obtain ⟨hcz32_0,hcz32_1,hcz32_2,hfz32_0,hfz32_1,hfz32_2⟩:=k3f_ BK163)|((with_reducible refine gate_callee (f:=61) rfl ?_);refine gL_ (some 13) Try.func61 #[.pointer (some ⟨gb158,0,none⟩)] ?_;(with_reducible refine (spec_l05Var.calls k gb158 t160 t161 t162 t164 t165 t166 t167 w _ ?side1 ?side2 A3.out).mono ?_);(case side1 => exact iq98_ HI158);(case side2 => exact bi_ HB (IsS98.ge HI158.out));rintro e w33 ⟨rfl,hi,hb,hk⟩;refine ⟨_,rfl,?_⟩;replace BK157:=A_ (KeepBut.blk hk (g':=gb157) (o:=.cells #[.int .i64 0,.int .i64 0,.slice none 0 0] 24 (0,0)) (kz_ BK157) NB157_158.out (by simp));replace BK163:=A_ (KeepBut.blk hk (g':=gb163) (o:=.cells #[.int .i64 0,.int .i64 0,.slice none 0 0] 24 (0,0)) (kz_ BK163) NB163_158.out (by simp));replace HB:=A_ (hb);replace HI158:=A_ (hi);(try clear hb);(try clear hk);(try clear hi);obtain ⟨hcz34_0,hcz34_1,hcz34_2,hfz34_0,hfz34_1,hfz34_2⟩:=k3f_ BK163)|((with_reducible refine gate_callee (f:=61) rfl ?_);refine gL_ (some 16) Try.func61 #[.pointer (some ⟨gb158,0,none⟩)] ?_;(with_reducible refine (spec_l05Var.calls k gb158 t165 t166 t167 t168 t169 t170 false w _ ?side1 ?side2 A4.out).mono ?_);(case side1 => exact iq98_ HI158);(case side2 => exact bi_ HB (IsS98.ge HI158.out));rintro e w35 ⟨rfl,hi,hb,hk⟩;refine ⟨_,rfl,?_⟩;replace BK157:=A_ (KeepBut.blk hk (g':=gb157) (o:=.cells #[.int .i64 0,.int .i64 0,.slice none 0 0] 24 (0,0)) (kz_ BK157) NB157_158.out (by simp));replace BK163:=A_ (KeepBut.blk hk (g':=gb163) (o:=.cells #[.int .i64 t164,.int .i64 0,.slice none 0 0] 24 (0,0)) (kz_ BK163) NB163_158.out (by simp));replace HB:=A_ (hb);replace HI158:=A_ (hi);(try clear hb);(try clear hk);(try clear hi);obtain ⟨hcz36_0,hcz36_1,hcz36_2,hfz36_0,hfz36_1,hfz36_2⟩:=k3f_ BK163))
     have n0_ : Aside0 ((w35.setCell ⟨gb163,1,none⟩ (.int .i64 t168)).heap[gb157]? = some (.cells #[.int .i64 0,.int .i64 0,.slice none 0 0] 24 (0,0))):=⟨kz_ BK157⟩;have n1_ : Aside0 ((w35.setCell ⟨gb163,1,none⟩ (.int .i64 t168)).heap[gb163]? = some (.cells #[.int .i64 t164,.int .i64 t168,.slice none 0 0] 24 (0,0))):=⟨kz_ BK163⟩;have n2_ : Aside0 (IsS98 w (w35.setCell ⟨gb163,1,none⟩ (.int .i64 t168)) gb158 t169 t170 false):=⟨iq98_ HI158⟩;have n3_ : Aside0 (Below w.heap.size w (w35.setCell ⟨gb163,1,none⟩ (.int .i64 t168))):=⟨bi_ HB (IsS98.ge HI158.out)⟩
     (try clear BK157)
     (try clear BK163)
     (try clear HI158)
     (try clear HB)
     generalize (w35.setCell ⟨gb163,1,none⟩ (.int .i64 t168)) = w37 at n0_ n1_ n2_ n3_ ⊢;have BK157:=n0_;have BK163:=n1_;have HI158:=n2_;have HB:=n3_;clear n0_ n1_ n2_ n3_;replace BK157:=A_ (kd_ BK157.out);replace BK163:=A_ (kd_ BK163.out);replace HI158:=A_ (IsS98.drew HI158.out);replace HB:=A_ (pd_ HB.out);refine start_ (n:=16) (S:=fun w' => w'.cell? ⟨gb158,0,none⟩ = some (.string t169) ∧ w'.cell? ⟨gb158,1,none⟩ = some (.int .i64 t170) ∧ w'.cell? ⟨gb158,2,none⟩ = some (.bool false) ∧ w'.cell? ⟨gb163,0,none⟩ = some (.int .i64 t164) ∧ w'.cell? ⟨gb163,1,none⟩ = some (.int .i64 t168) ∧ w'.cell? ⟨gb163,2,none⟩ = some (.slice none 0 0)) (ds:=[]) #[false,false,false,false,false,false,false,false,false,false,false,false,false,false,false,false] (by kernel_rfl) rfl rfl ⟨cellS98_0 HI158.out.1,cellS98_1 HI158.out.1,cellS98_2 HI158.out.1,kC_ BK163 0,kC_ BK163 1,kC_ BK163 2⟩ (fun hHeld => ?_);refine with_tabW spec_l12Start.tab6 spec_l12Start.bits6 (fun HT_ HW_ => ?_);generalize w37.drew = w38 at BK157 BK163 HI158 HB hHeld ⊢;refine pU_ 0 (some 18) ?_
     refine pU_ 1 (some 19) ?_
     refine pU_ 2 (some 20) ?_
     refine tK_ 3 (some 21) hHeld ?_
     refine pU_ 4 (some 22) ?_
     refine pU_ 5 (some 23) ?_
     refine pU_ 9 (some 27) ?_
     refine pU_ 13 (some 31) ?_
     refine tK_ 6 (some 24) hHeld ?_
     refine tK_ 10 (some 28) hHeld ?_
     refine oN_ 7 (some 25) (fun K hK => ?_);refine gs_ Try.func54 #[.int .i64 t164] ?_;with_reducible refine (spec_l01Var.calls k t164 t172 _ A21.out).mono ?_;rintro e w39 ⟨rfl,hb⟩;refine ⟨_,rfl,?_⟩;replace BK157:=kB_ BK157 hb;replace BK163:=kB_ BK163 hb;replace HB:=A_ (bs_ (bi_ HB (IsS98.ge HI158.out)) hb);replace HI158:=A_ (IsS98.below (iq98_ HI158) hb)
     (try clear hb)
     refine hK.out _ _ ⟨cellS98_0 HI158.out.1,cellS98_1 HI158.out.1,cellS98_2 HI158.out.1,kC_ BK163 0,kC_ BK163 1,kC_ BK163 2⟩ (fun hHeld => ?_);clear hK K;refine nX_ (some 25) ?_
     refine pU_ 8 (some 26) ?_
     refine oN_ 11 (some 29) (fun K hK => ?_);refine gs_ Try.func54 #[.int .i64 t168] ?_;with_reducible refine (spec_l01Var.calls k t168 t173 _ A23.out).mono ?_;rintro e w40 ⟨rfl,hb⟩;refine ⟨_,rfl,?_⟩;replace BK157:=kB_ BK157 hb;replace BK163:=kB_ BK163 hb;replace HB:=A_ (bs_ (bi_ HB (IsS98.ge HI158.out)) hb);replace HI158:=A_ (IsS98.below (iq98_ HI158) hb)
     (try clear hb)
     refine hK.out _ _ ⟨cellS98_0 HI158.out.1,cellS98_1 HI158.out.1,cellS98_2 HI158.out.1,kC_ BK163 0,kC_ BK163 1,kC_ BK163 2⟩ (fun hHeld => ?_);clear hK K;refine nX_ (some 29) ?_
     refine pU_ 12 (some 30) ?_
     refine pU_ 14 (some 32) ?_
     refine pU_ 15 (some 33) ?_
     refine done_ (done_of HT_.out (by kernel_rfl)) ?_;obtain ⟨hcz41_0,hcz41_1,hcz41_2,hfz41_0,hfz41_1,hfz41_2⟩:=k3f_ BK163;have hnb42:=NB157_158.out;have hnc42:=NB158_157.out;obtain ⟨hcz43_0,hcz43_1,hcz43_2,hfz43_0,hfz43_1,hfz43_2⟩:=k3f_ BK157
     try go_wp2
     refine bodyPost_ret (results_ct rfl _ _ gb157 24 #[.int .i64 t164,.int .i64 t168,.slice none 0 0] (0,0) _ rfl (kz_ BK157) Try.underlying24 rfl (by kernel_rfl)) rfl ?_;exact ⟨_,by rfl,by exact Kd.R_nil _ _ _ _ _,bi_ HB (IsS98.ge HI158.out)⟩
    ·rw [if_neg c25] at H;have c25b0 : ((((⟨#[83]⟩ : ByteArray) ++ t172) ++ t173).toList == a0.toList) = false:=beq_eq_false_iff_ne.mpr c25;have c25b1 : ((((⟨#[83]⟩ : ByteArray) ++ t172) ++ t173).toList != a0.toList) = true:=bne_iff_ne.mpr c25;simp only [Option.some.injEq,Prod.mk.injEq] at H;obtain ⟨rfl,rfl,rfl,rfl⟩:=H;go_enter Try.func40,Try.ntmps40
     try go_wp2_with (first|((with_reducible refine gate_dst (N:=2) rfl ?_);refine bE_ 2 #[.int .i64 0,.int .i64 0,.slice none 0 0] 24 ?_;intro gb157 hg w44 hbox hb;have BK157:=A_ (hbox);have GW157:=gE_ hg HB;have GE157:=gE_ hg HB;replace HB:=bS_ HB hb;clear hb hbox hg)|((with_reducible refine gate_dst (N:=8) rfl ?_);refine bE_ 8 #[.string a0,.int .i64 0,.bool false] 98 ?_;intro gb158 hg w45 hbox hb;have HI158:=A_ ((show IsS98 w w45 gb158 a0 0 false from ⟨hbox,(by rw [hg];exact (bz_ (bq_ HB)) : w.heap.size ≤ gb158)⟩));replace HB:=bS_ HB hb;have NB157_158:=nB_ hg BK157;have NB158_157:=nC_ hg BK157;replace BK157:=kB_ BK157 hb;clear hb hbox hg)|((with_reducible refine gate_callee (f:=60) rfl ?_);refine gL_ (some 10) Try.func60 #[.pointer (some ⟨gb158,0,none⟩),.int .i64 1] ?_;(with_reducible refine (spec_l05Take.calls gb158 a0 0 false 1 t159 t160 t161 t162 w _ ?side1 ?side2 A2.out).mono ?_);(case side1 => exact iq98_ HI158);(case side2 => exact bi_ HB (IsS98.ge HI158.out));rintro e w46 ⟨rfl,hi,hb,hk⟩;refine ⟨_,rfl,?_⟩;replace BK157:=A_ (KeepBut.blk hk (g':=gb157) (o:=.cells #[.int .i64 0,.int .i64 0,.slice none 0 0] 24 (0,0)) (kq_ BK157) NB157_158.out (by simp));replace HB:=A_ (hb);replace HI158:=A_ (hi);(try clear hb);(try clear hk);(try clear hi))|((with_reducible refine gate_dst (N:=5) rfl ?_);refine bE_ 5 #[.int .i64 0,.int .i64 0,.slice none 0 0] 24 ?_;intro gb163 hg w47 hbox hb;have BK163:=A_ (hbox);have GW163:=A_ ((by rw [hg];exact (bz_ (bi_ HB (IsS98.ge HI158.out))) : w.heap.size ≤ gb163));have GE163:=A_ ((by rw [hg];exact (bz_ (bi_ HB (IsS98.ge HI158.out))) : w.heap.size ≤ gb163));replace HB:=A_ (bs_ (bi_ HB (IsS98.ge HI158.out)) hb);have NB157_163:=nB_ hg BK157;have NB163_157:=nC_ hg BK157;replace BK157:=kB_ BK157 hb;have NB158_163:=A_ ((by rw [hg];exact nl_ (IsS98.lt (show IsS98 w _ gb158 t160 t161 t162 from iq98_ HI158)) : gb158 ≠ gb163));have NB163_158:=A_ ((by rw [hg];exact ng_ (IsS98.lt (show IsS98 w _ gb158 t160 t161 t162 from iq98_ HI158)) : gb163 ≠ gb158));replace HI158:=A_ (IsS98.below (iq98_ HI158) hb);clear hb hbox hg;have hnb48:=NB163_157.out;have hnc48:=NB157_163.out;have hnb49:=NB163_158.out;have hnc49:=NB158_163.out;obtain ⟨hcz50_0,hcz50_1,hcz50_2,hfz50_0,hfz50_1,hfz50_2⟩:=k3f_ BK163)|((with_reducible refine gate_callee (f:=61) rfl ?_);refine gL_ (some 13) Try.func61 #[.pointer (some ⟨gb158,0,none⟩)] ?_;(with_reducible refine (spec_l05Var.calls k gb158 t160 t161 t162 t164 t165 t166 t167 w _ ?side1 ?side2 A3.out).mono ?_);(case side1 => exact iq98_ HI158);(case side2 => exact bi_ HB (IsS98.ge HI158.out));rintro e w51 ⟨rfl,hi,hb,hk⟩;refine ⟨_,rfl,?_⟩;replace BK157:=A_ (KeepBut.blk hk (g':=gb157) (o:=.cells #[.int .i64 0,.int .i64 0,.slice none 0 0] 24 (0,0)) (kz_ BK157) NB157_158.out (by simp));replace BK163:=A_ (KeepBut.blk hk (g':=gb163) (o:=.cells #[.int .i64 0,.int .i64 0,.slice none 0 0] 24 (0,0)) (kz_ BK163) NB163_158.out (by simp));replace HB:=A_ (hb);replace HI158:=A_ (hi);(try clear hb);(try clear hk);(try clear hi);obtain ⟨hcz52_0,hcz52_1,hcz52_2,hfz52_0,hfz52_1,hfz52_2⟩:=k3f_ BK163)|((with_reducible refine gate_callee (f:=61) rfl ?_);refine gL_ (some 16) Try.func61 #[.pointer (some ⟨gb158,0,none⟩)] ?_;(with_reducible refine (spec_l05Var.calls k gb158 t165 t166 t167 t168 t169 t170 false w _ ?side1 ?side2 A4.out).mono ?_);(case side1 => exact iq98_ HI158);(case side2 => exact bi_ HB (IsS98.ge HI158.out));rintro e w53 ⟨rfl,hi,hb,hk⟩;refine ⟨_,rfl,?_⟩;replace BK157:=A_ (KeepBut.blk hk (g':=gb157) (o:=.cells #[.int .i64 0,.int .i64 0,.slice none 0 0] 24 (0,0)) (kz_ BK157) NB157_158.out (by simp));replace BK163:=A_ (KeepBut.blk hk (g':=gb163) (o:=.cells #[.int .i64 t164,.int .i64 0,.slice none 0 0] 24 (0,0)) (kz_ BK163) NB163_158.out (by simp));replace HB:=A_ (hb);replace HI158:=A_ (hi);(try clear hb);(try clear hk);(try clear hi);obtain ⟨hcz54_0,hcz54_1,hcz54_2,hfz54_0,hfz54_1,hfz54_2⟩:=k3f_ BK163))
     have n0_ : Aside0 ((w53.setCell ⟨gb163,1,none⟩ (.int .i64 t168)).heap[gb157]? = some (.cells #[.int .i64 0,.int .i64 0,.slice none 0 0] 24 (0,0))):=⟨kz_ BK157⟩;have n1_ : Aside0 ((w53.setCell ⟨gb163,1,none⟩ (.int .i64 t168)).heap[gb163]? = some (.cells #[.int .i64 t164,.int .i64 t168,.slice none 0 0] 24 (0,0))):=⟨kz_ BK163⟩;have n2_ : Aside0 (IsS98 w (w53.setCell ⟨gb163,1,none⟩ (.int .i64 t168)) gb158 t169 t170 false):=⟨iq98_ HI158⟩;have n3_ : Aside0 (Below w.heap.size w (w53.setCell ⟨gb163,1,none⟩ (.int .i64 t168))):=⟨bi_ HB (IsS98.ge HI158.out)⟩
     (try clear BK157)
     (try clear BK163)
     (try clear HI158)
     (try clear HB)
     generalize (w53.setCell ⟨gb163,1,none⟩ (.int .i64 t168)) = w55 at n0_ n1_ n2_ n3_ ⊢;have BK157:=n0_;have BK163:=n1_;have HI158:=n2_;have HB:=n3_;clear n0_ n1_ n2_ n3_;replace BK157:=A_ (kd_ BK157.out);replace BK163:=A_ (kd_ BK163.out);replace HI158:=A_ (IsS98.drew HI158.out);replace HB:=A_ (pd_ HB.out);refine start_ (n:=16) (S:=fun w' => w'.cell? ⟨gb158,0,none⟩ = some (.string t169) ∧ w'.cell? ⟨gb158,1,none⟩ = some (.int .i64 t170) ∧ w'.cell? ⟨gb158,2,none⟩ = some (.bool false) ∧ w'.cell? ⟨gb163,0,none⟩ = some (.int .i64 t164) ∧ w'.cell? ⟨gb163,1,none⟩ = some (.int .i64 t168) ∧ w'.cell? ⟨gb163,2,none⟩ = some (.slice none 0 0)) (ds:=[]) #[false,false,false,false,false,false,false,false,false,false,false,false,false,false,false,false] (by kernel_rfl) rfl rfl ⟨cellS98_0 HI158.out.1,cellS98_1 HI158.out.1,cellS98_2 HI158.out.1,kC_ BK163 0,kC_ BK163 1,kC_ BK163 2⟩ (fun hHeld => ?_);refine with_tabW spec_l12Start.tab6 spec_l12Start.bits6 (fun HT_ HW_ => ?_);generalize w55.drew = w56 at BK157 BK163 HI158 HB hHeld ⊢;refine pU_ 0 (some 18) ?_
     refine pU_ 1 (some 19) ?_
     refine pU_ 2 (some 20) ?_
     refine tK_ 3 (some 21) hHeld ?_
     refine pU_ 4 (some 22) ?_
     refine pU_ 5 (some 23) ?_
     refine pU_ 9 (some 27) ?_
     refine pU_ 13 (some 31) ?_
     refine tK_ 6 (some 24) hHeld ?_
     refine tK_ 10 (some 28) hHeld ?_
     refine oN_ 7 (some 25) (fun K hK => ?_);refine gs_ Try.func54 #[.int .i64 t164] ?_;with_reducible refine (spec_l01Var.calls k t164 t172 _ A21.out).mono ?_;rintro e w57 ⟨rfl,hb⟩;refine ⟨_,rfl,?_⟩;replace BK157:=kB_ BK157 hb;replace BK163:=kB_ BK163 hb;replace HB:=A_ (bs_ (bi_ HB (IsS98.ge HI158.out)) hb);replace HI158:=A_ (IsS98.below (iq98_ HI158) hb)
     (try clear hb)
     refine hK.out _ _ ⟨cellS98_0 HI158.out.1,cellS98_1 HI158.out.1,cellS98_2 HI158.out.1,kC_ BK163 0,kC_ BK163 1,kC_ BK163 2⟩ (fun hHeld => ?_);clear hK K;refine nX_ (some 25) ?_
     refine pU_ 8 (some 26) ?_
     refine oN_ 11 (some 29) (fun K hK => ?_);refine gs_ Try.func54 #[.int .i64 t168] ?_;with_reducible refine (spec_l01Var.calls k t168 t173 _ A23.out).mono ?_;rintro e w58 ⟨rfl,hb⟩;refine ⟨_,rfl,?_⟩;replace BK157:=kB_ BK157 hb;replace BK163:=kB_ BK163 hb;replace HB:=A_ (bs_ (bi_ HB (IsS98.ge HI158.out)) hb);replace HI158:=A_ (IsS98.below (iq98_ HI158) hb)
     (try clear hb)
     refine hK.out _ _ ⟨cellS98_0 HI158.out.1,cellS98_1 HI158.out.1,cellS98_2 HI158.out.1,kC_ BK163 0,kC_ BK163 1,kC_ BK163 2⟩ (fun hHeld => ?_);clear hK K;refine nX_ (some 29) ?_
     refine pU_ 12 (some 30) ?_
     refine pU_ 14 (some 32) ?_
     refine pU_ 15 (some 33) ?_
     refine done_ (done_of HT_.out (by kernel_rfl)) ?_;have hnb59:=NB157_158.out;have hnc59:=NB158_157.out;obtain ⟨hcz60_0,hcz60_1,hcz60_2,hfz60_0,hfz60_1,hfz60_2⟩:=k3f_ BK157
     try go_wp2
     refine bodyPost_ret (results_ct rfl _ _ gb157 24 #[.int .i64 0,.int .i64 0,.slice none 0 0] (0,0) _ rfl (kz_ BK157) Try.underlying24 rfl (by kernel_rfl)) rfl ?_;exact ⟨_,by rfl,by exact Kd.R_nil _ _ _ _ _,bi_ HB (IsS98.ge HI158.out)⟩
   ·rw [if_neg c24] at H;exact absurd H (by simp)
  ·rw [if_neg c22] at H;exact absurd H (by simp)
def spec_l07Rise.l0 : Nat → List Int → Int → Int → Int → Option (Bool)
 | 0,_,_,_,_ => none
 | k + 1,x0,x1,x2,x7 => if x7 < (x0.length : Int) then (if 0 ≤ x7 then ((spec_l01In.f (rd x0 x7) x1 x2).bind fun t175 => (if t175 = true then (if x7 > 0 then (if 0 ≤ (wrap64 (x7 - 1)) then (if (wrap64 (x7 - 1)) < (x0.length : Int) then (if (rd x0 (wrap64 (x7 - 1))) ≥ (rd x0 x7) then (some false) else (spec_l07Rise.l0 k x0 x1 x2 (wrap64 (x7 + 1)))) else (none)) else (none)) else (spec_l07Rise.l0 k x0 x1 x2 (wrap64 (x7 + 1)))) else (some false))) else (none)) else (some true)
def spec_l07Rise.f (k : Nat) (l0 : List Int) (a1 : Int) (a2 : Int) : Option (Bool) := spec_l07Rise.l0 k l0 a1 a2 0
theorem spec_l07Rise.mono_l : ∀ k, (∀ y0 y1 y2 y3, LeO (spec_l07Rise.l0 k y0 y1 y2 y3) (spec_l07Rise.l0 (k + 1) y0 y1 y2 y3))
 | 0 => fun _ _ _ _ r h => by simp [spec_l07Rise.l0] at h
 | k + 1 => by
  have ih0:=spec_l07Rise.mono_l k
  ·intro y0 y1 y2 y3
   unfold spec_l07Rise.l0
   repeat' first
   | (with_reducible exact ih0 _ _ _ _)
   | (with_reducible exact LeO.refl _)
   | (with_reducible refine LeO.ite ?_ ?_)
   | (with_reducible refine LeO.bind ?_ (fun _ => ?_))
theorem spec_l07Rise.mono : ∀ a0 a1 a2 k, LeO (spec_l07Rise.f k a0 a1 a2) (spec_l07Rise.f (k + 1) a0 a1 a2) := by
 intro a0 a1 a2 k;have ih0:=spec_l07Rise.mono_l k
 unfold spec_l07Rise.f
 repeat' first
   | (with_reducible exact ih0 _ _ _ _)
set_option maxHeartbeats 8000000 in
set_option maxRecDepth 100000 in
theorem spec_l07Rise.calls (k : Nat) (A0 : Option Addr) (c0 : Nat) (l0 : List Int) (a1 : Int) (a2 : Int) (r : Bool) (w : World) (hr0 : Kd.C (Kd.int .i64) w A0 l0.length l0) (hc0 : l0.length ≤ c0) (h : spec_l07Rise.f k l0 a1 a2 = some r) :
  Calls Try.prog 117 #[.slice A0 l0.length c0,.int .i64 a1,.int .i64 a2] w fun e w' => e = .returned (.bool r) ∧ Drawn0 w w':=by
 have HR0:=A_ hr0;have HC0:=A_ hc0;clear hr0 hc0;unfold spec_l07Rise.f at h;have H:=h;clear h;have H':=A_ H;clear H;go_enter Try.func117,Try.ntmps117;go_wp2
 go_loopg [7] k (fun kq v7 w' => ∃ (x7_1 : Int),v7 = .int .i64 x7_1 ∧ Aside0 (spec_l07Rise.l0 kq l0 a1 a2 x7_1 = some r) ∧ Aside0 (kq ≤ k) ∧ Drawn0 w w')
 case atStart => exact ⟨(0),(by rfl),H',⟨Nat.le_refl _⟩,by repeat (exact Drawn0.refl _)⟩
 case round =>
  clear H'
  try clear c1
  try clear p2
  obtain ⟨x7_1,rfl,HA,HK1,⟨m1,rfl⟩⟩:=hrel
  cases gk with
  | zero => exact absurd HA.out (by simp [spec_l07Rise.l0])
  | succ k1 =>
   have H:=HA.out;clear HA;simp only [spec_l07Rise.l0] at H
   by_cases c4 : x7_1 < (l0.length : Int)
   ·rw [if_pos c4] at H;have c4b0 : decide (x7_1 < (l0.length : Int)) = true:=de_ c4;clear c4
    by_cases c5 : 0 ≤ x7_1
    ·rw [if_pos c5] at H;have c5b0 : decide (0 ≤ x7_1) = true:=de_ c5;clear c5;replace H:=ob_.mp H;obtain ⟨t175,A60,H⟩:=H;have A6:=A_ A60;clear A60
     by_cases c7 : t175 = true
     ·subst c7
      rw [if_pos rfl] at H
      by_cases c8 : x7_1 > 0
      ·rw [if_pos c8] at H;have c8b0 : decide (0 < x7_1) = true:=de_ c8;clear c8;obtain ⟨ji9,hji9⟩ : ∃ j_ : Int,(wrap64 (x7_1 - 1)) = j_:=⟨_,rfl⟩
       replace H : (if 0 ≤ (ji9) then (if (ji9) < (l0.length : Int) then (if (rd l0 (ji9)) ≥ (rd l0 x7_1) then (some false) else (spec_l07Rise.l0 k1 l0 a1 a2 (wrap64 (x7_1 + 1)))) else (none)) else (none)) = some r:=by (rw [hji9] at H;exact H)
       have hji9w : (IntKind.i64.wrap (x7_1 - 1)) = ji9:=(i64_w _).trans hji9
       by_cases c10 : 0 ≤ (ji9)
       ·rw [if_pos c10] at H;have c10b0 : decide (0 ≤ (ji9)) = true:=de_ c10;clear c10
        by_cases c11 : (ji9) < (l0.length : Int)
        ·rw [if_pos c11] at H;have c11b0 : decide ((ji9) < (l0.length : Int)) = true:=de_ c11;clear c11
         by_cases c12 : (rd l0 (ji9)) ≥ (rd l0 x7_1)
         ·rw [if_pos c12] at H;have c12b0 : decide ((rd l0 x7_1) ≤ (rd l0 (ji9))) = true:=de_ c12;clear c12;obtain rfl:=Option.some.inj H;have p174 : 0 ≤ (x7_1 : Int):=oda_;have q174 : x7_1 < (l0.length : Int):=oda_;obtain ⟨ad174,e174,hx174_0⟩:=Kd.at_int HR0.out x7_1 p174 q174
          cases e174
          replace p174:=eq_true p174;replace q174:=eq_true q174
          go_wp2
          repeat (go_quiet ((go_at_call 81;(with_reducible refine (spec_l01In.calls (rd l0 x7_1) a1 a2 true _ A6.out).mono ?_);rintro e w' ⟨rfl,⟨nd,rfl⟩⟩;(try exact ⟨rfl,_,Eq.trans (World.drewN_drewN _ _ _) (congrArg (World.drewN _) (Nat.add_assoc _ _ _))⟩);have p176 : 0 ≤ ((ji9) : Int):=oda_;have q176 : (ji9) < (l0.length : Int):=oda_;obtain ⟨ad176,e176,hx176_0⟩:=Kd.at_int HR0.out (ji9) p176 q176;obtain rfl : ad174 = ad176:=(by injection e176);replace p176:=eq_true p176;replace q176:=eq_true q176;have p177 : 0 ≤ (x7_1 : Int):=oda_;have q177 : x7_1 < (l0.length : Int):=oda_;obtain ⟨ad177,e177,hx177_0⟩:=Kd.at_int HR0.out x7_1 p177 q177;obtain rfl : ad174 = ad177:=(by injection e177);replace p177:=eq_true p177;replace q177:=eq_true q177));try go_wp2)
          go_ret;exact ⟨by rfl,by repeat (first|exact Drawn0.refl _|apply Drawn0.step)⟩
         ·rw [if_neg c12] at H;have c12b0 : decide ((rd l0 x7_1) ≤ (rd l0 (ji9))) = false:=decide_eq_false c12;clear c12;have H':=A_ H;clear H;have p174 : 0 ≤ (x7_1 : Int):=oda_;have q174 : x7_1 < (l0.length : Int):=oda_;obtain ⟨ad174,e174,hx174_0⟩:=Kd.at_int HR0.out x7_1 p174 q174
          cases e174
          replace p174:=eq_true p174;replace q174:=eq_true q174
          go_wp2
          repeat (go_quiet ((go_at_call 81;(with_reducible refine (spec_l01In.calls (rd l0 x7_1) a1 a2 true _ A6.out).mono ?_);rintro e w' ⟨rfl,⟨nd,rfl⟩⟩;(try exact ⟨rfl,_,Eq.trans (World.drewN_drewN _ _ _) (congrArg (World.drewN _) (Nat.add_assoc _ _ _))⟩);have p176 : 0 ≤ ((ji9) : Int):=oda_;have q176 : (ji9) < (l0.length : Int):=oda_;obtain ⟨ad176,e176,hx176_0⟩:=Kd.at_int HR0.out (ji9) p176 q176;obtain rfl : ad174 = ad176:=(by injection e176);replace p176:=eq_true p176;replace q176:=eq_true q176;have p177 : 0 ≤ (x7_1 : Int):=oda_;have q177 : x7_1 < (l0.length : Int):=oda_;obtain ⟨ad177,e177,hx177_0⟩:=Kd.at_int HR0.out x7_1 p177 q177;obtain rfl : ad174 = ad177:=(by injection e177);replace p177:=eq_true p177;replace q177:=eq_true q177));try go_wp2)
          go_roundg k1
          case measure => have:=HK1.out;omega
          case rel => exact ⟨(wrap64 (x7_1 + 1)),(by rfl),H',⟨by have:=HK1.out;omega⟩,by repeat (first|exact Drawn0.refl _|apply Drawn0.step)⟩
        ·rw [if_neg c11] at H;exact absurd H (by simp)
       ·rw [if_neg c10] at H;exact absurd H (by simp)
      ·rw [if_neg c8] at H;have c8b0 : decide (0 < x7_1) = false:=decide_eq_false c8;clear c8;have H':=A_ H;clear H;have p174 : 0 ≤ (x7_1 : Int):=oda_;have q174 : x7_1 < (l0.length : Int):=oda_;obtain ⟨ad174,e174,hx174_0⟩:=Kd.at_int HR0.out x7_1 p174 q174
       cases e174
       replace p174:=eq_true p174;replace q174:=eq_true q174
       go_wp2
       repeat (go_quiet ((go_at_call 81;(with_reducible refine (spec_l01In.calls (rd l0 x7_1) a1 a2 true _ A6.out).mono ?_);rintro e w' ⟨rfl,⟨nd,rfl⟩⟩;(try exact ⟨rfl,_,Eq.trans (World.drewN_drewN _ _ _) (congrArg (World.drewN _) (Nat.add_assoc _ _ _))⟩)));try go_wp2)
       go_roundg k1
       case measure => have:=HK1.out;omega
       case rel => exact ⟨(wrap64 (x7_1 + 1)),(by rfl),H',⟨by have:=HK1.out;omega⟩,by repeat (first|exact Drawn0.refl _|apply Drawn0.step)⟩
     ·replace c7:=Bool.eq_false_iff.mpr c7;subst c7
      have H1 : (some false) = some r:=by rw [if_neg (show ¬ (false = true) by decide)] at H;exact H
      clear H;have H:=H1;clear H1;obtain rfl:=Option.some.inj H;have p174 : 0 ≤ (x7_1 : Int):=oda_;have q174 : x7_1 < (l0.length : Int):=oda_;obtain ⟨ad174,e174,hx174_0⟩:=Kd.at_int HR0.out x7_1 p174 q174
      cases e174
      replace p174:=eq_true p174;replace q174:=eq_true q174
      go_wp2
      repeat (go_quiet ((go_at_call 81;(with_reducible refine (spec_l01In.calls (rd l0 x7_1) a1 a2 false _ A6.out).mono ?_);rintro e w' ⟨rfl,⟨nd,rfl⟩⟩;(try exact ⟨rfl,_,Eq.trans (World.drewN_drewN _ _ _) (congrArg (World.drewN _) (Nat.add_assoc _ _ _))⟩)));try go_wp2)
      go_ret;exact ⟨by rfl,by repeat (first|exact Drawn0.refl _|apply Drawn0.step)⟩
    ·rw [if_neg c5] at H;exact absurd H (by simp)
   ·rw [if_neg c4] at H;have c4b0 : decide (x7_1 < (l0.length : Int)) = false:=decide_eq_false c4;clear c4;obtain rfl:=Option.some.inj H;go_wp2
    go_ret;exact ⟨by rfl,by repeat (first|exact Drawn0.refl _|apply Drawn0.step)⟩
def spec_ConfOk.f (k : Nat) (l0 : List Int) : Option (Bool) := (spec_l01In.f (l0.length : Int) 1 4).bind fun t178 => (if t178 = true then ((spec_l07Rise.f k l0 1 4).bind fun t179 => (some t179)) else (some false))
theorem spec_ConfOk.mono : ∀ a0 k, LeO (spec_ConfOk.f k a0) (spec_ConfOk.f (k + 1) a0) := by
 intro a0 k
 unfold spec_ConfOk.f
 repeat' first
   | (with_reducible exact spec_l07Rise.mono _ _ _ _)
   | (with_reducible exact LeO.refl _)
   | (with_reducible refine LeO.ite ?_ ?_)
   | (with_reducible refine LeO.bind ?_ (fun _ => ?_))
set_option maxHeartbeats 8000000 in
set_option maxRecDepth 100000 in
theorem spec_ConfOk.calls (k : Nat) (A0 : Option Addr) (c0 : Nat) (l0 : List Int) (r : Bool) (w : World) (hr0 : Kd.C (Kd.int .i64) w A0 l0.length l0) (hc0 : l0.length ≤ c0) (h : spec_ConfOk.f k l0 = some r) :
  Calls Try.prog 83 #[.slice A0 l0.length c0] w fun e w' => e = .returned (.bool r) ∧ Drawn0 w w':=by
 have HR0:=A_ hr0;have HC0:=A_ hc0;clear hr0 hc0;unfold spec_ConfOk.f at h;have H:=h;clear h;replace H:=ob_.mp H;obtain ⟨t178,A20,H⟩:=H;have A2:=A_ A20;clear A20
 by_cases c3 : t178 = true
 ·subst c3
  rw [if_pos rfl] at H;replace H:=ob_.mp H;obtain ⟨t179,A40,H⟩:=H;have A4:=A_ A40;clear A40;obtain rfl:=Option.some.inj H;go_enter Try.func83,Try.ntmps83
  go_wp2_with (first|((with_reducible refine gate_callee (f:=81) rfl ?_);refine gL_ (some 5) Try.func81 #[.int .i64 (l0.length : Int),.int .i64 1,.int .i64 4] ?_;(with_reducible refine (spec_l01In.calls (l0.length : Int) 1 4 true _ A2.out).mono ?_);rintro e w' ⟨rfl,⟨nd,rfl⟩⟩;refine ⟨_,rfl,?_⟩)|(go_at_call 117;(with_reducible refine (spec_l07Rise.calls k _ _ l0 1 4 t179 _ ?side1 ?side2 A4.out).mono ?_);(case side1 => repeat (exact HR0.out));(case side2 => exact HC0.out);rintro e w' ⟨rfl,⟨nd,rfl⟩⟩))
  go_ret;exact ⟨by rfl,by repeat (first|exact Drawn0.refl _|apply Drawn0.step)⟩
 ·replace c3:=Bool.eq_false_iff.mpr c3;subst c3
  have H1 : (some false) = some r:=by rw [if_neg (show ¬ (false = true) by decide)] at H;exact H
  clear H;have H:=H1;clear H1;obtain rfl:=Option.some.inj H;go_enter Try.func83,Try.ntmps83
  go_wp2_with (((with_reducible refine gate_callee (f:=81) rfl ?_);refine gL_ (some 5) Try.func81 #[.int .i64 (l0.length : Int),.int .i64 1,.int .i64 4] ?_;(with_reducible refine (spec_l01In.calls (l0.length : Int) 1 4 false _ A2.out).mono ?_);rintro e w' ⟨rfl,⟨nd,rfl⟩⟩;refine ⟨_,rfl,?_⟩))
  go_ret;exact ⟨by rfl,by repeat (first|exact Drawn0.refl _|apply Drawn0.step)⟩
end Go.Proofs.Ytbcgnncbiblibaa.PFnExactLogSteps
