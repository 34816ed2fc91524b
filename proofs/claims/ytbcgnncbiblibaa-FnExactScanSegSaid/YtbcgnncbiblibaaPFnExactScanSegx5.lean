/- The contracts of the Go functions that this law reaches: what each call returns, by a plain Lean function of its arguments. No conditions but those each contract names. By the kit's print.py, run by this session's wip/gen/pp.py with facts and hand proofs beside it: not to the letter what print.sh prints. -/
import Derived.Test.YtbcgnncbiblibaaPFnExactScanSegx0
import Derived.Test.YtbcgnncbiblibaaPFnExactScanSegx1
import Derived.Test.YtbcgnncbiblibaaPFnExactScanSegx3
import Derived.Test.YtbcgnncbiblibaaPFnExactScanSegx4
namespace Go.Proofs.Ytbcgnncbiblibaa.PFnExactScanSeg
open Go.RowKit Go.Proofs.YtbcgnncbiblibaaW.PrintWords Go.Proofs.YtbcgnncbiblibaaW.PrintLast Go.Proofs.YtbcgnncbiblibaaW.PrintMore
attribute [local go_sem] max2_int min2_int max_two min_two max_three min_three max_four min_four
set_option linter.unusedVariables false
set_option linter.unusedSimpArgs false
def spec_BatchText.l0 : Nat → ByteArray → Int → Int → List (S85) → Option (ByteArray × Bool)
 | 0,_,_,_,_ => none
 | k + 1,x4,x5,x151000,x151001 => if x5 < (x151001.length : Int) then (if 0 ≤ x5 then (if (rd_T85 x151001 x5).f2 = true then ((spec_l05Short.f k ((rd_T85 x151001 x5).f0)).bind fun t156 => (if x4.size + t156.size ≤ 9223372036854775807 then (if (x4 ++ t156).size + 1 ≤ 9223372036854775807 then ((spec_l05Short.f k ((rd_T85 x151001 x5).f1)).bind fun t158 => (if ((x4 ++ t156) ++ (⟨#[1]⟩ : ByteArray)).size + t158.size ≤ 9223372036854775807 then (spec_BatchText.l0 k (((x4 ++ t156) ++ (⟨#[1]⟩ : ByteArray)) ++ t158) (wrap64 (x5 + 1)) x151000 x151001) else (none))) else (none)) else (none))) else ((spec_l05Short.f k ((rd_T85 x151001 x5).f0)).bind fun t160 => (if x4.size + t160.size ≤ 9223372036854775807 then (if (x4 ++ t160).size + 1 ≤ 9223372036854775807 then ((spec_l05Short.f k ((rd_T85 x151001 x5).f1)).bind fun t162 => (if ((x4 ++ t160) ++ (⟨#[0]⟩ : ByteArray)).size + t162.size ≤ 9223372036854775807 then (spec_BatchText.l0 k (((x4 ++ t160) ++ (⟨#[0]⟩ : ByteArray)) ++ t162) (wrap64 (x5 + 1)) x151000 x151001) else (none))) else (none)) else (none)))) else (none)) else (some (x4,true))
def spec_BatchText.f (k : Nat) (a0_0 : Int) (l0_1 : List (S85)) : Option (ByteArray × Bool) := (spec_BatchOk.f k a0_0 l0_1).bind fun t151 => (if t151 = true then ((spec_l01Var.f k a0_0).bind fun t152 => ((spec_l01Var.f k (l0_1.length : Int)).bind fun t153 => (if t152.size + t153.size ≤ 9223372036854775807 then (spec_BatchText.l0 k (t152 ++ t153) 0 a0_0 l0_1) else (none)))) else (some ((⟨#[]⟩ : ByteArray), false)))
theorem spec_BatchText.mono_l : ∀ k, (∀ y0 y1 y2 y3, LeO (spec_BatchText.l0 k y0 y1 y2 y3) (spec_BatchText.l0 (k + 1) y0 y1 y2 y3))
 | 0 => fun _ _ _ _ r h => by simp [spec_BatchText.l0] at h
 | k + 1 => by
  have ih0:=spec_BatchText.mono_l k
  ·intro y0 y1 y2 y3
   unfold spec_BatchText.l0
   repeat' first
   | (with_reducible exact ih0 _ _ _ _)
   | (with_reducible exact spec_BatchOk.mono _ _ _)
   | (with_reducible exact spec_l01Var.mono _ _)
   | (with_reducible exact spec_l05Short.mono _ _)
   | (with_reducible exact LeO.refl _)
   | (with_reducible exact LeO.none _)
   | (with_reducible refine LeO.ite ?_ ?_)
   | (with_reducible refine LeO.bind ?_ (fun _ => ?_))
theorem spec_BatchText.mono : ∀ a0 a1 k, LeO (spec_BatchText.f k a0 a1) (spec_BatchText.f (k + 1) a0 a1) := by
 intro a0 a1 k;have ih0:=spec_BatchText.mono_l k
 unfold spec_BatchText.f
 repeat' first
   | (with_reducible exact ih0 _ _ _ _)
   | (with_reducible exact spec_BatchOk.mono _ _ _)
   | (with_reducible exact spec_l01Var.mono _ _)
   | (with_reducible exact spec_l05Short.mono _ _)
   | (with_reducible exact LeO.refl _)
   | (with_reducible exact LeO.none _)
   | (with_reducible refine LeO.ite ?_ ?_)
   | (with_reducible refine LeO.bind ?_ (fun _ => ?_))
def spec_BatchText.T3 : Bool × List (List Nat × List Nat) := (true, [([], []), ([0], [0]), ([1], [1]), ([], []), ([3], [3]), ([4], [4]), ([5, 2], [5]), ([2, 6], [2, 6]), ([7, 6, 0, 1, 2, 3, 4, 5, 6, 7], [7])])
def spec_BatchText.B3 : List Nat := [0, 1, 3, 0, 8, 24, 63, 127, 255]
theorem spec_BatchText.tab3 : rtab .any (opsOf Try.f102 3) = spec_BatchText.T3 := by kernel_rfl
theorem spec_BatchText.bits3 : waitsOk spec_BatchText.T3.2 spec_BatchText.B3 = true := by kernel_rfl
def spec_BatchText.T10 : Bool × List (List Nat × List Nat) := (true, [([], []), ([], []), ([1], [1]), ([], []), ([2, 3], [2, 3]), ([4], [4]), ([5], [5]), ([6], [6]), ([0, 7], [0, 7]), ([], []), ([8, 9], [8, 9]), ([], []), ([11], [11]), ([], []), ([12, 13], [12, 13]), ([14], [14]), ([15], [15]), ([16, 7], [16]), ([10, 17], [10, 17]), ([18, 17, 0, 1, 2, 3, 4, 5, 6, 7, 8, 9, 10, 11, 12, 13, 14, 15, 16, 17, 18], [0, 18])])
def spec_BatchText.B10 : List Nat := [0, 0, 2, 0, 14, 30, 62, 126, 255, 0, 1023, 0, 2048, 0, 14336, 30720, 63488, 129278, 262143, 524287]
theorem spec_BatchText.tab10 : rtab .any (opsOf Try.f102 10) = spec_BatchText.T10 := by kernel_rfl
theorem spec_BatchText.bits10 : waitsOk spec_BatchText.T10.2 spec_BatchText.B10 = true := by kernel_rfl
set_option maxHeartbeats 8000000 in
set_option maxRecDepth 100000 in
theorem spec_BatchText.calls (k : Nat) (a0_0 : Int) (A0_1 : Option Addr) (c0_1 : Nat) (l0_1 : List (S85)) (r1 : ByteArray) (r2 : Bool) (w : World) (hr0_1 : Kd.C k85 w A0_1 l0_1.length l0_1) (hc0_1 : l0_1.length ≤ c0_1) (h : spec_BatchText.f k a0_0 l0_1 = some (r1, r2)) :
  Calls Try.prog 102 #[.agg #[.int .i64 a0_0,.slice A0_1 l0_1.length c0_1]] w fun e w' => e = .returned (.tuple #[.string r1,.bool r2]) ∧ Below w.heap.size w w':=by
 have hu79:=Try.underlying79;have HR0_1:=A_ hr0_1;have HC0_1:=A_ hc0_1;clear hr0_1 hc0_1;have HB:=A_ (Below.refl w.heap.size w);unfold spec_BatchText.f at h;have H:=h;clear h;replace H:=ob_.mp H;obtain ⟨t151,A20,H⟩:=H;(try dsimp only at H);have A2:=A_ A20;clear A20
 by_cases c3 : t151 = true
 ·subst c3
  rw [if_pos rfl] at H;replace H:=ob_.mp H;obtain ⟨t152,A40,H⟩:=H;(try dsimp only at H);have A4:=A_ A40;clear A40;replace H:=ob_.mp H;obtain ⟨t153,A50,H⟩:=H;(try dsimp only at H);have A5:=A_ A50;clear A50
  by_cases c6 : t152.size + t153.size ≤ 9223372036854775807
  ·rw [if_pos c6] at H;have c6b0:=eq_true c6;have c6b1 : decide (t152.size + t153.size ≤ 9223372036854775807) = true:=de_ c6
   try have c6b2 : (9223372036854775807 < t152.size + t153.size) = False:=eq_false (Nat.not_lt.2 c6)
   have H':=A_ H;clear H;go_enter Try.func102,Try.ntmps102
   try go_wp2_with (first|((with_reducible refine gate_dst (N:=1) rfl ?_);refine bE_ 1 #[.int .i64 a0_0,.slice A0_1 l0_1.length c0_1] 79 ?_;intro gb150 hg w7 hbox hb;have BK150:=A_ (hbox);have GW150:=gE_ hg HB;have GE150:=gE_ hg HB;replace HB:=bS_ HB hb;clear hb hbox hg;obtain ⟨hcz8_0,hcz8_1,hfz8_0,hfz8_1⟩:=k2f_ BK150)|((with_reducible refine gate_callee (f:=126) rfl ?_);refine gL_ (some 8) Try.func126 #[.agg #[.int .i64 a0_0,.slice A0_1 l0_1.length c0_1]] ?_;(with_reducible refine (spec_BatchOk.calls k a0_0 _ _ l0_1 true _ ?side1 ?side2 A2.out).mono ?_);(case side1 => repeat (first|exact (Kd.C_below HR0_1.out HB.out)|(with_reducible refine Kd.C_alloc ?_ _)|(with_reducible refine Kd.C_drewN ?_ _)|(with_reducible refine Kd.C_drew ?_)));(case side2 => exact HC0_1.out);rintro e w9 ⟨rfl,hb⟩;refine ⟨_,rfl,?_⟩;replace BK150:=kB_ BK150 hb;replace HB:=bS_ HB hb;(try clear hb)))
   replace BK150:=A_ (kd_ BK150.out);replace HB:=A_ (pd_ HB.out);refine start_ (n:=9) (S:=fun w' => w'.cell? ⟨gb150,0,none⟩ = some (.int .i64 a0_0) ∧ w'.cell? ⟨gb150,1,none⟩ = some (.slice A0_1 l0_1.length c0_1)) (ds:=[]) #[false,false,false,false,false,false,false,false,false] (by kernel_rfl) rfl rfl ⟨kC_ BK150 0,kC_ BK150 1⟩ (fun hHeld => ?_);refine with_tabW spec_BatchText.tab3 spec_BatchText.bits3 (fun HT_ HW_ => ?_);generalize w9.drew = w10 at BK150 HB hHeld ⊢;refine pU_ 0 (some 10) ?_
   refine pU_ 3 (some 13) ?_
   refine tK_ 1 (some 11) hHeld ?_
   refine tK_ 4 (some 14) hHeld ?_
   refine pU_ 5 (some 15) ?_
   refine oN_ 2 (some 12) (fun K hK => ?_);refine gs_ Try.func54 #[.int .i64 a0_0] ?_;with_reducible refine (spec_l01Var.calls k a0_0 t152 _ A4.out).mono ?_;rintro e w11 ⟨rfl,hb⟩;refine ⟨_,rfl,?_⟩;replace BK150:=kB_ BK150 hb;replace HB:=bS_ HB hb
   (try clear hb)
   refine hK.out _ _ ⟨kC_ BK150 0,kC_ BK150 1⟩ (fun hHeld => ?_);clear hK K;refine nX_ (some 12) ?_
   refine oN_ 6 (some 16) (fun K hK => ?_);refine gs_ Try.func54 #[.int .i64 (l0_1.length : Int)] ?_;with_reducible refine (spec_l01Var.calls k (l0_1.length : Int) t153 _ A5.out).mono ?_;rintro e w12 ⟨rfl,hb⟩;refine ⟨_,rfl,?_⟩;replace BK150:=kB_ BK150 hb;replace HB:=bS_ HB hb
   (try clear hb)
   refine hK.out _ _ ⟨kC_ BK150 0,kC_ BK150 1⟩ (fun hHeld => ?_);clear hK K;refine nX_ (some 16) ?_
   refine pU_ 7 (some 17) ?_
   refine pU_ 8 (some 4) ?_
   refine done_ (done_of HT_.out (by kernel_rfl)) ?_
   try go_wp2
   go_loopg [4,5] k (fun kq v4 v5 w' => ∃ (x4_1 : ByteArray) (x5_1 : Int),v4 = .string x4_1 ∧ v5 = .int .i64 x5_1 ∧ Aside0 (spec_BatchText.l0 kq x4_1 x5_1 a0_0 l0_1 = some (r1,r2)) ∧ Aside0 (kq ≤ k) ∧ Aside0 (w'.heap[gb150]? = some (.cells #[.int .i64 a0_0,(.slice A0_1 l0_1.length c0_1)] 79 (0,0))) ∧ Aside0 (Below w.heap.size w w'))
   case atStart => exact ⟨(t152 ++ t153),(0),(by first|rfl|(simp;done)|(simp [*];done)),(by first|rfl|(simp;done)|(simp [*];done)),H',⟨Nat.le_refl _⟩,⟨kq_ BK150⟩,⟨bq_ HB⟩⟩
   case round =>
    clear H'
    try clear c1
    try clear p2
    try clear c3
    try clear c5
    try clear c6
    try clear c6b0
    try clear c6b1
    try clear c6b2
    try clear c10
    try clear c12
    try clear hcz8_0
    try clear hcz8_1
    try clear hfz8_0
    try clear hfz8_1
    obtain ⟨x4_1,x5_1,rfl,rfl,HA,HK1,BK150,HB⟩:=hrel
    cases gk with
    | zero => exact absurd HA.out (by simp [spec_BatchText.l0])
    | succ k1 =>
     have H:=HA.out;clear HA;simp only [spec_BatchText.l0] at H
     by_cases c13 : x5_1 < (l0_1.length : Int)
     ·rw [if_pos c13] at H;have c13b0 : decide (x5_1 < (l0_1.length : Int)) = true:=de_ c13;clear c13
      by_cases c14 : 0 ≤ x5_1
      ·rw [if_pos c14] at H;have c14b0 : decide (0 ≤ x5_1) = true:=de_ c14;clear c14;obtain ⟨bq15,hbq15⟩ : ∃ b_ : Bool,b_ = ((rd_T85 l0_1 x5_1).f2):=⟨_,rfl⟩
       replace H : (if bq15 = true then ((spec_l05Short.f k1 ((rd_T85 l0_1 x5_1).f0)).bind fun t156 => (if x4_1.size + t156.size ≤ 9223372036854775807 then (if (x4_1 ++ t156).size + 1 ≤ 9223372036854775807 then ((spec_l05Short.f k1 ((rd_T85 l0_1 x5_1).f1)).bind fun t158 => (if ((x4_1 ++ t156) ++ (⟨#[1]⟩ : ByteArray)).size + t158.size ≤ 9223372036854775807 then (spec_BatchText.l0 k1 (((x4_1 ++ t156) ++ (⟨#[1]⟩ : ByteArray)) ++ t158) (wrap64 (x5_1 + 1)) a0_0 l0_1) else (none))) else (none)) else (none))) else ((spec_l05Short.f k1 ((rd_T85 l0_1 x5_1).f0)).bind fun t160 => (if x4_1.size + t160.size ≤ 9223372036854775807 then (if (x4_1 ++ t160).size + 1 ≤ 9223372036854775807 then ((spec_l05Short.f k1 ((rd_T85 l0_1 x5_1).f1)).bind fun t162 => (if ((x4_1 ++ t160) ++ (⟨#[0]⟩ : ByteArray)).size + t162.size ≤ 9223372036854775807 then (spec_BatchText.l0 k1 (((x4_1 ++ t160) ++ (⟨#[0]⟩ : ByteArray)) ++ t162) (wrap64 (x5_1 + 1)) a0_0 l0_1) else (none))) else (none)) else (none)))) = some (r1,r2):=by rw [← hbq15] at H;exact H
       have Nbq15:=A_ hbq15;clear hbq15
       by_cases c16 : bq15 = true
       ·subst c16
        rw [if_pos rfl] at H;replace H:=ob_.mp H;obtain ⟨t156,A170,H⟩:=H;(try dsimp only at H);have A17:=A_ A170;clear A170
        by_cases c18 : x4_1.size + t156.size ≤ 9223372036854775807
        ·rw [if_pos c18] at H;have c18b0:=eq_true c18;have c18b1 : decide (x4_1.size + t156.size ≤ 9223372036854775807) = true:=de_ c18
         try have c18b2 : (9223372036854775807 < x4_1.size + t156.size) = False:=eq_false (Nat.not_lt.2 c18)
         by_cases c19 : (x4_1 ++ t156).size + 1 ≤ 9223372036854775807
         ·rw [if_pos c19] at H;have c19b0:=eq_true c19;have c19b1 : decide ((x4_1 ++ t156).size + 1 ≤ 9223372036854775807) = true:=de_ c19
          try have c19b2 : (9223372036854775807 < (x4_1 ++ t156).size + 1) = False:=eq_false (Nat.not_lt.2 c19)
          try have c19b3 : (9223372036854775807 < x4_1.size + t156.size + 1) = False:=eq_false (by have h_:=c19;simp only [ByteArray.size_append,show ∀ x_ : UInt8,(⟨#[x_]⟩ : ByteArray).size = 1 from fun _ => rfl] at h_;omega)
          replace H:=ob_.mp H;obtain ⟨t158,A200,H⟩:=H;(try dsimp only at H);have A20:=A_ A200;clear A200
          by_cases c21 : ((x4_1 ++ t156) ++ (⟨#[1]⟩ : ByteArray)).size + t158.size ≤ 9223372036854775807
          ·rw [if_pos c21] at H;have c21b0:=eq_true c21;have c21b1 : decide (((x4_1 ++ t156) ++ (⟨#[1]⟩ : ByteArray)).size + t158.size ≤ 9223372036854775807) = true:=de_ c21
           try have c21b2 : (9223372036854775807 < ((x4_1 ++ t156) ++ (⟨#[1]⟩ : ByteArray)).size + t158.size) = False:=eq_false (Nat.not_lt.2 c21)
           try have c21b3 : (9223372036854775807 < x4_1.size + t156.size + 1 + t158.size) = False:=eq_false (by have h_:=c21;simp only [ByteArray.size_append,show ∀ x_ : UInt8,(⟨#[x_]⟩ : ByteArray).size = 1 from fun _ => rfl] at h_;omega)
           have H':=A_ H;clear H;obtain ⟨hcz22_0,hcz22_1,hfz22_0,hfz22_1⟩:=k2f_ BK150;have p154 : 0 ≤ (x5_1 : Int):=oda_;have q154 : x5_1 < (l0_1.length : Int):=oda_;obtain ⟨ad154,e154,hx154_0,hx154_1,hx154_2⟩:=at_T85 HR0_1.out x5_1 p154 q154
           (try rw [← Nbq15.out] at hx154_2)
           (try rw [← Nbq15.out] at hw154_2)
           cases e154
           replace hx154_0:=(HB.out.cell (wb_ w _ hx154_0)).trans hx154_0;replace hx154_1:=(HB.out.cell (wb_ w _ hx154_1)).trans hx154_1;replace hx154_2:=(HB.out.cell (wb_ w _ hx154_2)).trans hx154_2;replace p154:=eq_true p154;replace q154:=eq_true q154
           try go_wp2
           replace BK150:=A_ (kd_ BK150.out);replace HB:=A_ (pd_ HB.out);have p155 : 0 ≤ (x5_1 : Int):=oda_;have q155 : x5_1 < (l0_1.length : Int):=oda_;obtain ⟨ad155,e155,hx155_0,hx155_1,hx155_2⟩:=at_T85 HR0_1.out x5_1 p155 q155;have hw155_2:=hx155_2;have hw155_1:=hx155_1;have hw155_0:=hx155_0
           (try rw [← Nbq15.out] at hx155_2)
           (try rw [← Nbq15.out] at hw155_2)
           obtain rfl : ad154 = ad155:=(by injection e155);replace hx155_0:=(HB.out.cell (wb_ w _ hx155_0)).trans hx155_0;replace hx155_1:=(HB.out.cell (wb_ w _ hx155_1)).trans hx155_1;replace hx155_2:=(HB.out.cell (wb_ w _ hx155_2)).trans hx155_2;replace p155:=eq_true p155;replace q155:=eq_true q155;have p157 : 0 ≤ (x5_1 : Int):=oda_;have q157 : x5_1 < (l0_1.length : Int):=oda_;obtain ⟨ad157,e157,hx157_0,hx157_1,hx157_2⟩:=at_T85 HR0_1.out x5_1 p157 q157;have hw157_2:=hx157_2;have hw157_1:=hx157_1;have hw157_0:=hx157_0
           (try rw [← Nbq15.out] at hx157_2)
           (try rw [← Nbq15.out] at hw157_2)
           obtain rfl : ad154 = ad157:=(by injection e157);replace hx157_0:=(HB.out.cell (wb_ w _ hx157_0)).trans hx157_0;replace hx157_1:=(HB.out.cell (wb_ w _ hx157_1)).trans hx157_1;replace hx157_2:=(HB.out.cell (wb_ w _ hx157_2)).trans hx157_2;replace p157:=eq_true p157;replace q157:=eq_true q157;refine start_ (n:=20) (S:=fun w' => w'.cell? ⟨gb150,0,none⟩ = some (.int .i64 a0_0) ∧ w'.cell? ⟨gb150,1,none⟩ = some (.slice (some ad154) l0_1.length c0_1) ∧ w'.cell? (ad154.add ((x5_1).toNat * 3)) = some (.string ((rd_T85 l0_1 x5_1).f0)) ∧ w'.cell? ⟨(ad154.add ((x5_1).toNat * 3)).block,(ad154.add ((x5_1).toNat * 3)).off + 1,none⟩ = some (.string ((rd_T85 l0_1 x5_1).f1)) ∧ w'.cell? ⟨(ad154.add ((x5_1).toNat * 3)).block,(ad154.add ((x5_1).toNat * 3)).off + 2,none⟩ = some (.bool (true)) ∧ w'.cell? (ad154.add ((x5_1).toNat * 3)) = some (.string ((rd_T85 l0_1 x5_1).f0)) ∧ w'.cell? ⟨(ad154.add ((x5_1).toNat * 3)).block,(ad154.add ((x5_1).toNat * 3)).off + 1,none⟩ = some (.string ((rd_T85 l0_1 x5_1).f1)) ∧ w'.cell? ⟨(ad154.add ((x5_1).toNat * 3)).block,(ad154.add ((x5_1).toNat * 3)).off + 2,none⟩ = some (.bool (true))) (ds:=[]) #[false,false,false,false,false,false,false,false,false,false,false,false,false,false,false,false,false,false,false,false] (by kernel_rfl) rfl rfl ⟨kC_ BK150 0,kC_ BK150 1,((HB.out.cell (wb_ w _ hw155_0)).trans hw155_0),((HB.out.cell (wb_ w _ hw155_1)).trans hw155_1),((HB.out.cell (wb_ w _ hw155_2)).trans hw155_2),((HB.out.cell (wb_ w _ hw157_0)).trans hw157_0),((HB.out.cell (wb_ w _ hw157_1)).trans hw157_1),((HB.out.cell (wb_ w _ hw157_2)).trans hw157_2)⟩ (fun hHeld => ?_);refine with_tabW spec_BatchText.tab10 spec_BatchText.bits10 (fun HT_ HW_ => ?_);generalize wr.drew = w23 at BK150 HB hx155_0 hx155_1 hx155_2 hx157_0 hx157_1 hx157_2 hHeld ⊢;refine pU_ 0 (some 31) ?_
           refine pU_ 1 (some 32) ?_
           refine pU_ 3 (some 34) ?_
           refine pU_ 9 (some 40) ?_
           refine pU_ 11 (some 42) ?_
           refine pU_ 13 (some 44) ?_
           refine tK_ 2 (some 33) hHeld ?_
           refine pU_ 4 (some 35) ?_
           refine pU_ 5 (some 36) ?_
           refine tK_ 6 (some 37) hHeld ?_
           refine tK_ 12 (some 43) hHeld ?_
           refine pU_ 14 (some 45) ?_
           refine pU_ 15 (some 46) ?_
           refine tK_ 16 (some 47) hHeld ?_
           refine oN_ 7 (some 38) (fun K hK => ?_);refine gs_ Try.func55 #[.string ((rd_T85 l0_1 x5_1).f0)] ?_;with_reducible refine (spec_l05Short.calls k1 ((rd_T85 l0_1 x5_1).f0) t156 _ A17.out).mono ?_;rintro e w24 ⟨rfl,hb⟩;refine ⟨_,rfl,?_⟩;replace BK150:=kB_ BK150 hb;replace HB:=bS_ HB hb
           (try clear hb)
           refine hK.out _ _ ⟨kC_ BK150 0,kC_ BK150 1,((HB.out.cell (wb_ w _ hw155_0)).trans hw155_0),((HB.out.cell (wb_ w _ hw155_1)).trans hw155_1),((HB.out.cell (wb_ w _ hw155_2)).trans hw155_2),((HB.out.cell (wb_ w _ hw157_0)).trans hw157_0),((HB.out.cell (wb_ w _ hw157_1)).trans hw157_1),((HB.out.cell (wb_ w _ hw157_2)).trans hw157_2)⟩ (fun hHeld => ?_);clear hK K;refine nX_ (some 38) ?_
           refine pU_ 8 (some 39) ?_
           refine pU_ 10 (some 41) ?_
           refine oN_ 17 (some 48) (fun K hK => ?_);refine gs_ Try.func55 #[.string ((rd_T85 l0_1 x5_1).f1)] ?_;with_reducible refine (spec_l05Short.calls k1 ((rd_T85 l0_1 x5_1).f1) t158 _ A20.out).mono ?_;rintro e w25 ⟨rfl,hb⟩;refine ⟨_,rfl,?_⟩;replace BK150:=kB_ BK150 hb;replace HB:=bS_ HB hb
           (try clear hb)
           refine hK.out _ _ ⟨kC_ BK150 0,kC_ BK150 1,((HB.out.cell (wb_ w _ hw155_0)).trans hw155_0),((HB.out.cell (wb_ w _ hw155_1)).trans hw155_1),((HB.out.cell (wb_ w _ hw155_2)).trans hw155_2),((HB.out.cell (wb_ w _ hw157_0)).trans hw157_0),((HB.out.cell (wb_ w _ hw157_1)).trans hw157_1),((HB.out.cell (wb_ w _ hw157_2)).trans hw157_2)⟩ (fun hHeld => ?_);clear hK K;refine nX_ (some 48) ?_
           refine pU_ 18 (some 49) ?_
           refine pU_ 19 (some 4) ?_
           refine done_ (done_of HT_.out (by kernel_rfl)) ?_
           try go_wp2
           go_roundg k1
           case measure => have:=HK1.out;omega
           case rel => exact ⟨(((x4_1 ++ t156) ++ (⟨#[1]⟩ : ByteArray)) ++ t158),(wrap64 (x5_1 + 1)),(by first|rfl|(simp;done)|(simp [*];done)),(by first|rfl|(simp;done)|(simp [*];done)),H',⟨by have:=HK1.out;omega⟩,⟨kq_ BK150⟩,⟨bq_ HB⟩⟩
          ·rw [if_neg c21] at H;exact absurd H (by simp)
         ·rw [if_neg c19] at H;exact absurd H (by simp)
        ·rw [if_neg c18] at H;exact absurd H (by simp)
       ·replace c16:=Bool.eq_false_iff.mpr c16;subst c16
        have H1 : ((spec_l05Short.f k1 ((rd_T85 l0_1 x5_1).f0)).bind fun t160 => (if x4_1.size + t160.size ≤ 9223372036854775807 then (if (x4_1 ++ t160).size + 1 ≤ 9223372036854775807 then ((spec_l05Short.f k1 ((rd_T85 l0_1 x5_1).f1)).bind fun t162 => (if ((x4_1 ++ t160) ++ (⟨#[0]⟩ : ByteArray)).size + t162.size ≤ 9223372036854775807 then (spec_BatchText.l0 k1 (((x4_1 ++ t160) ++ (⟨#[0]⟩ : ByteArray)) ++ t162) (wrap64 (x5_1 + 1)) a0_0 l0_1) else (none))) else (none)) else (none))) = some (r1,r2):=by rw [if_neg (show ¬ (false = true) by decide)] at H;exact H
        clear H;have H:=H1;clear H1;replace H:=ob_.mp H;obtain ⟨t160,A260,H⟩:=H;(try dsimp only at H);have A26:=A_ A260;clear A260
        by_cases c27 : x4_1.size + t160.size ≤ 9223372036854775807
        ·rw [if_pos c27] at H;have c27b0:=eq_true c27;have c27b1 : decide (x4_1.size + t160.size ≤ 9223372036854775807) = true:=de_ c27
         try have c27b2 : (9223372036854775807 < x4_1.size + t160.size) = False:=eq_false (Nat.not_lt.2 c27)
         by_cases c28 : (x4_1 ++ t160).size + 1 ≤ 9223372036854775807
         ·rw [if_pos c28] at H;have c28b0:=eq_true c28;have c28b1 : decide ((x4_1 ++ t160).size + 1 ≤ 9223372036854775807) = true:=de_ c28
          try have c28b2 : (9223372036854775807 < (x4_1 ++ t160).size + 1) = False:=eq_false (Nat.not_lt.2 c28)
          try have c28b3 : (9223372036854775807 < x4_1.size + t160.size + 1) = False:=eq_false (by have h_:=c28;simp only [ByteArray.size_append,show ∀ x_ : UInt8,(⟨#[x_]⟩ : ByteArray).size = 1 from fun _ => rfl] at h_;omega)
          replace H:=ob_.mp H;obtain ⟨t162,A290,H⟩:=H;(try dsimp only at H);have A29:=A_ A290;clear A290
          by_cases c30 : ((x4_1 ++ t160) ++ (⟨#[0]⟩ : ByteArray)).size + t162.size ≤ 9223372036854775807
          ·rw [if_pos c30] at H;have c30b0:=eq_true c30;have c30b1 : decide (((x4_1 ++ t160) ++ (⟨#[0]⟩ : ByteArray)).size + t162.size ≤ 9223372036854775807) = true:=de_ c30
           try have c30b2 : (9223372036854775807 < ((x4_1 ++ t160) ++ (⟨#[0]⟩ : ByteArray)).size + t162.size) = False:=eq_false (Nat.not_lt.2 c30)
           try have c30b3 : (9223372036854775807 < x4_1.size + t160.size + 1 + t162.size) = False:=eq_false (by have h_:=c30;simp only [ByteArray.size_append,show ∀ x_ : UInt8,(⟨#[x_]⟩ : ByteArray).size = 1 from fun _ => rfl] at h_;omega)
           have H':=A_ H;clear H;obtain ⟨hcz31_0,hcz31_1,hfz31_0,hfz31_1⟩:=k2f_ BK150;have p154 : 0 ≤ (x5_1 : Int):=oda_;have q154 : x5_1 < (l0_1.length : Int):=oda_;obtain ⟨ad154,e154,hx154_0,hx154_1,hx154_2⟩:=at_T85 HR0_1.out x5_1 p154 q154
           (try rw [← Nbq15.out] at hx154_2)
           (try rw [← Nbq15.out] at hw154_2)
           cases e154
           replace hx154_0:=(HB.out.cell (wb_ w _ hx154_0)).trans hx154_0;replace hx154_1:=(HB.out.cell (wb_ w _ hx154_1)).trans hx154_1;replace hx154_2:=(HB.out.cell (wb_ w _ hx154_2)).trans hx154_2;replace p154:=eq_true p154;replace q154:=eq_true q154
           try go_wp2
           replace BK150:=A_ (kd_ BK150.out);replace HB:=A_ (pd_ HB.out);have p159 : 0 ≤ (x5_1 : Int):=oda_;have q159 : x5_1 < (l0_1.length : Int):=oda_;obtain ⟨ad159,e159,hx159_0,hx159_1,hx159_2⟩:=at_T85 HR0_1.out x5_1 p159 q159;have hw159_2:=hx159_2;have hw159_1:=hx159_1;have hw159_0:=hx159_0
           (try rw [← Nbq15.out] at hx159_2)
           (try rw [← Nbq15.out] at hw159_2)
           obtain rfl : ad154 = ad159:=(by injection e159);replace hx159_0:=(HB.out.cell (wb_ w _ hx159_0)).trans hx159_0;replace hx159_1:=(HB.out.cell (wb_ w _ hx159_1)).trans hx159_1;replace hx159_2:=(HB.out.cell (wb_ w _ hx159_2)).trans hx159_2;replace p159:=eq_true p159;replace q159:=eq_true q159;have p161 : 0 ≤ (x5_1 : Int):=oda_;have q161 : x5_1 < (l0_1.length : Int):=oda_;obtain ⟨ad161,e161,hx161_0,hx161_1,hx161_2⟩:=at_T85 HR0_1.out x5_1 p161 q161;have hw161_2:=hx161_2;have hw161_1:=hx161_1;have hw161_0:=hx161_0
           (try rw [← Nbq15.out] at hx161_2)
           (try rw [← Nbq15.out] at hw161_2)
           obtain rfl : ad154 = ad161:=(by injection e161);replace hx161_0:=(HB.out.cell (wb_ w _ hx161_0)).trans hx161_0;replace hx161_1:=(HB.out.cell (wb_ w _ hx161_1)).trans hx161_1;replace hx161_2:=(HB.out.cell (wb_ w _ hx161_2)).trans hx161_2;replace p161:=eq_true p161;replace q161:=eq_true q161;refine start_ (n:=20) (S:=fun w' => w'.cell? ⟨gb150,0,none⟩ = some (.int .i64 a0_0) ∧ w'.cell? ⟨gb150,1,none⟩ = some (.slice (some ad154) l0_1.length c0_1) ∧ w'.cell? (ad154.add ((x5_1).toNat * 3)) = some (.string ((rd_T85 l0_1 x5_1).f0)) ∧ w'.cell? ⟨(ad154.add ((x5_1).toNat * 3)).block,(ad154.add ((x5_1).toNat * 3)).off + 1,none⟩ = some (.string ((rd_T85 l0_1 x5_1).f1)) ∧ w'.cell? ⟨(ad154.add ((x5_1).toNat * 3)).block,(ad154.add ((x5_1).toNat * 3)).off + 2,none⟩ = some (.bool (false)) ∧ w'.cell? (ad154.add ((x5_1).toNat * 3)) = some (.string ((rd_T85 l0_1 x5_1).f0)) ∧ w'.cell? ⟨(ad154.add ((x5_1).toNat * 3)).block,(ad154.add ((x5_1).toNat * 3)).off + 1,none⟩ = some (.string ((rd_T85 l0_1 x5_1).f1)) ∧ w'.cell? ⟨(ad154.add ((x5_1).toNat * 3)).block,(ad154.add ((x5_1).toNat * 3)).off + 2,none⟩ = some (.bool (false))) (ds:=[]) #[false,false,false,false,false,false,false,false,false,false,false,false,false,false,false,false,false,false,false,false] (by kernel_rfl) rfl rfl ⟨kC_ BK150 0,kC_ BK150 1,((HB.out.cell (wb_ w _ hw159_0)).trans hw159_0),((HB.out.cell (wb_ w _ hw159_1)).trans hw159_1),((HB.out.cell (wb_ w _ hw159_2)).trans hw159_2),((HB.out.cell (wb_ w _ hw161_0)).trans hw161_0),((HB.out.cell (wb_ w _ hw161_1)).trans hw161_1),((HB.out.cell (wb_ w _ hw161_2)).trans hw161_2)⟩ (fun hHeld => ?_);refine with_tabW spec_BatchText.tab10 spec_BatchText.bits10 (fun HT_ HW_ => ?_);generalize wr.drew = w32 at BK150 HB hx159_0 hx159_1 hx159_2 hx161_0 hx161_1 hx161_2 hHeld ⊢;refine pU_ 0 (some 31) ?_
           refine pU_ 1 (some 32) ?_
           refine pU_ 3 (some 34) ?_
           refine pU_ 9 (some 40) ?_
           refine pU_ 11 (some 42) ?_
           refine pU_ 13 (some 44) ?_
           refine tK_ 2 (some 33) hHeld ?_
           refine pU_ 4 (some 35) ?_
           refine pU_ 5 (some 36) ?_
           refine tK_ 6 (some 37) hHeld ?_
           refine tK_ 12 (some 43) hHeld ?_
           refine pU_ 14 (some 45) ?_
           refine pU_ 15 (some 46) ?_
           refine tK_ 16 (some 47) hHeld ?_
           refine oN_ 7 (some 38) (fun K hK => ?_);refine gs_ Try.func55 #[.string ((rd_T85 l0_1 x5_1).f0)] ?_;with_reducible refine (spec_l05Short.calls k1 ((rd_T85 l0_1 x5_1).f0) t160 _ A26.out).mono ?_;rintro e w33 ⟨rfl,hb⟩;refine ⟨_,rfl,?_⟩;replace BK150:=kB_ BK150 hb;replace HB:=bS_ HB hb
           (try clear hb)
           refine hK.out _ _ ⟨kC_ BK150 0,kC_ BK150 1,((HB.out.cell (wb_ w _ hw159_0)).trans hw159_0),((HB.out.cell (wb_ w _ hw159_1)).trans hw159_1),((HB.out.cell (wb_ w _ hw159_2)).trans hw159_2),((HB.out.cell (wb_ w _ hw161_0)).trans hw161_0),((HB.out.cell (wb_ w _ hw161_1)).trans hw161_1),((HB.out.cell (wb_ w _ hw161_2)).trans hw161_2)⟩ (fun hHeld => ?_);clear hK K;refine nX_ (some 38) ?_
           refine pU_ 8 (some 39) ?_
           refine pU_ 10 (some 41) ?_
           refine oN_ 17 (some 48) (fun K hK => ?_);refine gs_ Try.func55 #[.string ((rd_T85 l0_1 x5_1).f1)] ?_;with_reducible refine (spec_l05Short.calls k1 ((rd_T85 l0_1 x5_1).f1) t162 _ A29.out).mono ?_;rintro e w34 ⟨rfl,hb⟩;refine ⟨_,rfl,?_⟩;replace BK150:=kB_ BK150 hb;replace HB:=bS_ HB hb
           (try clear hb)
           refine hK.out _ _ ⟨kC_ BK150 0,kC_ BK150 1,((HB.out.cell (wb_ w _ hw159_0)).trans hw159_0),((HB.out.cell (wb_ w _ hw159_1)).trans hw159_1),((HB.out.cell (wb_ w _ hw159_2)).trans hw159_2),((HB.out.cell (wb_ w _ hw161_0)).trans hw161_0),((HB.out.cell (wb_ w _ hw161_1)).trans hw161_1),((HB.out.cell (wb_ w _ hw161_2)).trans hw161_2)⟩ (fun hHeld => ?_);clear hK K;refine nX_ (some 48) ?_
           refine pU_ 18 (some 49) ?_
           refine pU_ 19 (some 4) ?_
           refine done_ (done_of HT_.out (by kernel_rfl)) ?_
           try go_wp2
           go_roundg k1
           case measure => have:=HK1.out;omega
           case rel => exact ⟨(((x4_1 ++ t160) ++ (⟨#[0]⟩ : ByteArray)) ++ t162),(wrap64 (x5_1 + 1)),(by first|rfl|(simp;done)|(simp [*];done)),(by first|rfl|(simp;done)|(simp [*];done)),H',⟨by have:=HK1.out;omega⟩,⟨kq_ BK150⟩,⟨bq_ HB⟩⟩
          ·rw [if_neg c30] at H;exact absurd H (by simp)
         ·rw [if_neg c28] at H;exact absurd H (by simp)
        ·rw [if_neg c27] at H;exact absurd H (by simp)
      ·rw [if_neg c14] at H;exact absurd H (by simp)
     ·rw [if_neg c13] at H;have c13b0 : decide (x5_1 < (l0_1.length : Int)) = false:=decide_eq_false c13;clear c13;simp only [Option.some.injEq,Prod.mk.injEq] at H;obtain ⟨rfl,rfl⟩:=H;obtain ⟨hcz35_0,hcz35_1,hfz35_0,hfz35_1⟩:=k2f_ BK150;go_wp2;go_ret2;exact ⟨ex_,bq_ HB⟩
  ·rw [if_neg c6] at H;exact absurd H (by simp)
 ·replace c3:=Bool.eq_false_iff.mpr c3;subst c3
  have H1 : (some ((⟨#[]⟩ : ByteArray),false)) = some (r1,r2):=by rw [if_neg (show ¬ (false = true) by decide)] at H;exact H
  clear H;have H:=H1;clear H1;simp only [Option.some.injEq,Prod.mk.injEq] at H;obtain ⟨rfl,rfl⟩:=H;go_enter Try.func102,Try.ntmps102
  go_wp2_with (first|((with_reducible refine gate_dst (N:=1) rfl ?_);refine bE_ 1 #[.int .i64 a0_0,.slice A0_1 l0_1.length c0_1] 79 ?_;intro gb150 hg w36 hbox hb;have BK150:=A_ (hbox);have GW150:=gE_ hg HB;have GE150:=gE_ hg HB;replace HB:=bS_ HB hb;clear hb hbox hg;obtain ⟨hcz37_0,hcz37_1,hfz37_0,hfz37_1⟩:=k2f_ BK150)|((with_reducible refine gate_callee (f:=126) rfl ?_);refine gL_ (some 8) Try.func126 #[.agg #[.int .i64 a0_0,.slice A0_1 l0_1.length c0_1]] ?_;(with_reducible refine (spec_BatchOk.calls k a0_0 _ _ l0_1 false _ ?side1 ?side2 A2.out).mono ?_);(case side1 => repeat (first|exact (Kd.C_below HR0_1.out HB.out)|(with_reducible refine Kd.C_alloc ?_ _)|(with_reducible refine Kd.C_drewN ?_ _)|(with_reducible refine Kd.C_drew ?_)));(case side2 => exact HC0_1.out);rintro e w38 ⟨rfl,hb⟩;refine ⟨_,rfl,?_⟩;replace BK150:=kB_ BK150 hb;replace HB:=bS_ HB hb;(try clear hb)))
  go_ret2;exact ⟨ex_,bq_ HB⟩
end Go.Proofs.Ytbcgnncbiblibaa.PFnExactScanSeg
