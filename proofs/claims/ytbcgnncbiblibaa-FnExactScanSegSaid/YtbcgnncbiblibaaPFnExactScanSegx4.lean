/- The contracts of the Go functions that this law reaches: what each call returns, by a plain Lean function of its arguments. No conditions but those each contract names. By the kit's print.py, run by this session's wip/gen/pp.py with facts and hand proofs beside it: not to the letter what print.sh prints. -/
import Derived.Test.YtbcgnncbiblibaaPFnExactScanSegx0
import Derived.Test.YtbcgnncbiblibaaPFnExactScanSegx1
import Derived.Test.YtbcgnncbiblibaaPFnExactScanSegx3
namespace Go.Proofs.Ytbcgnncbiblibaa.PFnExactScanSeg
open Go.RowKit Go.Proofs.YtbcgnncbiblibaaW.PrintWords Go.Proofs.YtbcgnncbiblibaaW.PrintLast Go.Proofs.YtbcgnncbiblibaaW.PrintMore
attribute [local go_sem] max2_int min2_int max_two min_two max_three min_three max_four min_four
set_option linter.unusedVariables false
set_option linter.unusedSimpArgs false
mutual
def spec_BatchOk.j0 : Nat → Bool → Int → List (S85) → Option (Bool)
 | 0,_,_,_ => none
 | k + 1,x14,x145000,x145001 => if x14 = true then (some false) else (spec_BatchOk.l0 k 0 x145000 x145001)
def spec_BatchOk.l0 : Nat → Int → Int → List (S85) → Option (Bool)
 | 0,_,_,_ => none
 | k + 1,x3,x145000,x145001 => if x3 < (x145001.length : Int) then (if 0 ≤ x3 then ((spec_l05Key.f ((rd_T85 x145001 x3).f0)).bind fun t148 => (if t148 = true then (if x3 > 0 then (if 0 ≤ (wrap64 (x3 - 1)) then (if (wrap64 (x3 - 1)) < (x145001.length : Int) then (if ((Op.bytesLess (((rd_T85 x145001 (wrap64 (x3 - 1))).f0).toList) (((rd_T85 x145001 x3).f0).toList)) = true) then (if (((rd_T85 x145001 x3).f1).size : Int) > 40 then (some false) else (if (rd_T85 x145001 x3).f2 = true then (if ((rd_T85 x145001 x3).f1).toList = ([] : List UInt8) then (spec_BatchOk.l0 k (wrap64 (x3 + 1)) x145000 x145001) else (some false)) else (spec_BatchOk.l0 k (wrap64 (x3 + 1)) x145000 x145001))) else (some false)) else (none)) else (none)) else (if (((rd_T85 x145001 x3).f1).size : Int) > 40 then (some false) else (if (rd_T85 x145001 x3).f2 = true then (if ((rd_T85 x145001 x3).f1).toList = ([] : List UInt8) then (spec_BatchOk.l0 k (wrap64 (x3 + 1)) x145000 x145001) else (some false)) else (spec_BatchOk.l0 k (wrap64 (x3 + 1)) x145000 x145001)))) else (some false))) else (none)) else (some true)
end
def spec_BatchOk.f (k : Nat) (a0_0 : Int) (l0_1 : List (S85)) : Option (Bool) := (spec_l01In.f a0_0 0 100000).bind fun t145 => (if t145 = true then (spec_BatchOk.j0 k (decide ((l0_1.length : Int) > 60)) a0_0 l0_1) else (spec_BatchOk.j0 k true a0_0 l0_1))
theorem spec_BatchOk.mono_l : ∀ k, (∀ y0 y1 y2, LeO (spec_BatchOk.j0 k y0 y1 y2) (spec_BatchOk.j0 (k + 1) y0 y1 y2)) ∧ (∀ y0 y1 y2, LeO (spec_BatchOk.l0 k y0 y1 y2) (spec_BatchOk.l0 (k + 1) y0 y1 y2))
 | 0 => ⟨fun _ _ _ r h => by simp [spec_BatchOk.j0] at h,fun _ _ _ r h => by simp [spec_BatchOk.l0] at h⟩
 | k + 1 => by
  obtain ⟨ih0,ih1⟩:=spec_BatchOk.mono_l k;refine ⟨?_,?_⟩
  ·intro y0 y1 y2
   unfold spec_BatchOk.j0
   repeat' first
   | (with_reducible exact ih0 _ _ _)
   | (with_reducible exact ih1 _ _ _)
   | (with_reducible exact LeO.refl _)
   | (with_reducible exact LeO.none _)
   | (with_reducible refine LeO.ite ?_ ?_)
   | (with_reducible refine LeO.bind ?_ (fun _ => ?_))
  ·intro y0 y1 y2
   unfold spec_BatchOk.l0
   repeat' first
   | (with_reducible exact ih0 _ _ _)
   | (with_reducible exact ih1 _ _ _)
   | (with_reducible exact LeO.refl _)
   | (with_reducible exact LeO.none _)
   | (with_reducible refine LeO.ite ?_ ?_)
   | (with_reducible refine LeO.bind ?_ (fun _ => ?_))
theorem spec_BatchOk.mono : ∀ a0 a1 k, LeO (spec_BatchOk.f k a0 a1) (spec_BatchOk.f (k + 1) a0 a1) := by
 intro a0 a1 k;obtain ⟨ih0,ih1⟩:=spec_BatchOk.mono_l k
 unfold spec_BatchOk.f
 repeat' first
   | (with_reducible exact ih0 _ _ _)
   | (with_reducible exact ih1 _ _ _)
   | (with_reducible exact LeO.refl _)
   | (with_reducible exact LeO.none _)
   | (with_reducible refine LeO.ite ?_ ?_)
   | (with_reducible refine LeO.bind ?_ (fun _ => ?_))
def spec_BatchOk.T7 : Bool × List (List Nat × List Nat) := (true, [([], []), ([0], [0]), ([1], [1]), ([2], [2]), ([3, 2], [3]), ([4], [4]), ([5, 4], [4, 5]), ([6, 4, 4], [4, 6]), ([7], [7]), ([8, 7], [7, 8]), ([7], [7]), ([10, 7], [7, 10]), ([9, 11, 7], [7, 9, 11]), ([12, 7], [7, 12]), ([13, 7], [7, 13]), ([7], [7]), ([15, 7], [7, 15]), ([14, 16, 7], [7, 14, 16]), ([7, 17, 4], [4, 7, 17]), ([4, 18], [4, 18]), ([19, 7], [19]), ([20], [20]), ([21, 20], [20, 21]), ([22, 20], [20, 22]), ([23, 20], [20, 23]), ([20, 24], [20, 24]), ([25, 20], [25]), ([26], [26]), ([27, 26], [26, 27]), ([28, 26, 26], [26, 28]), ([29], [29]), ([30, 29], [29, 30]), ([31, 29], [29, 31]), ([29, 32, 26], [26, 29, 32]), ([26, 33], [26, 33])])
def spec_BatchOk.B7 : List Nat := [0, 1, 3, 7, 15, 31, 63, 127, 255, 511, 255, 1279, 4095, 8191, 16383, 255, 33023, 131071, 262143, 524287, 1048575, 2097151, 4194303, 8388607, 16777215, 33554431, 67108863, 134217727, 268435455, 536870911, 1073741823, 2147483647, 4294967295, 8589934591, 17179869183]
theorem spec_BatchOk.tab7 : rtab .any (opsOf Try.f126 7) = spec_BatchOk.T7 := by kernel_rfl
theorem spec_BatchOk.bits7 : waitsOk spec_BatchOk.T7.2 spec_BatchOk.B7 = true := by kernel_rfl
set_option maxHeartbeats 8000000 in
set_option maxRecDepth 100000 in
theorem spec_BatchOk.calls (k : Nat) (a0_0 : Int) (A0_1 : Option Addr) (c0_1 : Nat) (l0_1 : List (S85)) (r : Bool) (w : World) (hr0_1 : Kd.C k85 w A0_1 l0_1.length l0_1) (hc0_1 : l0_1.length ≤ c0_1) (h : spec_BatchOk.f k a0_0 l0_1 = some r) :
  Calls Try.prog 126 #[.agg #[.int .i64 a0_0,.slice A0_1 l0_1.length c0_1]] w fun e w' => e = .returned (.bool r) ∧ Below w.heap.size w w':=by
 have hu79:=Try.underlying79;have hu85:=Try.underlying85;have HR0_1:=A_ hr0_1;have HC0_1:=A_ hc0_1;clear hr0_1 hc0_1;have HB:=A_ (Below.refl w.heap.size w);unfold spec_BatchOk.f at h;have H:=h;clear h;have HC2:=A_ H;clear H;go_enter Try.func126,Try.ntmps126
 go_upto_region 1 with (first|((with_reducible refine gate_dst (N:=1) rfl ?_);(try (refine gate_guard (by rfl) ?_;dsimp only));refine bE_ 1 #[.int .i64 a0_0,.slice A0_1 l0_1.length c0_1] 79 ?_;intro gb144 hg w3 hbox hb;have BK144:=A_ (hbox);have GW144:=gE_ hg HB;have GE144:=gE_ hg HB;replace HB:=bS_ HB hb;clear hb hbox hg))
 (try simp only [Act.put,s1_,s2_,s3_])
 go_cut [14] (fun v14 wc => ∃ (kq : Nat) (x14_1 : Bool),v14 = .bool x14_1 ∧ Aside0 (spec_BatchOk.j0 kq x14_1 a0_0 l0_1 = some r) ∧ Aside0 (kq ≤ k) ∧ Aside0 (wc.heap[gb144]? = some (.cells #[.int .i64 a0_0,(.slice A0_1 l0_1.length c0_1)] 79 (0,0))) ∧ Aside0 (Below w.heap.size w wc))
 case first =>
  have H:=HC2.out;clear HC2;replace H:=ob_.mp H;obtain ⟨t145,A40,H⟩:=H;(try dsimp only at H);have A4:=A_ A40;clear A40
  by_cases c5 : t145 = true
  ·subst c5
   rw [if_pos rfl] at H;have H':=A_ H;clear H;obtain ⟨hcz6_0,hcz6_1,hfz6_0,hfz6_1⟩:=k2f_ BK144
   go_wp2_with (first|((with_reducible refine gate_callee (f:=81) rfl ?_);refine gL_ (some 7) Try.func81 #[.int .i64 a0_0,.int .i64 0,.int .i64 100000] ?_;(with_reducible refine (spec_l01In.calls a0_0 0 100000 true _ A4.out).mono ?_);rintro e w' ⟨rfl,⟨nd,rfl⟩⟩;refine ⟨_,rfl,?_⟩))
   go_meet
   case rel => exact ⟨_,(decide ((l0_1.length : Int) > 60)),(by first|rfl|(simp;done)|(simp [*];done)),H',⟨by first|omega|exact Nat.le_refl _⟩,⟨kq_ BK144⟩,⟨bq_ HB⟩⟩
  ·replace c5:=Bool.eq_false_iff.mpr c5;subst c5
   have H1 : (spec_BatchOk.j0 k true a0_0 l0_1) = some r:=by rw [if_neg (show ¬ (false = true) by decide)] at H;exact H
   clear H;have H:=H1;clear H1;have H':=A_ H;clear H;obtain ⟨hcz7_0,hcz7_1,hfz7_0,hfz7_1⟩:=k2f_ BK144
   go_wp2_with (first|((with_reducible refine gate_callee (f:=81) rfl ?_);refine gL_ (some 7) Try.func81 #[.int .i64 a0_0,.int .i64 0,.int .i64 100000] ?_;(with_reducible refine (spec_l01In.calls a0_0 0 100000 false _ A4.out).mono ?_);rintro e w' ⟨rfl,⟨nd,rfl⟩⟩;refine ⟨_,rfl,?_⟩))
   go_meet
   case rel => exact ⟨_,(true),(by first|rfl|(simp;done)|(simp [*];done)),H',⟨by first|omega|exact Nat.le_refl _⟩,⟨kq_ BK144⟩,⟨bq_ HB⟩⟩
 case rest =>
  clear HC2
  try clear c1
  try clear p2
  try clear c5
  try clear hcz6_0
  try clear hcz6_1
  try clear hcz7_0
  try clear hcz7_1
  try clear hfz6_0
  try clear hfz6_1
  try clear hfz7_0
  try clear hfz7_1
  obtain ⟨kq,x14_1,rfl,HA,HJ1,BK144,HB⟩:=hcut
  cases kq with
  | zero => exact absurd HA.out (by simp [spec_BatchOk.j0])
  | succ kj1 =>
   have H:=HA.out;clear HA;simp only [spec_BatchOk.j0] at H
   by_cases c8 : x14_1 = true
   ·subst c8
    rw [if_pos rfl] at H;obtain rfl:=Option.some.inj H;go_wp2;go_ret;exact ⟨ex_,bq_ HB⟩
   ·replace c8:=Bool.eq_false_iff.mpr c8;subst c8
    have H1 : (spec_BatchOk.l0 kj1 0 a0_0 l0_1) = some r:=by rw [if_neg (show ¬ (false = true) by decide)] at H;exact H
    clear H;have H:=H1;clear H1;have H':=A_ H;clear H;go_wp2
    go_loopg [3] kj1 (fun kq v3 w' => ∃ (x3_2 : Int),v3 = .int .i64 x3_2 ∧ Aside0 (spec_BatchOk.l0 kq x3_2 a0_0 l0_1 = some r) ∧ Aside0 (kq ≤ kj1) ∧ Aside0 (w'.heap[gb144]? = some (.cells #[.int .i64 a0_0,(.slice A0_1 l0_1.length c0_1)] 79 (0,0))) ∧ Aside0 (Below w.heap.size w w'))
    case atStart => exact ⟨(0),(by first|rfl|(simp;done)|(simp [*];done)),H',⟨Nat.le_refl _⟩,⟨kq_ BK144⟩,⟨bq_ HB⟩⟩
    case round =>
     clear H'
     try clear c1
     try clear p2
     try clear c5
     try clear c8
     try clear hcz6_0
     try clear hcz6_1
     try clear hcz7_0
     try clear hcz7_1
     try clear hfz6_0
     try clear hfz6_1
     try clear hfz7_0
     try clear hfz7_1
     try clear p2
     obtain ⟨x3_2,rfl,HA,HK2,BK144,HB⟩:=hrel
     cases gk with
     | zero => exact absurd HA.out (by simp [spec_BatchOk.l0])
     | succ k2 =>
      have H:=HA.out;clear HA;simp only [spec_BatchOk.l0] at H
      by_cases c9 : x3_2 < (l0_1.length : Int)
      ·rw [if_pos c9] at H;have c9b0 : decide (x3_2 < (l0_1.length : Int)) = true:=de_ c9;clear c9
       by_cases c10 : 0 ≤ x3_2
       ·rw [if_pos c10] at H;have c10b0 : decide (0 ≤ x3_2) = true:=de_ c10;clear c10;replace H:=ob_.mp H;obtain ⟨t148,A110,H⟩:=H;(try dsimp only at H);have A11:=A_ A110;clear A110
        by_cases c12 : t148 = true
        ·subst c12
         rw [if_pos rfl] at H
         by_cases c13 : x3_2 > 0
         ·rw [if_pos c13] at H;have c13b0 : decide (0 < x3_2) = true:=de_ c13;clear c13;obtain ⟨ji14,hji14⟩ : ∃ j_ : Int,(wrap64 (x3_2 - 1)) = j_:=⟨_,rfl⟩
          replace H : (if 0 ≤ (ji14) then (if (ji14) < (l0_1.length : Int) then (if ((Op.bytesLess (((rd_T85 l0_1 (ji14)).f0).toList) (((rd_T85 l0_1 x3_2).f0).toList)) = true) then (if (((rd_T85 l0_1 x3_2).f1).size : Int) > 40 then (some false) else (if (rd_T85 l0_1 x3_2).f2 = true then (if ((rd_T85 l0_1 x3_2).f1).toList = ([] : List UInt8) then (spec_BatchOk.l0 k2 (wrap64 (x3_2 + 1)) a0_0 l0_1) else (some false)) else (spec_BatchOk.l0 k2 (wrap64 (x3_2 + 1)) a0_0 l0_1))) else (some false)) else (none)) else (none)) = some r:=by first|(rw [hji14] at H;exact H)|(simp only [hji14] at H ⊢;exact H)
          (try rw [hji14] at A11)
          have hji14w : (IntKind.i64.wrap (x3_2 - 1)) = ji14:=(i64_w _).trans hji14
          by_cases c15 : 0 ≤ (ji14)
          ·rw [if_pos c15] at H;have c15b0 : decide (0 ≤ (ji14)) = true:=de_ c15;clear c15
           by_cases c16 : (ji14) < (l0_1.length : Int)
           ·rw [if_pos c16] at H;have c16b0 : decide ((ji14) < (l0_1.length : Int)) = true:=de_ c16;clear c16
            by_cases c17 : ((Op.bytesLess (((rd_T85 l0_1 (ji14)).f0).toList) (((rd_T85 l0_1 x3_2).f0).toList)) = true)
            ·rw [if_pos c17] at H;have c17b0 : (Op.bytesLess (((rd_T85 l0_1 (ji14)).f0).toList) (((rd_T85 l0_1 x3_2).f0).toList)) = true:=c17;clear c17
             by_cases c18 : (((rd_T85 l0_1 x3_2).f1).size : Int) > 40
             ·rw [if_pos c18] at H;have c18b0 : decide (40 < (((rd_T85 l0_1 x3_2).f1).size : Int)) = true:=de_ c18;have c18b1 : decide (40 < ((rd_T85 l0_1 x3_2).f1).size) = true:=de_ (by omega);clear c18;obtain rfl:=Option.some.inj H;obtain ⟨hcz19_0,hcz19_1,hfz19_0,hfz19_1⟩:=k2f_ BK144;have p146 : 0 ≤ (x3_2 : Int):=oda_;have q146 : x3_2 < (l0_1.length : Int):=oda_;obtain ⟨ad146,e146,hx146_0,hx146_1,hx146_2⟩:=at_T85 HR0_1.out x3_2 p146 q146
              cases e146
              replace hx146_0:=(HB.out.cell (wb_ w _ hx146_0)).trans hx146_0;replace hx146_1:=(HB.out.cell (wb_ w _ hx146_1)).trans hx146_1;replace hx146_2:=(HB.out.cell (wb_ w _ hx146_2)).trans hx146_2;replace p146:=eq_true p146;replace q146:=eq_true q146
              try go_wp2_with (first|((with_reducible refine gate_dst (N:=4) rfl ?_);(try (refine gate_guard (by rfl) ?_;dsimp only));refine bE_ 4 #[.string (⟨#[]⟩ : ByteArray),.string (⟨#[]⟩ : ByteArray),.bool false] 85 ?_;intro gb147 hg w20 hbox hb;have BK147:=A_ (hbox);have GW147:=gE_ hg HB;have GE147:=gE_ hg HB;replace HB:=bS_ HB hb;have NB144_147:=nB_ hg BK144;have NB147_144:=nC_ hg BK144;replace BK144:=kB_ BK144 hb;clear hb hbox hg;have hnb21:=NB147_144.out;have hnc21:=NB144_147.out;obtain ⟨hcz22_0,hcz22_1,hcz22_2,hfz22_0,hfz22_1,hfz22_2⟩:=k3f_ BK147))
              have n0_ : Aside0 ((((w20.setCell ⟨gb147,0,none⟩ (.string ((rd_T85 l0_1 x3_2).f0))).setCell ⟨gb147,1,none⟩ (.string ((rd_T85 l0_1 x3_2).f1))).setCell ⟨gb147,2,none⟩ (.bool ((rd_T85 l0_1 x3_2).f2))).heap[gb144]? = some (.cells #[.int .i64 a0_0,.slice (some ad146) l0_1.length c0_1] 79 (0,0))):=⟨kz_ BK144⟩;have n1_ : Aside0 ((((w20.setCell ⟨gb147,0,none⟩ (.string ((rd_T85 l0_1 x3_2).f0))).setCell ⟨gb147,1,none⟩ (.string ((rd_T85 l0_1 x3_2).f1))).setCell ⟨gb147,2,none⟩ (.bool ((rd_T85 l0_1 x3_2).f2))).heap[gb147]? = some (.cells #[.string ((rd_T85 l0_1 x3_2).f0),.string ((rd_T85 l0_1 x3_2).f1),.bool ((rd_T85 l0_1 x3_2).f2)] 85 (0,0))):=⟨kz_ BK147⟩;have n2_ : Aside0 (Below w.heap.size w (((w20.setCell ⟨gb147,0,none⟩ (.string ((rd_T85 l0_1 x3_2).f0))).setCell ⟨gb147,1,none⟩ (.string ((rd_T85 l0_1 x3_2).f1))).setCell ⟨gb147,2,none⟩ (.bool ((rd_T85 l0_1 x3_2).f2)))):=⟨bq_ HB⟩
              (try clear BK144)
              (try clear BK147)
              (try clear HB)
              generalize (((w20.setCell ⟨gb147,0,none⟩ (.string ((rd_T85 l0_1 x3_2).f0))).setCell ⟨gb147,1,none⟩ (.string ((rd_T85 l0_1 x3_2).f1))).setCell ⟨gb147,2,none⟩ (.bool ((rd_T85 l0_1 x3_2).f2))) = w23 at n0_ n1_ n2_ ⊢;have BK144:=n0_;have BK147:=n1_;have HB:=n2_;clear n0_ n1_ n2_;replace BK144:=A_ (kd_ BK144.out);replace BK147:=A_ (kd_ BK147.out);replace HB:=A_ (pd_ HB.out);have p149 : 0 ≤ ((ji14) : Int):=oda_;have q149 : (ji14) < (l0_1.length : Int):=oda_;obtain ⟨ad149,e149,hx149_0,hx149_1,hx149_2⟩:=at_T85 HR0_1.out (ji14) p149 q149;have hw149_2:=hx149_2;have hw149_1:=hx149_1;have hw149_0:=hx149_0;obtain rfl : ad146 = ad149:=(by injection e149);replace hx149_0:=(HB.out.cell (wb_ w _ hx149_0)).trans hx149_0;replace hx149_1:=(HB.out.cell (wb_ w _ hx149_1)).trans hx149_1;replace hx149_2:=(HB.out.cell (wb_ w _ hx149_2)).trans hx149_2;replace p149:=eq_true p149;replace q149:=eq_true q149;refine start_ (n:=35) (S:=fun w' => w'.cell? ⟨gb147,0,none⟩ = some (.string ((rd_T85 l0_1 x3_2).f0)) ∧ w'.cell? ⟨gb147,1,none⟩ = some (.string ((rd_T85 l0_1 x3_2).f1)) ∧ w'.cell? ⟨gb147,2,none⟩ = some (.bool ((rd_T85 l0_1 x3_2).f2)) ∧ w'.cell? ⟨gb144,0,none⟩ = some (.int .i64 a0_0) ∧ w'.cell? ⟨gb144,1,none⟩ = some (.slice (some ad146) l0_1.length c0_1) ∧ w'.cell? (ad146.add (((ji14)).toNat * 3)) = some (.string ((rd_T85 l0_1 (ji14)).f0)) ∧ w'.cell? ⟨(ad146.add (((ji14)).toNat * 3)).block,(ad146.add (((ji14)).toNat * 3)).off + 1,none⟩ = some (.string ((rd_T85 l0_1 (ji14)).f1)) ∧ w'.cell? ⟨(ad146.add (((ji14)).toNat * 3)).block,(ad146.add (((ji14)).toNat * 3)).off + 2,none⟩ = some (.bool ((rd_T85 l0_1 (ji14)).f2))) (ds:=[]) #[false,false,false,false,false,false,false,false,false,false,false,false,false,false,false,false,false,false,false,false,false,false,false,false,false,false,false,false,false,false,false,false,false,false,false] (by kernel_rfl) rfl rfl ⟨kC_ BK147 0,kC_ BK147 1,kC_ BK147 2,kC_ BK144 0,kC_ BK144 1,((HB.out.cell (wb_ w _ hw149_0)).trans hw149_0),((HB.out.cell (wb_ w _ hw149_1)).trans hw149_1),((HB.out.cell (wb_ w _ hw149_2)).trans hw149_2)⟩ (fun hHeld => ?_);refine with_tabW spec_BatchOk.tab7 spec_BatchOk.bits7 (fun HT_ HW_ => ?_);generalize w23.drew = w24 at BK144 BK147 HB hx149_0 hx149_1 hx149_2 hHeld ⊢;refine pU_ 0 (some 27) ?_
              refine tK_ 1 (some 28) hHeld ?_
              refine oN_ 2 (some 29) (fun K hK => ?_);refine gs_ Try.func135 #[.string ((rd_T85 l0_1 x3_2).f0)] ?_;with_reducible refine (spec_l05Key.calls ((rd_T85 l0_1 x3_2).f0) true _ A11.out).mono ?_;rintro e w' ⟨rfl,⟨nd,rfl⟩⟩;refine ⟨_,rfl,?_⟩;have BK147d_:=A_ (kn_ BK147.out nd);have BK144d_:=A_ (kn_ BK144.out nd);have HBd_:=A_ (pn_ HB.out nd);refine hK.out _ _ ⟨kC_ BK147d_ 0,kC_ BK147d_ 1,kC_ BK147d_ 2,kC_ BK144d_ 0,kC_ BK144d_ 1,((HBd_.out.cell (wb_ w _ hw149_0)).trans hw149_0),((HBd_.out.cell (wb_ w _ hw149_1)).trans hw149_1),((HBd_.out.cell (wb_ w _ hw149_2)).trans hw149_2)⟩ (fun hHeld => ?_);clear hK K;refine nX_ (some 29) ?_
              refine pU_ 3 (some 30) ?_
              refine pU_ 4 (some 31) ?_
              refine pU_ 5 (some 32) ?_
              refine pU_ 6 (some 33) ?_
              refine pU_ 7 (some 34) ?_
              refine pU_ 8 (some 35) ?_
              refine pU_ 10 (some 37) ?_
              refine pU_ 11 (some 38) ?_
              refine pU_ 15 (some 42) ?_
              refine tK_ 9 (some 36) hHeld ?_
              refine pU_ 12 (some 39) ?_
              refine pU_ 13 (some 40) ?_
              refine tK_ 14 (some 41) hHeld ?_
              refine tK_ 16 (some 43) hHeld ?_
              refine pU_ 17 (some 44) ?_
              refine pU_ 18 (some 45) ?_
              refine pU_ 19 (some 46) ?_
              refine pU_ 20 (some 47) ?_
              refine pU_ 21 (some 48) ?_
              refine tK_ 22 (some 49) hHeld ?_
              refine pU_ 23 (some 50) ?_
              refine pU_ 24 (some 51) ?_
              refine pU_ 25 (some 52) ?_
              refine pU_ 26 (some 53) ?_
              refine pure_ (i:=27) (N:=some 54) (v:=undef) (a':=?_) #[true,true,true,true,true,true,true,true,true,true,true,true,true,true,true,true,true,true,true,true,true,true,true,true,true,true,true,true,false,false,false,false,false,false,false] rfl rfl (any_of HT_.out (by kernel_rfl)) (fun _ _ _ h => h) (Or.inr ⟨by rfl,rfl⟩) ?_ ?_;rotate_left
              ·exact ux_
              refine pure_ (i:=28) (N:=some 55) (v:=undef) (a':=?_) #[true,true,true,true,true,true,true,true,true,true,true,true,true,true,true,true,true,true,true,true,true,true,true,true,true,true,true,true,true,false,false,false,false,false,false] rfl rfl (any_of HT_.out (by kernel_rfl)) (fun _ _ _ h => h) (Or.inr ⟨by rfl,rfl⟩) ?_ ?_;rotate_left
              ·exact ux_
              refine pure_ (i:=29) (N:=some 56) (v:=undef) (a':=?_) #[true,true,true,true,true,true,true,true,true,true,true,true,true,true,true,true,true,true,true,true,true,true,true,true,true,true,true,true,true,true,false,false,false,false,false] rfl rfl (any_of HT_.out (by kernel_rfl)) (fun _ _ _ h => h) (Or.inr ⟨by rfl,rfl⟩) ?_ ?_;rotate_left
              ·exact ux_
              refine pure_ (i:=30) (N:=some 57) (v:=undef) (a':=?_) #[true,true,true,true,true,true,true,true,true,true,true,true,true,true,true,true,true,true,true,true,true,true,true,true,true,true,true,true,true,true,true,false,false,false,false] rfl rfl (any_of HT_.out (by kernel_rfl)) (fun _ _ _ h => h) (Or.inr ⟨by rfl,rfl⟩) ?_ ?_;rotate_left
              ·exact ux_
              refine pure_ (i:=31) (N:=some 58) (v:=undef) (a':=?_) #[true,true,true,true,true,true,true,true,true,true,true,true,true,true,true,true,true,true,true,true,true,true,true,true,true,true,true,true,true,true,true,true,false,false,false] rfl rfl (any_of HT_.out (by kernel_rfl)) (fun _ _ _ h => h) (Or.inr ⟨by rfl,rfl⟩) ?_ ?_;rotate_left
              ·exact ux_
              refine pure_ (i:=32) (N:=some 59) (v:=undef) (a':=?_) #[true,true,true,true,true,true,true,true,true,true,true,true,true,true,true,true,true,true,true,true,true,true,true,true,true,true,true,true,true,true,true,true,true,false,false] rfl rfl (any_of HT_.out (by kernel_rfl)) (fun _ _ _ h => h) (Or.inr ⟨by rfl,rfl⟩) ?_ ?_;rotate_left
              ·exact ux_
              refine pure_ (i:=33) (N:=some 60) (v:=undef) (a':=?_) #[true,true,true,true,true,true,true,true,true,true,true,true,true,true,true,true,true,true,true,true,true,true,true,true,true,true,true,true,true,true,true,true,true,true,false] rfl rfl (any_of HT_.out (by kernel_rfl)) (fun _ _ _ h => h) (Or.inr ⟨by rfl,rfl⟩) ?_ ?_;rotate_left
              ·exact ux_
              refine pU_ 34 (some 61) ?_
              refine done_ (done_of HT_.out (by kernel_rfl)) ?_
              try go_wp2
              go_ret;exact ⟨by first|rfl|(simp [errW_none,errW_some] <;> rfl)|(simp only [← hji14];first|rfl|(simp [errW_none,errW_some] <;> rfl))|(simp [*,errW_none,errW_some] <;> rfl),bq_ HB⟩
             ·rw [if_neg c18] at H;have c18b0 : decide (40 < (((rd_T85 l0_1 x3_2).f1).size : Int)) = false:=decide_eq_false c18;have c18b1 : decide (40 < ((rd_T85 l0_1 x3_2).f1).size) = false:=decide_eq_false (by omega);clear c18;obtain ⟨bq25,hbq25⟩ : ∃ b_ : Bool,b_ = ((rd_T85 l0_1 x3_2).f2):=⟨_,rfl⟩
              replace H : (if bq25 = true then (if ((rd_T85 l0_1 x3_2).f1).toList = ([] : List UInt8) then (spec_BatchOk.l0 k2 (wrap64 (x3_2 + 1)) a0_0 l0_1) else (some false)) else (spec_BatchOk.l0 k2 (wrap64 (x3_2 + 1)) a0_0 l0_1)) = some r:=by rw [← hbq25] at H;exact H
              have Nbq25:=A_ hbq25;clear hbq25
              by_cases c26 : bq25 = true
              ·subst c26
               rw [if_pos rfl] at H
               by_cases c27 : ((rd_T85 l0_1 x3_2).f1).toList = ([] : List UInt8)
               ·rw [if_pos c27] at H;have c27b0 : (((rd_T85 l0_1 x3_2).f1).toList == ([] : List UInt8)) = true:=beq_iff_eq.mpr c27;have c27b1 : (((rd_T85 l0_1 x3_2).f1).toList != ([] : List UInt8)) = false:=bne_eq_false_iff_eq.mpr c27;clear c27;have H':=A_ H;clear H;obtain ⟨hcz28_0,hcz28_1,hfz28_0,hfz28_1⟩:=k2f_ BK144;have p146 : 0 ≤ (x3_2 : Int):=oda_;have q146 : x3_2 < (l0_1.length : Int):=oda_;obtain ⟨ad146,e146,hx146_0,hx146_1,hx146_2⟩:=at_T85 HR0_1.out x3_2 p146 q146
                (try rw [← Nbq25.out] at hx146_2)
                cases e146
                replace hx146_0:=(HB.out.cell (wb_ w _ hx146_0)).trans hx146_0;replace hx146_1:=(HB.out.cell (wb_ w _ hx146_1)).trans hx146_1;replace hx146_2:=(HB.out.cell (wb_ w _ hx146_2)).trans hx146_2;replace p146:=eq_true p146;replace q146:=eq_true q146
                try go_wp2_with (first|((with_reducible refine gate_dst (N:=4) rfl ?_);(try (refine gate_guard (by rfl) ?_;dsimp only));refine bE_ 4 #[.string (⟨#[]⟩ : ByteArray),.string (⟨#[]⟩ : ByteArray),.bool false] 85 ?_;intro gb147 hg w29 hbox hb;have BK147:=A_ (hbox);have GW147:=gE_ hg HB;have GE147:=gE_ hg HB;replace HB:=bS_ HB hb;have NB144_147:=nB_ hg BK144;have NB147_144:=nC_ hg BK144;replace BK144:=kB_ BK144 hb;clear hb hbox hg;have hnb30:=NB147_144.out;have hnc30:=NB144_147.out;obtain ⟨hcz31_0,hcz31_1,hcz31_2,hfz31_0,hfz31_1,hfz31_2⟩:=k3f_ BK147))
                have n0_ : Aside0 ((((w29.setCell ⟨gb147,0,none⟩ (.string ((rd_T85 l0_1 x3_2).f0))).setCell ⟨gb147,1,none⟩ (.string ((rd_T85 l0_1 x3_2).f1))).setCell ⟨gb147,2,none⟩ (.bool true)).heap[gb144]? = some (.cells #[.int .i64 a0_0,.slice (some ad146) l0_1.length c0_1] 79 (0,0))):=⟨kz_ BK144⟩;have n1_ : Aside0 ((((w29.setCell ⟨gb147,0,none⟩ (.string ((rd_T85 l0_1 x3_2).f0))).setCell ⟨gb147,1,none⟩ (.string ((rd_T85 l0_1 x3_2).f1))).setCell ⟨gb147,2,none⟩ (.bool true)).heap[gb147]? = some (.cells #[.string ((rd_T85 l0_1 x3_2).f0),.string ((rd_T85 l0_1 x3_2).f1),.bool true] 85 (0,0))):=⟨kz_ BK147⟩;have n2_ : Aside0 (Below w.heap.size w (((w29.setCell ⟨gb147,0,none⟩ (.string ((rd_T85 l0_1 x3_2).f0))).setCell ⟨gb147,1,none⟩ (.string ((rd_T85 l0_1 x3_2).f1))).setCell ⟨gb147,2,none⟩ (.bool true))):=⟨bq_ HB⟩
                (try clear BK144)
                (try clear BK147)
                (try clear HB)
                generalize (((w29.setCell ⟨gb147,0,none⟩ (.string ((rd_T85 l0_1 x3_2).f0))).setCell ⟨gb147,1,none⟩ (.string ((rd_T85 l0_1 x3_2).f1))).setCell ⟨gb147,2,none⟩ (.bool true)) = w32 at n0_ n1_ n2_ ⊢;have BK144:=n0_;have BK147:=n1_;have HB:=n2_;clear n0_ n1_ n2_;replace BK144:=A_ (kd_ BK144.out);replace BK147:=A_ (kd_ BK147.out);replace HB:=A_ (pd_ HB.out);have p149 : 0 ≤ ((ji14) : Int):=oda_;have q149 : (ji14) < (l0_1.length : Int):=oda_;obtain ⟨ad149,e149,hx149_0,hx149_1,hx149_2⟩:=at_T85 HR0_1.out (ji14) p149 q149;have hw149_2:=hx149_2;have hw149_1:=hx149_1;have hw149_0:=hx149_0
                (try rw [← Nbq25.out] at hx149_2)
                obtain rfl : ad146 = ad149:=(by injection e149);replace hx149_0:=(HB.out.cell (wb_ w _ hx149_0)).trans hx149_0;replace hx149_1:=(HB.out.cell (wb_ w _ hx149_1)).trans hx149_1;replace hx149_2:=(HB.out.cell (wb_ w _ hx149_2)).trans hx149_2;replace p149:=eq_true p149;replace q149:=eq_true q149;refine start_ (n:=35) (S:=fun w' => w'.cell? ⟨gb147,0,none⟩ = some (.string ((rd_T85 l0_1 x3_2).f0)) ∧ w'.cell? ⟨gb147,1,none⟩ = some (.string ((rd_T85 l0_1 x3_2).f1)) ∧ w'.cell? ⟨gb147,2,none⟩ = some (.bool true) ∧ w'.cell? ⟨gb144,0,none⟩ = some (.int .i64 a0_0) ∧ w'.cell? ⟨gb144,1,none⟩ = some (.slice (some ad146) l0_1.length c0_1) ∧ w'.cell? (ad146.add (((ji14)).toNat * 3)) = some (.string ((rd_T85 l0_1 (ji14)).f0)) ∧ w'.cell? ⟨(ad146.add (((ji14)).toNat * 3)).block,(ad146.add (((ji14)).toNat * 3)).off + 1,none⟩ = some (.string ((rd_T85 l0_1 (ji14)).f1)) ∧ w'.cell? ⟨(ad146.add (((ji14)).toNat * 3)).block,(ad146.add (((ji14)).toNat * 3)).off + 2,none⟩ = some (.bool ((rd_T85 l0_1 (ji14)).f2))) (ds:=[]) #[false,false,false,false,false,false,false,false,false,false,false,false,false,false,false,false,false,false,false,false,false,false,false,false,false,false,false,false,false,false,false,false,false,false,false] (by kernel_rfl) rfl rfl ⟨kC_ BK147 0,kC_ BK147 1,kC_ BK147 2,kC_ BK144 0,kC_ BK144 1,((HB.out.cell (wb_ w _ hw149_0)).trans hw149_0),((HB.out.cell (wb_ w _ hw149_1)).trans hw149_1),((HB.out.cell (wb_ w _ hw149_2)).trans hw149_2)⟩ (fun hHeld => ?_);refine with_tabW spec_BatchOk.tab7 spec_BatchOk.bits7 (fun HT_ HW_ => ?_);generalize w32.drew = w33 at BK144 BK147 HB hx149_0 hx149_1 hx149_2 hHeld ⊢;refine pU_ 0 (some 27) ?_
                refine tK_ 1 (some 28) hHeld ?_
                refine oN_ 2 (some 29) (fun K hK => ?_);refine gs_ Try.func135 #[.string ((rd_T85 l0_1 x3_2).f0)] ?_;with_reducible refine (spec_l05Key.calls ((rd_T85 l0_1 x3_2).f0) true _ A11.out).mono ?_;rintro e w' ⟨rfl,⟨nd,rfl⟩⟩;refine ⟨_,rfl,?_⟩;have BK147d_:=A_ (kn_ BK147.out nd);have BK144d_:=A_ (kn_ BK144.out nd);have HBd_:=A_ (pn_ HB.out nd);refine hK.out _ _ ⟨kC_ BK147d_ 0,kC_ BK147d_ 1,kC_ BK147d_ 2,kC_ BK144d_ 0,kC_ BK144d_ 1,((HBd_.out.cell (wb_ w _ hw149_0)).trans hw149_0),((HBd_.out.cell (wb_ w _ hw149_1)).trans hw149_1),((HBd_.out.cell (wb_ w _ hw149_2)).trans hw149_2)⟩ (fun hHeld => ?_);clear hK K;refine nX_ (some 29) ?_
                refine pU_ 3 (some 30) ?_
                refine pU_ 4 (some 31) ?_
                refine pU_ 5 (some 32) ?_
                refine pU_ 6 (some 33) ?_
                refine pU_ 7 (some 34) ?_
                refine pU_ 8 (some 35) ?_
                refine pU_ 10 (some 37) ?_
                refine pU_ 11 (some 38) ?_
                refine pU_ 15 (some 42) ?_
                refine tK_ 9 (some 36) hHeld ?_
                refine pU_ 12 (some 39) ?_
                refine pU_ 13 (some 40) ?_
                refine tK_ 14 (some 41) hHeld ?_
                refine tK_ 16 (some 43) hHeld ?_
                refine pU_ 17 (some 44) ?_
                refine pU_ 18 (some 45) ?_
                refine pU_ 19 (some 46) ?_
                refine pU_ 20 (some 47) ?_
                refine pU_ 21 (some 48) ?_
                refine tK_ 22 (some 49) hHeld ?_
                refine pU_ 23 (some 50) ?_
                refine pU_ 24 (some 51) ?_
                refine pU_ 25 (some 52) ?_
                refine pU_ 26 (some 53) ?_
                refine pU_ 27 (some 54) ?_
                refine tK_ 28 (some 55) hHeld ?_
                refine pU_ 29 (some 56) ?_
                refine pU_ 30 (some 57) ?_
                refine tK_ 31 (some 58) hHeld ?_
                refine pU_ 32 (some 59) ?_
                refine pU_ 33 (some 60) ?_
                refine pU_ 34 (some 61) ?_
                refine done_ (done_of HT_.out (by kernel_rfl)) ?_
                try go_wp2
                go_roundg k2
                case measure => have:=HJ1.out;have:=HK2.out;omega
                case rel => exact ⟨(wrap64 (x3_2 + 1)),(by first|rfl|(simp;done)|(simp [*];done)),H',⟨by have:=HJ1.out;have:=HK2.out;omega⟩,⟨kq_ BK144⟩,⟨bq_ HB⟩⟩
               ·rw [if_neg c27] at H;have c27b0 : (((rd_T85 l0_1 x3_2).f1).toList == ([] : List UInt8)) = false:=beq_eq_false_iff_ne.mpr c27;have c27b1 : (((rd_T85 l0_1 x3_2).f1).toList != ([] : List UInt8)) = true:=bne_iff_ne.mpr c27;obtain rfl:=Option.some.inj H;obtain ⟨hcz34_0,hcz34_1,hfz34_0,hfz34_1⟩:=k2f_ BK144;have p146 : 0 ≤ (x3_2 : Int):=oda_;have q146 : x3_2 < (l0_1.length : Int):=oda_;obtain ⟨ad146,e146,hx146_0,hx146_1,hx146_2⟩:=at_T85 HR0_1.out x3_2 p146 q146
                (try rw [← Nbq25.out] at hx146_2)
                cases e146
                replace hx146_0:=(HB.out.cell (wb_ w _ hx146_0)).trans hx146_0;replace hx146_1:=(HB.out.cell (wb_ w _ hx146_1)).trans hx146_1;replace hx146_2:=(HB.out.cell (wb_ w _ hx146_2)).trans hx146_2;replace p146:=eq_true p146;replace q146:=eq_true q146
                try go_wp2_with (first|((with_reducible refine gate_dst (N:=4) rfl ?_);(try (refine gate_guard (by rfl) ?_;dsimp only));refine bE_ 4 #[.string (⟨#[]⟩ : ByteArray),.string (⟨#[]⟩ : ByteArray),.bool false] 85 ?_;intro gb147 hg w35 hbox hb;have BK147:=A_ (hbox);have GW147:=gE_ hg HB;have GE147:=gE_ hg HB;replace HB:=bS_ HB hb;have NB144_147:=nB_ hg BK144;have NB147_144:=nC_ hg BK144;replace BK144:=kB_ BK144 hb;clear hb hbox hg;have hnb36:=NB147_144.out;have hnc36:=NB144_147.out;obtain ⟨hcz37_0,hcz37_1,hcz37_2,hfz37_0,hfz37_1,hfz37_2⟩:=k3f_ BK147))
                have n0_ : Aside0 ((((w35.setCell ⟨gb147,0,none⟩ (.string ((rd_T85 l0_1 x3_2).f0))).setCell ⟨gb147,1,none⟩ (.string ((rd_T85 l0_1 x3_2).f1))).setCell ⟨gb147,2,none⟩ (.bool true)).heap[gb144]? = some (.cells #[.int .i64 a0_0,.slice (some ad146) l0_1.length c0_1] 79 (0,0))):=⟨kz_ BK144⟩;have n1_ : Aside0 ((((w35.setCell ⟨gb147,0,none⟩ (.string ((rd_T85 l0_1 x3_2).f0))).setCell ⟨gb147,1,none⟩ (.string ((rd_T85 l0_1 x3_2).f1))).setCell ⟨gb147,2,none⟩ (.bool true)).heap[gb147]? = some (.cells #[.string ((rd_T85 l0_1 x3_2).f0),.string ((rd_T85 l0_1 x3_2).f1),.bool true] 85 (0,0))):=⟨kz_ BK147⟩;have n2_ : Aside0 (Below w.heap.size w (((w35.setCell ⟨gb147,0,none⟩ (.string ((rd_T85 l0_1 x3_2).f0))).setCell ⟨gb147,1,none⟩ (.string ((rd_T85 l0_1 x3_2).f1))).setCell ⟨gb147,2,none⟩ (.bool true))):=⟨bq_ HB⟩
                (try clear BK144)
                (try clear BK147)
                (try clear HB)
                generalize (((w35.setCell ⟨gb147,0,none⟩ (.string ((rd_T85 l0_1 x3_2).f0))).setCell ⟨gb147,1,none⟩ (.string ((rd_T85 l0_1 x3_2).f1))).setCell ⟨gb147,2,none⟩ (.bool true)) = w38 at n0_ n1_ n2_ ⊢;have BK144:=n0_;have BK147:=n1_;have HB:=n2_;clear n0_ n1_ n2_;replace BK144:=A_ (kd_ BK144.out);replace BK147:=A_ (kd_ BK147.out);replace HB:=A_ (pd_ HB.out);have p149 : 0 ≤ ((ji14) : Int):=oda_;have q149 : (ji14) < (l0_1.length : Int):=oda_;obtain ⟨ad149,e149,hx149_0,hx149_1,hx149_2⟩:=at_T85 HR0_1.out (ji14) p149 q149;have hw149_2:=hx149_2;have hw149_1:=hx149_1;have hw149_0:=hx149_0
                (try rw [← Nbq25.out] at hx149_2)
                obtain rfl : ad146 = ad149:=(by injection e149);replace hx149_0:=(HB.out.cell (wb_ w _ hx149_0)).trans hx149_0;replace hx149_1:=(HB.out.cell (wb_ w _ hx149_1)).trans hx149_1;replace hx149_2:=(HB.out.cell (wb_ w _ hx149_2)).trans hx149_2;replace p149:=eq_true p149;replace q149:=eq_true q149;refine start_ (n:=35) (S:=fun w' => w'.cell? ⟨gb147,0,none⟩ = some (.string ((rd_T85 l0_1 x3_2).f0)) ∧ w'.cell? ⟨gb147,1,none⟩ = some (.string ((rd_T85 l0_1 x3_2).f1)) ∧ w'.cell? ⟨gb147,2,none⟩ = some (.bool true) ∧ w'.cell? ⟨gb144,0,none⟩ = some (.int .i64 a0_0) ∧ w'.cell? ⟨gb144,1,none⟩ = some (.slice (some ad146) l0_1.length c0_1) ∧ w'.cell? (ad146.add (((ji14)).toNat * 3)) = some (.string ((rd_T85 l0_1 (ji14)).f0)) ∧ w'.cell? ⟨(ad146.add (((ji14)).toNat * 3)).block,(ad146.add (((ji14)).toNat * 3)).off + 1,none⟩ = some (.string ((rd_T85 l0_1 (ji14)).f1)) ∧ w'.cell? ⟨(ad146.add (((ji14)).toNat * 3)).block,(ad146.add (((ji14)).toNat * 3)).off + 2,none⟩ = some (.bool ((rd_T85 l0_1 (ji14)).f2))) (ds:=[]) #[false,false,false,false,false,false,false,false,false,false,false,false,false,false,false,false,false,false,false,false,false,false,false,false,false,false,false,false,false,false,false,false,false,false,false] (by kernel_rfl) rfl rfl ⟨kC_ BK147 0,kC_ BK147 1,kC_ BK147 2,kC_ BK144 0,kC_ BK144 1,((HB.out.cell (wb_ w _ hw149_0)).trans hw149_0),((HB.out.cell (wb_ w _ hw149_1)).trans hw149_1),((HB.out.cell (wb_ w _ hw149_2)).trans hw149_2)⟩ (fun hHeld => ?_);refine with_tabW spec_BatchOk.tab7 spec_BatchOk.bits7 (fun HT_ HW_ => ?_);generalize w38.drew = w39 at BK144 BK147 HB hx149_0 hx149_1 hx149_2 hHeld ⊢;refine pU_ 0 (some 27) ?_
                refine tK_ 1 (some 28) hHeld ?_
                refine oN_ 2 (some 29) (fun K hK => ?_);refine gs_ Try.func135 #[.string ((rd_T85 l0_1 x3_2).f0)] ?_;with_reducible refine (spec_l05Key.calls ((rd_T85 l0_1 x3_2).f0) true _ A11.out).mono ?_;rintro e w' ⟨rfl,⟨nd,rfl⟩⟩;refine ⟨_,rfl,?_⟩;have BK147d_:=A_ (kn_ BK147.out nd);have BK144d_:=A_ (kn_ BK144.out nd);have HBd_:=A_ (pn_ HB.out nd);refine hK.out _ _ ⟨kC_ BK147d_ 0,kC_ BK147d_ 1,kC_ BK147d_ 2,kC_ BK144d_ 0,kC_ BK144d_ 1,((HBd_.out.cell (wb_ w _ hw149_0)).trans hw149_0),((HBd_.out.cell (wb_ w _ hw149_1)).trans hw149_1),((HBd_.out.cell (wb_ w _ hw149_2)).trans hw149_2)⟩ (fun hHeld => ?_);clear hK K;refine nX_ (some 29) ?_
                refine pU_ 3 (some 30) ?_
                refine pU_ 4 (some 31) ?_
                refine pU_ 5 (some 32) ?_
                refine pU_ 6 (some 33) ?_
                refine pU_ 7 (some 34) ?_
                refine pU_ 8 (some 35) ?_
                refine pU_ 10 (some 37) ?_
                refine pU_ 11 (some 38) ?_
                refine pU_ 15 (some 42) ?_
                refine tK_ 9 (some 36) hHeld ?_
                refine pU_ 12 (some 39) ?_
                refine pU_ 13 (some 40) ?_
                refine tK_ 14 (some 41) hHeld ?_
                refine tK_ 16 (some 43) hHeld ?_
                refine pU_ 17 (some 44) ?_
                refine pU_ 18 (some 45) ?_
                refine pU_ 19 (some 46) ?_
                refine pU_ 20 (some 47) ?_
                refine pU_ 21 (some 48) ?_
                refine tK_ 22 (some 49) hHeld ?_
                refine pU_ 23 (some 50) ?_
                refine pU_ 24 (some 51) ?_
                refine pU_ 25 (some 52) ?_
                refine pU_ 26 (some 53) ?_
                refine pU_ 27 (some 54) ?_
                refine tK_ 28 (some 55) hHeld ?_
                refine pU_ 29 (some 56) ?_
                refine pU_ 30 (some 57) ?_
                refine tK_ 31 (some 58) hHeld ?_
                refine pU_ 32 (some 59) ?_
                refine pU_ 33 (some 60) ?_
                refine pU_ 34 (some 61) ?_
                refine done_ (done_of HT_.out (by kernel_rfl)) ?_
                try go_wp2
                go_ret;exact ⟨by first|rfl|(simp [errW_none,errW_some] <;> rfl)|(simp only [← hji14];first|rfl|(simp [errW_none,errW_some] <;> rfl))|(simp [*,errW_none,errW_some] <;> rfl),bq_ HB⟩
              ·replace c26:=Bool.eq_false_iff.mpr c26;subst c26
               have H1 : (spec_BatchOk.l0 k2 (wrap64 (x3_2 + 1)) a0_0 l0_1) = some r:=by rw [if_neg (show ¬ (false = true) by decide)] at H;exact H
               clear H;have H:=H1;clear H1;have H':=A_ H;clear H;obtain ⟨hcz40_0,hcz40_1,hfz40_0,hfz40_1⟩:=k2f_ BK144;have p146 : 0 ≤ (x3_2 : Int):=oda_;have q146 : x3_2 < (l0_1.length : Int):=oda_;obtain ⟨ad146,e146,hx146_0,hx146_1,hx146_2⟩:=at_T85 HR0_1.out x3_2 p146 q146
               (try rw [← Nbq25.out] at hx146_2)
               cases e146
               replace hx146_0:=(HB.out.cell (wb_ w _ hx146_0)).trans hx146_0;replace hx146_1:=(HB.out.cell (wb_ w _ hx146_1)).trans hx146_1;replace hx146_2:=(HB.out.cell (wb_ w _ hx146_2)).trans hx146_2;replace p146:=eq_true p146;replace q146:=eq_true q146
               try go_wp2_with (first|((with_reducible refine gate_dst (N:=4) rfl ?_);(try (refine gate_guard (by rfl) ?_;dsimp only));refine bE_ 4 #[.string (⟨#[]⟩ : ByteArray),.string (⟨#[]⟩ : ByteArray),.bool false] 85 ?_;intro gb147 hg w41 hbox hb;have BK147:=A_ (hbox);have GW147:=gE_ hg HB;have GE147:=gE_ hg HB;replace HB:=bS_ HB hb;have NB144_147:=nB_ hg BK144;have NB147_144:=nC_ hg BK144;replace BK144:=kB_ BK144 hb;clear hb hbox hg;have hnb42:=NB147_144.out;have hnc42:=NB144_147.out;obtain ⟨hcz43_0,hcz43_1,hcz43_2,hfz43_0,hfz43_1,hfz43_2⟩:=k3f_ BK147))
               have n0_ : Aside0 ((((w41.setCell ⟨gb147,0,none⟩ (.string ((rd_T85 l0_1 x3_2).f0))).setCell ⟨gb147,1,none⟩ (.string ((rd_T85 l0_1 x3_2).f1))).setCell ⟨gb147,2,none⟩ (.bool false)).heap[gb144]? = some (.cells #[.int .i64 a0_0,.slice (some ad146) l0_1.length c0_1] 79 (0,0))):=⟨kz_ BK144⟩;have n1_ : Aside0 ((((w41.setCell ⟨gb147,0,none⟩ (.string ((rd_T85 l0_1 x3_2).f0))).setCell ⟨gb147,1,none⟩ (.string ((rd_T85 l0_1 x3_2).f1))).setCell ⟨gb147,2,none⟩ (.bool false)).heap[gb147]? = some (.cells #[.string ((rd_T85 l0_1 x3_2).f0),.string ((rd_T85 l0_1 x3_2).f1),.bool false] 85 (0,0))):=⟨kz_ BK147⟩;have n2_ : Aside0 (Below w.heap.size w (((w41.setCell ⟨gb147,0,none⟩ (.string ((rd_T85 l0_1 x3_2).f0))).setCell ⟨gb147,1,none⟩ (.string ((rd_T85 l0_1 x3_2).f1))).setCell ⟨gb147,2,none⟩ (.bool false))):=⟨bq_ HB⟩
               (try clear BK144)
               (try clear BK147)
               (try clear HB)
               generalize (((w41.setCell ⟨gb147,0,none⟩ (.string ((rd_T85 l0_1 x3_2).f0))).setCell ⟨gb147,1,none⟩ (.string ((rd_T85 l0_1 x3_2).f1))).setCell ⟨gb147,2,none⟩ (.bool false)) = w44 at n0_ n1_ n2_ ⊢;have BK144:=n0_;have BK147:=n1_;have HB:=n2_;clear n0_ n1_ n2_;replace BK144:=A_ (kd_ BK144.out);replace BK147:=A_ (kd_ BK147.out);replace HB:=A_ (pd_ HB.out);have p149 : 0 ≤ ((ji14) : Int):=oda_;have q149 : (ji14) < (l0_1.length : Int):=oda_;obtain ⟨ad149,e149,hx149_0,hx149_1,hx149_2⟩:=at_T85 HR0_1.out (ji14) p149 q149;have hw149_2:=hx149_2;have hw149_1:=hx149_1;have hw149_0:=hx149_0
               (try rw [← Nbq25.out] at hx149_2)
               obtain rfl : ad146 = ad149:=(by injection e149);replace hx149_0:=(HB.out.cell (wb_ w _ hx149_0)).trans hx149_0;replace hx149_1:=(HB.out.cell (wb_ w _ hx149_1)).trans hx149_1;replace hx149_2:=(HB.out.cell (wb_ w _ hx149_2)).trans hx149_2;replace p149:=eq_true p149;replace q149:=eq_true q149;refine start_ (n:=35) (S:=fun w' => w'.cell? ⟨gb147,0,none⟩ = some (.string ((rd_T85 l0_1 x3_2).f0)) ∧ w'.cell? ⟨gb147,1,none⟩ = some (.string ((rd_T85 l0_1 x3_2).f1)) ∧ w'.cell? ⟨gb147,2,none⟩ = some (.bool false) ∧ w'.cell? ⟨gb144,0,none⟩ = some (.int .i64 a0_0) ∧ w'.cell? ⟨gb144,1,none⟩ = some (.slice (some ad146) l0_1.length c0_1) ∧ w'.cell? (ad146.add (((ji14)).toNat * 3)) = some (.string ((rd_T85 l0_1 (ji14)).f0)) ∧ w'.cell? ⟨(ad146.add (((ji14)).toNat * 3)).block,(ad146.add (((ji14)).toNat * 3)).off + 1,none⟩ = some (.string ((rd_T85 l0_1 (ji14)).f1)) ∧ w'.cell? ⟨(ad146.add (((ji14)).toNat * 3)).block,(ad146.add (((ji14)).toNat * 3)).off + 2,none⟩ = some (.bool ((rd_T85 l0_1 (ji14)).f2))) (ds:=[]) #[false,false,false,false,false,false,false,false,false,false,false,false,false,false,false,false,false,false,false,false,false,false,false,false,false,false,false,false,false,false,false,false,false,false,false] (by kernel_rfl) rfl rfl ⟨kC_ BK147 0,kC_ BK147 1,kC_ BK147 2,kC_ BK144 0,kC_ BK144 1,((HB.out.cell (wb_ w _ hw149_0)).trans hw149_0),((HB.out.cell (wb_ w _ hw149_1)).trans hw149_1),((HB.out.cell (wb_ w _ hw149_2)).trans hw149_2)⟩ (fun hHeld => ?_);refine with_tabW spec_BatchOk.tab7 spec_BatchOk.bits7 (fun HT_ HW_ => ?_);generalize w44.drew = w45 at BK144 BK147 HB hx149_0 hx149_1 hx149_2 hHeld ⊢;refine pU_ 0 (some 27) ?_
               refine tK_ 1 (some 28) hHeld ?_
               refine oN_ 2 (some 29) (fun K hK => ?_);refine gs_ Try.func135 #[.string ((rd_T85 l0_1 x3_2).f0)] ?_;with_reducible refine (spec_l05Key.calls ((rd_T85 l0_1 x3_2).f0) true _ A11.out).mono ?_;rintro e w' ⟨rfl,⟨nd,rfl⟩⟩;refine ⟨_,rfl,?_⟩;have BK147d_:=A_ (kn_ BK147.out nd);have BK144d_:=A_ (kn_ BK144.out nd);have HBd_:=A_ (pn_ HB.out nd);refine hK.out _ _ ⟨kC_ BK147d_ 0,kC_ BK147d_ 1,kC_ BK147d_ 2,kC_ BK144d_ 0,kC_ BK144d_ 1,((HBd_.out.cell (wb_ w _ hw149_0)).trans hw149_0),((HBd_.out.cell (wb_ w _ hw149_1)).trans hw149_1),((HBd_.out.cell (wb_ w _ hw149_2)).trans hw149_2)⟩ (fun hHeld => ?_);clear hK K;refine nX_ (some 29) ?_
               refine pU_ 3 (some 30) ?_
               refine pU_ 4 (some 31) ?_
               refine pU_ 5 (some 32) ?_
               refine pU_ 6 (some 33) ?_
               refine pU_ 7 (some 34) ?_
               refine pU_ 8 (some 35) ?_
               refine pU_ 10 (some 37) ?_
               refine pU_ 11 (some 38) ?_
               refine pU_ 15 (some 42) ?_
               refine tK_ 9 (some 36) hHeld ?_
               refine pU_ 12 (some 39) ?_
               refine pU_ 13 (some 40) ?_
               refine tK_ 14 (some 41) hHeld ?_
               refine tK_ 16 (some 43) hHeld ?_
               refine pU_ 17 (some 44) ?_
               refine pU_ 18 (some 45) ?_
               refine pU_ 19 (some 46) ?_
               refine pU_ 20 (some 47) ?_
               refine pU_ 21 (some 48) ?_
               refine tK_ 22 (some 49) hHeld ?_
               refine pU_ 23 (some 50) ?_
               refine pU_ 24 (some 51) ?_
               refine pU_ 25 (some 52) ?_
               refine pU_ 26 (some 53) ?_
               refine pU_ 27 (some 54) ?_
               refine tK_ 28 (some 55) hHeld ?_
               refine pU_ 29 (some 56) ?_
               refine pure_ (i:=30) (N:=some 57) (v:=undef) (a':=?_) #[true,true,true,true,true,true,true,true,true,true,true,true,true,true,true,true,true,true,true,true,true,true,true,true,true,true,true,true,true,true,true,false,false,false,false] rfl rfl (any_of HT_.out (by kernel_rfl)) (fun _ _ _ h => h) (Or.inr ⟨by rfl,rfl⟩) ?_ ?_;rotate_left
               ·exact ux_
               refine pure_ (i:=31) (N:=some 58) (v:=undef) (a':=?_) #[true,true,true,true,true,true,true,true,true,true,true,true,true,true,true,true,true,true,true,true,true,true,true,true,true,true,true,true,true,true,true,true,false,false,false] rfl rfl (any_of HT_.out (by kernel_rfl)) (fun _ _ _ h => h) (Or.inr ⟨by rfl,rfl⟩) ?_ ?_;rotate_left
               ·exact ux_
               refine pure_ (i:=32) (N:=some 59) (v:=undef) (a':=?_) #[true,true,true,true,true,true,true,true,true,true,true,true,true,true,true,true,true,true,true,true,true,true,true,true,true,true,true,true,true,true,true,true,true,false,false] rfl rfl (any_of HT_.out (by kernel_rfl)) (fun _ _ _ h => h) (Or.inr ⟨by rfl,rfl⟩) ?_ ?_;rotate_left
               ·exact ux_
               refine pU_ 33 (some 60) ?_
               refine pU_ 34 (some 61) ?_
               refine done_ (done_of HT_.out (by kernel_rfl)) ?_
               try go_wp2
               go_roundg k2
               case measure => have:=HJ1.out;have:=HK2.out;omega
               case rel => exact ⟨(wrap64 (x3_2 + 1)),(by first|rfl|(simp;done)|(simp [*];done)),H',⟨by have:=HJ1.out;have:=HK2.out;omega⟩,⟨kq_ BK144⟩,⟨bq_ HB⟩⟩
            ·rw [if_neg c17] at H
             have c17b0 : (Op.bytesLess (((rd_T85 l0_1 (ji14)).f0).toList) (((rd_T85 l0_1 x3_2).f0).toList)) = false:=by simpa using c17
             clear c17;obtain rfl:=Option.some.inj H;obtain ⟨hcz46_0,hcz46_1,hfz46_0,hfz46_1⟩:=k2f_ BK144;have p146 : 0 ≤ (x3_2 : Int):=oda_;have q146 : x3_2 < (l0_1.length : Int):=oda_;obtain ⟨ad146,e146,hx146_0,hx146_1,hx146_2⟩:=at_T85 HR0_1.out x3_2 p146 q146
             cases e146
             replace hx146_0:=(HB.out.cell (wb_ w _ hx146_0)).trans hx146_0;replace hx146_1:=(HB.out.cell (wb_ w _ hx146_1)).trans hx146_1;replace hx146_2:=(HB.out.cell (wb_ w _ hx146_2)).trans hx146_2;replace p146:=eq_true p146;replace q146:=eq_true q146
             try go_wp2_with (first|((with_reducible refine gate_dst (N:=4) rfl ?_);(try (refine gate_guard (by rfl) ?_;dsimp only));refine bE_ 4 #[.string (⟨#[]⟩ : ByteArray),.string (⟨#[]⟩ : ByteArray),.bool false] 85 ?_;intro gb147 hg w47 hbox hb;have BK147:=A_ (hbox);have GW147:=gE_ hg HB;have GE147:=gE_ hg HB;replace HB:=bS_ HB hb;have NB144_147:=nB_ hg BK144;have NB147_144:=nC_ hg BK144;replace BK144:=kB_ BK144 hb;clear hb hbox hg;have hnb48:=NB147_144.out;have hnc48:=NB144_147.out;obtain ⟨hcz49_0,hcz49_1,hcz49_2,hfz49_0,hfz49_1,hfz49_2⟩:=k3f_ BK147))
             have n0_ : Aside0 ((((w47.setCell ⟨gb147,0,none⟩ (.string ((rd_T85 l0_1 x3_2).f0))).setCell ⟨gb147,1,none⟩ (.string ((rd_T85 l0_1 x3_2).f1))).setCell ⟨gb147,2,none⟩ (.bool ((rd_T85 l0_1 x3_2).f2))).heap[gb144]? = some (.cells #[.int .i64 a0_0,.slice (some ad146) l0_1.length c0_1] 79 (0,0))):=⟨kz_ BK144⟩;have n1_ : Aside0 ((((w47.setCell ⟨gb147,0,none⟩ (.string ((rd_T85 l0_1 x3_2).f0))).setCell ⟨gb147,1,none⟩ (.string ((rd_T85 l0_1 x3_2).f1))).setCell ⟨gb147,2,none⟩ (.bool ((rd_T85 l0_1 x3_2).f2))).heap[gb147]? = some (.cells #[.string ((rd_T85 l0_1 x3_2).f0),.string ((rd_T85 l0_1 x3_2).f1),.bool ((rd_T85 l0_1 x3_2).f2)] 85 (0,0))):=⟨kz_ BK147⟩;have n2_ : Aside0 (Below w.heap.size w (((w47.setCell ⟨gb147,0,none⟩ (.string ((rd_T85 l0_1 x3_2).f0))).setCell ⟨gb147,1,none⟩ (.string ((rd_T85 l0_1 x3_2).f1))).setCell ⟨gb147,2,none⟩ (.bool ((rd_T85 l0_1 x3_2).f2)))):=⟨bq_ HB⟩
             (try clear BK144)
             (try clear BK147)
             (try clear HB)
             generalize (((w47.setCell ⟨gb147,0,none⟩ (.string ((rd_T85 l0_1 x3_2).f0))).setCell ⟨gb147,1,none⟩ (.string ((rd_T85 l0_1 x3_2).f1))).setCell ⟨gb147,2,none⟩ (.bool ((rd_T85 l0_1 x3_2).f2))) = w50 at n0_ n1_ n2_ ⊢;have BK144:=n0_;have BK147:=n1_;have HB:=n2_;clear n0_ n1_ n2_;replace BK144:=A_ (kd_ BK144.out);replace BK147:=A_ (kd_ BK147.out);replace HB:=A_ (pd_ HB.out);have p149 : 0 ≤ ((ji14) : Int):=oda_;have q149 : (ji14) < (l0_1.length : Int):=oda_;obtain ⟨ad149,e149,hx149_0,hx149_1,hx149_2⟩:=at_T85 HR0_1.out (ji14) p149 q149;have hw149_2:=hx149_2;have hw149_1:=hx149_1;have hw149_0:=hx149_0;obtain rfl : ad146 = ad149:=(by injection e149);replace hx149_0:=(HB.out.cell (wb_ w _ hx149_0)).trans hx149_0;replace hx149_1:=(HB.out.cell (wb_ w _ hx149_1)).trans hx149_1;replace hx149_2:=(HB.out.cell (wb_ w _ hx149_2)).trans hx149_2;replace p149:=eq_true p149;replace q149:=eq_true q149;refine start_ (n:=35) (S:=fun w' => w'.cell? ⟨gb147,0,none⟩ = some (.string ((rd_T85 l0_1 x3_2).f0)) ∧ w'.cell? ⟨gb147,1,none⟩ = some (.string ((rd_T85 l0_1 x3_2).f1)) ∧ w'.cell? ⟨gb147,2,none⟩ = some (.bool ((rd_T85 l0_1 x3_2).f2)) ∧ w'.cell? ⟨gb144,0,none⟩ = some (.int .i64 a0_0) ∧ w'.cell? ⟨gb144,1,none⟩ = some (.slice (some ad146) l0_1.length c0_1) ∧ w'.cell? (ad146.add (((ji14)).toNat * 3)) = some (.string ((rd_T85 l0_1 (ji14)).f0)) ∧ w'.cell? ⟨(ad146.add (((ji14)).toNat * 3)).block,(ad146.add (((ji14)).toNat * 3)).off + 1,none⟩ = some (.string ((rd_T85 l0_1 (ji14)).f1)) ∧ w'.cell? ⟨(ad146.add (((ji14)).toNat * 3)).block,(ad146.add (((ji14)).toNat * 3)).off + 2,none⟩ = some (.bool ((rd_T85 l0_1 (ji14)).f2))) (ds:=[]) #[false,false,false,false,false,false,false,false,false,false,false,false,false,false,false,false,false,false,false,false,false,false,false,false,false,false,false,false,false,false,false,false,false,false,false] (by kernel_rfl) rfl rfl ⟨kC_ BK147 0,kC_ BK147 1,kC_ BK147 2,kC_ BK144 0,kC_ BK144 1,((HB.out.cell (wb_ w _ hw149_0)).trans hw149_0),((HB.out.cell (wb_ w _ hw149_1)).trans hw149_1),((HB.out.cell (wb_ w _ hw149_2)).trans hw149_2)⟩ (fun hHeld => ?_);refine with_tabW spec_BatchOk.tab7 spec_BatchOk.bits7 (fun HT_ HW_ => ?_);generalize w50.drew = w51 at BK144 BK147 HB hx149_0 hx149_1 hx149_2 hHeld ⊢;refine pU_ 0 (some 27) ?_
             refine tK_ 1 (some 28) hHeld ?_
             refine oN_ 2 (some 29) (fun K hK => ?_);refine gs_ Try.func135 #[.string ((rd_T85 l0_1 x3_2).f0)] ?_;with_reducible refine (spec_l05Key.calls ((rd_T85 l0_1 x3_2).f0) true _ A11.out).mono ?_;rintro e w' ⟨rfl,⟨nd,rfl⟩⟩;refine ⟨_,rfl,?_⟩;have BK147d_:=A_ (kn_ BK147.out nd);have BK144d_:=A_ (kn_ BK144.out nd);have HBd_:=A_ (pn_ HB.out nd);refine hK.out _ _ ⟨kC_ BK147d_ 0,kC_ BK147d_ 1,kC_ BK147d_ 2,kC_ BK144d_ 0,kC_ BK144d_ 1,((HBd_.out.cell (wb_ w _ hw149_0)).trans hw149_0),((HBd_.out.cell (wb_ w _ hw149_1)).trans hw149_1),((HBd_.out.cell (wb_ w _ hw149_2)).trans hw149_2)⟩ (fun hHeld => ?_);clear hK K;refine nX_ (some 29) ?_
             refine pU_ 3 (some 30) ?_
             refine pU_ 4 (some 31) ?_
             refine pU_ 5 (some 32) ?_
             refine pU_ 6 (some 33) ?_
             refine pU_ 7 (some 34) ?_
             refine pU_ 8 (some 35) ?_
             refine pU_ 10 (some 37) ?_
             refine pU_ 11 (some 38) ?_
             refine pU_ 15 (some 42) ?_
             refine tK_ 9 (some 36) hHeld ?_
             refine pU_ 12 (some 39) ?_
             refine pU_ 13 (some 40) ?_
             refine tK_ 14 (some 41) hHeld ?_
             refine tK_ 16 (some 43) hHeld ?_
             refine pU_ 17 (some 44) ?_
             refine pU_ 18 (some 45) ?_
             refine pU_ 19 (some 46) ?_
             refine pU_ 20 (some 47) ?_
             refine pure_ (i:=21) (N:=some 48) (v:=undef) (a':=?_) #[true,true,true,true,true,true,true,true,true,true,true,true,true,true,true,true,true,true,true,true,true,true,false,false,false,false,false,false,false,false,false,false,false,false,false] rfl rfl (any_of HT_.out (by kernel_rfl)) (fun _ _ _ h => h) (Or.inr ⟨by rfl,rfl⟩) ?_ ?_;rotate_left
             ·exact ux_
             refine pure_ (i:=22) (N:=some 49) (v:=undef) (a':=?_) #[true,true,true,true,true,true,true,true,true,true,true,true,true,true,true,true,true,true,true,true,true,true,true,false,false,false,false,false,false,false,false,false,false,false,false] rfl rfl (any_of HT_.out (by kernel_rfl)) (fun _ _ _ h => h) (Or.inr ⟨by rfl,rfl⟩) ?_ ?_;rotate_left
             ·exact ux_
             refine pure_ (i:=23) (N:=some 50) (v:=undef) (a':=?_) #[true,true,true,true,true,true,true,true,true,true,true,true,true,true,true,true,true,true,true,true,true,true,true,true,false,false,false,false,false,false,false,false,false,false,false] rfl rfl (any_of HT_.out (by kernel_rfl)) (fun _ _ _ h => h) (Or.inr ⟨by rfl,rfl⟩) ?_ ?_;rotate_left
             ·exact ux_
             refine pure_ (i:=24) (N:=some 51) (v:=undef) (a':=?_) #[true,true,true,true,true,true,true,true,true,true,true,true,true,true,true,true,true,true,true,true,true,true,true,true,true,false,false,false,false,false,false,false,false,false,false] rfl rfl (any_of HT_.out (by kernel_rfl)) (fun _ _ _ h => h) (Or.inr ⟨by rfl,rfl⟩) ?_ ?_;rotate_left
             ·exact ux_
             refine pU_ 25 (some 52) ?_
             refine pU_ 26 (some 53) ?_
             refine pure_ (i:=27) (N:=some 54) (v:=undef) (a':=?_) #[true,true,true,true,true,true,true,true,true,true,true,true,true,true,true,true,true,true,true,true,true,true,true,true,true,true,true,true,false,false,false,false,false,false,false] rfl rfl (any_of HT_.out (by kernel_rfl)) (fun _ _ _ h => h) (Or.inr ⟨by rfl,rfl⟩) ?_ ?_;rotate_left
             ·exact ux_
             refine pure_ (i:=28) (N:=some 55) (v:=undef) (a':=?_) #[true,true,true,true,true,true,true,true,true,true,true,true,true,true,true,true,true,true,true,true,true,true,true,true,true,true,true,true,true,false,false,false,false,false,false] rfl rfl (any_of HT_.out (by kernel_rfl)) (fun _ _ _ h => h) (Or.inr ⟨by rfl,rfl⟩) ?_ ?_;rotate_left
             ·exact ux_
             refine pure_ (i:=29) (N:=some 56) (v:=undef) (a':=?_) #[true,true,true,true,true,true,true,true,true,true,true,true,true,true,true,true,true,true,true,true,true,true,true,true,true,true,true,true,true,true,false,false,false,false,false] rfl rfl (any_of HT_.out (by kernel_rfl)) (fun _ _ _ h => h) (Or.inr ⟨by rfl,rfl⟩) ?_ ?_;rotate_left
             ·exact ux_
             refine pure_ (i:=30) (N:=some 57) (v:=undef) (a':=?_) #[true,true,true,true,true,true,true,true,true,true,true,true,true,true,true,true,true,true,true,true,true,true,true,true,true,true,true,true,true,true,true,false,false,false,false] rfl rfl (any_of HT_.out (by kernel_rfl)) (fun _ _ _ h => h) (Or.inr ⟨by rfl,rfl⟩) ?_ ?_;rotate_left
             ·exact ux_
             refine pure_ (i:=31) (N:=some 58) (v:=undef) (a':=?_) #[true,true,true,true,true,true,true,true,true,true,true,true,true,true,true,true,true,true,true,true,true,true,true,true,true,true,true,true,true,true,true,true,false,false,false] rfl rfl (any_of HT_.out (by kernel_rfl)) (fun _ _ _ h => h) (Or.inr ⟨by rfl,rfl⟩) ?_ ?_;rotate_left
             ·exact ux_
             refine pure_ (i:=32) (N:=some 59) (v:=undef) (a':=?_) #[true,true,true,true,true,true,true,true,true,true,true,true,true,true,true,true,true,true,true,true,true,true,true,true,true,true,true,true,true,true,true,true,true,false,false] rfl rfl (any_of HT_.out (by kernel_rfl)) (fun _ _ _ h => h) (Or.inr ⟨by rfl,rfl⟩) ?_ ?_;rotate_left
             ·exact ux_
             refine pure_ (i:=33) (N:=some 60) (v:=undef) (a':=?_) #[true,true,true,true,true,true,true,true,true,true,true,true,true,true,true,true,true,true,true,true,true,true,true,true,true,true,true,true,true,true,true,true,true,true,false] rfl rfl (any_of HT_.out (by kernel_rfl)) (fun _ _ _ h => h) (Or.inr ⟨by rfl,rfl⟩) ?_ ?_;rotate_left
             ·exact ux_
             refine pU_ 34 (some 61) ?_
             refine done_ (done_of HT_.out (by kernel_rfl)) ?_
             try go_wp2
             go_ret;exact ⟨by first|rfl|(simp [errW_none,errW_some] <;> rfl)|(simp only [← hji14];first|rfl|(simp [errW_none,errW_some] <;> rfl))|(simp [*,errW_none,errW_some] <;> rfl),bq_ HB⟩
           ·rw [if_neg c16] at H;exact absurd H (by simp)
          ·rw [if_neg c15] at H;exact absurd H (by simp)
         ·rw [if_neg c13] at H;have c13b0 : decide (0 < x3_2) = false:=decide_eq_false c13;clear c13
          by_cases c52 : (((rd_T85 l0_1 x3_2).f1).size : Int) > 40
          ·rw [if_pos c52] at H;have c52b0 : decide (40 < (((rd_T85 l0_1 x3_2).f1).size : Int)) = true:=de_ c52;have c52b1 : decide (40 < ((rd_T85 l0_1 x3_2).f1).size) = true:=de_ (by omega);clear c52;obtain rfl:=Option.some.inj H;obtain ⟨hcz53_0,hcz53_1,hfz53_0,hfz53_1⟩:=k2f_ BK144;have p146 : 0 ≤ (x3_2 : Int):=oda_;have q146 : x3_2 < (l0_1.length : Int):=oda_;obtain ⟨ad146,e146,hx146_0,hx146_1,hx146_2⟩:=at_T85 HR0_1.out x3_2 p146 q146
           cases e146
           replace hx146_0:=(HB.out.cell (wb_ w _ hx146_0)).trans hx146_0;replace hx146_1:=(HB.out.cell (wb_ w _ hx146_1)).trans hx146_1;replace hx146_2:=(HB.out.cell (wb_ w _ hx146_2)).trans hx146_2;replace p146:=eq_true p146;replace q146:=eq_true q146
           try go_wp2_with (first|((with_reducible refine gate_dst (N:=4) rfl ?_);(try (refine gate_guard (by rfl) ?_;dsimp only));refine bE_ 4 #[.string (⟨#[]⟩ : ByteArray),.string (⟨#[]⟩ : ByteArray),.bool false] 85 ?_;intro gb147 hg w54 hbox hb;have BK147:=A_ (hbox);have GW147:=gE_ hg HB;have GE147:=gE_ hg HB;replace HB:=bS_ HB hb;have NB144_147:=nB_ hg BK144;have NB147_144:=nC_ hg BK144;replace BK144:=kB_ BK144 hb;clear hb hbox hg;have hnb55:=NB147_144.out;have hnc55:=NB144_147.out;obtain ⟨hcz56_0,hcz56_1,hcz56_2,hfz56_0,hfz56_1,hfz56_2⟩:=k3f_ BK147))
           have n0_ : Aside0 ((((w54.setCell ⟨gb147,0,none⟩ (.string ((rd_T85 l0_1 x3_2).f0))).setCell ⟨gb147,1,none⟩ (.string ((rd_T85 l0_1 x3_2).f1))).setCell ⟨gb147,2,none⟩ (.bool ((rd_T85 l0_1 x3_2).f2))).heap[gb144]? = some (.cells #[.int .i64 a0_0,.slice (some ad146) l0_1.length c0_1] 79 (0,0))):=⟨kz_ BK144⟩;have n1_ : Aside0 ((((w54.setCell ⟨gb147,0,none⟩ (.string ((rd_T85 l0_1 x3_2).f0))).setCell ⟨gb147,1,none⟩ (.string ((rd_T85 l0_1 x3_2).f1))).setCell ⟨gb147,2,none⟩ (.bool ((rd_T85 l0_1 x3_2).f2))).heap[gb147]? = some (.cells #[.string ((rd_T85 l0_1 x3_2).f0),.string ((rd_T85 l0_1 x3_2).f1),.bool ((rd_T85 l0_1 x3_2).f2)] 85 (0,0))):=⟨kz_ BK147⟩;have n2_ : Aside0 (Below w.heap.size w (((w54.setCell ⟨gb147,0,none⟩ (.string ((rd_T85 l0_1 x3_2).f0))).setCell ⟨gb147,1,none⟩ (.string ((rd_T85 l0_1 x3_2).f1))).setCell ⟨gb147,2,none⟩ (.bool ((rd_T85 l0_1 x3_2).f2)))):=⟨bq_ HB⟩
           (try clear BK144)
           (try clear BK147)
           (try clear HB)
           generalize (((w54.setCell ⟨gb147,0,none⟩ (.string ((rd_T85 l0_1 x3_2).f0))).setCell ⟨gb147,1,none⟩ (.string ((rd_T85 l0_1 x3_2).f1))).setCell ⟨gb147,2,none⟩ (.bool ((rd_T85 l0_1 x3_2).f2))) = w57 at n0_ n1_ n2_ ⊢;have BK144:=n0_;have BK147:=n1_;have HB:=n2_;clear n0_ n1_ n2_;replace BK144:=A_ (kd_ BK144.out);replace BK147:=A_ (kd_ BK147.out);replace HB:=A_ (pd_ HB.out);refine start_ (n:=35) (S:=fun w' => w'.cell? ⟨gb147,0,none⟩ = some (.string ((rd_T85 l0_1 x3_2).f0)) ∧ w'.cell? ⟨gb147,1,none⟩ = some (.string ((rd_T85 l0_1 x3_2).f1)) ∧ w'.cell? ⟨gb147,2,none⟩ = some (.bool ((rd_T85 l0_1 x3_2).f2))) (ds:=[]) #[false,false,false,false,false,false,false,false,false,false,false,false,false,false,false,false,false,false,false,false,false,false,false,false,false,false,false,false,false,false,false,false,false,false,false] (by kernel_rfl) rfl rfl ⟨kC_ BK147 0,kC_ BK147 1,kC_ BK147 2⟩ (fun hHeld => ?_);refine with_tabW spec_BatchOk.tab7 spec_BatchOk.bits7 (fun HT_ HW_ => ?_);generalize w57.drew = w58 at BK144 BK147 HB hHeld ⊢;refine pU_ 0 (some 27) ?_
           refine tK_ 1 (some 28) hHeld ?_
           refine oN_ 2 (some 29) (fun K hK => ?_);refine gs_ Try.func135 #[.string ((rd_T85 l0_1 x3_2).f0)] ?_;with_reducible refine (spec_l05Key.calls ((rd_T85 l0_1 x3_2).f0) true _ A11.out).mono ?_;rintro e w' ⟨rfl,⟨nd,rfl⟩⟩;refine ⟨_,rfl,?_⟩;have BK147d_:=A_ (kn_ BK147.out nd);have HBd_:=A_ (pn_ HB.out nd);refine hK.out _ _ ⟨kC_ BK147d_ 0,kC_ BK147d_ 1,kC_ BK147d_ 2⟩ (fun hHeld => ?_);clear hK K;refine nX_ (some 29) ?_
           refine pU_ 3 (some 30) ?_
           refine pU_ 4 (some 31) ?_
           refine pU_ 5 (some 32) ?_
           refine pU_ 6 (some 33) ?_
           refine pU_ 7 (some 34) ?_
           refine pure_ (i:=8) (N:=some 35) (v:=undef) (a':=?_) #[true,true,true,true,true,true,true,true,true,false,false,false,false,false,false,false,false,false,false,false,false,false,false,false,false,false,false,false,false,false,false,false,false,false,false] rfl rfl (any_of HT_.out (by kernel_rfl)) (fun _ _ _ h => h) (Or.inr ⟨by rfl,rfl⟩) ?_ ?_;rotate_left
           ·exact ux_
           refine pure_ (i:=9) (N:=some 36) (v:=undef) (a':=?_) #[true,true,true,true,true,true,true,true,true,true,false,false,false,false,false,false,false,false,false,false,false,false,false,false,false,false,false,false,false,false,false,false,false,false,false] rfl rfl (any_of HT_.out (by kernel_rfl)) (fun _ _ _ h => h) (Or.inr ⟨by rfl,rfl⟩) ?_ ?_;rotate_left
           ·exact ux_
           refine pure_ (i:=10) (N:=some 37) (v:=undef) (a':=?_) #[true,true,true,true,true,true,true,true,true,true,true,false,false,false,false,false,false,false,false,false,false,false,false,false,false,false,false,false,false,false,false,false,false,false,false] rfl rfl (any_of HT_.out (by kernel_rfl)) (fun _ _ _ h => h) (Or.inr ⟨by rfl,rfl⟩) ?_ ?_;rotate_left
           ·exact ux_
           refine pure_ (i:=11) (N:=some 38) (v:=undef) (a':=?_) #[true,true,true,true,true,true,true,true,true,true,true,true,false,false,false,false,false,false,false,false,false,false,false,false,false,false,false,false,false,false,false,false,false,false,false] rfl rfl (any_of HT_.out (by kernel_rfl)) (fun _ _ _ h => h) (Or.inr ⟨by rfl,rfl⟩) ?_ ?_;rotate_left
           ·exact ux_
           refine pure_ (i:=12) (N:=some 39) (v:=undef) (a':=?_) #[true,true,true,true,true,true,true,true,true,true,true,true,true,false,false,false,false,false,false,false,false,false,false,false,false,false,false,false,false,false,false,false,false,false,false] rfl rfl (any_of HT_.out (by kernel_rfl)) (fun _ _ _ h => h) (Or.inr ⟨by rfl,rfl⟩) ?_ ?_;rotate_left
           ·exact ux_
           refine pure_ (i:=13) (N:=some 40) (v:=undef) (a':=?_) #[true,true,true,true,true,true,true,true,true,true,true,true,true,true,false,false,false,false,false,false,false,false,false,false,false,false,false,false,false,false,false,false,false,false,false] rfl rfl (any_of HT_.out (by kernel_rfl)) (fun _ _ _ h => h) (Or.inr ⟨by rfl,rfl⟩) ?_ ?_;rotate_left
           ·exact ux_
           refine pure_ (i:=14) (N:=some 41) (v:=undef) (a':=?_) #[true,true,true,true,true,true,true,true,true,true,true,true,true,true,true,false,false,false,false,false,false,false,false,false,false,false,false,false,false,false,false,false,false,false,false] rfl rfl (any_of HT_.out (by kernel_rfl)) (fun _ _ _ h => h) (Or.inr ⟨by rfl,rfl⟩) ?_ ?_;rotate_left
           ·exact ux_
           refine pure_ (i:=15) (N:=some 42) (v:=undef) (a':=?_) #[true,true,true,true,true,true,true,true,true,true,true,true,true,true,true,true,false,false,false,false,false,false,false,false,false,false,false,false,false,false,false,false,false,false,false] rfl rfl (any_of HT_.out (by kernel_rfl)) (fun _ _ _ h => h) (Or.inr ⟨by rfl,rfl⟩) ?_ ?_;rotate_left
           ·exact ux_
           refine pure_ (i:=16) (N:=some 43) (v:=undef) (a':=?_) #[true,true,true,true,true,true,true,true,true,true,true,true,true,true,true,true,true,false,false,false,false,false,false,false,false,false,false,false,false,false,false,false,false,false,false] rfl rfl (any_of HT_.out (by kernel_rfl)) (fun _ _ _ h => h) (Or.inr ⟨by rfl,rfl⟩) ?_ ?_;rotate_left
           ·exact ux_
           refine pure_ (i:=17) (N:=some 44) (v:=undef) (a':=?_) #[true,true,true,true,true,true,true,true,true,true,true,true,true,true,true,true,true,true,false,false,false,false,false,false,false,false,false,false,false,false,false,false,false,false,false] rfl rfl (any_of HT_.out (by kernel_rfl)) (fun _ _ _ h => h) (Or.inr ⟨by rfl,rfl⟩) ?_ ?_;rotate_left
           ·exact ux_
           refine pU_ 18 (some 45) ?_
           refine pU_ 19 (some 46) ?_
           refine pU_ 20 (some 47) ?_
           refine pU_ 21 (some 48) ?_
           refine tK_ 22 (some 49) hHeld ?_
           refine pU_ 23 (some 50) ?_
           refine pU_ 24 (some 51) ?_
           refine pU_ 25 (some 52) ?_
           refine pU_ 26 (some 53) ?_
           refine pure_ (i:=27) (N:=some 54) (v:=undef) (a':=?_) #[true,true,true,true,true,true,true,true,true,true,true,true,true,true,true,true,true,true,true,true,true,true,true,true,true,true,true,true,false,false,false,false,false,false,false] rfl rfl (any_of HT_.out (by kernel_rfl)) (fun _ _ _ h => h) (Or.inr ⟨by rfl,rfl⟩) ?_ ?_;rotate_left
           ·exact ux_
           refine pure_ (i:=28) (N:=some 55) (v:=undef) (a':=?_) #[true,true,true,true,true,true,true,true,true,true,true,true,true,true,true,true,true,true,true,true,true,true,true,true,true,true,true,true,true,false,false,false,false,false,false] rfl rfl (any_of HT_.out (by kernel_rfl)) (fun _ _ _ h => h) (Or.inr ⟨by rfl,rfl⟩) ?_ ?_;rotate_left
           ·exact ux_
           refine pure_ (i:=29) (N:=some 56) (v:=undef) (a':=?_) #[true,true,true,true,true,true,true,true,true,true,true,true,true,true,true,true,true,true,true,true,true,true,true,true,true,true,true,true,true,true,false,false,false,false,false] rfl rfl (any_of HT_.out (by kernel_rfl)) (fun _ _ _ h => h) (Or.inr ⟨by rfl,rfl⟩) ?_ ?_;rotate_left
           ·exact ux_
           refine pure_ (i:=30) (N:=some 57) (v:=undef) (a':=?_) #[true,true,true,true,true,true,true,true,true,true,true,true,true,true,true,true,true,true,true,true,true,true,true,true,true,true,true,true,true,true,true,false,false,false,false] rfl rfl (any_of HT_.out (by kernel_rfl)) (fun _ _ _ h => h) (Or.inr ⟨by rfl,rfl⟩) ?_ ?_;rotate_left
           ·exact ux_
           refine pure_ (i:=31) (N:=some 58) (v:=undef) (a':=?_) #[true,true,true,true,true,true,true,true,true,true,true,true,true,true,true,true,true,true,true,true,true,true,true,true,true,true,true,true,true,true,true,true,false,false,false] rfl rfl (any_of HT_.out (by kernel_rfl)) (fun _ _ _ h => h) (Or.inr ⟨by rfl,rfl⟩) ?_ ?_;rotate_left
           ·exact ux_
           refine pure_ (i:=32) (N:=some 59) (v:=undef) (a':=?_) #[true,true,true,true,true,true,true,true,true,true,true,true,true,true,true,true,true,true,true,true,true,true,true,true,true,true,true,true,true,true,true,true,true,false,false] rfl rfl (any_of HT_.out (by kernel_rfl)) (fun _ _ _ h => h) (Or.inr ⟨by rfl,rfl⟩) ?_ ?_;rotate_left
           ·exact ux_
           refine pure_ (i:=33) (N:=some 60) (v:=undef) (a':=?_) #[true,true,true,true,true,true,true,true,true,true,true,true,true,true,true,true,true,true,true,true,true,true,true,true,true,true,true,true,true,true,true,true,true,true,false] rfl rfl (any_of HT_.out (by kernel_rfl)) (fun _ _ _ h => h) (Or.inr ⟨by rfl,rfl⟩) ?_ ?_;rotate_left
           ·exact ux_
           refine pU_ 34 (some 61) ?_
           refine done_ (done_of HT_.out (by kernel_rfl)) ?_
           try go_wp2
           go_ret;exact ⟨ex_,bq_ HB⟩
          ·rw [if_neg c52] at H;have c52b0 : decide (40 < (((rd_T85 l0_1 x3_2).f1).size : Int)) = false:=decide_eq_false c52;have c52b1 : decide (40 < ((rd_T85 l0_1 x3_2).f1).size) = false:=decide_eq_false (by omega);clear c52;obtain ⟨bq59,hbq59⟩ : ∃ b_ : Bool,b_ = ((rd_T85 l0_1 x3_2).f2):=⟨_,rfl⟩
           replace H : (if bq59 = true then (if ((rd_T85 l0_1 x3_2).f1).toList = ([] : List UInt8) then (spec_BatchOk.l0 k2 (wrap64 (x3_2 + 1)) a0_0 l0_1) else (some false)) else (spec_BatchOk.l0 k2 (wrap64 (x3_2 + 1)) a0_0 l0_1)) = some r:=by rw [← hbq59] at H;exact H
           have Nbq59:=A_ hbq59;clear hbq59
           by_cases c60 : bq59 = true
           ·subst c60
            rw [if_pos rfl] at H
            by_cases c61 : ((rd_T85 l0_1 x3_2).f1).toList = ([] : List UInt8)
            ·rw [if_pos c61] at H;have c61b0 : (((rd_T85 l0_1 x3_2).f1).toList == ([] : List UInt8)) = true:=beq_iff_eq.mpr c61;have c61b1 : (((rd_T85 l0_1 x3_2).f1).toList != ([] : List UInt8)) = false:=bne_eq_false_iff_eq.mpr c61;clear c61;have H':=A_ H;clear H;obtain ⟨hcz62_0,hcz62_1,hfz62_0,hfz62_1⟩:=k2f_ BK144;have p146 : 0 ≤ (x3_2 : Int):=oda_;have q146 : x3_2 < (l0_1.length : Int):=oda_;obtain ⟨ad146,e146,hx146_0,hx146_1,hx146_2⟩:=at_T85 HR0_1.out x3_2 p146 q146
             (try rw [← Nbq59.out] at hx146_2)
             cases e146
             replace hx146_0:=(HB.out.cell (wb_ w _ hx146_0)).trans hx146_0;replace hx146_1:=(HB.out.cell (wb_ w _ hx146_1)).trans hx146_1;replace hx146_2:=(HB.out.cell (wb_ w _ hx146_2)).trans hx146_2;replace p146:=eq_true p146;replace q146:=eq_true q146
             try go_wp2_with (first|((with_reducible refine gate_dst (N:=4) rfl ?_);(try (refine gate_guard (by rfl) ?_;dsimp only));refine bE_ 4 #[.string (⟨#[]⟩ : ByteArray),.string (⟨#[]⟩ : ByteArray),.bool false] 85 ?_;intro gb147 hg w63 hbox hb;have BK147:=A_ (hbox);have GW147:=gE_ hg HB;have GE147:=gE_ hg HB;replace HB:=bS_ HB hb;have NB144_147:=nB_ hg BK144;have NB147_144:=nC_ hg BK144;replace BK144:=kB_ BK144 hb;clear hb hbox hg;have hnb64:=NB147_144.out;have hnc64:=NB144_147.out;obtain ⟨hcz65_0,hcz65_1,hcz65_2,hfz65_0,hfz65_1,hfz65_2⟩:=k3f_ BK147))
             have n0_ : Aside0 ((((w63.setCell ⟨gb147,0,none⟩ (.string ((rd_T85 l0_1 x3_2).f0))).setCell ⟨gb147,1,none⟩ (.string ((rd_T85 l0_1 x3_2).f1))).setCell ⟨gb147,2,none⟩ (.bool true)).heap[gb144]? = some (.cells #[.int .i64 a0_0,.slice (some ad146) l0_1.length c0_1] 79 (0,0))):=⟨kz_ BK144⟩;have n1_ : Aside0 ((((w63.setCell ⟨gb147,0,none⟩ (.string ((rd_T85 l0_1 x3_2).f0))).setCell ⟨gb147,1,none⟩ (.string ((rd_T85 l0_1 x3_2).f1))).setCell ⟨gb147,2,none⟩ (.bool true)).heap[gb147]? = some (.cells #[.string ((rd_T85 l0_1 x3_2).f0),.string ((rd_T85 l0_1 x3_2).f1),.bool true] 85 (0,0))):=⟨kz_ BK147⟩;have n2_ : Aside0 (Below w.heap.size w (((w63.setCell ⟨gb147,0,none⟩ (.string ((rd_T85 l0_1 x3_2).f0))).setCell ⟨gb147,1,none⟩ (.string ((rd_T85 l0_1 x3_2).f1))).setCell ⟨gb147,2,none⟩ (.bool true))):=⟨bq_ HB⟩
             (try clear BK144)
             (try clear BK147)
             (try clear HB)
             generalize (((w63.setCell ⟨gb147,0,none⟩ (.string ((rd_T85 l0_1 x3_2).f0))).setCell ⟨gb147,1,none⟩ (.string ((rd_T85 l0_1 x3_2).f1))).setCell ⟨gb147,2,none⟩ (.bool true)) = w66 at n0_ n1_ n2_ ⊢;have BK144:=n0_;have BK147:=n1_;have HB:=n2_;clear n0_ n1_ n2_;replace BK144:=A_ (kd_ BK144.out);replace BK147:=A_ (kd_ BK147.out);replace HB:=A_ (pd_ HB.out);refine start_ (n:=35) (S:=fun w' => w'.cell? ⟨gb147,0,none⟩ = some (.string ((rd_T85 l0_1 x3_2).f0)) ∧ w'.cell? ⟨gb147,1,none⟩ = some (.string ((rd_T85 l0_1 x3_2).f1)) ∧ w'.cell? ⟨gb147,2,none⟩ = some (.bool true)) (ds:=[]) #[false,false,false,false,false,false,false,false,false,false,false,false,false,false,false,false,false,false,false,false,false,false,false,false,false,false,false,false,false,false,false,false,false,false,false] (by kernel_rfl) rfl rfl ⟨kC_ BK147 0,kC_ BK147 1,kC_ BK147 2⟩ (fun hHeld => ?_);refine with_tabW spec_BatchOk.tab7 spec_BatchOk.bits7 (fun HT_ HW_ => ?_);generalize w66.drew = w67 at BK144 BK147 HB hHeld ⊢;refine pU_ 0 (some 27) ?_
             refine tK_ 1 (some 28) hHeld ?_
             refine oN_ 2 (some 29) (fun K hK => ?_);refine gs_ Try.func135 #[.string ((rd_T85 l0_1 x3_2).f0)] ?_;with_reducible refine (spec_l05Key.calls ((rd_T85 l0_1 x3_2).f0) true _ A11.out).mono ?_;rintro e w' ⟨rfl,⟨nd,rfl⟩⟩;refine ⟨_,rfl,?_⟩;have BK147d_:=A_ (kn_ BK147.out nd);have HBd_:=A_ (pn_ HB.out nd);refine hK.out _ _ ⟨kC_ BK147d_ 0,kC_ BK147d_ 1,kC_ BK147d_ 2⟩ (fun hHeld => ?_);clear hK K;refine nX_ (some 29) ?_
             refine pU_ 3 (some 30) ?_
             refine pU_ 4 (some 31) ?_
             refine pU_ 5 (some 32) ?_
             refine pU_ 6 (some 33) ?_
             refine pU_ 7 (some 34) ?_
             refine pure_ (i:=8) (N:=some 35) (v:=undef) (a':=?_) #[true,true,true,true,true,true,true,true,true,false,false,false,false,false,false,false,false,false,false,false,false,false,false,false,false,false,false,false,false,false,false,false,false,false,false] rfl rfl (any_of HT_.out (by kernel_rfl)) (fun _ _ _ h => h) (Or.inr ⟨by rfl,rfl⟩) ?_ ?_;rotate_left
             ·exact ux_
             refine pure_ (i:=9) (N:=some 36) (v:=undef) (a':=?_) #[true,true,true,true,true,true,true,true,true,true,false,false,false,false,false,false,false,false,false,false,false,false,false,false,false,false,false,false,false,false,false,false,false,false,false] rfl rfl (any_of HT_.out (by kernel_rfl)) (fun _ _ _ h => h) (Or.inr ⟨by rfl,rfl⟩) ?_ ?_;rotate_left
             ·exact ux_
             refine pure_ (i:=10) (N:=some 37) (v:=undef) (a':=?_) #[true,true,true,true,true,true,true,true,true,true,true,false,false,false,false,false,false,false,false,false,false,false,false,false,false,false,false,false,false,false,false,false,false,false,false] rfl rfl (any_of HT_.out (by kernel_rfl)) (fun _ _ _ h => h) (Or.inr ⟨by rfl,rfl⟩) ?_ ?_;rotate_left
             ·exact ux_
             refine pure_ (i:=11) (N:=some 38) (v:=undef) (a':=?_) #[true,true,true,true,true,true,true,true,true,true,true,true,false,false,false,false,false,false,false,false,false,false,false,false,false,false,false,false,false,false,false,false,false,false,false] rfl rfl (any_of HT_.out (by kernel_rfl)) (fun _ _ _ h => h) (Or.inr ⟨by rfl,rfl⟩) ?_ ?_;rotate_left
             ·exact ux_
             refine pure_ (i:=12) (N:=some 39) (v:=undef) (a':=?_) #[true,true,true,true,true,true,true,true,true,true,true,true,true,false,false,false,false,false,false,false,false,false,false,false,false,false,false,false,false,false,false,false,false,false,false] rfl rfl (any_of HT_.out (by kernel_rfl)) (fun _ _ _ h => h) (Or.inr ⟨by rfl,rfl⟩) ?_ ?_;rotate_left
             ·exact ux_
             refine pure_ (i:=13) (N:=some 40) (v:=undef) (a':=?_) #[true,true,true,true,true,true,true,true,true,true,true,true,true,true,false,false,false,false,false,false,false,false,false,false,false,false,false,false,false,false,false,false,false,false,false] rfl rfl (any_of HT_.out (by kernel_rfl)) (fun _ _ _ h => h) (Or.inr ⟨by rfl,rfl⟩) ?_ ?_;rotate_left
             ·exact ux_
             refine pure_ (i:=14) (N:=some 41) (v:=undef) (a':=?_) #[true,true,true,true,true,true,true,true,true,true,true,true,true,true,true,false,false,false,false,false,false,false,false,false,false,false,false,false,false,false,false,false,false,false,false] rfl rfl (any_of HT_.out (by kernel_rfl)) (fun _ _ _ h => h) (Or.inr ⟨by rfl,rfl⟩) ?_ ?_;rotate_left
             ·exact ux_
             refine pure_ (i:=15) (N:=some 42) (v:=undef) (a':=?_) #[true,true,true,true,true,true,true,true,true,true,true,true,true,true,true,true,false,false,false,false,false,false,false,false,false,false,false,false,false,false,false,false,false,false,false] rfl rfl (any_of HT_.out (by kernel_rfl)) (fun _ _ _ h => h) (Or.inr ⟨by rfl,rfl⟩) ?_ ?_;rotate_left
             ·exact ux_
             refine pure_ (i:=16) (N:=some 43) (v:=undef) (a':=?_) #[true,true,true,true,true,true,true,true,true,true,true,true,true,true,true,true,true,false,false,false,false,false,false,false,false,false,false,false,false,false,false,false,false,false,false] rfl rfl (any_of HT_.out (by kernel_rfl)) (fun _ _ _ h => h) (Or.inr ⟨by rfl,rfl⟩) ?_ ?_;rotate_left
             ·exact ux_
             refine pure_ (i:=17) (N:=some 44) (v:=undef) (a':=?_) #[true,true,true,true,true,true,true,true,true,true,true,true,true,true,true,true,true,true,false,false,false,false,false,false,false,false,false,false,false,false,false,false,false,false,false] rfl rfl (any_of HT_.out (by kernel_rfl)) (fun _ _ _ h => h) (Or.inr ⟨by rfl,rfl⟩) ?_ ?_;rotate_left
             ·exact ux_
             refine pU_ 18 (some 45) ?_
             refine pU_ 19 (some 46) ?_
             refine pU_ 20 (some 47) ?_
             refine pU_ 21 (some 48) ?_
             refine tK_ 22 (some 49) hHeld ?_
             refine pU_ 23 (some 50) ?_
             refine pU_ 24 (some 51) ?_
             refine pU_ 25 (some 52) ?_
             refine pU_ 26 (some 53) ?_
             refine pU_ 27 (some 54) ?_
             refine tK_ 28 (some 55) hHeld ?_
             refine pU_ 29 (some 56) ?_
             refine pU_ 30 (some 57) ?_
             refine tK_ 31 (some 58) hHeld ?_
             refine pU_ 32 (some 59) ?_
             refine pU_ 33 (some 60) ?_
             refine pU_ 34 (some 61) ?_
             refine done_ (done_of HT_.out (by kernel_rfl)) ?_
             try go_wp2
             go_roundg k2
             case measure => have:=HJ1.out;have:=HK2.out;omega
             case rel => exact ⟨(wrap64 (x3_2 + 1)),(by first|rfl|(simp;done)|(simp [*];done)),H',⟨by have:=HJ1.out;have:=HK2.out;omega⟩,⟨kq_ BK144⟩,⟨bq_ HB⟩⟩
            ·rw [if_neg c61] at H;have c61b0 : (((rd_T85 l0_1 x3_2).f1).toList == ([] : List UInt8)) = false:=beq_eq_false_iff_ne.mpr c61;have c61b1 : (((rd_T85 l0_1 x3_2).f1).toList != ([] : List UInt8)) = true:=bne_iff_ne.mpr c61;obtain rfl:=Option.some.inj H;obtain ⟨hcz68_0,hcz68_1,hfz68_0,hfz68_1⟩:=k2f_ BK144;have p146 : 0 ≤ (x3_2 : Int):=oda_;have q146 : x3_2 < (l0_1.length : Int):=oda_;obtain ⟨ad146,e146,hx146_0,hx146_1,hx146_2⟩:=at_T85 HR0_1.out x3_2 p146 q146
             (try rw [← Nbq59.out] at hx146_2)
             cases e146
             replace hx146_0:=(HB.out.cell (wb_ w _ hx146_0)).trans hx146_0;replace hx146_1:=(HB.out.cell (wb_ w _ hx146_1)).trans hx146_1;replace hx146_2:=(HB.out.cell (wb_ w _ hx146_2)).trans hx146_2;replace p146:=eq_true p146;replace q146:=eq_true q146
             try go_wp2_with (first|((with_reducible refine gate_dst (N:=4) rfl ?_);(try (refine gate_guard (by rfl) ?_;dsimp only));refine bE_ 4 #[.string (⟨#[]⟩ : ByteArray),.string (⟨#[]⟩ : ByteArray),.bool false] 85 ?_;intro gb147 hg w69 hbox hb;have BK147:=A_ (hbox);have GW147:=gE_ hg HB;have GE147:=gE_ hg HB;replace HB:=bS_ HB hb;have NB144_147:=nB_ hg BK144;have NB147_144:=nC_ hg BK144;replace BK144:=kB_ BK144 hb;clear hb hbox hg;have hnb70:=NB147_144.out;have hnc70:=NB144_147.out;obtain ⟨hcz71_0,hcz71_1,hcz71_2,hfz71_0,hfz71_1,hfz71_2⟩:=k3f_ BK147))
             have n0_ : Aside0 ((((w69.setCell ⟨gb147,0,none⟩ (.string ((rd_T85 l0_1 x3_2).f0))).setCell ⟨gb147,1,none⟩ (.string ((rd_T85 l0_1 x3_2).f1))).setCell ⟨gb147,2,none⟩ (.bool true)).heap[gb144]? = some (.cells #[.int .i64 a0_0,.slice (some ad146) l0_1.length c0_1] 79 (0,0))):=⟨kz_ BK144⟩;have n1_ : Aside0 ((((w69.setCell ⟨gb147,0,none⟩ (.string ((rd_T85 l0_1 x3_2).f0))).setCell ⟨gb147,1,none⟩ (.string ((rd_T85 l0_1 x3_2).f1))).setCell ⟨gb147,2,none⟩ (.bool true)).heap[gb147]? = some (.cells #[.string ((rd_T85 l0_1 x3_2).f0),.string ((rd_T85 l0_1 x3_2).f1),.bool true] 85 (0,0))):=⟨kz_ BK147⟩;have n2_ : Aside0 (Below w.heap.size w (((w69.setCell ⟨gb147,0,none⟩ (.string ((rd_T85 l0_1 x3_2).f0))).setCell ⟨gb147,1,none⟩ (.string ((rd_T85 l0_1 x3_2).f1))).setCell ⟨gb147,2,none⟩ (.bool true))):=⟨bq_ HB⟩
             (try clear BK144)
             (try clear BK147)
             (try clear HB)
             generalize (((w69.setCell ⟨gb147,0,none⟩ (.string ((rd_T85 l0_1 x3_2).f0))).setCell ⟨gb147,1,none⟩ (.string ((rd_T85 l0_1 x3_2).f1))).setCell ⟨gb147,2,none⟩ (.bool true)) = w72 at n0_ n1_ n2_ ⊢;have BK144:=n0_;have BK147:=n1_;have HB:=n2_;clear n0_ n1_ n2_;replace BK144:=A_ (kd_ BK144.out);replace BK147:=A_ (kd_ BK147.out);replace HB:=A_ (pd_ HB.out);refine start_ (n:=35) (S:=fun w' => w'.cell? ⟨gb147,0,none⟩ = some (.string ((rd_T85 l0_1 x3_2).f0)) ∧ w'.cell? ⟨gb147,1,none⟩ = some (.string ((rd_T85 l0_1 x3_2).f1)) ∧ w'.cell? ⟨gb147,2,none⟩ = some (.bool true)) (ds:=[]) #[false,false,false,false,false,false,false,false,false,false,false,false,false,false,false,false,false,false,false,false,false,false,false,false,false,false,false,false,false,false,false,false,false,false,false] (by kernel_rfl) rfl rfl ⟨kC_ BK147 0,kC_ BK147 1,kC_ BK147 2⟩ (fun hHeld => ?_);refine with_tabW spec_BatchOk.tab7 spec_BatchOk.bits7 (fun HT_ HW_ => ?_);generalize w72.drew = w73 at BK144 BK147 HB hHeld ⊢;refine pU_ 0 (some 27) ?_
             refine tK_ 1 (some 28) hHeld ?_
             refine oN_ 2 (some 29) (fun K hK => ?_);refine gs_ Try.func135 #[.string ((rd_T85 l0_1 x3_2).f0)] ?_;with_reducible refine (spec_l05Key.calls ((rd_T85 l0_1 x3_2).f0) true _ A11.out).mono ?_;rintro e w' ⟨rfl,⟨nd,rfl⟩⟩;refine ⟨_,rfl,?_⟩;have BK147d_:=A_ (kn_ BK147.out nd);have HBd_:=A_ (pn_ HB.out nd);refine hK.out _ _ ⟨kC_ BK147d_ 0,kC_ BK147d_ 1,kC_ BK147d_ 2⟩ (fun hHeld => ?_);clear hK K;refine nX_ (some 29) ?_
             refine pU_ 3 (some 30) ?_
             refine pU_ 4 (some 31) ?_
             refine pU_ 5 (some 32) ?_
             refine pU_ 6 (some 33) ?_
             refine pU_ 7 (some 34) ?_
             refine pure_ (i:=8) (N:=some 35) (v:=undef) (a':=?_) #[true,true,true,true,true,true,true,true,true,false,false,false,false,false,false,false,false,false,false,false,false,false,false,false,false,false,false,false,false,false,false,false,false,false,false] rfl rfl (any_of HT_.out (by kernel_rfl)) (fun _ _ _ h => h) (Or.inr ⟨by rfl,rfl⟩) ?_ ?_;rotate_left
             ·exact ux_
             refine pure_ (i:=9) (N:=some 36) (v:=undef) (a':=?_) #[true,true,true,true,true,true,true,true,true,true,false,false,false,false,false,false,false,false,false,false,false,false,false,false,false,false,false,false,false,false,false,false,false,false,false] rfl rfl (any_of HT_.out (by kernel_rfl)) (fun _ _ _ h => h) (Or.inr ⟨by rfl,rfl⟩) ?_ ?_;rotate_left
             ·exact ux_
             refine pure_ (i:=10) (N:=some 37) (v:=undef) (a':=?_) #[true,true,true,true,true,true,true,true,true,true,true,false,false,false,false,false,false,false,false,false,false,false,false,false,false,false,false,false,false,false,false,false,false,false,false] rfl rfl (any_of HT_.out (by kernel_rfl)) (fun _ _ _ h => h) (Or.inr ⟨by rfl,rfl⟩) ?_ ?_;rotate_left
             ·exact ux_
             refine pure_ (i:=11) (N:=some 38) (v:=undef) (a':=?_) #[true,true,true,true,true,true,true,true,true,true,true,true,false,false,false,false,false,false,false,false,false,false,false,false,false,false,false,false,false,false,false,false,false,false,false] rfl rfl (any_of HT_.out (by kernel_rfl)) (fun _ _ _ h => h) (Or.inr ⟨by rfl,rfl⟩) ?_ ?_;rotate_left
             ·exact ux_
             refine pure_ (i:=12) (N:=some 39) (v:=undef) (a':=?_) #[true,true,true,true,true,true,true,true,true,true,true,true,true,false,false,false,false,false,false,false,false,false,false,false,false,false,false,false,false,false,false,false,false,false,false] rfl rfl (any_of HT_.out (by kernel_rfl)) (fun _ _ _ h => h) (Or.inr ⟨by rfl,rfl⟩) ?_ ?_;rotate_left
             ·exact ux_
             refine pure_ (i:=13) (N:=some 40) (v:=undef) (a':=?_) #[true,true,true,true,true,true,true,true,true,true,true,true,true,true,false,false,false,false,false,false,false,false,false,false,false,false,false,false,false,false,false,false,false,false,false] rfl rfl (any_of HT_.out (by kernel_rfl)) (fun _ _ _ h => h) (Or.inr ⟨by rfl,rfl⟩) ?_ ?_;rotate_left
             ·exact ux_
             refine pure_ (i:=14) (N:=some 41) (v:=undef) (a':=?_) #[true,true,true,true,true,true,true,true,true,true,true,true,true,true,true,false,false,false,false,false,false,false,false,false,false,false,false,false,false,false,false,false,false,false,false] rfl rfl (any_of HT_.out (by kernel_rfl)) (fun _ _ _ h => h) (Or.inr ⟨by rfl,rfl⟩) ?_ ?_;rotate_left
             ·exact ux_
             refine pure_ (i:=15) (N:=some 42) (v:=undef) (a':=?_) #[true,true,true,true,true,true,true,true,true,true,true,true,true,true,true,true,false,false,false,false,false,false,false,false,false,false,false,false,false,false,false,false,false,false,false] rfl rfl (any_of HT_.out (by kernel_rfl)) (fun _ _ _ h => h) (Or.inr ⟨by rfl,rfl⟩) ?_ ?_;rotate_left
             ·exact ux_
             refine pure_ (i:=16) (N:=some 43) (v:=undef) (a':=?_) #[true,true,true,true,true,true,true,true,true,true,true,true,true,true,true,true,true,false,false,false,false,false,false,false,false,false,false,false,false,false,false,false,false,false,false] rfl rfl (any_of HT_.out (by kernel_rfl)) (fun _ _ _ h => h) (Or.inr ⟨by rfl,rfl⟩) ?_ ?_;rotate_left
             ·exact ux_
             refine pure_ (i:=17) (N:=some 44) (v:=undef) (a':=?_) #[true,true,true,true,true,true,true,true,true,true,true,true,true,true,true,true,true,true,false,false,false,false,false,false,false,false,false,false,false,false,false,false,false,false,false] rfl rfl (any_of HT_.out (by kernel_rfl)) (fun _ _ _ h => h) (Or.inr ⟨by rfl,rfl⟩) ?_ ?_;rotate_left
             ·exact ux_
             refine pU_ 18 (some 45) ?_
             refine pU_ 19 (some 46) ?_
             refine pU_ 20 (some 47) ?_
             refine pU_ 21 (some 48) ?_
             refine tK_ 22 (some 49) hHeld ?_
             refine pU_ 23 (some 50) ?_
             refine pU_ 24 (some 51) ?_
             refine pU_ 25 (some 52) ?_
             refine pU_ 26 (some 53) ?_
             refine pU_ 27 (some 54) ?_
             refine tK_ 28 (some 55) hHeld ?_
             refine pU_ 29 (some 56) ?_
             refine pU_ 30 (some 57) ?_
             refine tK_ 31 (some 58) hHeld ?_
             refine pU_ 32 (some 59) ?_
             refine pU_ 33 (some 60) ?_
             refine pU_ 34 (some 61) ?_
             refine done_ (done_of HT_.out (by kernel_rfl)) ?_
             try go_wp2
             go_ret;exact ⟨ex_,bq_ HB⟩
           ·replace c60:=Bool.eq_false_iff.mpr c60;subst c60
            have H1 : (spec_BatchOk.l0 k2 (wrap64 (x3_2 + 1)) a0_0 l0_1) = some r:=by rw [if_neg (show ¬ (false = true) by decide)] at H;exact H
            clear H;have H:=H1;clear H1;have H':=A_ H;clear H;obtain ⟨hcz74_0,hcz74_1,hfz74_0,hfz74_1⟩:=k2f_ BK144;have p146 : 0 ≤ (x3_2 : Int):=oda_;have q146 : x3_2 < (l0_1.length : Int):=oda_;obtain ⟨ad146,e146,hx146_0,hx146_1,hx146_2⟩:=at_T85 HR0_1.out x3_2 p146 q146
            (try rw [← Nbq59.out] at hx146_2)
            cases e146
            replace hx146_0:=(HB.out.cell (wb_ w _ hx146_0)).trans hx146_0;replace hx146_1:=(HB.out.cell (wb_ w _ hx146_1)).trans hx146_1;replace hx146_2:=(HB.out.cell (wb_ w _ hx146_2)).trans hx146_2;replace p146:=eq_true p146;replace q146:=eq_true q146
            try go_wp2_with (first|((with_reducible refine gate_dst (N:=4) rfl ?_);(try (refine gate_guard (by rfl) ?_;dsimp only));refine bE_ 4 #[.string (⟨#[]⟩ : ByteArray),.string (⟨#[]⟩ : ByteArray),.bool false] 85 ?_;intro gb147 hg w75 hbox hb;have BK147:=A_ (hbox);have GW147:=gE_ hg HB;have GE147:=gE_ hg HB;replace HB:=bS_ HB hb;have NB144_147:=nB_ hg BK144;have NB147_144:=nC_ hg BK144;replace BK144:=kB_ BK144 hb;clear hb hbox hg;have hnb76:=NB147_144.out;have hnc76:=NB144_147.out;obtain ⟨hcz77_0,hcz77_1,hcz77_2,hfz77_0,hfz77_1,hfz77_2⟩:=k3f_ BK147))
            have n0_ : Aside0 ((((w75.setCell ⟨gb147,0,none⟩ (.string ((rd_T85 l0_1 x3_2).f0))).setCell ⟨gb147,1,none⟩ (.string ((rd_T85 l0_1 x3_2).f1))).setCell ⟨gb147,2,none⟩ (.bool false)).heap[gb144]? = some (.cells #[.int .i64 a0_0,.slice (some ad146) l0_1.length c0_1] 79 (0,0))):=⟨kz_ BK144⟩;have n1_ : Aside0 ((((w75.setCell ⟨gb147,0,none⟩ (.string ((rd_T85 l0_1 x3_2).f0))).setCell ⟨gb147,1,none⟩ (.string ((rd_T85 l0_1 x3_2).f1))).setCell ⟨gb147,2,none⟩ (.bool false)).heap[gb147]? = some (.cells #[.string ((rd_T85 l0_1 x3_2).f0),.string ((rd_T85 l0_1 x3_2).f1),.bool false] 85 (0,0))):=⟨kz_ BK147⟩;have n2_ : Aside0 (Below w.heap.size w (((w75.setCell ⟨gb147,0,none⟩ (.string ((rd_T85 l0_1 x3_2).f0))).setCell ⟨gb147,1,none⟩ (.string ((rd_T85 l0_1 x3_2).f1))).setCell ⟨gb147,2,none⟩ (.bool false))):=⟨bq_ HB⟩
            (try clear BK144)
            (try clear BK147)
            (try clear HB)
            generalize (((w75.setCell ⟨gb147,0,none⟩ (.string ((rd_T85 l0_1 x3_2).f0))).setCell ⟨gb147,1,none⟩ (.string ((rd_T85 l0_1 x3_2).f1))).setCell ⟨gb147,2,none⟩ (.bool false)) = w78 at n0_ n1_ n2_ ⊢;have BK144:=n0_;have BK147:=n1_;have HB:=n2_;clear n0_ n1_ n2_;replace BK144:=A_ (kd_ BK144.out);replace BK147:=A_ (kd_ BK147.out);replace HB:=A_ (pd_ HB.out);refine start_ (n:=35) (S:=fun w' => w'.cell? ⟨gb147,0,none⟩ = some (.string ((rd_T85 l0_1 x3_2).f0)) ∧ w'.cell? ⟨gb147,1,none⟩ = some (.string ((rd_T85 l0_1 x3_2).f1)) ∧ w'.cell? ⟨gb147,2,none⟩ = some (.bool false)) (ds:=[]) #[false,false,false,false,false,false,false,false,false,false,false,false,false,false,false,false,false,false,false,false,false,false,false,false,false,false,false,false,false,false,false,false,false,false,false] (by kernel_rfl) rfl rfl ⟨kC_ BK147 0,kC_ BK147 1,kC_ BK147 2⟩ (fun hHeld => ?_);refine with_tabW spec_BatchOk.tab7 spec_BatchOk.bits7 (fun HT_ HW_ => ?_);generalize w78.drew = w79 at BK144 BK147 HB hHeld ⊢;refine pU_ 0 (some 27) ?_
            refine tK_ 1 (some 28) hHeld ?_
            refine oN_ 2 (some 29) (fun K hK => ?_);refine gs_ Try.func135 #[.string ((rd_T85 l0_1 x3_2).f0)] ?_;with_reducible refine (spec_l05Key.calls ((rd_T85 l0_1 x3_2).f0) true _ A11.out).mono ?_;rintro e w' ⟨rfl,⟨nd,rfl⟩⟩;refine ⟨_,rfl,?_⟩;have BK147d_:=A_ (kn_ BK147.out nd);have HBd_:=A_ (pn_ HB.out nd);refine hK.out _ _ ⟨kC_ BK147d_ 0,kC_ BK147d_ 1,kC_ BK147d_ 2⟩ (fun hHeld => ?_);clear hK K;refine nX_ (some 29) ?_
            refine pU_ 3 (some 30) ?_
            refine pU_ 4 (some 31) ?_
            refine pU_ 5 (some 32) ?_
            refine pU_ 6 (some 33) ?_
            refine pU_ 7 (some 34) ?_
            refine pure_ (i:=8) (N:=some 35) (v:=undef) (a':=?_) #[true,true,true,true,true,true,true,true,true,false,false,false,false,false,false,false,false,false,false,false,false,false,false,false,false,false,false,false,false,false,false,false,false,false,false] rfl rfl (any_of HT_.out (by kernel_rfl)) (fun _ _ _ h => h) (Or.inr ⟨by rfl,rfl⟩) ?_ ?_;rotate_left
            ·exact ux_
            refine pure_ (i:=9) (N:=some 36) (v:=undef) (a':=?_) #[true,true,true,true,true,true,true,true,true,true,false,false,false,false,false,false,false,false,false,false,false,false,false,false,false,false,false,false,false,false,false,false,false,false,false] rfl rfl (any_of HT_.out (by kernel_rfl)) (fun _ _ _ h => h) (Or.inr ⟨by rfl,rfl⟩) ?_ ?_;rotate_left
            ·exact ux_
            refine pure_ (i:=10) (N:=some 37) (v:=undef) (a':=?_) #[true,true,true,true,true,true,true,true,true,true,true,false,false,false,false,false,false,false,false,false,false,false,false,false,false,false,false,false,false,false,false,false,false,false,false] rfl rfl (any_of HT_.out (by kernel_rfl)) (fun _ _ _ h => h) (Or.inr ⟨by rfl,rfl⟩) ?_ ?_;rotate_left
            ·exact ux_
            refine pure_ (i:=11) (N:=some 38) (v:=undef) (a':=?_) #[true,true,true,true,true,true,true,true,true,true,true,true,false,false,false,false,false,false,false,false,false,false,false,false,false,false,false,false,false,false,false,false,false,false,false] rfl rfl (any_of HT_.out (by kernel_rfl)) (fun _ _ _ h => h) (Or.inr ⟨by rfl,rfl⟩) ?_ ?_;rotate_left
            ·exact ux_
            refine pure_ (i:=12) (N:=some 39) (v:=undef) (a':=?_) #[true,true,true,true,true,true,true,true,true,true,true,true,true,false,false,false,false,false,false,false,false,false,false,false,false,false,false,false,false,false,false,false,false,false,false] rfl rfl (any_of HT_.out (by kernel_rfl)) (fun _ _ _ h => h) (Or.inr ⟨by rfl,rfl⟩) ?_ ?_;rotate_left
            ·exact ux_
            refine pure_ (i:=13) (N:=some 40) (v:=undef) (a':=?_) #[true,true,true,true,true,true,true,true,true,true,true,true,true,true,false,false,false,false,false,false,false,false,false,false,false,false,false,false,false,false,false,false,false,false,false] rfl rfl (any_of HT_.out (by kernel_rfl)) (fun _ _ _ h => h) (Or.inr ⟨by rfl,rfl⟩) ?_ ?_;rotate_left
            ·exact ux_
            refine pure_ (i:=14) (N:=some 41) (v:=undef) (a':=?_) #[true,true,true,true,true,true,true,true,true,true,true,true,true,true,true,false,false,false,false,false,false,false,false,false,false,false,false,false,false,false,false,false,false,false,false] rfl rfl (any_of HT_.out (by kernel_rfl)) (fun _ _ _ h => h) (Or.inr ⟨by rfl,rfl⟩) ?_ ?_;rotate_left
            ·exact ux_
            refine pure_ (i:=15) (N:=some 42) (v:=undef) (a':=?_) #[true,true,true,true,true,true,true,true,true,true,true,true,true,true,true,true,false,false,false,false,false,false,false,false,false,false,false,false,false,false,false,false,false,false,false] rfl rfl (any_of HT_.out (by kernel_rfl)) (fun _ _ _ h => h) (Or.inr ⟨by rfl,rfl⟩) ?_ ?_;rotate_left
            ·exact ux_
            refine pure_ (i:=16) (N:=some 43) (v:=undef) (a':=?_) #[true,true,true,true,true,true,true,true,true,true,true,true,true,true,true,true,true,false,false,false,false,false,false,false,false,false,false,false,false,false,false,false,false,false,false] rfl rfl (any_of HT_.out (by kernel_rfl)) (fun _ _ _ h => h) (Or.inr ⟨by rfl,rfl⟩) ?_ ?_;rotate_left
            ·exact ux_
            refine pure_ (i:=17) (N:=some 44) (v:=undef) (a':=?_) #[true,true,true,true,true,true,true,true,true,true,true,true,true,true,true,true,true,true,false,false,false,false,false,false,false,false,false,false,false,false,false,false,false,false,false] rfl rfl (any_of HT_.out (by kernel_rfl)) (fun _ _ _ h => h) (Or.inr ⟨by rfl,rfl⟩) ?_ ?_;rotate_left
            ·exact ux_
            refine pU_ 18 (some 45) ?_
            refine pU_ 19 (some 46) ?_
            refine pU_ 20 (some 47) ?_
            refine pU_ 21 (some 48) ?_
            refine tK_ 22 (some 49) hHeld ?_
            refine pU_ 23 (some 50) ?_
            refine pU_ 24 (some 51) ?_
            refine pU_ 25 (some 52) ?_
            refine pU_ 26 (some 53) ?_
            refine pU_ 27 (some 54) ?_
            refine tK_ 28 (some 55) hHeld ?_
            refine pU_ 29 (some 56) ?_
            refine pure_ (i:=30) (N:=some 57) (v:=undef) (a':=?_) #[true,true,true,true,true,true,true,true,true,true,true,true,true,true,true,true,true,true,true,true,true,true,true,true,true,true,true,true,true,true,true,false,false,false,false] rfl rfl (any_of HT_.out (by kernel_rfl)) (fun _ _ _ h => h) (Or.inr ⟨by rfl,rfl⟩) ?_ ?_;rotate_left
            ·exact ux_
            refine pure_ (i:=31) (N:=some 58) (v:=undef) (a':=?_) #[true,true,true,true,true,true,true,true,true,true,true,true,true,true,true,true,true,true,true,true,true,true,true,true,true,true,true,true,true,true,true,true,false,false,false] rfl rfl (any_of HT_.out (by kernel_rfl)) (fun _ _ _ h => h) (Or.inr ⟨by rfl,rfl⟩) ?_ ?_;rotate_left
            ·exact ux_
            refine pure_ (i:=32) (N:=some 59) (v:=undef) (a':=?_) #[true,true,true,true,true,true,true,true,true,true,true,true,true,true,true,true,true,true,true,true,true,true,true,true,true,true,true,true,true,true,true,true,true,false,false] rfl rfl (any_of HT_.out (by kernel_rfl)) (fun _ _ _ h => h) (Or.inr ⟨by rfl,rfl⟩) ?_ ?_;rotate_left
            ·exact ux_
            refine pU_ 33 (some 60) ?_
            refine pU_ 34 (some 61) ?_
            refine done_ (done_of HT_.out (by kernel_rfl)) ?_
            try go_wp2
            go_roundg k2
            case measure => have:=HJ1.out;have:=HK2.out;omega
            case rel => exact ⟨(wrap64 (x3_2 + 1)),(by first|rfl|(simp;done)|(simp [*];done)),H',⟨by have:=HJ1.out;have:=HK2.out;omega⟩,⟨kq_ BK144⟩,⟨bq_ HB⟩⟩
        ·replace c12:=Bool.eq_false_iff.mpr c12;subst c12
         have H1 : (some false) = some r:=by rw [if_neg (show ¬ (false = true) by decide)] at H;exact H
         clear H;have H:=H1;clear H1;obtain rfl:=Option.some.inj H;obtain ⟨hcz80_0,hcz80_1,hfz80_0,hfz80_1⟩:=k2f_ BK144;have p146 : 0 ≤ (x3_2 : Int):=oda_;have q146 : x3_2 < (l0_1.length : Int):=oda_;obtain ⟨ad146,e146,hx146_0,hx146_1,hx146_2⟩:=at_T85 HR0_1.out x3_2 p146 q146
         cases e146
         replace hx146_0:=(HB.out.cell (wb_ w _ hx146_0)).trans hx146_0;replace hx146_1:=(HB.out.cell (wb_ w _ hx146_1)).trans hx146_1;replace hx146_2:=(HB.out.cell (wb_ w _ hx146_2)).trans hx146_2;replace p146:=eq_true p146;replace q146:=eq_true q146
         try go_wp2_with (first|((with_reducible refine gate_dst (N:=4) rfl ?_);(try (refine gate_guard (by rfl) ?_;dsimp only));refine bE_ 4 #[.string (⟨#[]⟩ : ByteArray),.string (⟨#[]⟩ : ByteArray),.bool false] 85 ?_;intro gb147 hg w81 hbox hb;have BK147:=A_ (hbox);have GW147:=gE_ hg HB;have GE147:=gE_ hg HB;replace HB:=bS_ HB hb;have NB144_147:=nB_ hg BK144;have NB147_144:=nC_ hg BK144;replace BK144:=kB_ BK144 hb;clear hb hbox hg;have hnb82:=NB147_144.out;have hnc82:=NB144_147.out;obtain ⟨hcz83_0,hcz83_1,hcz83_2,hfz83_0,hfz83_1,hfz83_2⟩:=k3f_ BK147))
         have n0_ : Aside0 ((((w81.setCell ⟨gb147,0,none⟩ (.string ((rd_T85 l0_1 x3_2).f0))).setCell ⟨gb147,1,none⟩ (.string ((rd_T85 l0_1 x3_2).f1))).setCell ⟨gb147,2,none⟩ (.bool ((rd_T85 l0_1 x3_2).f2))).heap[gb144]? = some (.cells #[.int .i64 a0_0,.slice (some ad146) l0_1.length c0_1] 79 (0,0))):=⟨kz_ BK144⟩;have n1_ : Aside0 ((((w81.setCell ⟨gb147,0,none⟩ (.string ((rd_T85 l0_1 x3_2).f0))).setCell ⟨gb147,1,none⟩ (.string ((rd_T85 l0_1 x3_2).f1))).setCell ⟨gb147,2,none⟩ (.bool ((rd_T85 l0_1 x3_2).f2))).heap[gb147]? = some (.cells #[.string ((rd_T85 l0_1 x3_2).f0),.string ((rd_T85 l0_1 x3_2).f1),.bool ((rd_T85 l0_1 x3_2).f2)] 85 (0,0))):=⟨kz_ BK147⟩;have n2_ : Aside0 (Below w.heap.size w (((w81.setCell ⟨gb147,0,none⟩ (.string ((rd_T85 l0_1 x3_2).f0))).setCell ⟨gb147,1,none⟩ (.string ((rd_T85 l0_1 x3_2).f1))).setCell ⟨gb147,2,none⟩ (.bool ((rd_T85 l0_1 x3_2).f2)))):=⟨bq_ HB⟩
         (try clear BK144)
         (try clear BK147)
         (try clear HB)
         generalize (((w81.setCell ⟨gb147,0,none⟩ (.string ((rd_T85 l0_1 x3_2).f0))).setCell ⟨gb147,1,none⟩ (.string ((rd_T85 l0_1 x3_2).f1))).setCell ⟨gb147,2,none⟩ (.bool ((rd_T85 l0_1 x3_2).f2))) = w84 at n0_ n1_ n2_ ⊢;have BK144:=n0_;have BK147:=n1_;have HB:=n2_;clear n0_ n1_ n2_;replace BK144:=A_ (kd_ BK144.out);replace BK147:=A_ (kd_ BK147.out);replace HB:=A_ (pd_ HB.out);refine start_ (n:=35) (S:=fun w' => w'.cell? ⟨gb147,0,none⟩ = some (.string ((rd_T85 l0_1 x3_2).f0)) ∧ w'.cell? ⟨gb147,1,none⟩ = some (.string ((rd_T85 l0_1 x3_2).f1)) ∧ w'.cell? ⟨gb147,2,none⟩ = some (.bool ((rd_T85 l0_1 x3_2).f2))) (ds:=[]) #[false,false,false,false,false,false,false,false,false,false,false,false,false,false,false,false,false,false,false,false,false,false,false,false,false,false,false,false,false,false,false,false,false,false,false] (by kernel_rfl) rfl rfl ⟨kC_ BK147 0,kC_ BK147 1,kC_ BK147 2⟩ (fun hHeld => ?_);refine with_tabW spec_BatchOk.tab7 spec_BatchOk.bits7 (fun HT_ HW_ => ?_);generalize w84.drew = w85 at BK144 BK147 HB hHeld ⊢;refine pU_ 0 (some 27) ?_
         refine tK_ 1 (some 28) hHeld ?_
         refine oN_ 2 (some 29) (fun K hK => ?_);refine gs_ Try.func135 #[.string ((rd_T85 l0_1 x3_2).f0)] ?_;with_reducible refine (spec_l05Key.calls ((rd_T85 l0_1 x3_2).f0) false _ A11.out).mono ?_;rintro e w' ⟨rfl,⟨nd,rfl⟩⟩;refine ⟨_,rfl,?_⟩;have BK147d_:=A_ (kn_ BK147.out nd);have HBd_:=A_ (pn_ HB.out nd);refine hK.out _ _ ⟨kC_ BK147d_ 0,kC_ BK147d_ 1,kC_ BK147d_ 2⟩ (fun hHeld => ?_);clear hK K;refine nX_ (some 29) ?_
         refine pU_ 3 (some 30) ?_
         refine pU_ 4 (some 31) ?_
         refine pure_ (i:=5) (N:=some 32) (v:=undef) (a':=?_) #[true,true,true,true,true,true,false,false,false,false,false,false,false,false,false,false,false,false,false,false,false,false,false,false,false,false,false,false,false,false,false,false,false,false,false] rfl rfl (any_of HT_.out (by kernel_rfl)) (fun _ _ _ h => h) (Or.inr ⟨by rfl,rfl⟩) ?_ ?_;rotate_left
         ·exact ux_
         refine pure_ (i:=6) (N:=some 33) (v:=undef) (a':=?_) #[true,true,true,true,true,true,true,false,false,false,false,false,false,false,false,false,false,false,false,false,false,false,false,false,false,false,false,false,false,false,false,false,false,false,false] rfl rfl (any_of HT_.out (by kernel_rfl)) (fun _ _ _ h => h) (Or.inr ⟨by rfl,rfl⟩) ?_ ?_;rotate_left
         ·exact ux_
         refine pure_ (i:=7) (N:=some 34) (v:=undef) (a':=?_) #[true,true,true,true,true,true,true,true,false,false,false,false,false,false,false,false,false,false,false,false,false,false,false,false,false,false,false,false,false,false,false,false,false,false,false] rfl rfl (any_of HT_.out (by kernel_rfl)) (fun _ _ _ h => h) (Or.inr ⟨by rfl,rfl⟩) ?_ ?_;rotate_left
         ·exact ux_
         refine pure_ (i:=8) (N:=some 35) (v:=undef) (a':=?_) #[true,true,true,true,true,true,true,true,true,false,false,false,false,false,false,false,false,false,false,false,false,false,false,false,false,false,false,false,false,false,false,false,false,false,false] rfl rfl (any_of HT_.out (by kernel_rfl)) (fun _ _ _ h => h) (Or.inr ⟨by rfl,rfl⟩) ?_ ?_;rotate_left
         ·exact ux_
         refine pure_ (i:=9) (N:=some 36) (v:=undef) (a':=?_) #[true,true,true,true,true,true,true,true,true,true,false,false,false,false,false,false,false,false,false,false,false,false,false,false,false,false,false,false,false,false,false,false,false,false,false] rfl rfl (any_of HT_.out (by kernel_rfl)) (fun _ _ _ h => h) (Or.inr ⟨by rfl,rfl⟩) ?_ ?_;rotate_left
         ·exact ux_
         refine pure_ (i:=10) (N:=some 37) (v:=undef) (a':=?_) #[true,true,true,true,true,true,true,true,true,true,true,false,false,false,false,false,false,false,false,false,false,false,false,false,false,false,false,false,false,false,false,false,false,false,false] rfl rfl (any_of HT_.out (by kernel_rfl)) (fun _ _ _ h => h) (Or.inr ⟨by rfl,rfl⟩) ?_ ?_;rotate_left
         ·exact ux_
         refine pure_ (i:=11) (N:=some 38) (v:=undef) (a':=?_) #[true,true,true,true,true,true,true,true,true,true,true,true,false,false,false,false,false,false,false,false,false,false,false,false,false,false,false,false,false,false,false,false,false,false,false] rfl rfl (any_of HT_.out (by kernel_rfl)) (fun _ _ _ h => h) (Or.inr ⟨by rfl,rfl⟩) ?_ ?_;rotate_left
         ·exact ux_
         refine pure_ (i:=12) (N:=some 39) (v:=undef) (a':=?_) #[true,true,true,true,true,true,true,true,true,true,true,true,true,false,false,false,false,false,false,false,false,false,false,false,false,false,false,false,false,false,false,false,false,false,false] rfl rfl (any_of HT_.out (by kernel_rfl)) (fun _ _ _ h => h) (Or.inr ⟨by rfl,rfl⟩) ?_ ?_;rotate_left
         ·exact ux_
         refine pure_ (i:=13) (N:=some 40) (v:=undef) (a':=?_) #[true,true,true,true,true,true,true,true,true,true,true,true,true,true,false,false,false,false,false,false,false,false,false,false,false,false,false,false,false,false,false,false,false,false,false] rfl rfl (any_of HT_.out (by kernel_rfl)) (fun _ _ _ h => h) (Or.inr ⟨by rfl,rfl⟩) ?_ ?_;rotate_left
         ·exact ux_
         refine pure_ (i:=14) (N:=some 41) (v:=undef) (a':=?_) #[true,true,true,true,true,true,true,true,true,true,true,true,true,true,true,false,false,false,false,false,false,false,false,false,false,false,false,false,false,false,false,false,false,false,false] rfl rfl (any_of HT_.out (by kernel_rfl)) (fun _ _ _ h => h) (Or.inr ⟨by rfl,rfl⟩) ?_ ?_;rotate_left
         ·exact ux_
         refine pure_ (i:=15) (N:=some 42) (v:=undef) (a':=?_) #[true,true,true,true,true,true,true,true,true,true,true,true,true,true,true,true,false,false,false,false,false,false,false,false,false,false,false,false,false,false,false,false,false,false,false] rfl rfl (any_of HT_.out (by kernel_rfl)) (fun _ _ _ h => h) (Or.inr ⟨by rfl,rfl⟩) ?_ ?_;rotate_left
         ·exact ux_
         refine pure_ (i:=16) (N:=some 43) (v:=undef) (a':=?_) #[true,true,true,true,true,true,true,true,true,true,true,true,true,true,true,true,true,false,false,false,false,false,false,false,false,false,false,false,false,false,false,false,false,false,false] rfl rfl (any_of HT_.out (by kernel_rfl)) (fun _ _ _ h => h) (Or.inr ⟨by rfl,rfl⟩) ?_ ?_;rotate_left
         ·exact ux_
         refine pure_ (i:=17) (N:=some 44) (v:=undef) (a':=?_) #[true,true,true,true,true,true,true,true,true,true,true,true,true,true,true,true,true,true,false,false,false,false,false,false,false,false,false,false,false,false,false,false,false,false,false] rfl rfl (any_of HT_.out (by kernel_rfl)) (fun _ _ _ h => h) (Or.inr ⟨by rfl,rfl⟩) ?_ ?_;rotate_left
         ·exact ux_
         refine pure_ (i:=18) (N:=some 45) (v:=undef) (a':=?_) #[true,true,true,true,true,true,true,true,true,true,true,true,true,true,true,true,true,true,true,false,false,false,false,false,false,false,false,false,false,false,false,false,false,false,false] rfl rfl (any_of HT_.out (by kernel_rfl)) (fun _ _ _ h => h) (Or.inr ⟨by rfl,rfl⟩) ?_ ?_;rotate_left
         ·exact ux_
         refine pU_ 19 (some 46) ?_
         refine pU_ 20 (some 47) ?_
         refine pure_ (i:=21) (N:=some 48) (v:=undef) (a':=?_) #[true,true,true,true,true,true,true,true,true,true,true,true,true,true,true,true,true,true,true,true,true,true,false,false,false,false,false,false,false,false,false,false,false,false,false] rfl rfl (any_of HT_.out (by kernel_rfl)) (fun _ _ _ h => h) (Or.inr ⟨by rfl,rfl⟩) ?_ ?_;rotate_left
         ·exact ux_
         refine pure_ (i:=22) (N:=some 49) (v:=undef) (a':=?_) #[true,true,true,true,true,true,true,true,true,true,true,true,true,true,true,true,true,true,true,true,true,true,true,false,false,false,false,false,false,false,false,false,false,false,false] rfl rfl (any_of HT_.out (by kernel_rfl)) (fun _ _ _ h => h) (Or.inr ⟨by rfl,rfl⟩) ?_ ?_;rotate_left
         ·exact ux_
         refine pure_ (i:=23) (N:=some 50) (v:=undef) (a':=?_) #[true,true,true,true,true,true,true,true,true,true,true,true,true,true,true,true,true,true,true,true,true,true,true,true,false,false,false,false,false,false,false,false,false,false,false] rfl rfl (any_of HT_.out (by kernel_rfl)) (fun _ _ _ h => h) (Or.inr ⟨by rfl,rfl⟩) ?_ ?_;rotate_left
         ·exact ux_
         refine pure_ (i:=24) (N:=some 51) (v:=undef) (a':=?_) #[true,true,true,true,true,true,true,true,true,true,true,true,true,true,true,true,true,true,true,true,true,true,true,true,true,false,false,false,false,false,false,false,false,false,false] rfl rfl (any_of HT_.out (by kernel_rfl)) (fun _ _ _ h => h) (Or.inr ⟨by rfl,rfl⟩) ?_ ?_;rotate_left
         ·exact ux_
         refine pU_ 25 (some 52) ?_
         refine pU_ 26 (some 53) ?_
         refine pure_ (i:=27) (N:=some 54) (v:=undef) (a':=?_) #[true,true,true,true,true,true,true,true,true,true,true,true,true,true,true,true,true,true,true,true,true,true,true,true,true,true,true,true,false,false,false,false,false,false,false] rfl rfl (any_of HT_.out (by kernel_rfl)) (fun _ _ _ h => h) (Or.inr ⟨by rfl,rfl⟩) ?_ ?_;rotate_left
         ·exact ux_
         refine pure_ (i:=28) (N:=some 55) (v:=undef) (a':=?_) #[true,true,true,true,true,true,true,true,true,true,true,true,true,true,true,true,true,true,true,true,true,true,true,true,true,true,true,true,true,false,false,false,false,false,false] rfl rfl (any_of HT_.out (by kernel_rfl)) (fun _ _ _ h => h) (Or.inr ⟨by rfl,rfl⟩) ?_ ?_;rotate_left
         ·exact ux_
         refine pure_ (i:=29) (N:=some 56) (v:=undef) (a':=?_) #[true,true,true,true,true,true,true,true,true,true,true,true,true,true,true,true,true,true,true,true,true,true,true,true,true,true,true,true,true,true,false,false,false,false,false] rfl rfl (any_of HT_.out (by kernel_rfl)) (fun _ _ _ h => h) (Or.inr ⟨by rfl,rfl⟩) ?_ ?_;rotate_left
         ·exact ux_
         refine pure_ (i:=30) (N:=some 57) (v:=undef) (a':=?_) #[true,true,true,true,true,true,true,true,true,true,true,true,true,true,true,true,true,true,true,true,true,true,true,true,true,true,true,true,true,true,true,false,false,false,false] rfl rfl (any_of HT_.out (by kernel_rfl)) (fun _ _ _ h => h) (Or.inr ⟨by rfl,rfl⟩) ?_ ?_;rotate_left
         ·exact ux_
         refine pure_ (i:=31) (N:=some 58) (v:=undef) (a':=?_) #[true,true,true,true,true,true,true,true,true,true,true,true,true,true,true,true,true,true,true,true,true,true,true,true,true,true,true,true,true,true,true,true,false,false,false] rfl rfl (any_of HT_.out (by kernel_rfl)) (fun _ _ _ h => h) (Or.inr ⟨by rfl,rfl⟩) ?_ ?_;rotate_left
         ·exact ux_
         refine pure_ (i:=32) (N:=some 59) (v:=undef) (a':=?_) #[true,true,true,true,true,true,true,true,true,true,true,true,true,true,true,true,true,true,true,true,true,true,true,true,true,true,true,true,true,true,true,true,true,false,false] rfl rfl (any_of HT_.out (by kernel_rfl)) (fun _ _ _ h => h) (Or.inr ⟨by rfl,rfl⟩) ?_ ?_;rotate_left
         ·exact ux_
         refine pure_ (i:=33) (N:=some 60) (v:=undef) (a':=?_) #[true,true,true,true,true,true,true,true,true,true,true,true,true,true,true,true,true,true,true,true,true,true,true,true,true,true,true,true,true,true,true,true,true,true,false] rfl rfl (any_of HT_.out (by kernel_rfl)) (fun _ _ _ h => h) (Or.inr ⟨by rfl,rfl⟩) ?_ ?_;rotate_left
         ·exact ux_
         refine pU_ 34 (some 61) ?_
         refine done_ (done_of HT_.out (by kernel_rfl)) ?_
         try go_wp2
         go_ret;exact ⟨ex_,bq_ HB⟩
       ·rw [if_neg c10] at H;exact absurd H (by simp)
      ·rw [if_neg c9] at H;have c9b0 : decide (x3_2 < (l0_1.length : Int)) = false:=decide_eq_false c9;clear c9;obtain rfl:=Option.some.inj H;obtain ⟨hcz86_0,hcz86_1,hfz86_0,hfz86_1⟩:=k2f_ BK144;go_wp2;go_ret;exact ⟨ex_,bq_ HB⟩
end Go.Proofs.Ytbcgnncbiblibaa.PFnExactScanSeg
