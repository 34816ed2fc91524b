/- The contracts of the Go functions that this law reaches: what each call returns, by a plain Lean function of its arguments. No conditions but those each contract names. By the kit's print.py, run by this session's wip/gen/pp.py with facts and hand proofs beside it: not to the letter what print.sh prints. -/
import Derived.Test.YtbcgnncbiblibaaPFnExactScanSegx0
import Derived.Test.YtbcgnncbiblibaaPFnExactScanSegx8
import Derived.Test.YtbcgnncbiblibaaPFnExactScanSegx9
import Derived.Test.YtbcgnncbiblibaaPFnExactScanSegx10
import Derived.Test.YtbcgnncbiblibaaPFnExactScanSegx11
import Derived.Test.YtbcgnncbiblibaaPFnExactScanSegx12
namespace Go.Proofs.Ytbcgnncbiblibaa.PFnExactScanSeg
open Go.RowKit Go.Proofs.YtbcgnncbiblibaaW.PrintWords Go.Proofs.YtbcgnncbiblibaaW.PrintLast Go.Proofs.YtbcgnncbiblibaaW.PrintMore
attribute [local go_sem] max2_int min2_int max_two min_two max_three min_three max_four min_four
set_option linter.unusedVariables false
set_option linter.unusedSimpArgs false
def impl_BatchText.l0 : Nat → ByteArray → List (S85) → Int → Int → Option (ByteArray × Bool)
 | 0,_,_,_,_ => none
 | k + 1,x4,x22,x23,x24 => if x24 < x23 then (if 0 ≤ x24 then (if x24 < (x22.length : Int) then ((impl_short.f k ((rd_T85 x22 x24).f0)).bind fun t295 => ((impl_flag.f ((rd_T85 x22 x24).f2)).bind fun t296 => (if t295.size + t296.size ≤ 9223372036854775807 then ((impl_short.f k ((rd_T85 x22 x24).f1)).bind fun t297 => (if (t295 ++ t296).size + t297.size ≤ 9223372036854775807 then (if x4.size + ((t295 ++ t296) ++ t297).size ≤ 9223372036854775807 then (impl_BatchText.l0 k (x4 ++ ((t295 ++ t296) ++ t297)) x22 x23 (wrap64 (x24 + 1))) else (none)) else (none))) else (none)))) else (none)) else (none)) else (some (x4,true))
def impl_BatchText.f (k : Nat) (a0_0 : Int) (l0_1 : List (S85)) : Option (ByteArray × Bool) := (impl_BatchOk.f k a0_0 l0_1).bind fun t287 => (if t287 = true then ((impl_vars.f k (([a0_0, (l0_1.length : Int)] : List Int))).bind fun bt291 => (impl_BatchText.l0 k bt291.1 l0_1 (l0_1.length : Int) 0)) else (some ((⟨#[]⟩ : ByteArray), false)))
theorem impl_BatchText.mono_l : ∀ k, (∀ y0 y1 y2 y3, LeO (impl_BatchText.l0 k y0 y1 y2 y3) (impl_BatchText.l0 (k + 1) y0 y1 y2 y3))
 | 0 => fun _ _ _ _ r h => by simp [impl_BatchText.l0] at h
 | k + 1 => by
  have ih0:=impl_BatchText.mono_l k
  ·intro y0 y1 y2 y3
   unfold impl_BatchText.l0
   repeat' first
   | (with_reducible exact ih0 _ _ _ _)
   | (with_reducible exact impl_BatchOk.mono _ _ _)
   | (with_reducible exact impl_short.mono _ _)
   | (with_reducible exact impl_vars.mono _ _)
   | (with_reducible exact LeO.refl _)
   | (with_reducible exact LeO.none _)
   | (with_reducible refine LeO.ite ?_ ?_)
   | (with_reducible refine LeO.bind ?_ (fun _ => ?_))
theorem impl_BatchText.mono : ∀ a0 a1 k, LeO (impl_BatchText.f k a0 a1) (impl_BatchText.f (k + 1) a0 a1) := by
 intro a0 a1 k;have ih0:=impl_BatchText.mono_l k
 unfold impl_BatchText.f
 repeat' first
   | (with_reducible exact ih0 _ _ _ _)
   | (with_reducible exact impl_BatchOk.mono _ _ _)
   | (with_reducible exact impl_short.mono _ _)
   | (with_reducible exact impl_vars.mono _ _)
   | (with_reducible exact LeO.refl _)
   | (with_reducible exact LeO.none _)
   | (with_reducible refine LeO.ite ?_ ?_)
   | (with_reducible refine LeO.bind ?_ (fun _ => ?_))
def impl_BatchText.T7 : Bool × List (List Nat × List Nat) := (true, [([], []), ([], []), ([1], [1]), ([2], [2]), ([], []), ([4], [4]), ([5, 3], [5]), ([3, 6], [3, 6]), ([], []), ([8], [8]), ([9, 6], [9]), ([7, 10], [7, 10]), ([0, 11], [0, 11]), ([12, 10, 0, 1, 2, 3, 4, 5, 6, 7, 8, 9, 10, 11, 12], [0, 12])])
def impl_BatchText.B7 : List Nat := [0, 0, 2, 6, 0, 16, 62, 126, 0, 256, 894, 2046, 4095, 8191]
theorem impl_BatchText.tab7 : rtab .any (opsOf Try.f129 7) = impl_BatchText.T7 := by kernel_rfl
theorem impl_BatchText.bits7 : waitsOk impl_BatchText.T7.2 impl_BatchText.B7 = true := by kernel_rfl
set_option maxHeartbeats 8000000 in
set_option maxRecDepth 100000 in
theorem impl_BatchText.calls (k : Nat) (a0_0 : Int) (A0_1 : Option Addr) (c0_1 : Nat) (l0_1 : List (S85)) (r1 : ByteArray) (r2 : Bool) (w : World) (hr0_1 : Kd.C k85 w A0_1 l0_1.length l0_1) (hc0_1 : l0_1.length ≤ c0_1) (h : impl_BatchText.f k a0_0 l0_1 = some (r1, r2)) :
  Calls Try.prog 129 #[.agg #[.int .i64 a0_0,.slice A0_1 l0_1.length c0_1]] w fun e w' => e = .returned (.tuple #[.string r1,.bool r2]) ∧ Below w.heap.size w w':=by
 have hu79:=Try.underlying79;have hu85:=Try.underlying85;have HR0_1:=A_ hr0_1;have HC0_1:=A_ hc0_1;clear hr0_1 hc0_1;have HB:=A_ (Below.refl w.heap.size w);unfold impl_BatchText.f at h;have H:=h;clear h;replace H:=ob_.mp H;obtain ⟨t287,A20,H⟩:=H;(try dsimp only at H);have A2:=A_ A20;clear A20
 by_cases c3 : t287 = true
 ·subst c3
  rw [if_pos rfl] at H;obtain ⟨y288,hy288⟩ : ∃ y_ : List Int,y_ = (([a0_0,(l0_1.length : Int)] : List Int)):=⟨_,rfl⟩
  replace H : ((impl_vars.f k y288).bind fun bt291 => (impl_BatchText.l0 k bt291.1 l0_1 (l0_1.length : Int) 0)) = some (r1,r2):=by first|(rw [hy288];with_reducible exact H)|(have H2_:=(Option.bind_some _ _).symm.trans H;rw [hy288];with_reducible exact H2_)|(have H2_:=(Option.bind_some _ _).symm.trans H;with_reducible exact H2_)|with_reducible exact H|(rw [hy288];exact H)|exact H
  have Ny288:=A_ hy288;clear hy288;replace H:=ob_.mp H;obtain ⟨⟨t291,t292⟩,A40,H⟩:=H;(try dsimp only at H);have A4:=A_ A40;clear A40;have H':=A_ H;clear H;go_enter Try.func129,Try.ntmps129
  go_wp2_with (first|((with_reducible refine gate_dst (N:=1) rfl ?_);refine bE_ 1 #[.int .i64 a0_0,.slice A0_1 l0_1.length c0_1] 79 ?_;intro gb286 hg w5 hbox hb;have BK286:=A_ (hbox);have GW286:=gE_ hg HB;have GE286:=gE_ hg HB;replace HB:=bS_ HB hb;clear hb hbox hg;obtain ⟨hcz6_0,hcz6_1,hfz6_0,hfz6_1⟩:=k2f_ BK286)|((with_reducible refine gate_callee (f:=136) rfl ?_);refine gL_ (some 9) Try.func136 #[.agg #[.int .i64 a0_0,.slice A0_1 l0_1.length c0_1]] ?_;(with_reducible refine (impl_BatchOk.calls k a0_0 _ _ l0_1 true _ ?side1 ?side2 A2.out).mono ?_);(case side1 => repeat (first|exact (Kd.C_below HR0_1.out HB.out)|(with_reducible refine Kd.C_alloc ?_ _)|(with_reducible refine Kd.C_drewN ?_ _)|(with_reducible refine Kd.C_drew ?_)));(case side2 => exact HC0_1.out);rintro e w7 ⟨rfl,hb⟩;refine ⟨_,rfl,?_⟩;replace BK286:=kB_ BK286 hb;replace HB:=bS_ HB hb;(try clear hb);obtain ⟨hcz8_0,hcz8_1,hfz8_0,hfz8_1⟩:=k2f_ BK286)|((with_reducible refine gate_dst (N:=17) rfl ?_);refine rX_ (d:=(Kd.int .i64)) (e:=3) (xs:=([a0_0,(l0_1.length : Int)] : List Int)) (inner:=[.int .i64 a0_0,.int .i64 (l0_1.length : Int)]) (ok:=fun _ => True) (okp:=fun _ => True) 17 (Reps.one (show Kd.M (Kd.int .i64) _ _ _ a0_0 [.int .i64 a0_0] from rfl) (Reps.one (show Kd.M (Kd.int .i64) _ _ _ (l0_1.length : Int) [.int .i64 (l0_1.length : Int)] from rfl) (Reps.none _ _))) ?_;intro v289 w9 ho10 hb hg_ hnew_;clear hg_ hnew_;(first|rw [← Ny288.out] at ho10|(simp only [Int.reduceToNat] at ho10;rw [← Ny288.out] at ho10));have HO290:=A_ (rw_ ho10 (bz_ (bq_ HB)));replace BK286:=kB_ BK286 hb;replace HB:=bS_ HB hb;clear hb ho10;obtain ⟨Ao11,co11,eo11⟩:=Kd.R_slice HO290.out;subst eo11)|((with_reducible refine gate_callee (f:=76) rfl ?_);refine gL_ (some 18) Try.func76 #[.slice Ao11 y288.length co11] ?_;(with_reducible refine (impl_vars.calls k _ _ y288 t291 t292 _ ?side1 ?side2 A4.out).mono ?_);(case side1 => repeat (first|exact (Kd.R_reads' HO290.out).2.2|(with_reducible refine Kd.C_alloc ?_ _)|(with_reducible refine Kd.C_drewN ?_ _)|(with_reducible refine Kd.C_drew ?_)));(case side2 => exact (Kd.R_reads' HO290.out).2.1);rintro e w12 ⟨rfl,hb⟩;refine ⟨_,rfl,?_⟩;replace HO290:=rB_ HO290 hb;replace BK286:=kB_ BK286 hb;replace HB:=bS_ HB hb;(try clear hb);obtain ⟨hcz13_0,hcz13_1,hfz13_0,hfz13_1⟩:=k2f_ BK286))
  go_loopg [4,24] k (fun kq v4 v24 w' => ∃ (x4_1 : ByteArray) (x24_1 : Int),v4 = .string x4_1 ∧ v24 = .int .i64 x24_1 ∧ Aside0 (impl_BatchText.l0 kq x4_1 l0_1 (l0_1.length : Int) x24_1 = some (r1,r2)) ∧ Aside0 (kq ≤ k) ∧ Aside0 (w'.heap[gb286]? = some (.cells #[.int .i64 a0_0,(.slice A0_1 l0_1.length c0_1)] 79 (0,0))) ∧ Aside0 (Below w.heap.size w w'))
  case atStart => exact ⟨(t291),(0),(by first|rfl|(simp;done)|(simp [*];done)),(by first|rfl|(simp;done)|(simp [*];done)),H',⟨Nat.le_refl _⟩,⟨kq_ BK286⟩,⟨bq_ HB⟩⟩
  case round =>
   clear H'
   try clear c1
   try clear p2
   try clear c3
   try clear c7
   try clear c12
   try clear c13
   try clear hcz13_0
   try clear hcz13_1
   try clear hcz6_0
   try clear hcz6_1
   try clear hcz8_0
   try clear hcz8_1
   try clear hfz13_0
   try clear hfz13_1
   try clear hfz6_0
   try clear hfz6_1
   try clear hfz8_0
   try clear hfz8_1
   obtain ⟨x4_1,x24_1,rfl,rfl,HA,HK1,BK286,HB⟩:=hrel
   cases gk with
   | zero => exact absurd HA.out (by simp [impl_BatchText.l0])
   | succ k1 =>
    have H:=HA.out;clear HA;simp only [impl_BatchText.l0] at H
    by_cases c14 : x24_1 < (l0_1.length : Int)
    ·rw [if_pos c14] at H;have c14b0 : decide (x24_1 < (l0_1.length : Int)) = true:=de_ c14;clear c14
     by_cases c15 : 0 ≤ x24_1
     ·rw [if_pos c15] at H;have c15b0 : decide (0 ≤ x24_1) = true:=de_ c15;clear c15
      by_cases c16 : x24_1 < (l0_1.length : Int)
      ·rw [if_pos c16] at H;have c16b0 : decide (x24_1 < (l0_1.length : Int)) = true:=de_ c16;clear c16;replace H:=ob_.mp H;obtain ⟨t295,A170,H⟩:=H;(try dsimp only at H);have A17:=A_ A170;clear A170;replace H:=ob_.mp H;obtain ⟨t296,A180,H⟩:=H;(try dsimp only at H);have A18:=A_ A180;clear A180
       by_cases c19 : t295.size + t296.size ≤ 9223372036854775807
       ·rw [if_pos c19] at H;have c19b0:=eq_true c19;have c19b1 : decide (t295.size + t296.size ≤ 9223372036854775807) = true:=de_ c19
        try have c19b2 : (9223372036854775807 < t295.size + t296.size) = False:=eq_false (Nat.not_lt.2 c19)
        replace H:=ob_.mp H;obtain ⟨t297,A200,H⟩:=H;(try dsimp only at H);have A20:=A_ A200;clear A200
        by_cases c21 : (t295 ++ t296).size + t297.size ≤ 9223372036854775807
        ·rw [if_pos c21] at H;have c21b0:=eq_true c21;have c21b1 : decide ((t295 ++ t296).size + t297.size ≤ 9223372036854775807) = true:=de_ c21
         try have c21b2 : (9223372036854775807 < (t295 ++ t296).size + t297.size) = False:=eq_false (Nat.not_lt.2 c21)
         try have c21b3 : (9223372036854775807 < t295.size + t296.size + t297.size) = False:=eq_false (by have h_:=c21;simp only [ByteArray.size_append,show ∀ x_ : UInt8,(⟨#[x_]⟩ : ByteArray).size = 1 from fun _ => rfl] at h_;omega)
         by_cases c22 : x4_1.size + ((t295 ++ t296) ++ t297).size ≤ 9223372036854775807
         ·rw [if_pos c22] at H;have c22b0:=eq_true c22;have c22b1 : decide (x4_1.size + ((t295 ++ t296) ++ t297).size ≤ 9223372036854775807) = true:=de_ c22
          try have c22b2 : (9223372036854775807 < x4_1.size + ((t295 ++ t296) ++ t297).size) = False:=eq_false (Nat.not_lt.2 c22)
          try have c22b4 : (9223372036854775807 < x4_1.size + (t295.size + t296.size + t297.size)) = False:=eq_false (by have h_:=c22;simp only [ByteArray.size_append] at h_;omega)
          try have c22b3 : (9223372036854775807 < x4_1.size + t295.size + t296.size + t297.size) = False:=eq_false (by have h_:=c22;simp only [ByteArray.size_append,show ∀ x_ : UInt8,(⟨#[x_]⟩ : ByteArray).size = 1 from fun _ => rfl] at h_;omega)
          have H':=A_ H;clear H;have p293 : 0 ≤ (x24_1 : Int):=oda_;have q293 : x24_1 < (l0_1.length : Int):=oda_;obtain ⟨ad293,e293,hx293_0,hx293_1,hx293_2⟩:=at_T85 HR0_1.out x24_1 p293 q293
          cases e293
          replace hx293_0:=(HB.out.cell (wb_ w _ hx293_0)).trans hx293_0;replace hx293_1:=(HB.out.cell (wb_ w _ hx293_1)).trans hx293_1;replace hx293_2:=(HB.out.cell (wb_ w _ hx293_2)).trans hx293_2;replace p293:=eq_true p293;replace q293:=eq_true q293
          try go_wp2_with (first|((with_reducible refine gate_dst (N:=7) rfl ?_);refine bE_ 7 #[.string (⟨#[]⟩ : ByteArray),.string (⟨#[]⟩ : ByteArray),.bool false] 85 ?_;intro gb294 hg w23 hbox hb;have BK294:=A_ (hbox);have GW294:=gE_ hg HB;have GE294:=gE_ hg HB;replace HB:=bS_ HB hb;have NB286_294:=nB_ hg BK286;have NB294_286:=nC_ hg BK286;replace BK286:=kB_ BK286 hb;clear hb hbox hg;have hnb24:=NB294_286.out;have hnc24:=NB286_294.out;obtain ⟨hcz25_0,hcz25_1,hcz25_2,hfz25_0,hfz25_1,hfz25_2⟩:=k3f_ BK294))
          have n0_ : Aside0 ((((w23.setCell ⟨gb294,0,none⟩ (.string ((rd_T85 l0_1 x24_1).f0))).setCell ⟨gb294,1,none⟩ (.string ((rd_T85 l0_1 x24_1).f1))).setCell ⟨gb294,2,none⟩ (.bool ((rd_T85 l0_1 x24_1).f2))).heap[gb286]? = some (.cells #[.int .i64 a0_0,.slice (some ad293) l0_1.length c0_1] 79 (0,0))):=⟨kz_ BK286⟩;have n1_ : Aside0 ((((w23.setCell ⟨gb294,0,none⟩ (.string ((rd_T85 l0_1 x24_1).f0))).setCell ⟨gb294,1,none⟩ (.string ((rd_T85 l0_1 x24_1).f1))).setCell ⟨gb294,2,none⟩ (.bool ((rd_T85 l0_1 x24_1).f2))).heap[gb294]? = some (.cells #[.string ((rd_T85 l0_1 x24_1).f0),.string ((rd_T85 l0_1 x24_1).f1),.bool ((rd_T85 l0_1 x24_1).f2)] 85 (0,0))):=⟨kz_ BK294⟩;have n2_ : Aside0 (Below w.heap.size w (((w23.setCell ⟨gb294,0,none⟩ (.string ((rd_T85 l0_1 x24_1).f0))).setCell ⟨gb294,1,none⟩ (.string ((rd_T85 l0_1 x24_1).f1))).setCell ⟨gb294,2,none⟩ (.bool ((rd_T85 l0_1 x24_1).f2)))):=⟨bq_ HB⟩
          (try clear BK286)
          (try clear BK294)
          (try clear HB)
          generalize (((w23.setCell ⟨gb294,0,none⟩ (.string ((rd_T85 l0_1 x24_1).f0))).setCell ⟨gb294,1,none⟩ (.string ((rd_T85 l0_1 x24_1).f1))).setCell ⟨gb294,2,none⟩ (.bool ((rd_T85 l0_1 x24_1).f2))) = w26 at n0_ n1_ n2_ ⊢;have BK286:=n0_;have BK294:=n1_;have HB:=n2_;clear n0_ n1_ n2_;replace BK286:=A_ (kd_ BK286.out);replace BK294:=A_ (kd_ BK294.out);replace HB:=A_ (pd_ HB.out);refine start_ (n:=14) (S:=fun w' => w'.cell? ⟨gb294,0,none⟩ = some (.string ((rd_T85 l0_1 x24_1).f0)) ∧ w'.cell? ⟨gb294,1,none⟩ = some (.string ((rd_T85 l0_1 x24_1).f1)) ∧ w'.cell? ⟨gb294,2,none⟩ = some (.bool ((rd_T85 l0_1 x24_1).f2))) (ds:=[]) #[false,false,false,false,false,false,false,false,false,false,false,false,false,false] (by kernel_rfl) rfl rfl ⟨kC_ BK294 0,kC_ BK294 1,kC_ BK294 2⟩ (fun hHeld => ?_);refine with_tabW impl_BatchText.tab7 impl_BatchText.bits7 (fun HT_ HW_ => ?_);generalize w26.drew = w27 at BK286 BK294 HB hHeld ⊢;refine pU_ 0 (some 28) ?_
          refine pU_ 1 (some 29) ?_
          refine pU_ 4 (some 32) ?_
          refine pU_ 8 (some 36) ?_
          refine tK_ 2 (some 30) hHeld ?_
          refine tK_ 5 (some 33) hHeld ?_
          refine tK_ 9 (some 37) hHeld ?_
          refine oN_ 3 (some 31) (fun K hK => ?_);refine gs_ Try.func106 #[.string ((rd_T85 l0_1 x24_1).f0)] ?_;with_reducible refine (impl_short.calls k1 ((rd_T85 l0_1 x24_1).f0) t295 _ A17.out).mono ?_;rintro e w28 ⟨rfl,hb⟩;refine ⟨_,rfl,?_⟩;replace BK286:=kB_ BK286 hb;replace BK294:=kB_ BK294 hb;replace HB:=bS_ HB hb
          (try clear hb)
          refine hK.out _ _ ⟨kC_ BK294 0,kC_ BK294 1,kC_ BK294 2⟩ (fun hHeld => ?_);clear hK K;refine nX_ (some 31) ?_
          refine oN_ 6 (some 34) (fun K hK => ?_);refine gs_ Try.func78 #[.bool ((rd_T85 l0_1 x24_1).f2)] ?_;with_reducible refine (impl_flag.calls ((rd_T85 l0_1 x24_1).f2) t296 _ A18.out).mono ?_;rintro e w' ⟨rfl,⟨nd,rfl⟩⟩;refine ⟨_,rfl,?_⟩;have BK294d_:=A_ (kn_ BK294.out nd);have HBd_:=A_ (pn_ HB.out nd);refine hK.out _ _ ⟨kC_ BK294d_ 0,kC_ BK294d_ 1,kC_ BK294d_ 2⟩ (fun hHeld => ?_);clear hK K;refine nX_ (some 34) ?_
          refine pU_ 7 (some 35) ?_
          refine oN_ 10 (some 38) (fun K hK => ?_);refine gs_ Try.func106 #[.string ((rd_T85 l0_1 x24_1).f1)] ?_;with_reducible refine (impl_short.calls k1 ((rd_T85 l0_1 x24_1).f1) t297 _ A20.out).mono ?_;rintro e w29 ⟨rfl,hb⟩;refine ⟨_,rfl,?_⟩;replace BK286:=kB_ BK286 hb;replace BK294:=kB_ BK294 hb;replace HB:=bS_ HB hb
          (try clear hb)
          refine hK.out _ _ ⟨kC_ BK294 0,kC_ BK294 1,kC_ BK294 2⟩ (fun hHeld => ?_);clear hK K;refine nX_ (some 38) ?_
          refine pU_ 11 (some 39) ?_
          refine pU_ 12 (some 40) ?_
          refine pU_ 13 (some 4) ?_
          refine done_ (done_of HT_.out (by kernel_rfl)) ?_
          try go_wp2
          go_roundg k1
          case measure => have:=HK1.out;omega
          case rel => exact ⟨(x4_1 ++ ((t295 ++ t296) ++ t297)),(wrap64 (x24_1 + 1)),(by first|rfl|(simp;done)|(simp [*];done)),(by first|rfl|(simp;done)|(simp [*];done)),H',⟨by have:=HK1.out;omega⟩,⟨kq_ BK286⟩,⟨bq_ HB⟩⟩
         ·rw [if_neg c22] at H;exact absurd H (by simp)
        ·rw [if_neg c21] at H;exact absurd H (by simp)
       ·rw [if_neg c19] at H;exact absurd H (by simp)
      ·rw [if_neg c16] at H;exact absurd H (by simp)
     ·rw [if_neg c15] at H;exact absurd H (by simp)
    ·rw [if_neg c14] at H;have c14b0 : decide (x24_1 < (l0_1.length : Int)) = false:=decide_eq_false c14;clear c14;simp only [Option.some.injEq,Prod.mk.injEq] at H;obtain ⟨rfl,rfl⟩:=H;go_wp2;go_ret2;exact ⟨ex_,bq_ HB⟩
 ·replace c3:=Bool.eq_false_iff.mpr c3;subst c3
  have H1 : (some ((⟨#[]⟩ : ByteArray),false)) = some (r1,r2):=by rw [if_neg (show ¬ (false = true) by decide)] at H;exact H
  clear H;have H:=H1;clear H1;simp only [Option.some.injEq,Prod.mk.injEq] at H;obtain ⟨rfl,rfl⟩:=H;go_enter Try.func129,Try.ntmps129
  go_wp2_with (first|((with_reducible refine gate_dst (N:=1) rfl ?_);refine bE_ 1 #[.int .i64 a0_0,.slice A0_1 l0_1.length c0_1] 79 ?_;intro gb286 hg w30 hbox hb;have BK286:=A_ (hbox);have GW286:=gE_ hg HB;have GE286:=gE_ hg HB;replace HB:=bS_ HB hb;clear hb hbox hg;obtain ⟨hcz31_0,hcz31_1,hfz31_0,hfz31_1⟩:=k2f_ BK286)|((with_reducible refine gate_callee (f:=136) rfl ?_);refine gL_ (some 9) Try.func136 #[.agg #[.int .i64 a0_0,.slice A0_1 l0_1.length c0_1]] ?_;(with_reducible refine (impl_BatchOk.calls k a0_0 _ _ l0_1 false _ ?side1 ?side2 A2.out).mono ?_);(case side1 => repeat (first|exact (Kd.C_below HR0_1.out HB.out)|(with_reducible refine Kd.C_alloc ?_ _)|(with_reducible refine Kd.C_drewN ?_ _)|(with_reducible refine Kd.C_drew ?_)));(case side2 => exact HC0_1.out);rintro e w32 ⟨rfl,hb⟩;refine ⟨_,rfl,?_⟩;replace BK286:=kB_ BK286 hb;replace HB:=bS_ HB hb;(try clear hb)))
  go_ret2;exact ⟨ex_,bq_ HB⟩
def Ag (W W1 : World) (g c : Nat) : Prop := W.heap.size ≤ W1.heap.size ∧ ∀ i, i < W.heap.size → i ≠ g → i ≠ c → W1.heap[i]? = W.heap[i]?
theorem Ag.refl (W : World) (g c : Nat) : Ag W W g c := ⟨Nat.le_refl _, fun _ _ _ _ => rfl⟩
theorem Ag.keep {W W1 W2 : World} {g c : Nat} (h : Ag W W1 g c) (k : KeepBut W1 W2 g none) : Ag W W2 g c := ⟨Nat.le_trans h.1 k.1, fun i hi hg hc => (k.2 i (Nat.lt_of_lt_of_le hi h.1) hg (by simp)).trans (h.2 i hi hg hc)⟩
theorem Ag.below {W W1 W2 : World} {g c : Nat} (h : Ag W W1 g c) (k : Below W1.heap.size W1 W2) : Ag W W2 g c := ⟨Nat.le_trans h.1 k.size, fun i hi hg hc => (k.block i (Nat.lt_of_lt_of_le hi h.1)).trans (h.2 i hi hg hc)⟩
theorem Ag.set {W W1 : World} {g c : Nat} (h : Ag W W1 g c) (j : Nat) (u : Value) : Ag W (W1.setCell ⟨c, j, none⟩ u) g c := ⟨by simpa [World.setCell] using h.1, fun i hi hg hc => (Below.heap_setCell W1 ⟨c, j, none⟩ u i hc).trans (h.2 i hi hg hc)⟩
theorem Ag.setg {W W1 : World} {g c : Nat} (h : Ag W W1 g c) (j : Nat) (u : Value) : Ag W (W1.setCell ⟨g, j, none⟩ u) g c := ⟨by simpa [World.setCell] using h.1, fun i hi hg hc => (Below.heap_setCell W1 ⟨g, j, none⟩ u i hg).trans (h.2 i hi hg hc)⟩
theorem Ag.drew {W W1 : World} {g c : Nat} (h : Ag W W1 g c) : Ag W W1.drew g c := h
structure HeldF {α : Type} (K : Kd α) (e T1 T2 : Nat) (cs : Value → Array Value) (w0 W : World) (g p o c : Nat) (v : Value) (out : List α) : Prop where
 P : W.heap[p]? = some (.cells #[.pointer (some ⟨g,0,none⟩)] T1 (0,0))
 O : W.heap[o]? = some (.cells (cs v) T2 (0,0))
 R : Kd.R K e W w0.heap.size (fun k => k ≠ g ∧ k ≠ c ∧ k ≠ p ∧ k ≠ o) v out
 lp : w0.heap.size ≤ p
 lo : w0.heap.size ≤ o
 pg : p ≠ g
 og : o ≠ g
 op : o ≠ p
 pc : p ≠ c
 oc : o ≠ c
theorem HeldF.move {α : Type} {K : Kd α} {e T1 T2 : Nat} {cs : Value → Array Value} {w0 W W1 : World} {g p o c : Nat} {v : Value} {out : List α} (h : HeldF K e T1 T2 cs w0 W g p o c v out) (k : Ag W W1 g c) : HeldF K e T1 T2 cs w0 W1 g p o c v out :=
 ⟨(k.2 p (kl_ h.P) h.pg h.pc).trans h.P,(k.2 o (kl_ h.O) h.og h.oc).trans h.O,Kd.R_step h.R (fun i hi hlt => k.2 i hlt hi.1 hi.2.1),h.lp,h.lo,h.pg,h.og,h.op,h.pc,h.oc⟩
theorem HeldF.fresh {α : Type} {K : Kd α} {e T1 T2 : Nat} {cs : Value → Array Value} {w0 W : World} {g p o c c' : Nat} {v : Value} {out : List α} (h : HeldF K e T1 T2 cs w0 W g p o c v out) (hc : c' = W.heap.size) : HeldF K e T1 T2 cs w0 W g p o c' v out :=
 ⟨h.P,h.O,rm_ (Kd.R_bound h.R) (fun k hk => ⟨hk.1.1,by have:=hk.2.2.1;omega,hk.1.2.2.1,hk.1.2.2.2⟩),h.lp,h.lo,h.pg,h.og,h.op,by have:=kl_ h.P;omega,by have:=kl_ h.O;omega⟩
theorem HeldF.at_p {α : Type} {K : Kd α} {e T1 T2 : Nat} {cs : Value → Array Value} {w0 W : World} {g p o c : Nat} {v : Value} {out : List α} (h : HeldF K e T1 T2 cs w0 W g p o c v out) : W.cell? ⟨p, 0, none⟩ = some (.pointer (some ⟨g, 0, none⟩)) := (blk_cell h.P 0).trans rfl
abbrev bcs (c0 : Int) (v1 : Value) : Array Value := #[.int .i64 c0, v1]
theorem dec_keep {W W1 : World} {g o : Nat} {obj : Obj} (hk : KeepBut W W1 g none) (h : W.heap[o]? = some obj ∧ o ≠ g) : W1.heap[o]? = some obj := (hk.2 o (blk_lt h.1) h.2 (by simp)).trans h.1
theorem dec_cell {W : World} {p : Nat} {v : Value} {T : Nat} (h : W.heap[p]? = some (.cells #[v] T (0, 0))) : W.cell? ⟨p, 0, none⟩ = some v := (blk_cell h 0).trans rfl
def impl_ReadBatch.one (k : Nat) (s : ByteArray) (a : Int) (b : Bool) (out : List S85) : Option (ByteArray × Int × Bool × List S85) :=
 (impl_reader_text.f k s a b).bind fun t => (impl_reader_byte.f t.2.1 t.2.2.1 t.2.2.2).bind fun y => (impl_reader_text.f k y.2.1 y.2.2.1 y.2.2.2).bind fun u => if out.length < 2199023255552 then some (u.2.1,u.2.2.1,u.2.2.2,out ++ [(⟨t.1,u.1,(y.1 == 1)⟩ : S85)]) else none
set_option maxHeartbeats 4000000 in
set_option maxRecDepth 100000 in
theorem impl_ReadBatch.one_calls (k g p o : Nat) (s : ByteArray) (a : Int) (b : Bool) (c0 : Int) (v : Value) (out : List S85) (s' : ByteArray) (a' : Int) (b' : Bool) (out' : List S85) (w0 w : World)
  (hI : IsS106 w0 w g s a b) (hB : Below w0.heap.size w0 w) (hV : HeldF k85 85 104 79 (fun v_ => bcs c0 v_) w0 w g p o g v out) (h : impl_ReadBatch.one k s a b out = some (s',a',b',out')) :
  Calls Try.prog 128 #[.pointer (some ⟨p,0,none⟩),.pointer (some ⟨o,0,none⟩)] w fun e w' => e = .returned (.tuple #[]) ∧ ∃ v',IsS106 w0 w' g s' a' b' ∧ Below w0.heap.size w0 w' ∧ HeldF k85 85 104 79 (fun v_ => bcs c0 v_) w0 w' g p o g v' out':=by
 have hu85:=Try.underlying85;have hu106:=Try.underlying106;have hu79:=Try.underlying79
 unfold impl_ReadBatch.one at h
 obtain ⟨⟨t,s1,a1,b1⟩,A1,h1⟩:=ob_.mp h;dsimp only at h1;clear h;obtain ⟨⟨y,s2,a2,b2⟩,A2,h2⟩:=ob_.mp h1;dsimp only at h2;clear h1;obtain ⟨⟨u,s3,a3,b3⟩,A3,h3⟩:=ob_.mp h2;dsimp only at h3;clear h2
 by_cases hl : out.length < 2199023255552
 case neg => rw [if_neg hl] at h3;cases h3
 rw [if_pos hl] at h3;simp only [Option.some.injEq,Prod.mk.injEq] at h3;obtain ⟨rfl,rfl,rfl,rfl⟩:=h3;have HL:=A_ hl;have HI:=A_ hI;have HB:=A_ hB;have HV:=A_ hV;have HA1:=A_ A1;have HA2:=A_ A2;have HA3:=A_ A3;clear hl A1 A2 A3 hI hB hV;have hcp:=HV.out.at_p;go_enter Try.func128,Try.ntmps128
 go_upto_region 1 with (first|((with_reducible refine gate_callee (f:=69) rfl ?_);refine goesL_ (some 4) rfl rfl Try.func69 (by kernel_rfl) rfl #[.pointer (some ⟨g,0,none⟩)] rfl (by (try simp only [s4_,s5_,s6_]);first|done|rfl) ?_;(with_reducible refine (impl_reader_text.calls k g s a b t s1 a1 b1 w0 _ HI.out HB.out HA1.out).mono ?_);rintro e w4_ ⟨rfl,hi,hb,hk⟩;refine ⟨_,rfl,?_⟩;clear hcp;replace HV:=A_ (HV.out.move ((Ag.refl _ _ _).keep hk));replace HI:=A_ hi;replace HB:=A_ hb;clear hi hb hk)|((with_reducible refine gate_dst (N:=2) rfl ?_);refine bE_ 2 #[(.string (⟨#[]⟩ : ByteArray)),(.string (⟨#[]⟩ : ByteArray)),.bool false] 85 ?_;intro c hq_ w3 hbox hb;replace HV:=A_ ((HV.out.fresh hq_).move ((Ag.refl _ _ _).below hb));have HGC:=A_ (show g ≠ c from by have:=IsS106.lt HI.out;omega);have HLC:=A_ (show w0.heap.size ≤ c from by have:=HB.out.size;omega);replace HI:=A_ (IsS106.below HI.out hb);replace HB:=A_ (bs_ HB.out hb);have HC:=A_ hbox;have hcz_0:=(kc_ HC.out 0).trans rfl;have hcz_1:=(kc_ HC.out 1).trans rfl;have hcz_2:=(kc_ HC.out 2).trans rfl;have hfz_0:=kf_ HC.out 0;have hfz_1:=kf_ HC.out 1;have hfz_2:=kf_ HC.out 2;clear hb hbox hq_))
 generalize hwq : World.setCell _ _ _ = wa
 have hI_ : IsS106 w0 wa g s1 a1 b1:=by rw [← hwq];with_reducible repeat (first|exact HI.out|refine IsS106.far ?_ HGC.out _)
 have hV_ : HeldF k85 85 104 79 (fun v_ => bcs c0 v_) w0 wa g p o c v out:=by rw [← hwq];exact HV.out.move ((((Ag.refl _ _ _).set 0 _).set 1 _).set 2 _)
 have hC_ : wa.heap[c]? = some (.cells #[.string t,(.string (⟨#[]⟩ : ByteArray)),.bool false] 85 (0,0)):=by rw [← hwq];refine ku_ (cs:=#[.string t,(.string (⟨#[]⟩ : ByteArray)),.bool false]) ?_ 2 _ (by rfl);refine ku_ (cs:=#[.string t,(.string (⟨#[]⟩ : ByteArray)),.bool false]) ?_ 1 _ (by rfl);refine ku_ (cs:=#[(.string (⟨#[]⟩ : ByteArray)),(.string (⟨#[]⟩ : ByteArray)),.bool false]) ?_ 0 _ (by rfl);exact HC.out
 have hB_ : Below w0.heap.size w0 wa:=by rw [← hwq];with_reducible repeat (first|exact HB.out|refine ps_ ?_ HLC.out)
 clear hwq HI HV HC HB
 try clear hcz_0 hcz_1 hcz_2 hfz_0 hfz_1 hfz_2
 try clear hcz_1 hfz_1
 try clear hcz_2 hfz_2
 have HI:=A_ hI_;have HV:=A_ hV_;have HC:=A_ hC_;have HB:=A_ hB_;clear hI_ hV_ hC_ hB_;have hcp:=HV.out.at_p
 go_upto_region 2 with (first|((with_reducible refine gate_callee (f:=65) rfl ?_);refine goesL_ (some 7) rfl rfl Try.func65 (by kernel_rfl) rfl #[.pointer (some ⟨g,0,none⟩)] rfl (by (try simp only [s4_,s5_,s6_]);first|done|rfl) ?_;(with_reducible refine (impl_reader_byte.calls g s1 a1 b1 y s2 a2 b2 w0 _ HI.out HB.out HA2.out).mono ?_);rintro e w7_ ⟨rfl,hi,hb,hk⟩;refine ⟨_,rfl,?_⟩;clear hcp;replace HC:=A_ (dec_keep hk ⟨HC.out,HGC.out.symm⟩);replace HV:=A_ (HV.out.move ((Ag.refl _ _ _).keep hk));replace HI:=A_ hi;replace HB:=A_ hb;have hcz_2:=(kc_ HC.out 2).trans rfl;have hfz_2:=kf_ HC.out 2;clear hi hb hk))
 generalize hwq : World.setCell _ _ _ = wb
 have hI_ : IsS106 w0 wb g s2 a2 b2:=by rw [← hwq];with_reducible repeat (first|exact HI.out|refine IsS106.far ?_ HGC.out _)
 have hV_ : HeldF k85 85 104 79 (fun v_ => bcs c0 v_) w0 wb g p o c v out:=by rw [← hwq];exact HV.out.move ((Ag.refl _ _ _).set 2 _)
 have hC_ : wb.heap[c]? = some (.cells #[.string t,(.string (⟨#[]⟩ : ByteArray)),.bool (y == 1)] 85 (0,0)):=by rw [← hwq];exact ku_ HC.out 2 _ rfl
 have hB_ : Below w0.heap.size w0 wb:=by rw [← hwq];with_reducible repeat (first|exact HB.out|refine ps_ ?_ HLC.out)
 clear hwq HI HV HC HB
 try clear hcz_0 hcz_1 hcz_2 hfz_0 hfz_1 hfz_2
 try clear hcz_1 hfz_1
 try clear hcz_2 hfz_2
 have HI:=A_ hI_;have HV:=A_ hV_;have HC:=A_ hC_;have HB:=A_ hB_;clear hI_ hV_ hC_ hB_;have hcp:=HV.out.at_p
 go_upto_region 3 with (first|((with_reducible refine gate_callee (f:=69) rfl ?_);refine goesL_ (some 11) rfl rfl Try.func69 (by kernel_rfl) rfl #[.pointer (some ⟨g,0,none⟩)] rfl (by (try simp only [s4_,s5_,s6_]);first|done|rfl) ?_;(with_reducible refine (impl_reader_text.calls k g s2 a2 b2 u s3 a3 b3 w0 _ HI.out HB.out HA3.out).mono ?_);rintro e w11_ ⟨rfl,hi,hb,hk⟩;refine ⟨_,rfl,?_⟩;clear hcp;replace HC:=A_ (dec_keep hk ⟨HC.out,HGC.out.symm⟩);replace HV:=A_ (HV.out.move ((Ag.refl _ _ _).keep hk));replace HI:=A_ hi;replace HB:=A_ hb;have hcz_1:=(kc_ HC.out 1).trans rfl;have hfz_1:=kf_ HC.out 1;clear hi hb hk))
 generalize hwq : World.setCell _ _ _ = wc
 have hI_ : IsS106 w0 wc g s3 a3 b3:=by rw [← hwq];with_reducible repeat (first|exact HI.out|refine IsS106.far ?_ HGC.out _)
 have hV_ : HeldF k85 85 104 79 (fun v_ => bcs c0 v_) w0 wc g p o c v out:=by rw [← hwq];exact HV.out.move ((Ag.refl _ _ _).set 1 _)
 have hC_ : wc.heap[c]? = some (.cells #[.string t,.string u,.bool (y == 1)] 85 (0,0)):=by rw [← hwq];exact ku_ HC.out 1 _ rfl
 have hB_ : Below w0.heap.size w0 wc:=by rw [← hwq];with_reducible repeat (first|exact HB.out|refine ps_ ?_ HLC.out)
 clear hwq HI HV HC HB
 try clear hcz_0 hcz_1 hcz_2 hfz_0 hfz_1 hfz_2
 try clear hcz_1 hfz_1
 try clear hcz_2 hfz_2
 have HI:=A_ hI_;have HV:=A_ hV_;have HC:=A_ hC_;have HB:=A_ hB_;clear hI_ hV_ hC_ hB_;have hcp:=HV.out.at_p;clear hcp;have hcz_0 : wc.cell? ⟨c,0,none⟩ = some (.string t):=(kc_ HC.out 0).trans rfl;have hcz_1 : wc.cell? ⟨c,1,none⟩ = some (.string u):=(kc_ HC.out 1).trans rfl;have hcz_2 : wc.cell? ⟨c,2,none⟩ = some (.bool (y == 1)):=(kc_ HC.out 2).trans rfl;have hoz_1 : wc.cell? ⟨o,1,none⟩ = some v:=(kc_ HV.out.O 1).trans rfl;have hof_1:=kf_ HV.out.O 1
 go_wp2_with (((with_reducible refine gate_builtin (b:=.append) (xs:=#[.tmp 14,.tmp 16]) rfl ?_);at_builtin;refine Kd.R_append k85 (w0:=w0) w0.heap.size rfl (.tmp 14) (.tmp 16) 77 85 (.agg #[(.string ⟨#[]⟩),(.string ⟨#[]⟩),(.bool false)]) 40 rfl Try.underlying77 info85 rfl (by decide) (by omega) v out (⟨t,u,(y == 1)⟩ : S85) [.string t,.string u,.bool (y == 1)] (fun k => k ≠ g ∧ k ≠ c ∧ k ≠ p ∧ k ≠ o) (fun _ => False) rfl (by first|(go_simp;done)|(go_simp;rfl)) ?aP (fun _ hk => hk.elim) ?aF ?aO ?aB ?aS ?aL ?_;(case aP => exact k85_mkM _ _ _ (⟨t,u,(y == 1)⟩ : S85));(case aB => exact HB.out);(case aF => exact (fun k_ hk => ⟨by have:=IsS106.lt HI.out;omega,by have:=kl_ HC.out;omega,by have:=kl_ HV.out.P;omega,by have:=kl_ HV.out.O;omega⟩));(case aO => exact HV.out.R);(case aS => exact bz_ HB.out);(case aL => have:=HL.out;omega);intro v2 w27 ho hb hg hat;have HR2:=A_ ho;have HP2:=A_ (kg_ HV.out.P hg (re_ HV.out.R HV.out.P (by decide)));have HO2:=A_ (kg_ HV.out.O hg (re_ HV.out.R HV.out.O (by decide)));replace HI:=A_ (IsS106.grown HI.out hg (IsS106.own_ne HI.out HV.out.R (by decide)));replace HB:=A_ hb;have hco2 : w27.cell? ⟨o,1,none⟩ = some v:=(kc_ HO2.out 1).trans rfl;have hcf2:=kf_ HO2.out 1;clear ho hb hg hat;obtain ⟨Ao,co,eo⟩:=Kd.R_slice HR2.out;subst eo))
 have hV:=HV.out;have hr:=HR2.out;rw [show (out ++ [(⟨t,u,(y == 1)⟩ : S85)]).length = out.length + 1 from by simp] at hr
 go_end0
 refine ⟨rfl,.slice Ao (out.length + 1) co,IsS106.far HI.out hV.og.symm _,ps_ HB.out hV.lo,kr_ HP2.out hV.op.symm _,ku_ HO2.out 1 _ rfl,?_,hV.lp,hV.lo,hV.pg,hV.og,hV.op,hV.pg,hV.og⟩;exact rm_ (rf_ (p:=⟨o,1,none⟩) hr (fun k hk => hk.2.2.2) _) (fun k hk => ⟨hk.1,hk.1,hk.2.2.1,hk.2.2.2⟩)
def impl_ReadBatch.l0 : Nat → Int → Int → ByteArray → Int → Bool → List S85 → Option (ByteArray × Int × Bool × List S85)
 | 0,_,_,_,_,_,_ => none
 | k + 1,n,i,s,a,b,out => if i < n then (if b = true then some (s,a,b,out) else (impl_ReadBatch.one k s a b out).bind fun r => impl_ReadBatch.l0 k n (wrap64 (i + 1)) r.1 r.2.1 r.2.2.1 r.2.2.2) else some (s,a,b,out)
def impl_ReadBatch.each (k : Nat) (s : ByteArray) (a : Int) (b : Bool) (out : List S85) : Option (ByteArray × Int × Bool × List S85) :=
 (impl_reader_num.f k s a b).bind fun n => impl_ReadBatch.l0 k n.1 0 n.2.1 n.2.2.1 n.2.2.2 out
set_option maxHeartbeats 4000000 in
set_option maxRecDepth 100000 in
theorem impl_ReadBatch.each_calls (k g p o : Nat) (s : ByteArray) (a : Int) (b : Bool) (c0 : Int) (v : Value) (out : List S85) (s' : ByteArray) (a' : Int) (b' : Bool) (out' : List S85) (w0 w : World)
  (hI : IsS106 w0 w g s a b) (hB : Below w0.heap.size w0 w) (hV : HeldF k85 85 104 79 (fun v_ => bcs c0 v_) w0 w g p o g v out) (h : impl_ReadBatch.each k s a b out = some (s',a',b',out')) :
  Calls Try.prog 67 #[.pointer (some ⟨g,0,none⟩),.func (.func 128) #[] #[.pointer (some ⟨p,0,none⟩),.pointer (some ⟨o,0,none⟩)]] w fun e w' => e = .returned (.tuple #[]) ∧ ∃ v',IsS106 w0 w' g s' a' b' ∧ Below w0.heap.size w0 w' ∧ HeldF k85 85 104 79 (fun v_ => bcs c0 v_) w0 w' g p o g v' out':=by
 have hu106:=Try.underlying106
 unfold impl_ReadBatch.each at h
 obtain ⟨⟨n,s1,a1,b1⟩,A1,h⟩:=ob_.mp h;dsimp only at h;have HI:=A_ hI;have HB:=A_ hB;have HV:=A_ hV;have HA1:=A_ A1;have H':=A_ h;clear A1 h hI hB hV;go_enter Try.func67,Try.ntmps67
 go_wp2_with (first|((with_reducible refine gate_callee (f:=66) rfl ?_);refine goesL_ (some 7) rfl rfl Try.func66 (by kernel_rfl) rfl #[.pointer (some ⟨g,0,none⟩)] rfl (by (try simp only [s4_,s5_,s6_]);first|done|rfl) ?_;(with_reducible refine (impl_reader_num.calls k g s a b n s1 a1 b1 w0 _ HI.out HB.out HA1.out).mono ?_);rintro e w1 ⟨rfl,hi,hb,hk⟩;refine ⟨_,rfl,?_⟩;replace HV:=A_ (HV.out.move ((Ag.refl _ _ _).keep hk));replace HI:=A_ hi;replace HB:=A_ hb;clear hi hb hk))
 clear HA1
 go_loopg [5] k (fun kq v5 w' => ∃ (i : Int) (s2 : ByteArray) (a2 : Int) (b2 : Bool) (v2 : Value) (out2 : List S85),v5 = .int .i64 i ∧ Aside0 (impl_ReadBatch.l0 kq n i s2 a2 b2 out2 = some (s',a',b',out')) ∧ Aside0 (kq ≤ k) ∧ Aside0 (IsS106 w0 w' g s2 a2 b2) ∧ Aside0 (Below w0.heap.size w0 w') ∧ Aside0 (HeldF k85 85 104 79 (fun v_ => bcs c0 v_) w0 w' g p o g v2 out2))
 case atStart => exact ⟨0,s1,a1,b1,v,out,(by first|rfl|(simp;done)|(simp [*];done)),H',⟨Nat.le_refl _⟩,HI,HB,HV⟩
 case round =>
  clear H' HI HB HV;obtain ⟨i,s2,a2,b2,v2,out2,rfl,HA,HK1,HI,HB,HV⟩:=hrel
  cases gk with
  | zero => exact absurd HA.out (by simp [impl_ReadBatch.l0])
  | succ k1 =>
   have H:=HA.out;clear HA;simp only [impl_ReadBatch.l0] at H
   by_cases c1 : i < n
   ·rw [if_pos c1] at H;have c1b : decide (i < n) = true:=de_ c1;clear c1;have hcz:=(kc_ HI.out.1 2).trans rfl;have hfz:=kf_ HI.out.1 2
    by_cases c2 : b2 = true
    ·subst c2;rw [if_pos rfl] at H;simp only [Option.some.injEq,Prod.mk.injEq] at H;obtain ⟨rfl,rfl,rfl,rfl⟩:=H;go_wp2
     go_end0
     exact ⟨rfl,_,HI.out,HB.out,HV.out⟩
    ·rw [if_neg c2] at H
     obtain rfl : b2 = false:=by cases b2 <;> simp_all
     obtain ⟨⟨s3,a3,b3,out3⟩,A3,H⟩:=ob_.mp H;dsimp only at H;have HA3:=A_ A3;have H':=A_ H;clear A3 H c2
     go_wp2_with (first|(go_at_call 128;refine (impl_ReadBatch.one_calls k1 g p o s2 a2 false c0 v2 out2 s3 a3 b3 out3 w0 _ HI.out HB.out HV.out HA3.out).mono ?_;rintro e w3 ⟨rfl,v3,hi,hb,hv⟩;replace HV:=A_ hv;replace HI:=A_ hi;replace HB:=A_ hb;clear hi hb hv))
     go_roundg k1
     case measure => have:=HK1.out;omega
     case rel => exact ⟨wrap64 (i + 1),s3,a3,b3,v3,out3,(by first|rfl|(simp;done)|(simp [*];done)),H',⟨by have:=HK1.out;omega⟩,HI,HB,HV⟩
   ·rw [if_neg c1] at H;have c1b : decide (i < n) = false:=decide_eq_false c1;simp only [Option.some.injEq,Prod.mk.injEq] at H;obtain ⟨rfl,rfl,rfl,rfl⟩:=H;clear c1;go_wp2
    go_end0
    exact ⟨rfl,_,HI.out,HB.out,HV.out⟩
def impl_ReadBatch.f (k : Nat) (a0 : ByteArray) : Option (Int × List S85 × Bool) := (impl_reader_num.f k a0 0 false).bind fun n => (impl_ReadBatch.each k n.2.1 n.2.2.1 n.2.2.2 []).bind fun r => (impl_BatchText.f k n.1 r.2.2.2).bind fun z => if r.2.2.1 = true then some (0, [], false) else if z.2 = true then (if z.1.toList = a0.toList then some (n.1, r.2.2.2, true) else some (0, [], false)) else some (0, [], false)
theorem impl_ReadBatch.mono_one (k : Nat) (s : ByteArray) (a : Int) (b : Bool) (out : List S85) : LeO (impl_ReadBatch.one k s a b out) (impl_ReadBatch.one (k + 1) s a b out) := by
 unfold impl_ReadBatch.one
 exact LeO.bind (impl_reader_text.mono _ _ _ _) fun _ => LeO.bind (LeO.refl _) fun _ => LeO.bind (impl_reader_text.mono _ _ _ _) fun _ => LeO.refl _
theorem impl_ReadBatch.mono_l : ∀ k n i s a b out, LeO (impl_ReadBatch.l0 k n i s a b out) (impl_ReadBatch.l0 (k + 1) n i s a b out)
 | 0 => fun _ _ _ _ _ _ r h => by simp [impl_ReadBatch.l0] at h
 | k + 1 => fun n i s a b out => by
  have ih:=impl_ReadBatch.mono_l k
  unfold impl_ReadBatch.l0
  exact LeO.ite (LeO.ite (LeO.refl _) (LeO.bind (impl_ReadBatch.mono_one _ _ _ _ _) fun _ => ih _ _ _ _ _ _)) (LeO.refl _)
theorem impl_ReadBatch.mono : ∀ a0 k, LeO (impl_ReadBatch.f k a0) (impl_ReadBatch.f (k + 1) a0) := by
 intro a0 k
 unfold impl_ReadBatch.f impl_ReadBatch.each
 exact LeO.bind (impl_reader_num.mono _ _ _ _) fun _ => LeO.bind (LeO.bind (impl_reader_num.mono _ _ _ _) fun _ => impl_ReadBatch.mono_l _ _ _ _ _ _ _) fun _ => LeO.bind (impl_BatchText.mono _ _ _) fun _ => LeO.refl _
set_option maxHeartbeats 8000000 in
set_option maxRecDepth 100000 in
theorem impl_ReadBatch.calls (k : Nat) (a0 : ByteArray) (r1 : Int) (r2 : List S85) (r3 : Bool) (w : World) (h : impl_ReadBatch.f k a0 = some (r1, r2, r3)) :
  Calls Try.prog 105 #[.string a0] w fun e w' => ∃ v1_ : Value,e = .returned (.tuple #[.agg #[.int .i64 r1,v1_],.bool r3]) ∧ Kd.R k85 85 w' w.heap.size (fun _ => True) v1_ r2 ∧ Below w.heap.size w w':=by
 have hu106:=Try.underlying106;have hu79:=Try.underlying79;have hu85:=Try.underlying85
 unfold impl_ReadBatch.f at h
 obtain ⟨⟨n,s1,e1,b1⟩,A1,h1⟩:=ob_.mp h;dsimp only at h1;clear h;obtain ⟨⟨s2,e2,b2,out⟩,A2,h2⟩:=ob_.mp h1;dsimp only at h2;clear h1;obtain ⟨⟨z,zok⟩,A3,h3⟩:=ob_.mp h2;dsimp only at h3;clear h2;have HA1:=A_ A1;have HA2:=A_ A2;have HA3:=A_ A3;have H:=A_ h3;clear A1 A2 A3 h3;have HB0:=A_ (Below.refl w.heap.size w);go_enter Try.func105,Try.ntmps105
 go_upto_region 2 with (first|((with_reducible refine gate_dst (N:=2) rfl ?_);refine bE_ 2 #[.int .i64 0,(.slice none 0 0)] 79 ?_;intro q hq_ w1 hbox hb;have HQ:=A_ hbox;have HGQ:=A_ (show w.heap.size ≤ q from by omega);have HLW:=A_ (show w.heap.size ≤ w1.heap.size from hb.size);have HLQ:=A_ (show q < w1.heap.size from kl_ hbox);have HB9:=A_ hb;have HB:=A_ (Below.refl w1.heap.size w1);clear hb hbox hq_)|((with_reducible refine gate_dst (N:=10) rfl ?_);refine bE_ 10 #[.string a0,.int .i64 0,.bool false] 106 ?_;intro g hq_ w2 hbox hb;have HI:=A_ (show IsS106 w1 w2 g a0 0 false from ⟨hbox,by omega⟩);replace HB:=A_ hb;clear hb hbox hq_)|((with_reducible refine gate_dst (N:=4) rfl ?_);refine bE_ 4 #[.pointer none] 104 ?_;intro p hq_ w3 hbox hb;have HP:=A_ hbox;have HLP:=A_ (show w1.heap.size ≤ p from by have:=HB.out.size;omega);have HPG:=A_ (show p ≠ g from by have:=IsS106.lt HI.out;omega);replace HI:=A_ (IsS106.below HI.out hb);replace HB:=A_ (bs_ HB.out hb);have hcp:=(kc_ HP.out 0).trans rfl;have hfp:=kf_ HP.out 0;clear hb hbox hq_))
 generalize hwq : World.setCell _ _ _ = w4
 have hIq : IsS106 w1 w4 g a0 0 false:=by rw [← hwq];exact IsS106.far HI.out HPG.out.symm _
 have hPq : w4.heap[p]? = some (.cells #[.pointer (some ⟨g,0,none⟩)] 104 (0,0)):=by rw [← hwq];exact ku_ HP.out 0 _ rfl
 have hBq : Below w1.heap.size w1 w4:=by rw [← hwq];exact ps_ HB.out HLP.out
 clear hwq HI HP HB hcp hfp;have HI:=A_ hIq;have HP:=A_ hPq;have HB:=A_ hBq;clear hIq hPq hBq;have hcp:=dec_cell HP.out
 go_upto_region 3 with (first|((with_reducible refine gate_callee (f:=66) rfl ?_);refine goesL_ (some 12) rfl rfl Try.func66 (by kernel_rfl) rfl #[.pointer (some ⟨g,0,none⟩)] rfl (by (try simp only [s4_,s5_,s6_]);first|done|rfl) ?_;(with_reducible refine (impl_reader_num.calls k g a0 0 false n s1 e1 b1 w1 _ HI.out HB.out HA1.out).mono ?_);rintro e w12_ ⟨rfl,hi,hb,hk⟩;refine ⟨_,rfl,?_⟩;clear hcp;replace HP:=A_ (dec_keep hk ⟨HP.out,HPG.out⟩);replace HI:=A_ hi;replace HB:=A_ hb;clear hi hb hk)|((with_reducible refine gate_dst (N:=5) rfl ?_);refine bE_ 5 #[.int .i64 0,(.slice none 0 0)] 79 ?_;intro o hq_ w5 hbox hb;have HO:=A_ hbox;have HOG:=A_ (show o ≠ g from by have:=IsS106.lt HI.out;omega);have HOP:=A_ (show o ≠ p from by have:=kl_ HP.out;omega);have HLO:=A_ (show w1.heap.size ≤ o from by have:=bz_ HB.out;omega);replace HP:=A_ (kb_ HP.out hb);replace HI:=A_ (IsS106.below HI.out hb);replace HB:=A_ (bs_ HB.out hb);have hoz_0:=(kc_ HO.out 0).trans rfl;have hoz_1:=(kc_ HO.out 1).trans rfl;have hof_0:=kf_ HO.out 0;have hof_1:=kf_ HO.out 1;clear hb hbox hq_))
 generalize hwq : World.setCell _ _ _ = w6
 have hI_ : IsS106 w1 w6 g s1 e1 b1:=by rw [← hwq];with_reducible repeat (first|exact HI.out|refine IsS106.far ?_ HOG.out.symm _)
 have hP_ : w6.heap[p]? = some (.cells #[.pointer (some ⟨g,0,none⟩)] 104 (0,0)):=by rw [← hwq];with_reducible repeat (first|exact HP.out|refine kr_ ?_ HOP.out.symm _)
 have hB_ : Below w1.heap.size w1 w6:=by rw [← hwq];with_reducible repeat (first|exact HB.out|refine ps_ ?_ HLO.out)
 have hO_ : w6.heap[o]? = some (.cells #[.int .i64 n,(.slice none 0 0)] 79 (0,0)):=by rw [← hwq];refine ku_ (cs:=#[.int .i64 n,(.slice none 0 0)]) ?_ 1 _ (by rfl);refine ku_ (cs:=#[.int .i64 0,(.slice none 0 0)]) ?_ 0 _ (by rfl);exact HO.out
 clear hwq HI HP HB HO hoz_0 hoz_1 hof_0 hof_1;have HI:=A_ hI_;have HP:=A_ hP_;have HB:=A_ hB_;have HO:=A_ hO_;clear hI_ hP_ hB_ hO_;have hcp:=dec_cell HP.out
 go_upto_region 4 with (first|((with_reducible refine gate_callee (f:=67) rfl ?_);refine goesL_ (some 16) rfl rfl Try.func67 (by kernel_rfl) rfl #[.pointer (some ⟨g,0,none⟩),.func (.func 128) #[] #[.pointer (some ⟨p,0,none⟩),.pointer (some ⟨o,0,none⟩)]] rfl (by (try simp only [s4_,s5_,s6_]);first|done|rfl) ?_;(with_reducible refine (impl_ReadBatch.each_calls k g p o s1 e1 b1 n (.slice none 0 0) [] s2 e2 b2 out w1 _ HI.out HB.out ⟨HP.out,HO.out,Kd.R_nil _ _ _ _ _,HLP.out,HLO.out,HPG.out,HOG.out,HOP.out,HPG.out,HOG.out⟩ HA2.out).mono ?_);rintro e w16_ ⟨rfl,v8,hi,hb,hv⟩;refine ⟨_,rfl,?_⟩;clear hcp;replace HP:=A_ hv.P;replace HO:=A_ hv.O;have HR:=A_ (rm_ (Kd.R_bound hv.R) (fun k_ hk_ => (by have:=HLQ.out;have:=hk_.2.1;omega : k_ ≠ q)));replace HI:=A_ hi;replace HB:=A_ hb;clear hi hb hv;obtain ⟨Ao,co,eo⟩:=Kd.R_slice HR.out;subst eo;have hoz_0:=(kc_ HO.out 0).trans rfl;have hoz_1:=(kc_ HO.out 1).trans rfl))
 have h:=H.out;clear H
 cases b2 with
 | true =>
  rw [if_pos rfl] at h;simp only [Option.some.injEq,Prod.mk.injEq] at h;obtain ⟨rfl,rfl,rfl⟩:=h
  go_wp2_with (first|((with_reducible refine gate_callee (f:=129) rfl ?_);refine goesL_ (some 19) rfl rfl Try.func129 (by kernel_rfl) rfl #[.agg #[.int .i64 n,(.slice Ao out.length co)]] rfl (by (try simp only [s4_,s5_,s6_]);first|done|rfl) ?_;(with_reducible refine (impl_BatchText.calls k n Ao co out z _ _ (Kd.R_reads' HR.out).2.2 (Kd.R_reads' HR.out).2.1 HA3.out).mono ?_);rintro e w19_ ⟨rfl,hb⟩;refine ⟨_,rfl,?_⟩;replace HP:=A_ (kb_ HP.out hb);replace HO:=A_ (kb_ HO.out hb);replace HR:=A_ (rb_ HR.out hb);replace HI:=A_ (IsS106.below HI.out hb);replace HB:=A_ (bs_ HB.out hb);clear hb hoz_0 hoz_1;have hcp:=dec_cell HP.out;have hgz_2:=(kc_ HI.out.1 2).trans rfl;have HQ2:=A_ ((HB.out.block q HLQ.out).trans HQ.out);have hqz_0:=(kc_ HQ2.out 0).trans rfl;have hqf_0:=kf_ HQ2.out 0;have hqz_1:=(kc_ HQ2.out 1).trans rfl;have hqf_1:=kf_ HQ2.out 1;have hoz_0:=(kc_ HO.out 0).trans rfl;have hoz_1:=(kc_ HO.out 1).trans rfl))
  generalize hwq : World.setCell _ _ _ = wz
  have hQ_ : wz.heap[q]? = some (.cells #[(.int .i64 0),(.slice none 0 0)] 79 (0,0)):=by rw [← hwq];refine ku_ (cs:=#[(.int .i64 0),(.slice none 0 0)]) ?_ 1 _ (by rfl);refine ku_ (cs:=#[.int .i64 0,(.slice none 0 0)]) ?_ 0 _ (by rfl);exact HQ2.out
  have hB_ : Below w.heap.size w wz:=by rw [← hwq];have hb_:=bs_ HB9.out HB.out;with_reducible repeat (first|exact hb_|refine ps_ ?_ HGQ.out)
  refine bodyPost_ret (results_ct rfl _ _ q 79 #[(.int .i64 0),(.slice none 0 0)] (0,0) _ rfl hQ_ Try.underlying79 rfl (by kernel_rfl)) rfl ?_;exact ⟨_,rfl,Kd.R_nil _ _ _ _ _,hB_⟩
 | false =>
  rw [if_neg (by decide)] at h
  cases zok with
  | false =>
   rw [if_neg (by decide)] at h;simp only [Option.some.injEq,Prod.mk.injEq] at h;obtain ⟨rfl,rfl,rfl⟩:=h
   go_wp2_with (first|((with_reducible refine gate_callee (f:=129) rfl ?_);refine goesL_ (some 19) rfl rfl Try.func129 (by kernel_rfl) rfl #[.agg #[.int .i64 n,(.slice Ao out.length co)]] rfl (by (try simp only [s4_,s5_,s6_]);first|done|rfl) ?_;(with_reducible refine (impl_BatchText.calls k n Ao co out z _ _ (Kd.R_reads' HR.out).2.2 (Kd.R_reads' HR.out).2.1 HA3.out).mono ?_);rintro e w19_ ⟨rfl,hb⟩;refine ⟨_,rfl,?_⟩;replace HP:=A_ (kb_ HP.out hb);replace HO:=A_ (kb_ HO.out hb);replace HR:=A_ (rb_ HR.out hb);replace HI:=A_ (IsS106.below HI.out hb);replace HB:=A_ (bs_ HB.out hb);clear hb hoz_0 hoz_1;have hcp:=dec_cell HP.out;have hgz_2:=(kc_ HI.out.1 2).trans rfl;have HQ2:=A_ ((HB.out.block q HLQ.out).trans HQ.out);have hqz_0:=(kc_ HQ2.out 0).trans rfl;have hqf_0:=kf_ HQ2.out 0;have hqz_1:=(kc_ HQ2.out 1).trans rfl;have hqf_1:=kf_ HQ2.out 1;have hoz_0:=(kc_ HO.out 0).trans rfl;have hoz_1:=(kc_ HO.out 1).trans rfl))
   generalize hwq : World.setCell _ _ _ = wz
   have hQ_ : wz.heap[q]? = some (.cells #[(.int .i64 0),(.slice none 0 0)] 79 (0,0)):=by rw [← hwq];refine ku_ (cs:=#[(.int .i64 0),(.slice none 0 0)]) ?_ 1 _ (by rfl);refine ku_ (cs:=#[.int .i64 0,(.slice none 0 0)]) ?_ 0 _ (by rfl);exact HQ2.out
   have hB_ : Below w.heap.size w wz:=by rw [← hwq];have hb_:=bs_ HB9.out HB.out;with_reducible repeat (first|exact hb_|refine ps_ ?_ HGQ.out)
   refine bodyPost_ret (results_ct rfl _ _ q 79 #[(.int .i64 0),(.slice none 0 0)] (0,0) _ rfl hQ_ Try.underlying79 rfl (by kernel_rfl)) rfl ?_;exact ⟨_,rfl,Kd.R_nil _ _ _ _ _,hB_⟩
  | true =>
   rw [if_pos rfl] at h
   by_cases ce : z.toList = a0.toList
   ·rw [if_pos ce] at h;have ceb0 : (z.toList == a0.toList) = true:=beq_iff_eq.mpr ce;have ceb1 : (z.toList != a0.toList) = false:=bne_eq_false_iff_eq.mpr ce;clear ce;simp only [Option.some.injEq,Prod.mk.injEq] at h;obtain ⟨rfl,rfl,rfl⟩:=h
    go_wp2_with (first|((with_reducible refine gate_callee (f:=129) rfl ?_);refine goesL_ (some 19) rfl rfl Try.func129 (by kernel_rfl) rfl #[.agg #[.int .i64 n,(.slice Ao out.length co)]] rfl (by (try simp only [s4_,s5_,s6_]);first|done|rfl) ?_;(with_reducible refine (impl_BatchText.calls k n Ao co out z _ _ (Kd.R_reads' HR.out).2.2 (Kd.R_reads' HR.out).2.1 HA3.out).mono ?_);rintro e w19_ ⟨rfl,hb⟩;refine ⟨_,rfl,?_⟩;replace HP:=A_ (kb_ HP.out hb);replace HO:=A_ (kb_ HO.out hb);replace HR:=A_ (rb_ HR.out hb);replace HI:=A_ (IsS106.below HI.out hb);replace HB:=A_ (bs_ HB.out hb);clear hb hoz_0 hoz_1;have hcp:=dec_cell HP.out;have hgz_2:=(kc_ HI.out.1 2).trans rfl;have HQ2:=A_ ((HB.out.block q HLQ.out).trans HQ.out);have hqz_0:=(kc_ HQ2.out 0).trans rfl;have hqf_0:=kf_ HQ2.out 0;have hqz_1:=(kc_ HQ2.out 1).trans rfl;have hqf_1:=kf_ HQ2.out 1;have hoz_0:=(kc_ HO.out 0).trans rfl;have hoz_1:=(kc_ HO.out 1).trans rfl))
    generalize hwq : World.setCell _ _ _ = wz
    have hQ_ : wz.heap[q]? = some (.cells #[(.int .i64 n),(.slice Ao out.length co)] 79 (0,0)):=by rw [← hwq];refine ku_ (cs:=#[(.int .i64 n),(.slice none 0 0)]) ?_ 1 _ (by rfl);refine ku_ (cs:=#[.int .i64 0,(.slice none 0 0)]) ?_ 0 _ (by rfl);exact HQ2.out
    have hB_ : Below w.heap.size w wz:=by rw [← hwq];have hb_:=bs_ HB9.out HB.out;with_reducible repeat (first|exact hb_|refine ps_ ?_ HGQ.out)
    have hR_ : Kd.R k85 85 wz w1.heap.size (fun k_ => k_ ≠ q) (.slice Ao out.length co) out:=by rw [← hwq];with_reducible repeat (first|exact HR.out|refine rf_ ?_ (fun k_ hk_ => hk_) _)
    refine bodyPost_ret (results_ct rfl _ _ q 79 #[(.int .i64 n),(.slice Ao out.length co)] (0,0) _ rfl hQ_ Try.underlying79 rfl (by kernel_rfl)) rfl ?_;exact ⟨_,rfl,rm_ (rw_ hR_ HLW.out) (fun _ _ => trivial),hB_⟩
   ·rw [if_neg ce] at h;have ceb0 : (z.toList == a0.toList) = false:=beq_eq_false_iff_ne.mpr ce;have ceb1 : (z.toList != a0.toList) = true:=bne_iff_ne.mpr ce;simp only [Option.some.injEq,Prod.mk.injEq] at h;obtain ⟨rfl,rfl,rfl⟩:=h
    go_wp2_with (first|((with_reducible refine gate_callee (f:=129) rfl ?_);refine goesL_ (some 19) rfl rfl Try.func129 (by kernel_rfl) rfl #[.agg #[.int .i64 n,(.slice Ao out.length co)]] rfl (by (try simp only [s4_,s5_,s6_]);first|done|rfl) ?_;(with_reducible refine (impl_BatchText.calls k n Ao co out z _ _ (Kd.R_reads' HR.out).2.2 (Kd.R_reads' HR.out).2.1 HA3.out).mono ?_);rintro e w19_ ⟨rfl,hb⟩;refine ⟨_,rfl,?_⟩;replace HP:=A_ (kb_ HP.out hb);replace HO:=A_ (kb_ HO.out hb);replace HR:=A_ (rb_ HR.out hb);replace HI:=A_ (IsS106.below HI.out hb);replace HB:=A_ (bs_ HB.out hb);clear hb hoz_0 hoz_1;have hcp:=dec_cell HP.out;have hgz_2:=(kc_ HI.out.1 2).trans rfl;have HQ2:=A_ ((HB.out.block q HLQ.out).trans HQ.out);have hqz_0:=(kc_ HQ2.out 0).trans rfl;have hqf_0:=kf_ HQ2.out 0;have hqz_1:=(kc_ HQ2.out 1).trans rfl;have hqf_1:=kf_ HQ2.out 1;have hoz_0:=(kc_ HO.out 0).trans rfl;have hoz_1:=(kc_ HO.out 1).trans rfl))
    generalize hwq : World.setCell _ _ _ = wz
    have hQ_ : wz.heap[q]? = some (.cells #[(.int .i64 0),(.slice none 0 0)] 79 (0,0)):=by rw [← hwq];refine ku_ (cs:=#[(.int .i64 0),(.slice none 0 0)]) ?_ 1 _ (by rfl);refine ku_ (cs:=#[.int .i64 0,(.slice none 0 0)]) ?_ 0 _ (by rfl);exact HQ2.out
    have hB_ : Below w.heap.size w wz:=by rw [← hwq];have hb_:=bs_ HB9.out HB.out;with_reducible repeat (first|exact hb_|refine ps_ ?_ HGQ.out)
    refine bodyPost_ret (results_ct rfl _ _ q 79 #[(.int .i64 0),(.slice none 0 0)] (0,0) _ rfl hQ_ Try.underlying79 rfl (by kernel_rfl)) rfl ?_;exact ⟨_,rfl,Kd.R_nil _ _ _ _ _,hB_⟩
def impl_batchesOf.l0 : Nat → List (S93) → Int → List ByteArray → Int → Int → Option ((List (S93)) × Int)
 | 0,_,_,_,_,_ => none
 | k + 1,x6,x7,x19,x20,x21 => if x21 < x20 then (if 0 ≤ x21 then (if x21 < (x19.length : Int) then ((impl_ReadBatch.f k (rdOf ByteArray.empty x19 x21)).bind fun bt303 => (if bt303.2.2 = true then ((impl_Frame.f k (rdOf ByteArray.empty x19 x21)).bind fun bt309 => (if x6.length < 2513169434916 then (impl_batchesOf.l0 k (x6 ++ [(⟨(⟨bt303.1,bt303.2.1⟩ : S79),rdOf ByteArray.empty x19 x21,wrap64 ((wrap64 (x7 + (bt309.1.size : Int))) - ((rdOf ByteArray.empty x19 x21).size : Int))⟩ : S93)]) (wrap64 (x7 + (bt309.1.size : Int))) x19 x20 (wrap64 (x21 + 1))) else (none))) else (some (x6,x7)))) else (none)) else (none)) else (some (x6,x7))
def impl_batchesOf.f (k : Nat) (a0 : ByteArray) : Option ((List (S93)) × Int) := (impl_Unframe.f k a0).bind fun bt298 => (impl_batchesOf.l0 k ([] : List (S93)) 0 bt298.1 (bt298.1.length : Int) 0)
theorem impl_batchesOf.mono_l : ∀ k, (∀ y0 y1 y2 y3 y4, LeO (impl_batchesOf.l0 k y0 y1 y2 y3 y4) (impl_batchesOf.l0 (k + 1) y0 y1 y2 y3 y4))
 | 0 => fun _ _ _ _ _ r h => by simp [impl_batchesOf.l0] at h
 | k + 1 => by
  have ih0:=impl_batchesOf.mono_l k
  ·intro y0 y1 y2 y3 y4
   unfold impl_batchesOf.l0
   repeat' first
   | (with_reducible exact ih0 _ _ _ _ _)
   | (with_reducible exact impl_Frame.mono _ _)
   | (with_reducible exact impl_ReadBatch.mono _ _)
   | (with_reducible exact impl_Unframe.mono _ _)
   | (with_reducible exact LeO.refl _)
   | (with_reducible exact LeO.none _)
   | (with_reducible refine LeO.ite ?_ ?_)
   | (with_reducible refine LeO.bind ?_ (fun _ => ?_))
theorem impl_batchesOf.mono : ∀ a0 k, LeO (impl_batchesOf.f k a0) (impl_batchesOf.f (k + 1) a0) := by
 intro a0 k;have ih0:=impl_batchesOf.mono_l k
 unfold impl_batchesOf.f
 repeat' first
   | (with_reducible exact ih0 _ _ _ _ _)
   | (with_reducible exact impl_Frame.mono _ _)
   | (with_reducible exact impl_ReadBatch.mono _ _)
   | (with_reducible exact impl_Unframe.mono _ _)
   | (with_reducible exact LeO.refl _)
   | (with_reducible exact LeO.none _)
   | (with_reducible refine LeO.ite ?_ ?_)
   | (with_reducible refine LeO.bind ?_ (fun _ => ?_))
set_option maxHeartbeats 8000000 in
set_option maxRecDepth 100000 in
theorem impl_batchesOf.calls (k : Nat) (a0 : ByteArray) (r1 : List (S93)) (r2 : Int) (w : World) (h : impl_batchesOf.f k a0 = some (r1, r2)) :
  Calls Try.prog 56 #[.string a0] w fun e w' => ∃ v0_ : Value,e = .returned (.tuple #[v0_,.int .i64 r2]) ∧ Kd.S k93 93 w' w.heap.size (fun _ => True) v0_ r1 ∧ Below w.heap.size w w':=by
 have hu79:=Try.underlying79;have hu93:=Try.underlying93;have HB:=A_ (Below.refl w.heap.size w);unfold impl_batchesOf.f at h;have H:=h;clear h;replace H:=ob_.mp H;obtain ⟨⟨t298,t299⟩,A20,H⟩:=H;(try dsimp only at H);have A2:=A_ A20;clear A20;have H':=A_ H;clear H;go_enter Try.func56,Try.ntmps56
 go_wp2_with (first|((with_reducible refine gate_callee (f:=44) rfl ?_);refine gL_ (some 16) Try.func44 #[.string a0] ?_;(with_reducible refine (impl_Unframe.calls k a0 t298 t299 _ A2.out).mono ?_);rintro e w3 ⟨v300,rfl,ho0,hb⟩;refine ⟨_,rfl,?_⟩;have HO301:=A_ (rw_ ho0 (bz_ (bq_ HB)));replace HB:=bS_ HB hb;(try clear hb);(try clear ho0);obtain ⟨Ao4,co4,eo4⟩:=Kd.R_slice HO301.out;subst eo4))
 go_loopg [6,7,21] k (fun kq v6 v7 v21 w' => ∃ (x6_1 : List (S93)) (x7_1 : Int) (x21_1 : Int),v7 = .int .i64 x7_1 ∧ v21 = .int .i64 x21_1 ∧ Aside0 (impl_batchesOf.l0 kq x6_1 x7_1 t298 (t298.length : Int) x21_1 = some (r1,r2)) ∧ Aside0 (kq ≤ k) ∧ Aside0 (Kd.S k93 93 w' w.heap.size (fun _ => True) v6 x6_1) ∧ Aside0 (Kd.R Kd.string 9 w' w.heap.size (fun _ => True) (.slice Ao4 t298.length co4) t298) ∧ Aside0 (Below w.heap.size w w'))
 case atStart => exact ⟨(([] : List (S93))),(0),(0),(by first|rfl|(simp;done)|(simp [*];done)),(by first|rfl|(simp;done)|(simp [*];done)),H',⟨Nat.le_refl _⟩,⟨by first|exact Kd.S_nil _ _ _ _ _|exact Kd.N_nil _ _ _ _ _|exact Kd.V_nil _ _ _ _ _|exact Kd.Q_nil _ _ _ _ _|exact Kd.R_nil _ _ _ _ _⟩,⟨by (with_reducible repeat (first|apply ra_|apply rn_|apply Rd_));exact HO301.out⟩,⟨bq_ HB⟩⟩
 case round =>
  clear H'
  try clear p2
  try clear c4
  obtain ⟨x6_1,x7_1,x21_1,rfl,rfl,HA,HK1,HO_6,HO_19,HB⟩:=hrel
  cases gk with
  | zero => exact absurd HA.out (by simp [impl_batchesOf.l0])
  | succ k1 =>
   have H:=HA.out;clear HA;simp only [impl_batchesOf.l0] at H
   by_cases c5 : x21_1 < (t298.length : Int)
   ·rw [if_pos c5] at H;have c5b0 : decide (x21_1 < (t298.length : Int)) = true:=de_ c5;clear c5
    by_cases c6 : 0 ≤ x21_1
    ·rw [if_pos c6] at H;have c6b0 : decide (0 ≤ x21_1) = true:=de_ c6;clear c6
     by_cases c7 : x21_1 < (t298.length : Int)
     ·rw [if_pos c7] at H;have c7b0 : decide (x21_1 < (t298.length : Int)) = true:=de_ c7;clear c7;replace H:=ob_.mp H;obtain ⟨⟨t303,t304,t307⟩,A80,H⟩:=H;(try dsimp only at H);have A8:=A_ A80;clear A80
      by_cases c9 : t307 = true
      ·subst c9
       rw [if_pos rfl] at H;replace H:=ob_.mp H;obtain ⟨⟨t309,t310⟩,A100,H⟩:=H;(try dsimp only at H);have A10:=A_ A100;clear A100
       by_cases c11 : x6_1.length < 2513169434916
       ·rw [if_pos c11] at H;have LMc11:=A_ c11;clear c11;obtain ⟨y311,hy311⟩ : ∃ y_ : List (S93),y_ = (x6_1 ++ [(⟨(⟨t303,t304⟩ : S79),rdOf ByteArray.empty t298 x21_1,wrap64 ((wrap64 (x7_1 + (t309.size : Int))) - ((rdOf ByteArray.empty t298 x21_1).size : Int))⟩ : S93)]):=⟨_,rfl⟩
        replace H : (impl_batchesOf.l0 k1 y311 (wrap64 (x7_1 + (t309.size : Int))) t298 (t298.length : Int) (wrap64 (x21_1 + 1))) = some (r1,r2):=by first|(rw [hy311];with_reducible exact H)|(have H2_:=(Option.bind_some _ _).symm.trans H;rw [hy311];with_reducible exact H2_)|(have H2_:=(Option.bind_some _ _).symm.trans H;with_reducible exact H2_)|with_reducible exact H|(rw [hy311];exact H)|exact H
        have Ny311:=A_ hy311;clear hy311;have H':=A_ H;clear H;have p302 : 0 ≤ (x21_1 : Int):=oda_;have q302 : x21_1 < (t298.length : Int):=oda_;obtain ⟨ad302,e302,hx302_0⟩:=Kd.at_string (Kd.R_reads' HO_19.out).2.2 x21_1 p302 q302
        cases e302
        replace p302:=eq_true p302;replace q302:=eq_true q302
        go_wp2_with (first|((with_reducible refine gate_callee (f:=105) rfl ?_);refine gL_ (some 27) Try.func105 #[.string (rdOf ByteArray.empty t298 x21_1)] ?_;(with_reducible refine (impl_ReadBatch.calls k1 (rdOf ByteArray.empty t298 x21_1) t303 t304 true _ A8.out).mono ?_);rintro e w12 ⟨v305,rfl,ho0,hb⟩;refine ⟨_,rfl,?_⟩;replace HO_6:=A_ (Kd.S_elder' (by (with_reducible repeat (first|apply Kd.S_alloc|apply Kd.S_drewN|apply Kd.S_drew));exact HO_6.out) (Kd.R_base ho0) hb);replace HO_19:=rB_ HO_19 hb;have HO306:=A_ (rw_ ho0 (bz_ (bq_ HB)));replace HB:=bS_ HB hb;(try clear hb);(try clear ho0))|((with_reducible refine gate_dst (N:=10) rfl ?_);refine bE_ 10 #[.int .i64 0,.slice none 0 0] 79 ?_;intro gb308 hg w13 hbox hb;replace HO_6:=A_ (Kd.S_below (by (with_reducible repeat (first|apply Kd.S_alloc|apply Kd.S_drewN|apply Kd.S_drew));exact HO_6.out) hb);replace HO_19:=rB_ HO_19 hb;replace HO306:=rB_ HO306 hb;have BK308:=A_ (hbox);have GW308:=gE_ hg HB;have GE308:=gE_ hg HB;replace HB:=bS_ HB hb;clear hb hbox hg;obtain ⟨hcz14_0,hcz14_1,hfz14_0,hfz14_1⟩:=k2f_ BK308;obtain ⟨Ao15,co15,eo15⟩:=Kd.R_slice HO306.out;subst eo15)|((with_reducible refine gate_callee (f:=98) rfl ?_);refine gL_ (some 34) Try.func98 #[.string (rdOf ByteArray.empty t298 x21_1)] ?_;(with_reducible refine (impl_Frame.calls k1 (rdOf ByteArray.empty t298 x21_1) t309 t310 _ A10.out).mono ?_);rintro e w16 ⟨rfl,hb⟩;refine ⟨_,rfl,?_⟩;replace HO_6:=A_ (Kd.S_below (by (with_reducible repeat (first|apply Kd.S_alloc|apply Kd.S_drewN|apply Kd.S_drew));exact (Kd.S_mono (Kd.S_far (p:=⟨gb308,1,none⟩) (Kd.S_far (p:=⟨gb308,0,none⟩) (Kd.S_types HO_6.out BK308.out (by decide)) (fun _ hk => hk.2) (.int .i64 t303)) (fun _ hk => hk.2) (.slice Ao15 t304.length co15)) (fun _ h_ => h_.1))) hb);replace HO_19:=A_ (rb_ (by (with_reducible repeat (first|apply ra_|apply rn_|apply Rd_));exact (rm_ (rf_ (p:=⟨gb308,1,none⟩) (rf_ (p:=⟨gb308,0,none⟩) (Kd.R_types HO_19.out BK308.out (by decide)) (fun _ hk => hk.2) (.int .i64 t303)) (fun _ hk => hk.2) (.slice Ao15 t304.length co15)) (fun _ h_ => h_.1))) hb);replace HO306:=A_ (rb_ (by (with_reducible repeat (first|apply ra_|apply rn_|apply Rd_));exact (rm_ (rf_ (p:=⟨gb308,1,none⟩) (rf_ (p:=⟨gb308,0,none⟩) (Kd.R_types HO306.out BK308.out (by decide)) (fun _ hk => hk.2) (.int .i64 t303)) (fun _ hk => hk.2) (.slice Ao15 t304.length co15)) (fun _ h_ => h_.1))) hb);replace BK308:=A_ (kb_ (g:=gb308) (o:=.cells #[.int .i64 t303,.slice Ao15 t304.length co15] 79 (0,0)) (kz_ BK308) hb);replace HB:=bS_ HB hb;(try clear hb);obtain ⟨hcz17_0,hcz17_1,hfz17_0,hfz17_1⟩:=k2f_ BK308)|((with_reducible refine gate_builtin (b:=.append) (xs:=#[.tmp 41,.tmp 49]) rfl ?_);at_builtin;refine Kd.S_append k93 (w0:=w) w.heap.size rfl (.tmp 41) (.tmp 49) 89 93 (.agg #[(.int .i64 0),(.slice none 0 0),(.string ⟨#[]⟩),(.int .i64 0)]) 56 rfl Try.underlying89 info93 rfl (by decide) (by omega) u6 x6_1 (⟨(⟨t303,t304⟩ : S79),rdOf ByteArray.empty t298 x21_1,wrap64 ((wrap64 (x7_1 + (t309.size : Int))) - ((rdOf ByteArray.empty t298 x21_1).size : Int))⟩ : S93) [.int .i64 t303,.slice Ao15 t304.length co15,.string (rdOf ByteArray.empty t298 x21_1),.int .i64 (wrap64 ((wrap64 (x7_1 + (t309.size : Int))) - ((rdOf ByteArray.empty t298 x21_1).size : Int)))] (fun _ => True) (fun k_ => some k_ = (.slice Ao15 t304.length co15 : Value).ownBlock) rfl rfl ?aP (fun k_ hk_ => ((rm_ (ok':=fun k_ => ((fun _ => True)) k_ ∧ some k_ ≠ (u6 : Value).ownBlock) (Kd.R_apart' (HO306.out) (Kd.S_typed HO_6.out) (by decide)) (fun k_ hk => ⟨trivial,hk.2⟩))).1 k_ hk_.symm) ?aF ?aO ?aB ?aS ?aL ?_;(case aP => exact k93_mkM _ _ _ (⟨(⟨t303,t304⟩ : S79),rdOf ByteArray.empty t298 x21_1,wrap64 ((wrap64 (x7_1 + (t309.size : Int))) - ((rdOf ByteArray.empty t298 x21_1).size : Int))⟩ : S93) (rm_ (Kd.R_tight rfl (rm_ (ok':=fun k_ => ((fun _ => True)) k_ ∧ some k_ ≠ (u6 : Value).ownBlock) (Kd.R_apart' (HO306.out) (Kd.S_typed HO_6.out) (by decide)) (fun k_ hk => ⟨trivial,hk.2⟩))) (fun _ h_ => h_)));(case aB => exact (bq_ HB));(case aF => exact (fun _ _ => trivial));(case aO => exact (by (with_reducible repeat (first|apply Kd.S_alloc|apply Kd.S_drewN|apply Kd.S_drew));exact Kd.S_mono HO_6.out (fun k_ hk => ⟨trivial,fun e_ => hk.2 e_⟩)));(case aS => exact (bz_ (bq_ HB)));(case aL => have:=LMc11.out;omega);intro v312 w18 ho hb hg hat;rw [← Ny311.out] at ho;replace HO_19:=A_ (ro_ (rq_ HO_19) (Kd.S_typed (by (with_reducible repeat (first|apply Kd.S_alloc|apply Kd.S_drewN|apply Kd.S_drew));exact HO_6.out)) (by decide) hg);replace BK308:=A_ (kg_ (kq_ BK308) hg (Kd.S_ne HO_6.out BK308.out (by decide)));replace HB:=A_ (hb);have HO313:=A_ (ho);clear HO_6;clear HO306;clear ho hb hg hat))
        go_roundg k1
        case measure => have:=HK1.out;omega
        case rel => exact ⟨(y311),(wrap64 (x7_1 + (t309.size : Int))),(wrap64 (x21_1 + 1)),(by first|rfl|(simp;done)|(simp [*];done)),(by first|rfl|(simp;done)|(simp [*];done)),H',⟨by have:=HK1.out;omega⟩,⟨by (with_reducible repeat (first|apply Kd.S_alloc|apply Kd.S_drewN|apply Kd.S_drew));exact HO313.out⟩,⟨by (with_reducible repeat (first|apply ra_|apply rn_|apply Rd_));exact HO_19.out⟩,⟨bq_ HB⟩⟩
       ·rw [if_neg c11] at H;exact absurd H (by simp)
      ·replace c9:=Bool.eq_false_iff.mpr c9;subst c9
       have H1 : (some (x6_1,x7_1)) = some (r1,r2):=by rw [if_neg (show ¬ (false = true) by decide)] at H;exact H
       clear H;have H:=H1;clear H1;simp only [Option.some.injEq,Prod.mk.injEq] at H;obtain ⟨rfl,rfl⟩:=H;have p302 : 0 ≤ (x21_1 : Int):=oda_;have q302 : x21_1 < (t298.length : Int):=oda_;obtain ⟨ad302,e302,hx302_0⟩:=Kd.at_string (Kd.R_reads' HO_19.out).2.2 x21_1 p302 q302
       cases e302
       replace p302:=eq_true p302;replace q302:=eq_true q302
       go_wp2_with (first|((with_reducible refine gate_callee (f:=105) rfl ?_);refine gL_ (some 27) Try.func105 #[.string (rdOf ByteArray.empty t298 x21_1)] ?_;(with_reducible refine (impl_ReadBatch.calls k1 (rdOf ByteArray.empty t298 x21_1) t303 t304 false _ A8.out).mono ?_);rintro e w19 ⟨v305,rfl,ho0,hb⟩;refine ⟨_,rfl,?_⟩;replace HO_6:=A_ (Kd.S_elder' (by (with_reducible repeat (first|apply Kd.S_alloc|apply Kd.S_drewN|apply Kd.S_drew));exact HO_6.out) (Kd.R_base ho0) hb);replace HO_19:=rB_ HO_19 hb;have HO306:=A_ (rw_ ho0 (bz_ (bq_ HB)));replace HB:=bS_ HB hb;(try clear hb);(try clear ho0))|((with_reducible refine gate_dst (N:=10) rfl ?_);refine bE_ 10 #[.int .i64 0,.slice none 0 0] 79 ?_;intro gb308 hg w20 hbox hb;replace HO_6:=A_ (Kd.S_below (by (with_reducible repeat (first|apply Kd.S_alloc|apply Kd.S_drewN|apply Kd.S_drew));exact HO_6.out) hb);replace HO_19:=rB_ HO_19 hb;replace HO306:=rB_ HO306 hb;have BK308:=A_ (hbox);have GW308:=gE_ hg HB;have GE308:=gE_ hg HB;replace HB:=bS_ HB hb;clear hb hbox hg;obtain ⟨hcz21_0,hcz21_1,hfz21_0,hfz21_1⟩:=k2f_ BK308;obtain ⟨Ao22,co22,eo22⟩:=Kd.R_slice HO306.out;subst eo22))
       go_ret2;exact ⟨_,by first|rfl|(simp [*,errW_none,errW_some] <;> rfl),by (with_reducible repeat (first|apply Kd.S_alloc|apply Kd.S_drewN|apply Kd.S_drew));exact Kd.S_mono (Kd.S_far (p:=⟨gb308,1,none⟩) (Kd.S_far (p:=⟨gb308,0,none⟩) (Kd.S_types HO_6.out BK308.out (by decide)) (fun _ hk => hk.2) (.int .i64 t303)) (fun _ hk => hk.2) (.slice Ao22 t304.length co22)) (fun _ hk => trivial),bq_ HB⟩
     ·rw [if_neg c7] at H;exact absurd H (by simp)
    ·rw [if_neg c6] at H;exact absurd H (by simp)
   ·rw [if_neg c5] at H;have c5b0 : decide (x21_1 < (t298.length : Int)) = false:=decide_eq_false c5;clear c5;simp only [Option.some.injEq,Prod.mk.injEq] at H;obtain ⟨rfl,rfl⟩:=H;go_wp2;go_ret2;exact ⟨_,by first|rfl|(simp [*,errW_none,errW_some] <;> rfl),by (with_reducible repeat (first|apply Kd.S_alloc|apply Kd.S_drewN|apply Kd.S_drew));exact HO_6.out,bq_ HB⟩
end Go.Proofs.Ytbcgnncbiblibaa.PFnExactScanSeg
