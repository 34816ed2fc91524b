/- The contracts of the Go functions that this law reaches: what each call returns, by a plain Lean function of its arguments. No conditions but those each contract names. By the kit's print.py, run by this session's wip/gen/pp.py with facts and hand proofs beside it: not to the letter what print.sh prints. -/
import Derived.Test.YtbcgnncbiblibaaPFnExactScanSegx0
import Derived.Test.YtbcgnncbiblibaaPFnExactScanSegx11
import Derived.Test.YtbcgnncbiblibaaPFnExactScanSegx13
namespace Go.Proofs.Ytbcgnncbiblibaa.PFnExactScanSeg
open Go.RowKit Go.Proofs.YtbcgnncbiblibaaW.PrintWords Go.Proofs.YtbcgnncbiblibaaW.PrintLast Go.Proofs.YtbcgnncbiblibaaW.PrintMore
attribute [local go_sem] max2_int min2_int max_two min_two max_three min_three max_four min_four
set_option linter.unusedVariables false
set_option linter.unusedSimpArgs false
def impl_spotsOf.l0 : Nat → Int → Int → List (S88) → List (S85) → Int → Int → Option ((List (S88)))
 | 0,_,_,_,_,_,_ => none
 | k + 1,x1,x7,x8,x31,x32,x33 => if x33 < x32 then (if 0 ≤ x33 then (if x33 < (x31.length : Int) then ((impl_short.f k ((rd_T85 x31 x33).f1)).bind fun t322 => ((impl_short.f k ((rd_T85 x31 x33).f0)).bind fun t323 => (if (rd_T85 x31 x33).f2 = true then (if x8.length < 3518437208883 then (impl_spotsOf.l0 k x1 (wrap64 (x7 + (wrap64 ((wrap64 ((t323.size : Int) + 1)) + (t322.size : Int))))) (x8 ++ [(⟨(rd_T85 x31 x33).f0,x1,0,(-1)⟩ : S88)]) x31 x32 (wrap64 (x33 + 1))) else (none)) else (if x8.length < 3518437208883 then (impl_spotsOf.l0 k x1 (wrap64 (x7 + (wrap64 ((wrap64 ((t323.size : Int) + 1)) + (t322.size : Int))))) (x8 ++ [(⟨(rd_T85 x31 x33).f0,x1,wrap64 ((wrap64 (x7 + (wrap64 ((wrap64 ((t323.size : Int) + 1)) + (t322.size : Int))))) - (((rd_T85 x31 x33).f1).size : Int)),(((rd_T85 x31 x33).f1).size : Int)⟩ : S88)]) x31 x32 (wrap64 (x33 + 1))) else (none))))) else (none)) else (none)) else (some x8)
def impl_spotsOf.f (k : Nat) (a0_0 : Int) (l0_1 : List (S85)) (a0_2 : ByteArray) (a0_3 : Int) (a1 : Int) : Option ((List (S88))) := (impl_vars.f k (([a0_0, (l0_1.length : Int)] : List Int))).bind fun bt318 => (impl_spotsOf.l0 k a1 (wrap64 (a0_3 + (bt318.1.size : Int))) ([] : List (S88)) l0_1 (l0_1.length : Int) 0)
theorem impl_spotsOf.mono_l : ∀ k, (∀ y0 y1 y2 y3 y4 y5, LeO (impl_spotsOf.l0 k y0 y1 y2 y3 y4 y5) (impl_spotsOf.l0 (k + 1) y0 y1 y2 y3 y4 y5))
 | 0 => fun _ _ _ _ _ _ r h => by simp [impl_spotsOf.l0] at h
 | k + 1 => by
  have ih0:=impl_spotsOf.mono_l k
  ·intro y0 y1 y2 y3 y4 y5
   unfold impl_spotsOf.l0
   repeat' first
   | (with_reducible exact ih0 _ _ _ _ _ _)
   | (with_reducible exact impl_short.mono _ _)
   | (with_reducible exact impl_vars.mono _ _)
   | (with_reducible exact LeO.refl _)
   | (with_reducible exact LeO.none _)
   | (with_reducible refine LeO.ite ?_ ?_)
   | (with_reducible refine LeO.bind ?_ (fun _ => ?_))
theorem impl_spotsOf.mono : ∀ a0 a1 a2 a3 a4 k, LeO (impl_spotsOf.f k a0 a1 a2 a3 a4) (impl_spotsOf.f (k + 1) a0 a1 a2 a3 a4) := by
 intro a0 a1 a2 a3 a4 k;have ih0:=impl_spotsOf.mono_l k
 unfold impl_spotsOf.f
 repeat' first
   | (with_reducible exact ih0 _ _ _ _ _ _)
   | (with_reducible exact impl_short.mono _ _)
   | (with_reducible exact impl_vars.mono _ _)
   | (with_reducible exact LeO.refl _)
   | (with_reducible exact LeO.none _)
   | (with_reducible refine LeO.ite ?_ ?_)
   | (with_reducible refine LeO.bind ?_ (fun _ => ?_))
set_option maxHeartbeats 8000000 in
set_option maxRecDepth 100000 in
theorem impl_spotsOf.calls (k : Nat) (a0_0 : Int) (A0_1 : Option Addr) (c0_1 : Nat) (l0_1 : List (S85)) (a0_2 : ByteArray) (a0_3 : Int) (a1 : Int) (r : List (S88)) (w : World) (hr0_1 : Kd.C k85 w A0_1 l0_1.length l0_1) (hc0_1 : l0_1.length ≤ c0_1) (h : impl_spotsOf.f k a0_0 l0_1 a0_2 a0_3 a1 = some r) :
  Calls Try.prog 57 #[.agg #[.int .i64 a0_0,.slice A0_1 l0_1.length c0_1,.string a0_2,.int .i64 a0_3],.int .i64 a1] w fun e w' => ∃ v0_ : Value,e = .returned (v0_) ∧ Kd.R k88 88 w' w.heap.size (fun _ => True) v0_ r ∧ Below w.heap.size w w':=by
 have hu93:=Try.underlying93;have hu85:=Try.underlying85;have hu88:=Try.underlying88;have HR0_1:=A_ hr0_1;have HC0_1:=A_ hc0_1;clear hr0_1 hc0_1;have HB:=A_ (Below.refl w.heap.size w);unfold impl_spotsOf.f at h;have H:=h;clear h;obtain ⟨y315,hy315⟩ : ∃ y_ : List Int,y_ = (([a0_0,(l0_1.length : Int)] : List Int)):=⟨_,rfl⟩
 replace H : ((impl_vars.f k y315).bind fun bt318 => (impl_spotsOf.l0 k a1 (wrap64 (a0_3 + (bt318.1.size : Int))) ([] : List (S88)) l0_1 (l0_1.length : Int) 0)) = some r:=by first|(rw [hy315];with_reducible exact H)|(have H2_:=(Option.bind_some _ _).symm.trans H;rw [hy315];with_reducible exact H2_)|(have H2_:=(Option.bind_some _ _).symm.trans H;with_reducible exact H2_)|with_reducible exact H|(rw [hy315];exact H)|exact H
 have Ny315:=A_ hy315;clear hy315;replace H:=ob_.mp H;obtain ⟨⟨t318,t319⟩,A30,H⟩:=H;(try dsimp only at H);have A3:=A_ A30;clear A30;have H':=A_ H;clear H;go_enter Try.func57,Try.ntmps57
 go_wp2_with (first|((with_reducible refine gate_dst (N:=2) rfl ?_);refine bE_ 2 #[.int .i64 a0_0,.slice A0_1 l0_1.length c0_1,.string a0_2,.int .i64 a0_3] 93 ?_;intro gb314 hg w4 hbox hb;have BK314:=A_ (hbox);have GW314:=gE_ hg HB;have GE314:=gE_ hg HB;replace HB:=bS_ HB hb;clear hb hbox hg;obtain ⟨hcz5_0,hcz5_1,hcz5_2,hcz5_3,hfz5_0,hfz5_1,hfz5_2,hfz5_3⟩:=k4f_ BK314)|((with_reducible refine gate_dst (N:=20) rfl ?_);refine rX_ (d:=(Kd.int .i64)) (e:=3) (xs:=([a0_0,(l0_1.length : Int)] : List Int)) (inner:=[.int .i64 a0_0,.int .i64 (l0_1.length : Int)]) (ok:=fun _ => True) (okp:=fun _ => True) 20 (Reps.one (show Kd.M (Kd.int .i64) _ _ _ a0_0 [.int .i64 a0_0] from rfl) (Reps.one (show Kd.M (Kd.int .i64) _ _ _ (l0_1.length : Int) [.int .i64 (l0_1.length : Int)] from rfl) (Reps.none _ _))) ?_;intro v316 w6 ho7 hb hg_ hnew_;clear hg_ hnew_;(first|rw [← Ny315.out] at ho7|(simp only [Int.reduceToNat] at ho7;rw [← Ny315.out] at ho7));have HO317:=A_ (rw_ ho7 (bz_ (bq_ HB)));replace BK314:=kB_ BK314 hb;replace HB:=bS_ HB hb;clear hb ho7;obtain ⟨Ao8,co8,eo8⟩:=Kd.R_slice HO317.out;subst eo8)|((with_reducible refine gate_callee (f:=76) rfl ?_);refine gL_ (some 21) Try.func76 #[.slice Ao8 y315.length co8] ?_;(with_reducible refine (impl_vars.calls k _ _ y315 t318 t319 _ ?side1 ?side2 A3.out).mono ?_);(case side1 => repeat (first|exact (Kd.R_reads' HO317.out).2.2|(with_reducible refine Kd.C_alloc ?_ _)|(with_reducible refine Kd.C_drewN ?_ _)|(with_reducible refine Kd.C_drew ?_)));(case side2 => exact (Kd.R_reads' HO317.out).2.1);rintro e w9 ⟨rfl,hb⟩;refine ⟨_,rfl,?_⟩;replace HO317:=rB_ HO317 hb;replace BK314:=kB_ BK314 hb;replace HB:=bS_ HB hb;(try clear hb);obtain ⟨hcz10_0,hcz10_1,hcz10_2,hcz10_3,hfz10_0,hfz10_1,hfz10_2,hfz10_3⟩:=k4f_ BK314))
 go_loopg [7,8,33] k (fun kq v7 v8 v33 w' => ∃ (x7_1 : Int) (x8_1 : List (S88)) (x33_1 : Int),v7 = .int .i64 x7_1 ∧ v33 = .int .i64 x33_1 ∧ Aside0 (impl_spotsOf.l0 kq a1 x7_1 x8_1 l0_1 (l0_1.length : Int) x33_1 = some r) ∧ Aside0 (kq ≤ k) ∧ Aside0 (Kd.R k88 88 w' w.heap.size (fun _ => True) v8 x8_1) ∧ Aside0 (w'.heap[gb314]? = some (.cells #[.int .i64 a0_0,(.slice A0_1 l0_1.length c0_1),.string a0_2,.int .i64 a0_3] 93 (0,0))) ∧ Aside0 (Below w.heap.size w w'))
 case atStart => exact ⟨(wrap64 (a0_3 + (t318.size : Int))),(([] : List (S88))),(0),(by first|rfl|(simp;done)|(simp [*];done)),(by first|rfl|(simp;done)|(simp [*];done)),H',⟨Nat.le_refl _⟩,⟨by first|exact Kd.R_nil _ _ _ _ _|exact Kd.N_nil _ _ _ _ _|exact Kd.V_nil _ _ _ _ _|exact Kd.Q_nil _ _ _ _ _|exact Kd.S_nil _ _ _ _ _⟩,⟨kq_ BK314⟩,⟨bq_ HB⟩⟩
 case round =>
  clear H'
  try clear p2
  try clear c5
  try clear p6
  try clear c7
  try clear hcz10_0
  try clear hcz10_1
  try clear hcz10_2
  try clear hcz10_3
  try clear hcz5_0
  try clear hcz5_1
  try clear hcz5_2
  try clear hcz5_3
  try clear hfz10_0
  try clear hfz10_1
  try clear hfz10_2
  try clear hfz10_3
  try clear hfz5_0
  try clear hfz5_1
  try clear hfz5_2
  try clear hfz5_3
  obtain ⟨x7_1,x8_1,x33_1,rfl,rfl,HA,HK1,HO_8,BK314,HB⟩:=hrel
  cases gk with
  | zero => exact absurd HA.out (by simp [impl_spotsOf.l0])
  | succ k1 =>
   have H:=HA.out;clear HA;simp only [impl_spotsOf.l0] at H
   by_cases c11 : x33_1 < (l0_1.length : Int)
   ·rw [if_pos c11] at H;have c11b0 : decide (x33_1 < (l0_1.length : Int)) = true:=de_ c11;clear c11
    by_cases c12 : 0 ≤ x33_1
    ·rw [if_pos c12] at H;have c12b0 : decide (0 ≤ x33_1) = true:=de_ c12;clear c12
     by_cases c13 : x33_1 < (l0_1.length : Int)
     ·rw [if_pos c13] at H;have c13b0 : decide (x33_1 < (l0_1.length : Int)) = true:=de_ c13;clear c13;replace H:=ob_.mp H;obtain ⟨t322,A140,H⟩:=H;(try dsimp only at H);have A14:=A_ A140;clear A140;replace H:=ob_.mp H;obtain ⟨t323,A150,H⟩:=H;(try dsimp only at H);have A15:=A_ A150;clear A150;obtain ⟨bq16,hbq16⟩ : ∃ b_ : Bool,b_ = ((rd_T85 l0_1 x33_1).f2):=⟨_,rfl⟩
      replace H : (if bq16 = true then (if x8_1.length < 3518437208883 then (impl_spotsOf.l0 k1 a1 (wrap64 (x7_1 + (wrap64 ((wrap64 ((t323.size : Int) + 1)) + (t322.size : Int))))) (x8_1 ++ [(⟨(rd_T85 l0_1 x33_1).f0,a1,0,(-1)⟩ : S88)]) l0_1 (l0_1.length : Int) (wrap64 (x33_1 + 1))) else (none)) else (if x8_1.length < 3518437208883 then (impl_spotsOf.l0 k1 a1 (wrap64 (x7_1 + (wrap64 ((wrap64 ((t323.size : Int) + 1)) + (t322.size : Int))))) (x8_1 ++ [(⟨(rd_T85 l0_1 x33_1).f0,a1,wrap64 ((wrap64 (x7_1 + (wrap64 ((wrap64 ((t323.size : Int) + 1)) + (t322.size : Int))))) - (((rd_T85 l0_1 x33_1).f1).size : Int)),(((rd_T85 l0_1 x33_1).f1).size : Int)⟩ : S88)]) l0_1 (l0_1.length : Int) (wrap64 (x33_1 + 1))) else (none))) = some r:=by rw [← hbq16] at H;exact H
      have Nbq16:=A_ hbq16;clear hbq16
      by_cases c17 : bq16 = true
      ·subst c17
       rw [if_pos rfl] at H
       by_cases c18 : x8_1.length < 3518437208883
       ·rw [if_pos c18] at H;have LMc18:=A_ c18;clear c18;obtain ⟨y324,hy324⟩ : ∃ y_ : List (S88),y_ = (x8_1 ++ [(⟨(rd_T85 l0_1 x33_1).f0,a1,0,(-1)⟩ : S88)]):=⟨_,rfl⟩
        replace H : (impl_spotsOf.l0 k1 a1 (wrap64 (x7_1 + (wrap64 ((wrap64 ((t323.size : Int) + 1)) + (t322.size : Int))))) y324 l0_1 (l0_1.length : Int) (wrap64 (x33_1 + 1))) = some r:=by first|(rw [hy324];with_reducible exact H)|(have H2_:=(Option.bind_some _ _).symm.trans H;rw [hy324];with_reducible exact H2_)|(have H2_:=(Option.bind_some _ _).symm.trans H;with_reducible exact H2_)|with_reducible exact H|(rw [hy324];exact H)|exact H
        have Ny324:=A_ hy324;clear hy324;have H':=A_ H;clear H;have p320 : 0 ≤ (x33_1 : Int):=oda_;have q320 : x33_1 < (l0_1.length : Int):=oda_;obtain ⟨ad320,e320,hx320_0,hx320_1,hx320_2⟩:=at_T85 HR0_1.out x33_1 p320 q320
        (try rw [← Nbq16.out] at hx320_2)
        cases e320
        replace hx320_0:=(HB.out.cell (wb_ w _ hx320_0)).trans hx320_0;replace hx320_1:=(HB.out.cell (wb_ w _ hx320_1)).trans hx320_1;replace hx320_2:=(HB.out.cell (wb_ w _ hx320_2)).trans hx320_2;replace p320:=eq_true p320;replace q320:=eq_true q320
        go_wp2_with (first|((with_reducible refine gate_dst (N:=10) rfl ?_);refine bE_ 10 #[.string (⟨#[]⟩ : ByteArray),.string (⟨#[]⟩ : ByteArray),.bool false] 85 ?_;intro gb321 hg w19 hbox hb;replace HO_8:=rB_ HO_8 hb;have BK321:=A_ (hbox);have GW321:=gE_ hg HB;have GE321:=gE_ hg HB;replace HB:=bS_ HB hb;have NB314_321:=nB_ hg BK314;have NB321_314:=nC_ hg BK314;replace BK314:=kB_ BK314 hb;clear hb hbox hg;have hnb20:=NB321_314.out;have hnc20:=NB314_321.out;obtain ⟨hcz21_0,hcz21_1,hcz21_2,hfz21_0,hfz21_1,hfz21_2⟩:=k3f_ BK321)|((with_reducible refine gate_callee (f:=106) rfl ?_);refine gL_ (some 39) Try.func106 #[.string ((rd_T85 l0_1 x33_1).f1)] ?_;(with_reducible refine (impl_short.calls k1 ((rd_T85 l0_1 x33_1).f1) t322 _ A14.out).mono ?_);rintro e w22 ⟨rfl,hb⟩;refine ⟨_,rfl,?_⟩;replace HO_8:=A_ (rb_ (by (with_reducible repeat (first|apply ra_|apply rn_|apply Rd_));exact (rm_ (rf_ (p:=⟨gb321,2,none⟩) (rf_ (p:=⟨gb321,1,none⟩) (rf_ (p:=⟨gb321,0,none⟩) (Kd.R_types HO_8.out BK321.out (by decide)) (fun _ hk => hk.2) (.string ((rd_T85 l0_1 x33_1).f0))) (fun _ hk => hk.2) (.string ((rd_T85 l0_1 x33_1).f1))) (fun _ hk => hk.2) (.bool true)) (fun _ h_ => h_.1))) hb);replace BK314:=A_ (kb_ (g:=gb314) (o:=.cells #[.int .i64 a0_0,.slice (some ad320) l0_1.length c0_1,.string a0_2,.int .i64 a0_3] 93 (0,0)) (kz_ BK314) hb);replace BK321:=A_ (kb_ (g:=gb321) (o:=.cells #[.string ((rd_T85 l0_1 x33_1).f0),.string ((rd_T85 l0_1 x33_1).f1),.bool true] 85 (0,0)) (kz_ BK321) hb);replace HB:=bS_ HB hb;(try clear hb);obtain ⟨hcz23_0,hcz23_1,hcz23_2,hfz23_0,hfz23_1,hfz23_2⟩:=k3f_ BK321)|((with_reducible refine gate_callee (f:=106) rfl ?_);refine gL_ (some 43) Try.func106 #[.string ((rd_T85 l0_1 x33_1).f0)] ?_;(with_reducible refine (impl_short.calls k1 ((rd_T85 l0_1 x33_1).f0) t323 _ A15.out).mono ?_);rintro e w24 ⟨rfl,hb⟩;refine ⟨_,rfl,?_⟩;replace HO_8:=rB_ HO_8 hb;replace BK314:=kB_ BK314 hb;replace BK321:=kB_ BK321 hb;replace HB:=bS_ HB hb;(try clear hb);obtain ⟨hcz25_0,hcz25_1,hcz25_2,hfz25_0,hfz25_1,hfz25_2⟩:=k3f_ BK321)|((with_reducible refine gate_builtin (b:=.append) (xs:=#[.tmp 52,.tmp 57]) rfl ?_);at_builtin;refine Kd.R_append k88 (w0:=w) w.heap.size rfl (.tmp 52) (.tmp 57) 30 88 (.agg #[(.string ⟨#[]⟩),(.int .i64 0),(.int .i64 0),(.int .i64 0)]) 40 rfl Try.underlying30 info88 rfl (by decide) (by omega) u8 x8_1 (⟨(rd_T85 l0_1 x33_1).f0,a1,0,(-1)⟩ : S88) [.string ((rd_T85 l0_1 x33_1).f0),.int .i64 a1,.int .i64 0,.int .i64 (-1)] (fun _ => True) (fun _ => False) rfl rfl ?aP (fun _ hk => hk.elim) ?aF ?aO ?aB ?aS ?aL ?_;(case aP => exact k88_mkM _ _ _ (⟨(rd_T85 l0_1 x33_1).f0,a1,0,(-1)⟩ : S88));(case aB => exact (bq_ HB));(case aF => exact (fun _ _ => trivial));(case aO => exact (rq_ HO_8));(case aS => exact (bz_ (bq_ HB)));(case aL => have:=LMc18.out;omega);intro v325 w26 ho hb hg hat;rw [← Ny324.out] at ho;replace BK314:=kG_ BK314 hg HO_8;replace BK321:=kG_ BK321 hg HO_8;replace HB:=A_ (hb);have HO326:=A_ (ho);clear HO_8;clear ho hb hg hat))
        go_roundg k1
        case measure => have:=HK1.out;omega
        case rel => exact ⟨(wrap64 (x7_1 + (wrap64 ((wrap64 ((t323.size : Int) + 1)) + (t322.size : Int))))),(y324),(wrap64 (x33_1 + 1)),(by first|rfl|(simp;done)|(simp [*];done)),(by first|rfl|(simp;done)|(simp [*];done)),H',⟨by have:=HK1.out;omega⟩,⟨by (with_reducible repeat (first|apply ra_|apply rn_|apply Rd_));exact HO326.out⟩,⟨kq_ BK314⟩,⟨bq_ HB⟩⟩
       ·rw [if_neg c18] at H;exact absurd H (by simp)
      ·replace c17:=Bool.eq_false_iff.mpr c17;subst c17
       have H1 : (if x8_1.length < 3518437208883 then (impl_spotsOf.l0 k1 a1 (wrap64 (x7_1 + (wrap64 ((wrap64 ((t323.size : Int) + 1)) + (t322.size : Int))))) (x8_1 ++ [(⟨(rd_T85 l0_1 x33_1).f0,a1,wrap64 ((wrap64 (x7_1 + (wrap64 ((wrap64 ((t323.size : Int) + 1)) + (t322.size : Int))))) - (((rd_T85 l0_1 x33_1).f1).size : Int)),(((rd_T85 l0_1 x33_1).f1).size : Int)⟩ : S88)]) l0_1 (l0_1.length : Int) (wrap64 (x33_1 + 1))) else (none)) = some r:=by rw [if_neg (show ¬ (false = true) by decide)] at H;exact H
       clear H;have H:=H1;clear H1
       by_cases c27 : x8_1.length < 3518437208883
       ·rw [if_pos c27] at H;have LMc27:=A_ c27;clear c27;obtain ⟨y327,hy327⟩ : ∃ y_ : List (S88),y_ = (x8_1 ++ [(⟨(rd_T85 l0_1 x33_1).f0,a1,wrap64 ((wrap64 (x7_1 + (wrap64 ((wrap64 ((t323.size : Int) + 1)) + (t322.size : Int))))) - (((rd_T85 l0_1 x33_1).f1).size : Int)),(((rd_T85 l0_1 x33_1).f1).size : Int)⟩ : S88)]):=⟨_,rfl⟩
        replace H : (impl_spotsOf.l0 k1 a1 (wrap64 (x7_1 + (wrap64 ((wrap64 ((t323.size : Int) + 1)) + (t322.size : Int))))) y327 l0_1 (l0_1.length : Int) (wrap64 (x33_1 + 1))) = some r:=by first|(rw [hy327];with_reducible exact H)|(have H2_:=(Option.bind_some _ _).symm.trans H;rw [hy327];with_reducible exact H2_)|(have H2_:=(Option.bind_some _ _).symm.trans H;with_reducible exact H2_)|with_reducible exact H|(rw [hy327];exact H)|exact H
        have Ny327:=A_ hy327;clear hy327;have H':=A_ H;clear H;have p320 : 0 ≤ (x33_1 : Int):=oda_;have q320 : x33_1 < (l0_1.length : Int):=oda_;obtain ⟨ad320,e320,hx320_0,hx320_1,hx320_2⟩:=at_T85 HR0_1.out x33_1 p320 q320
        (try rw [← Nbq16.out] at hx320_2)
        cases e320
        replace hx320_0:=(HB.out.cell (wb_ w _ hx320_0)).trans hx320_0;replace hx320_1:=(HB.out.cell (wb_ w _ hx320_1)).trans hx320_1;replace hx320_2:=(HB.out.cell (wb_ w _ hx320_2)).trans hx320_2;replace p320:=eq_true p320;replace q320:=eq_true q320
        go_wp2_with (first|((with_reducible refine gate_dst (N:=10) rfl ?_);refine bE_ 10 #[.string (⟨#[]⟩ : ByteArray),.string (⟨#[]⟩ : ByteArray),.bool false] 85 ?_;intro gb321 hg w28 hbox hb;replace HO_8:=rB_ HO_8 hb;have BK321:=A_ (hbox);have GW321:=gE_ hg HB;have GE321:=gE_ hg HB;replace HB:=bS_ HB hb;have NB314_321:=nB_ hg BK314;have NB321_314:=nC_ hg BK314;replace BK314:=kB_ BK314 hb;clear hb hbox hg;have hnb29:=NB321_314.out;have hnc29:=NB314_321.out;obtain ⟨hcz30_0,hcz30_1,hcz30_2,hfz30_0,hfz30_1,hfz30_2⟩:=k3f_ BK321)|((with_reducible refine gate_callee (f:=106) rfl ?_);refine gL_ (some 39) Try.func106 #[.string ((rd_T85 l0_1 x33_1).f1)] ?_;(with_reducible refine (impl_short.calls k1 ((rd_T85 l0_1 x33_1).f1) t322 _ A14.out).mono ?_);rintro e w31 ⟨rfl,hb⟩;refine ⟨_,rfl,?_⟩;replace HO_8:=A_ (rb_ (by (with_reducible repeat (first|apply ra_|apply rn_|apply Rd_));exact (rm_ (rf_ (p:=⟨gb321,2,none⟩) (rf_ (p:=⟨gb321,1,none⟩) (rf_ (p:=⟨gb321,0,none⟩) (Kd.R_types HO_8.out BK321.out (by decide)) (fun _ hk => hk.2) (.string ((rd_T85 l0_1 x33_1).f0))) (fun _ hk => hk.2) (.string ((rd_T85 l0_1 x33_1).f1))) (fun _ hk => hk.2) (.bool false)) (fun _ h_ => h_.1))) hb);replace BK314:=A_ (kb_ (g:=gb314) (o:=.cells #[.int .i64 a0_0,.slice (some ad320) l0_1.length c0_1,.string a0_2,.int .i64 a0_3] 93 (0,0)) (kz_ BK314) hb);replace BK321:=A_ (kb_ (g:=gb321) (o:=.cells #[.string ((rd_T85 l0_1 x33_1).f0),.string ((rd_T85 l0_1 x33_1).f1),.bool false] 85 (0,0)) (kz_ BK321) hb);replace HB:=bS_ HB hb;(try clear hb);obtain ⟨hcz32_0,hcz32_1,hcz32_2,hfz32_0,hfz32_1,hfz32_2⟩:=k3f_ BK321)|((with_reducible refine gate_callee (f:=106) rfl ?_);refine gL_ (some 43) Try.func106 #[.string ((rd_T85 l0_1 x33_1).f0)] ?_;(with_reducible refine (impl_short.calls k1 ((rd_T85 l0_1 x33_1).f0) t323 _ A15.out).mono ?_);rintro e w33 ⟨rfl,hb⟩;refine ⟨_,rfl,?_⟩;replace HO_8:=rB_ HO_8 hb;replace BK314:=kB_ BK314 hb;replace BK321:=kB_ BK321 hb;replace HB:=bS_ HB hb;(try clear hb);obtain ⟨hcz34_0,hcz34_1,hcz34_2,hfz34_0,hfz34_1,hfz34_2⟩:=k3f_ BK321)|((with_reducible refine gate_builtin (b:=.append) (xs:=#[.tmp 59,.tmp 72]) rfl ?_);at_builtin;refine Kd.R_append k88 (w0:=w) w.heap.size rfl (.tmp 59) (.tmp 72) 30 88 (.agg #[(.string ⟨#[]⟩),(.int .i64 0),(.int .i64 0),(.int .i64 0)]) 40 rfl Try.underlying30 info88 rfl (by decide) (by omega) u8 x8_1 (⟨(rd_T85 l0_1 x33_1).f0,a1,wrap64 ((wrap64 (x7_1 + (wrap64 ((wrap64 ((t323.size : Int) + 1)) + (t322.size : Int))))) - (((rd_T85 l0_1 x33_1).f1).size : Int)),(((rd_T85 l0_1 x33_1).f1).size : Int)⟩ : S88) [.string ((rd_T85 l0_1 x33_1).f0),.int .i64 a1,.int .i64 (wrap64 ((wrap64 (x7_1 + (wrap64 ((wrap64 ((t323.size : Int) + 1)) + (t322.size : Int))))) - (((rd_T85 l0_1 x33_1).f1).size : Int))),.int .i64 (((rd_T85 l0_1 x33_1).f1).size : Int)] (fun _ => True) (fun _ => False) rfl rfl ?aP (fun _ hk => hk.elim) ?aF ?aO ?aB ?aS ?aL ?_;(case aP => exact k88_mkM _ _ _ (⟨(rd_T85 l0_1 x33_1).f0,a1,wrap64 ((wrap64 (x7_1 + (wrap64 ((wrap64 ((t323.size : Int) + 1)) + (t322.size : Int))))) - (((rd_T85 l0_1 x33_1).f1).size : Int)),(((rd_T85 l0_1 x33_1).f1).size : Int)⟩ : S88));(case aB => exact (bq_ HB));(case aF => exact (fun _ _ => trivial));(case aO => exact (rq_ HO_8));(case aS => exact (bz_ (bq_ HB)));(case aL => have:=LMc27.out;omega);intro v328 w35 ho hb hg hat;rw [← Ny327.out] at ho;replace BK314:=kG_ BK314 hg HO_8;replace BK321:=kG_ BK321 hg HO_8;replace HB:=A_ (hb);have HO329:=A_ (ho);clear HO_8;clear ho hb hg hat))
        go_roundg k1
        case measure => have:=HK1.out;omega
        case rel => exact ⟨(wrap64 (x7_1 + (wrap64 ((wrap64 ((t323.size : Int) + 1)) + (t322.size : Int))))),(y327),(wrap64 (x33_1 + 1)),(by first|rfl|(simp;done)|(simp [*];done)),(by first|rfl|(simp;done)|(simp [*];done)),H',⟨by have:=HK1.out;omega⟩,⟨by (with_reducible repeat (first|apply ra_|apply rn_|apply Rd_));exact HO329.out⟩,⟨kq_ BK314⟩,⟨bq_ HB⟩⟩
       ·rw [if_neg c27] at H;exact absurd H (by simp)
     ·rw [if_neg c13] at H;exact absurd H (by simp)
    ·rw [if_neg c12] at H;exact absurd H (by simp)
   ·rw [if_neg c11] at H;have c11b0 : decide (x33_1 < (l0_1.length : Int)) = false:=decide_eq_false c11;clear c11;obtain rfl:=Option.some.inj H;go_wp2;go_ret;exact ⟨_,by first|rfl|(simp [*,errW_none,errW_some] <;> rfl),by (with_reducible repeat (first|apply ra_|apply rn_|apply Rd_));exact HO_8.out,bq_ HB⟩
def impl_ScanSeg.l0 : Nat → Int → List (S88) → List ByteArray → Int → List (S93) → Int → Int → Option ((List (S88)) × List ByteArray × Int)
 | 0,_,_,_,_,_,_,_ => none
 | k + 1,x1,x9,x10,x11,x19,x20,x21 => if x21 < x20 then (if 0 ≤ x21 then (if x21 < (x19.length : Int) then ((impl_spotsOf.f k ((rd_T93 x19 x21).f0.f0) ((rd_T93 x19 x21).f0.f1) ((rd_T93 x19 x21).f1) ((rd_T93 x19 x21).f2) x1).bind fun t336 => (if x9.length + t336.length < 3518437208883 then (if x10.length < 8796093022208 then (impl_ScanSeg.l0 k x1 (x9 ++ t336) (x10 ++ [(rd_T93 x19 x21).f1]) (mx x11 ((rd_T93 x19 x21).f0.f0)) x19 x20 (wrap64 (x21 + 1))) else (none)) else (none))) else (none)) else (none)) else (some (x9,x10,x11))
def impl_ScanSeg.f (k : Nat) (a0 : ByteArray) (a1 : Int) : Option ((List (S88)) × List ByteArray × Int) := (impl_batchesOf.f k a0).bind fun bt330 => (impl_ScanSeg.l0 k a1 ([] : List (S88)) ([] : List ByteArray) (-1) bt330.1 (bt330.1.length : Int) 0)
theorem impl_ScanSeg.mono_l : ∀ k, (∀ y0 y1 y2 y3 y4 y5 y6, LeO (impl_ScanSeg.l0 k y0 y1 y2 y3 y4 y5 y6) (impl_ScanSeg.l0 (k + 1) y0 y1 y2 y3 y4 y5 y6))
 | 0 => fun _ _ _ _ _ _ _ r h => by simp [impl_ScanSeg.l0] at h
 | k + 1 => by
  have ih0:=impl_ScanSeg.mono_l k
  ·intro y0 y1 y2 y3 y4 y5 y6
   unfold impl_ScanSeg.l0
   repeat' first
   | (with_reducible exact ih0 _ _ _ _ _ _ _)
   | (with_reducible exact impl_batchesOf.mono _ _)
   | (with_reducible exact impl_spotsOf.mono _ _ _ _ _ _)
   | (with_reducible exact LeO.refl _)
   | (with_reducible exact LeO.none _)
   | (with_reducible refine LeO.ite ?_ ?_)
   | (with_reducible refine LeO.bind ?_ (fun _ => ?_))
theorem impl_ScanSeg.mono : ∀ a0 a1 k, LeO (impl_ScanSeg.f k a0 a1) (impl_ScanSeg.f (k + 1) a0 a1) := by
 intro a0 a1 k;have ih0:=impl_ScanSeg.mono_l k
 unfold impl_ScanSeg.f
 repeat' first
   | (with_reducible exact ih0 _ _ _ _ _ _ _)
   | (with_reducible exact impl_batchesOf.mono _ _)
   | (with_reducible exact impl_spotsOf.mono _ _ _ _ _ _)
   | (with_reducible exact LeO.refl _)
   | (with_reducible exact LeO.none _)
   | (with_reducible refine LeO.ite ?_ ?_)
   | (with_reducible refine LeO.bind ?_ (fun _ => ?_))
set_option maxHeartbeats 8000000 in
set_option maxRecDepth 100000 in
theorem impl_ScanSeg.calls (k : Nat) (a0 : ByteArray) (a1 : Int) (r1 : List (S88)) (r2 : List ByteArray) (r3 : Int) (w : World) (h : impl_ScanSeg.f k a0 a1 = some (r1, r2, r3)) :
  Calls Try.prog 14 #[.string a0,.int .i64 a1] w fun e w' => ∃ v0_ v1_ : Value,e = .returned (.tuple #[v0_,v1_,.int .i64 r3]) ∧ Kd.R k88 88 w' w.heap.size (fun _ => True) v0_ r1 ∧ Kd.R Kd.string 9 w' w.heap.size (fun _ => True) v1_ r2 ∧ Below w.heap.size w w':=by
 have hu93:=Try.underlying93;have HB:=A_ (Below.refl w.heap.size w);unfold impl_ScanSeg.f at h;have H:=h;clear h;replace H:=ob_.mp H;obtain ⟨⟨t330,t331⟩,A30,H⟩:=H;(try dsimp only at H);have A3:=A_ A30;clear A30;have H':=A_ H;clear H;go_enter Try.func14,Try.ntmps14
 go_wp2_with (first|((with_reducible refine gate_callee (f:=56) rfl ?_);refine gL_ (some 16) Try.func56 #[.string a0] ?_;(with_reducible refine (impl_batchesOf.calls k a0 t330 t331 _ A3.out).mono ?_);rintro e w4 ⟨v332,rfl,ho0,hb⟩;refine ⟨_,rfl,?_⟩;have HO333:=A_ (Kd.S_lower ho0 (bz_ (bq_ HB)));replace HB:=bS_ HB hb;(try clear hb);(try clear ho0);obtain ⟨Ao5,co5,eo5⟩:=Kd.S_slice HO333.out;subst eo5))
 go_loopg [9,10,11,21] k (fun kq v9 v10 v11 v21 w' => ∃ (x9_1 : List (S88)) (x10_1 : List ByteArray) (x11_1 : Int) (x21_1 : Int),v11 = .int .i64 x11_1 ∧ v21 = .int .i64 x21_1 ∧ Aside0 (impl_ScanSeg.l0 kq a1 x9_1 x10_1 x11_1 t330 (t330.length : Int) x21_1 = some (r1,r2,r3)) ∧ Aside0 (kq ≤ k) ∧ Aside0 (Kd.R k88 88 w' w.heap.size (fun _ => True) v9 x9_1) ∧ Aside0 (Kd.R Kd.string 9 w' w.heap.size (fun _ => True) v10 x10_1) ∧ Aside0 (Kd.S k93 93 w' w.heap.size (fun _ => True) (.slice Ao5 t330.length co5) t330) ∧ Aside0 (Below w.heap.size w w'))
 case atStart => exact ⟨(([] : List (S88))),(([] : List ByteArray)),((-1)),(0),(by first|rfl|(simp;done)|(simp [*];done)),(by first|rfl|(simp;done)|(simp [*];done)),H',⟨Nat.le_refl _⟩,⟨by first|exact Kd.R_nil _ _ _ _ _|exact Kd.N_nil _ _ _ _ _|exact Kd.V_nil _ _ _ _ _|exact Kd.Q_nil _ _ _ _ _|exact Kd.S_nil _ _ _ _ _⟩,⟨by first|exact Kd.R_nil _ _ _ _ _|exact Kd.N_nil _ _ _ _ _|exact Kd.V_nil _ _ _ _ _|exact Kd.Q_nil _ _ _ _ _|exact Kd.S_nil _ _ _ _ _⟩,⟨by (with_reducible repeat (first|apply Kd.S_alloc|apply Kd.S_drewN|apply Kd.S_drew));exact HO333.out⟩,⟨bq_ HB⟩⟩
 case round =>
  clear H'
  try clear c1
  try clear p2
  try clear c5
  obtain ⟨x9_1,x10_1,x11_1,x21_1,rfl,rfl,HA,HK1,HO_9,HO_10,HO_19,HB⟩:=hrel
  cases gk with
  | zero => exact absurd HA.out (by simp [impl_ScanSeg.l0])
  | succ k1 =>
   have H:=HA.out;clear HA;simp only [impl_ScanSeg.l0] at H
   by_cases c6 : x21_1 < (t330.length : Int)
   ·rw [if_pos c6] at H;have c6b0 : decide (x21_1 < (t330.length : Int)) = true:=de_ c6;clear c6
    by_cases c7 : 0 ≤ x21_1
    ·rw [if_pos c7] at H;have c7b0 : decide (0 ≤ x21_1) = true:=de_ c7;clear c7
     by_cases c8 : x21_1 < (t330.length : Int)
     ·rw [if_pos c8] at H;have c8b0 : decide (x21_1 < (t330.length : Int)) = true:=de_ c8;clear c8;replace H:=ob_.mp H;obtain ⟨t336,A90,H⟩:=H;(try dsimp only at H);have A9:=A_ A90;clear A90
      by_cases c10 : x9_1.length + t336.length < 3518437208883
      ·rw [if_pos c10] at H;have LMc10:=A_ c10;clear c10;obtain ⟨y339,hy339⟩ : ∃ y_ : List (S88),y_ = (x9_1 ++ t336):=⟨_,rfl⟩
       replace H : (if x10_1.length < 8796093022208 then (impl_ScanSeg.l0 k1 a1 y339 (x10_1 ++ [(rd_T93 t330 x21_1).f1]) (mx x11_1 ((rd_T93 t330 x21_1).f0.f0)) t330 (t330.length : Int) (wrap64 (x21_1 + 1))) else (none)) = some (r1,r2,r3):=by first|(rw [hy339];with_reducible exact H)|(have H2_:=(Option.bind_some _ _).symm.trans H;rw [hy339];with_reducible exact H2_)|(have H2_:=(Option.bind_some _ _).symm.trans H;with_reducible exact H2_)|with_reducible exact H|(rw [hy339];exact H)|exact H
       have Ny339:=A_ hy339;clear hy339
       by_cases c11 : x10_1.length < 8796093022208
       ·rw [if_pos c11] at H;have LMc11:=A_ c11;clear c11;obtain ⟨y342,hy342⟩ : ∃ y_ : List ByteArray,y_ = (x10_1 ++ [(rd_T93 t330 x21_1).f1]):=⟨_,rfl⟩
        replace H : (impl_ScanSeg.l0 k1 a1 y339 y342 (mx x11_1 ((rd_T93 t330 x21_1).f0.f0)) t330 (t330.length : Int) (wrap64 (x21_1 + 1))) = some (r1,r2,r3):=by first|(rw [hy342];with_reducible exact H)|(have H2_:=(Option.bind_some _ _).symm.trans H;rw [hy342];with_reducible exact H2_)|(have H2_:=(Option.bind_some _ _).symm.trans H;with_reducible exact H2_)|with_reducible exact H|(rw [hy342];exact H)|exact H
        have Ny342:=A_ hy342;clear hy342;obtain ⟨ji12,hji12⟩ : ∃ j_ : Int,(mx x11_1 ((rd_T93 t330 x21_1).f0.f0)) = j_:=⟨_,rfl⟩
        replace H : (impl_ScanSeg.l0 k1 a1 y339 y342 ji12 t330 (t330.length : Int) (wrap64 (x21_1 + 1))) = some (r1,r2,r3):=by first|(rw [hji12] at H;exact H)|(simp only [hji12] at H ⊢;exact H)
        (try rw [hji12] at A9)
        have hji12_ : (if x11_1 < ((rd_T93 t330 x21_1).f0.f0) then ((rd_T93 t330 x21_1).f0.f0) else x11_1) = ji12:=hji12;have H':=A_ H;clear H;have p334 : 0 ≤ (x21_1 : Int):=oda_;have q334 : x21_1 < (t330.length : Int):=oda_;obtain ⟨ad334,A334_1,c334_1,e334,hx334_0,hx334_1,hx334_2,hx334_3,hl334_1,hi334_1⟩:=at_T93 (Kd.S_reads' HO_19.out).2.2 x21_1 p334 q334
        cases e334
        obtain ⟨ce334,hce334,hMe334,hcc334⟩:=Kd.S_get HO_19.out z93 x21_1 p334 (by first|exact q334|exact oda_|(have e_:=(Kd.S_reads' HO_19.out).1;omega));obtain ⟨ve334_1,rfl,ge334_1⟩:=k93_openM hMe334;have hv334_1:=hcc334 1 _ rfl;rw [add_field _ _ 1 (by omega)] at hv334_1;replace hv334_1:=Option.some.inj (hv334_1.symm.trans hx334_1);rw [hv334_1] at ge334_1;have HL334_1:=A_ (show Kd.R k85 85 _ _ _ _ ((rd_T93 t330 x21_1).f0.f1) from ge334_1);clear hv334_1 ge334_1;clear hcc334 hce334;have HR334_1:=A_ hi334_1;have HC334_1:=A_ hl334_1;clear hi334_1 hl334_1;replace p334:=eq_true p334;replace q334:=eq_true q334
        go_wp2_with (first|((with_reducible refine gate_dst (N:=13) rfl ?_);refine bE_ 13 #[.int .i64 0,.slice none 0 0,.string (⟨#[]⟩ : ByteArray),.int .i64 0] 93 ?_;intro gb335 hg w13 hbox hb;replace HO_9:=rB_ HO_9 hb;replace HO_10:=rB_ HO_10 hb;replace HO_19:=A_ (Kd.S_below (Kd.S_elderB (by (with_reducible repeat (first|apply Kd.S_alloc|apply Kd.S_drewN|apply Kd.S_drew));exact HO_19.out) gb335 (Nat.le_of_eq hg.symm)) hb);replace HL334_1:=A_ (rb_ (rq_ HL334_1) hb);replace HR334_1:=A_ (Kd.C_below (by repeat (first|(with_reducible exact HR334_1.out)|(with_reducible refine Kd.C_alloc ?_ _)|(with_reducible refine Kd.C_drewN ?_ _)|(with_reducible refine Kd.C_drew ?_)|exact HR334_1.out)) hb);have BK335:=A_ (hbox);have GW335:=gE_ hg HB;have GE335:=gE_ hg HB;replace HB:=bS_ HB hb;clear hb hbox hg;obtain ⟨hcz14_0,hcz14_1,hcz14_2,hcz14_3,hfz14_0,hfz14_1,hfz14_2,hfz14_3⟩:=k4f_ BK335)|((with_reducible refine gate_callee (f:=57) rfl ?_);refine gL_ (some 28) Try.func57 #[.agg #[.int .i64 ((rd_T93 t330 x21_1).f0.f0),.slice A334_1 ((rd_T93 t330 x21_1).f0.f1).length c334_1,.string ((rd_T93 t330 x21_1).f1),.int .i64 ((rd_T93 t330 x21_1).f2)],.int .i64 a1] ?_;(with_reducible refine (impl_spotsOf.calls k1 ((rd_T93 t330 x21_1).f0.f0) _ _ ((rd_T93 t330 x21_1).f0.f1) ((rd_T93 t330 x21_1).f1) ((rd_T93 t330 x21_1).f2) a1 t336 _ ?side1 ?side2 A9.out).mono ?_);(case side1 => repeat (first|exact ((Kd.R_reads' (by (with_reducible repeat (first|apply ra_|apply rn_|apply Rd_));exact (rm_ (rf_ (p:=⟨gb335,3,none⟩) (rf_ (p:=⟨gb335,2,none⟩) (rf_ (p:=⟨gb335,1,none⟩) (rf_ (p:=⟨gb335,0,none⟩) (Kd.R_types HL334_1.out BK335.out (by decide)) (fun _ hk => hk.2) (.int .i64 ((rd_T93 t330 x21_1).f0.f0))) (fun _ hk => hk.2) (.slice A334_1 ((rd_T93 t330 x21_1).f0.f1).length c334_1)) (fun _ hk => hk.2) (.string ((rd_T93 t330 x21_1).f1))) (fun _ hk => hk.2) (.int .i64 ((rd_T93 t330 x21_1).f2))) (fun _ h_ => h_.1)))).2.2)|(with_reducible refine Kd.C_alloc ?_ _)|(with_reducible refine Kd.C_drewN ?_ _)|(with_reducible refine Kd.C_drew ?_)));(case side2 => exact HC334_1.out);rintro e w15 ⟨v337,rfl,ho0,hb⟩;refine ⟨_,rfl,?_⟩;replace HO_10:=A_ (rb_ (by (with_reducible repeat (first|apply ra_|apply rn_|apply Rd_));exact (rm_ (rf_ (p:=⟨gb335,3,none⟩) (rf_ (p:=⟨gb335,2,none⟩) (rf_ (p:=⟨gb335,1,none⟩) (rf_ (p:=⟨gb335,0,none⟩) (Kd.R_types HO_10.out BK335.out (by decide)) (fun _ hk => hk.2) (.int .i64 ((rd_T93 t330 x21_1).f0.f0))) (fun _ hk => hk.2) (.slice A334_1 ((rd_T93 t330 x21_1).f0.f1).length c334_1)) (fun _ hk => hk.2) (.string ((rd_T93 t330 x21_1).f1))) (fun _ hk => hk.2) (.int .i64 ((rd_T93 t330 x21_1).f2))) (fun _ h_ => h_.1))) hb);replace HO_19:=A_ (Kd.S_below (by (with_reducible repeat (first|apply Kd.S_alloc|apply Kd.S_drewN|apply Kd.S_drew));exact (Kd.S_mono (Kd.S_far (p:=⟨gb335,3,none⟩) (Kd.S_far (p:=⟨gb335,2,none⟩) (Kd.S_far (p:=⟨gb335,1,none⟩) (Kd.S_far (p:=⟨gb335,0,none⟩) (Kd.S_mono HO_19.out (fun k_ hk => (⟨hk,hk.2⟩ : _ ∧ k_ ≠ gb335))) (fun _ hk => hk.2) (.int .i64 ((rd_T93 t330 x21_1).f0.f0))) (fun _ hk => hk.2) (.slice A334_1 ((rd_T93 t330 x21_1).f0.f1).length c334_1)) (fun _ hk => hk.2) (.string ((rd_T93 t330 x21_1).f1))) (fun _ hk => hk.2) (.int .i64 ((rd_T93 t330 x21_1).f2))) (fun _ h_ => h_.1))) hb);have HO338:=A_ (rw_ (Kd.R_new' ho0 (Kd.R_lt (by (with_reducible repeat (first|apply ra_|apply rn_|apply Rd_));exact (rm_ (rf_ (p:=⟨gb335,3,none⟩) (rf_ (p:=⟨gb335,2,none⟩) (rf_ (p:=⟨gb335,1,none⟩) (rf_ (p:=⟨gb335,0,none⟩) (Kd.R_types HO_9.out BK335.out (by decide)) (fun _ hk => hk.2) (.int .i64 ((rd_T93 t330 x21_1).f0.f0))) (fun _ hk => hk.2) (.slice A334_1 ((rd_T93 t330 x21_1).f0.f1).length c334_1)) (fun _ hk => hk.2) (.string ((rd_T93 t330 x21_1).f1))) (fun _ hk => hk.2) (.int .i64 ((rd_T93 t330 x21_1).f2))) (fun _ h_ => h_.1))))) (bz_ (bq_ HB)));replace HO_9:=A_ (Kd.R_elder' (by (with_reducible repeat (first|apply ra_|apply rn_|apply Rd_));exact (rm_ (rf_ (p:=⟨gb335,3,none⟩) (rf_ (p:=⟨gb335,2,none⟩) (rf_ (p:=⟨gb335,1,none⟩) (rf_ (p:=⟨gb335,0,none⟩) (Kd.R_types HO_9.out BK335.out (by decide)) (fun _ hk => hk.2) (.int .i64 ((rd_T93 t330 x21_1).f0.f0))) (fun _ hk => hk.2) (.slice A334_1 ((rd_T93 t330 x21_1).f0.f1).length c334_1)) (fun _ hk => hk.2) (.string ((rd_T93 t330 x21_1).f1))) (fun _ hk => hk.2) (.int .i64 ((rd_T93 t330 x21_1).f2))) (fun _ h_ => h_.1))) (Kd.R_base ho0) hb);replace HR334_1:=A_ (Kd.C_below ((Kd.R_reads' (by (with_reducible repeat (first|apply ra_|apply rn_|apply Rd_));exact (rm_ (rf_ (p:=⟨gb335,3,none⟩) (rf_ (p:=⟨gb335,2,none⟩) (rf_ (p:=⟨gb335,1,none⟩) (rf_ (p:=⟨gb335,0,none⟩) (Kd.R_types HL334_1.out BK335.out (by decide)) (fun _ hk => hk.2) (.int .i64 ((rd_T93 t330 x21_1).f0.f0))) (fun _ hk => hk.2) (.slice A334_1 ((rd_T93 t330 x21_1).f0.f1).length c334_1)) (fun _ hk => hk.2) (.string ((rd_T93 t330 x21_1).f1))) (fun _ hk => hk.2) (.int .i64 ((rd_T93 t330 x21_1).f2))) (fun _ h_ => h_.1)))).2.2) hb);replace HL334_1:=A_ (rb_ (by (with_reducible repeat (first|apply ra_|apply rn_|apply Rd_));exact (rm_ (rf_ (p:=⟨gb335,3,none⟩) (rf_ (p:=⟨gb335,2,none⟩) (rf_ (p:=⟨gb335,1,none⟩) (rf_ (p:=⟨gb335,0,none⟩) (Kd.R_types HL334_1.out BK335.out (by decide)) (fun _ hk => hk.2) (.int .i64 ((rd_T93 t330 x21_1).f0.f0))) (fun _ hk => hk.2) (.slice A334_1 ((rd_T93 t330 x21_1).f0.f1).length c334_1)) (fun _ hk => hk.2) (.string ((rd_T93 t330 x21_1).f1))) (fun _ hk => hk.2) (.int .i64 ((rd_T93 t330 x21_1).f2))) (fun _ h_ => h_.1))) hb);replace BK335:=A_ (kb_ (g:=gb335) (o:=.cells #[.int .i64 ((rd_T93 t330 x21_1).f0.f0),.slice A334_1 ((rd_T93 t330 x21_1).f0.f1).length c334_1,.string ((rd_T93 t330 x21_1).f1),.int .i64 ((rd_T93 t330 x21_1).f2)] 93 (0,0)) (kz_ BK335) hb);replace HB:=bS_ HB hb;(try clear hb);(try clear ho0);obtain ⟨Ao17,co17,eo17⟩:=Kd.R_slice HO338.out;subst eo17)|((with_reducible refine gate_builtin (b:=.append) (xs:=#[.tmp 25,.tmp 28]) rfl ?_);at_builtin;refine Kd.R_append_rows k88 (w0:=w) w.heap.size rfl (.tmp 25) (.tmp 28) 30 88 (.agg #[(.string ⟨#[]⟩),(.int .i64 0),(.int .i64 0),(.int .i64 0)]) 40 rfl Try.underlying30 info88 rfl (by decide) (by omega) u9 x9_1 t336 _ _ _ (fun k_ => some k_ ≠ (.slice Ao17 t336.length co17 : Value).ownBlock) (fun _ => False) rfl rfl ?aO ?aR (fun _ _ h => h) (fun _ h => h.elim) ?aF ?aB ?aS ?aL ?_;(case aR => repeat (first|exact (Kd.R_reads' HO338.out).2.2|(with_reducible refine Kd.C_alloc ?_ _)|(with_reducible refine Kd.C_drewN ?_ _)|(with_reducible refine Kd.C_drew ?_)));(case aB => exact (bq_ HB));(case aF => exact (fun k_ hk => Kd.fresh' (Kd.R_lt (rq_ HO338)) k_ hk));(case aO => exact (by (with_reducible repeat (first|apply ra_|apply rn_|apply Rd_));exact rm_ HO_9.out (fun _ hk => hk.2)));(case aS => exact (bz_ (bq_ HB)));(case aL => have:=LMc10.out;omega);intro v340 w16 ho hb hg hat;rw [← Ny339.out] at ho;replace HO_10:=A_ (ro_ (rq_ HO_10) (ry_ (rq_ HO_9)) (by decide) hg);replace HO_19:=A_ (Kd.S_over' (by (with_reducible repeat (first|apply Kd.S_alloc|apply Kd.S_drewN|apply Kd.S_drew));exact HO_19.out) (ry_ (rq_ HO_9)) (by decide) hg);replace HL334_1:=A_ (ro_ (rq_ HL334_1) (ry_ (rq_ HO_9)) (by decide) hg);replace BK335:=kG_ BK335 hg HO_9;replace HO338:=A_ (rt_ (ok:=(fun _ => True)) (rq_ HO338) hg hat);replace HB:=A_ (hb);have HO341:=A_ (ho);clear HO_9;clear ho hb hg hat;obtain ⟨hcz18_0,hcz18_1,hcz18_2,hcz18_3,hfz18_0,hfz18_1,hfz18_2,hfz18_3⟩:=k4f_ BK335)|((with_reducible refine gate_builtin (b:=.append) (xs:=#[.tmp 30,.tmp 33]) rfl ?_);at_builtin;refine Kd.R_append Kd.string (w0:=w) w.heap.size rfl (.tmp 30) (.tmp 33) 31 9 (.string ⟨#[]⟩) 16 rfl Try.underlying31 info9 rfl (by decide) (by omega) u10 x10_1 ((rd_T93 t330 x21_1).f1) [.string ((rd_T93 t330 x21_1).f1)] (fun _ => True) (fun _ => False) rfl rfl ?aP (fun _ hk => hk.elim) ?aF ?aO ?aB ?aS ?aL ?_;(case aP => exact rfl);(case aB => exact (bq_ HB));(case aF => exact (fun _ _ => trivial));(case aO => exact (rq_ HO_10));(case aS => exact (bz_ (bq_ HB)));(case aL => have:=LMc11.out;omega);intro v343 w19 ho hb hg hat;rw [← Ny342.out] at ho;replace HO_19:=A_ (Kd.S_over' (by (with_reducible repeat (first|apply Kd.S_alloc|apply Kd.S_drewN|apply Kd.S_drew));exact HO_19.out) (ry_ (rq_ HO_10)) (by decide) hg);replace HL334_1:=A_ (ro_ (rq_ HL334_1) (ry_ (rq_ HO_10)) (by decide) hg);replace BK335:=kG_ BK335 hg HO_10;replace HO338:=A_ (ro_ (rq_ HO338) (ry_ (rq_ HO_10)) (by decide) hg);replace HO341:=A_ (ro_ (rq_ HO341) (ry_ (rq_ HO_10)) (by decide) hg);replace HB:=A_ (hb);have HO344:=A_ (ho);clear HO_10;clear ho hb hg hat;obtain ⟨hcz20_0,hcz20_1,hcz20_2,hcz20_3,hfz20_0,hfz20_1,hfz20_2,hfz20_3⟩:=k4f_ BK335))
        go_roundg k1
        case measure => have:=HK1.out;omega
        case rel => exact ⟨(y339),(y342),(ji12),(wrap64 (x21_1 + 1)),(by first|rfl|(simp;done)|(simp only [← hji12] <;> (first|rfl|simp))|(simp [*];done)),(by first|rfl|(simp;done)|(simp [*];done)),H',⟨by have:=HK1.out;omega⟩,⟨by (with_reducible repeat (first|apply ra_|apply rn_|apply Rd_));exact rm_ HO341.out (fun _ hk => trivial)⟩,⟨by (with_reducible repeat (first|apply ra_|apply rn_|apply Rd_));exact HO344.out⟩,⟨by (with_reducible repeat (first|apply Kd.S_alloc|apply Kd.S_drewN|apply Kd.S_drew));exact Kd.S_mono HO_19.out (fun _ hk => trivial)⟩,⟨bq_ HB⟩⟩
       ·rw [if_neg c11] at H;exact absurd H (by simp)
      ·rw [if_neg c10] at H;exact absurd H (by simp)
     ·rw [if_neg c8] at H;exact absurd H (by simp)
    ·rw [if_neg c7] at H;exact absurd H (by simp)
   ·rw [if_neg c6] at H;have c6b0 : decide (x21_1 < (t330.length : Int)) = false:=decide_eq_false c6;clear c6;simp only [Option.some.injEq,Prod.mk.injEq] at H;obtain ⟨rfl,rfl,rfl⟩:=H;go_wp2;go_ret3;exact ⟨_,_,by first|rfl|(simp [*,errW_none,errW_some] <;> rfl),by (with_reducible repeat (first|apply ra_|apply rn_|apply Rd_));exact HO_9.out,by (with_reducible repeat (first|apply ra_|apply rn_|apply Rd_));exact HO_10.out,bq_ HB⟩
def laws_eqSpot.f (a0_0 : ByteArray) (a0_1 : Int) (a0_2 : Int) (a0_3 : Int) (a1_0 : ByteArray) (a1_1 : Int) (a1_2 : Int) (a1_3 : Int) : Option (Bool) := if a0_0.toList = a1_0.toList then (if a0_1 = a1_1 then (if a0_2 = a1_2 then (if a0_3 = a1_3 then (some true) else (some false)) else (some false)) else (some false)) else (some false)
set_option maxHeartbeats 8000000 in
set_option maxRecDepth 100000 in
theorem laws_eqSpot.calls (a0_0 : ByteArray) (a0_1 : Int) (a0_2 : Int) (a0_3 : Int) (a1_0 : ByteArray) (a1_1 : Int) (a1_2 : Int) (a1_3 : Int) (r : Bool) (w : World) (h : laws_eqSpot.f a0_0 a0_1 a0_2 a0_3 a1_0 a1_1 a1_2 a1_3 = some r) :
  Calls Try.prog 58 #[.agg #[.string a0_0,.int .i64 a0_1,.int .i64 a0_2,.int .i64 a0_3],.agg #[.string a1_0,.int .i64 a1_1,.int .i64 a1_2,.int .i64 a1_3]] w fun e w' => e = .returned (.bool r) ∧ Below w.heap.size w w':=by
 have hu88:=Try.underlying88;have HB:=A_ (Below.refl w.heap.size w);unfold laws_eqSpot.f at h;have H:=h;clear h
 by_cases c3 : a0_0.toList = a1_0.toList
 ·rw [if_pos c3] at H;have c3b0 : (a0_0.toList == a1_0.toList) = true:=beq_iff_eq.mpr c3;have c3b1 : (a0_0.toList != a1_0.toList) = false:=bne_eq_false_iff_eq.mpr c3;clear c3
  by_cases c4 : a0_1 = a1_1
  ·rw [if_pos c4] at H;have c4b0 : (a0_1 == a1_1) = true:=beq_iff_eq.mpr c4;have c4b1 : (a0_1 != a1_1) = false:=bne_eq_false_iff_eq.mpr c4;clear c4
   by_cases c5 : a0_2 = a1_2
   ·rw [if_pos c5] at H;have c5b0 : (a0_2 == a1_2) = true:=beq_iff_eq.mpr c5;have c5b1 : (a0_2 != a1_2) = false:=bne_eq_false_iff_eq.mpr c5;clear c5
    by_cases c6 : a0_3 = a1_3
    ·rw [if_pos c6] at H;have c6b0 : (a0_3 == a1_3) = true:=beq_iff_eq.mpr c6;have c6b1 : (a0_3 != a1_3) = false:=bne_eq_false_iff_eq.mpr c6;clear c6;obtain rfl:=Option.some.inj H;go_enter Try.func58,Try.ntmps58
     go_wp2_with (first|((with_reducible refine gate_dst (N:=2) rfl ?_);refine bE_ 2 #[.string a0_0,.int .i64 a0_1,.int .i64 a0_2,.int .i64 a0_3] 88 ?_;intro gb345 hg w7 hbox hb;have BK345:=A_ (hbox);have GW345:=gE_ hg HB;have GE345:=gE_ hg HB;replace HB:=bS_ HB hb;clear hb hbox hg)|((with_reducible refine gate_dst (N:=3) rfl ?_);refine bE_ 3 #[.string a1_0,.int .i64 a1_1,.int .i64 a1_2,.int .i64 a1_3] 88 ?_;intro gb346 hg w8 hbox hb;have BK346:=A_ (hbox);have GW346:=gE_ hg HB;have GE346:=gE_ hg HB;replace HB:=bS_ HB hb;have NB345_346:=nB_ hg BK345;have NB346_345:=nC_ hg BK345;replace BK345:=kB_ BK345 hb;clear hb hbox hg;have hnb9:=NB345_346.out;have hnc9:=NB346_345.out;obtain ⟨hcz10_0,hcz10_1,hcz10_2,hcz10_3,hfz10_0,hfz10_1,hfz10_2,hfz10_3⟩:=k4f_ BK345;obtain ⟨hcz11_0,hcz11_1,hcz11_2,hcz11_3,hfz11_0,hfz11_1,hfz11_2,hfz11_3⟩:=k4f_ BK346))
     go_ret;exact ⟨ex_,bq_ HB⟩
    ·rw [if_neg c6] at H;have c6b0 : (a0_3 == a1_3) = false:=beq_eq_false_iff_ne.mpr c6;have c6b1 : (a0_3 != a1_3) = true:=bne_iff_ne.mpr c6;obtain rfl:=Option.some.inj H;go_enter Try.func58,Try.ntmps58
     go_wp2_with (first|((with_reducible refine gate_dst (N:=2) rfl ?_);refine bE_ 2 #[.string a0_0,.int .i64 a0_1,.int .i64 a0_2,.int .i64 a0_3] 88 ?_;intro gb345 hg w12 hbox hb;have BK345:=A_ (hbox);have GW345:=gE_ hg HB;have GE345:=gE_ hg HB;replace HB:=bS_ HB hb;clear hb hbox hg)|((with_reducible refine gate_dst (N:=3) rfl ?_);refine bE_ 3 #[.string a1_0,.int .i64 a1_1,.int .i64 a1_2,.int .i64 a1_3] 88 ?_;intro gb346 hg w13 hbox hb;have BK346:=A_ (hbox);have GW346:=gE_ hg HB;have GE346:=gE_ hg HB;replace HB:=bS_ HB hb;have NB345_346:=nB_ hg BK345;have NB346_345:=nC_ hg BK345;replace BK345:=kB_ BK345 hb;clear hb hbox hg;have hnb14:=NB345_346.out;have hnc14:=NB346_345.out;obtain ⟨hcz15_0,hcz15_1,hcz15_2,hcz15_3,hfz15_0,hfz15_1,hfz15_2,hfz15_3⟩:=k4f_ BK345;obtain ⟨hcz16_0,hcz16_1,hcz16_2,hcz16_3,hfz16_0,hfz16_1,hfz16_2,hfz16_3⟩:=k4f_ BK346))
     go_ret;exact ⟨ex_,bq_ HB⟩
   ·rw [if_neg c5] at H;have c5b0 : (a0_2 == a1_2) = false:=beq_eq_false_iff_ne.mpr c5;have c5b1 : (a0_2 != a1_2) = true:=bne_iff_ne.mpr c5;obtain rfl:=Option.some.inj H;go_enter Try.func58,Try.ntmps58
    go_wp2_with (first|((with_reducible refine gate_dst (N:=2) rfl ?_);refine bE_ 2 #[.string a0_0,.int .i64 a0_1,.int .i64 a0_2,.int .i64 a0_3] 88 ?_;intro gb345 hg w17 hbox hb;have BK345:=A_ (hbox);have GW345:=gE_ hg HB;have GE345:=gE_ hg HB;replace HB:=bS_ HB hb;clear hb hbox hg)|((with_reducible refine gate_dst (N:=3) rfl ?_);refine bE_ 3 #[.string a1_0,.int .i64 a1_1,.int .i64 a1_2,.int .i64 a1_3] 88 ?_;intro gb346 hg w18 hbox hb;have BK346:=A_ (hbox);have GW346:=gE_ hg HB;have GE346:=gE_ hg HB;replace HB:=bS_ HB hb;have NB345_346:=nB_ hg BK345;have NB346_345:=nC_ hg BK345;replace BK345:=kB_ BK345 hb;clear hb hbox hg;have hnb19:=NB345_346.out;have hnc19:=NB346_345.out;obtain ⟨hcz20_0,hcz20_1,hcz20_2,hcz20_3,hfz20_0,hfz20_1,hfz20_2,hfz20_3⟩:=k4f_ BK345;obtain ⟨hcz21_0,hcz21_1,hcz21_2,hcz21_3,hfz21_0,hfz21_1,hfz21_2,hfz21_3⟩:=k4f_ BK346))
    go_ret;exact ⟨ex_,bq_ HB⟩
  ·rw [if_neg c4] at H;have c4b0 : (a0_1 == a1_1) = false:=beq_eq_false_iff_ne.mpr c4;have c4b1 : (a0_1 != a1_1) = true:=bne_iff_ne.mpr c4;obtain rfl:=Option.some.inj H;go_enter Try.func58,Try.ntmps58
   go_wp2_with (first|((with_reducible refine gate_dst (N:=2) rfl ?_);refine bE_ 2 #[.string a0_0,.int .i64 a0_1,.int .i64 a0_2,.int .i64 a0_3] 88 ?_;intro gb345 hg w22 hbox hb;have BK345:=A_ (hbox);have GW345:=gE_ hg HB;have GE345:=gE_ hg HB;replace HB:=bS_ HB hb;clear hb hbox hg)|((with_reducible refine gate_dst (N:=3) rfl ?_);refine bE_ 3 #[.string a1_0,.int .i64 a1_1,.int .i64 a1_2,.int .i64 a1_3] 88 ?_;intro gb346 hg w23 hbox hb;have BK346:=A_ (hbox);have GW346:=gE_ hg HB;have GE346:=gE_ hg HB;replace HB:=bS_ HB hb;have NB345_346:=nB_ hg BK345;have NB346_345:=nC_ hg BK345;replace BK345:=kB_ BK345 hb;clear hb hbox hg;have hnb24:=NB345_346.out;have hnc24:=NB346_345.out;obtain ⟨hcz25_0,hcz25_1,hcz25_2,hcz25_3,hfz25_0,hfz25_1,hfz25_2,hfz25_3⟩:=k4f_ BK345;obtain ⟨hcz26_0,hcz26_1,hcz26_2,hcz26_3,hfz26_0,hfz26_1,hfz26_2,hfz26_3⟩:=k4f_ BK346))
   go_ret;exact ⟨ex_,bq_ HB⟩
 ·rw [if_neg c3] at H;have c3b0 : (a0_0.toList == a1_0.toList) = false:=beq_eq_false_iff_ne.mpr c3;have c3b1 : (a0_0.toList != a1_0.toList) = true:=bne_iff_ne.mpr c3;obtain rfl:=Option.some.inj H;go_enter Try.func58,Try.ntmps58
  go_wp2_with (first|((with_reducible refine gate_dst (N:=2) rfl ?_);refine bE_ 2 #[.string a0_0,.int .i64 a0_1,.int .i64 a0_2,.int .i64 a0_3] 88 ?_;intro gb345 hg w27 hbox hb;have BK345:=A_ (hbox);have GW345:=gE_ hg HB;have GE345:=gE_ hg HB;replace HB:=bS_ HB hb;clear hb hbox hg)|((with_reducible refine gate_dst (N:=3) rfl ?_);refine bE_ 3 #[.string a1_0,.int .i64 a1_1,.int .i64 a1_2,.int .i64 a1_3] 88 ?_;intro gb346 hg w28 hbox hb;have BK346:=A_ (hbox);have GW346:=gE_ hg HB;have GE346:=gE_ hg HB;replace HB:=bS_ HB hb;have NB345_346:=nB_ hg BK345;have NB346_345:=nC_ hg BK345;replace BK345:=kB_ BK345 hb;clear hb hbox hg;have hnb29:=NB345_346.out;have hnc29:=NB346_345.out;obtain ⟨hcz30_0,hcz30_1,hcz30_2,hcz30_3,hfz30_0,hfz30_1,hfz30_2,hfz30_3⟩:=k4f_ BK345;obtain ⟨hcz31_0,hcz31_1,hcz31_2,hcz31_3,hfz31_0,hfz31_1,hfz31_2,hfz31_3⟩:=k4f_ BK346))
  go_ret;exact ⟨ex_,bq_ HB⟩
def laws_eqSpotS.l0 : Nat → List (S88) → List (S88) → Int → Option (Bool)
 | 0,_,_,_ => none
 | k + 1,x0,x1,x5 => if x5 < (x0.length : Int) then (if 0 ≤ x5 then (if x5 < (x1.length : Int) then ((laws_eqSpot.f ((rd_T88 x0 x5).f0) ((rd_T88 x0 x5).f1) ((rd_T88 x0 x5).f2) ((rd_T88 x0 x5).f3) ((rd_T88 x1 x5).f0) ((rd_T88 x1 x5).f1) ((rd_T88 x1 x5).f2) ((rd_T88 x1 x5).f3)).bind fun t349 => (if t349 = true then (laws_eqSpotS.l0 k x0 x1 (wrap64 (x5 + 1))) else (some false))) else (none)) else (none)) else (some true)
def laws_eqSpotS.f (k : Nat) (l0 : List (S88)) (l1 : List (S88)) : Option (Bool) := if (l0.length : Int) = (l1.length : Int) then (laws_eqSpotS.l0 k l0 l1 0) else (some false)
theorem laws_eqSpotS.mono_l : ∀ k, (∀ y0 y1 y2, LeO (laws_eqSpotS.l0 k y0 y1 y2) (laws_eqSpotS.l0 (k + 1) y0 y1 y2))
 | 0 => fun _ _ _ r h => by simp [laws_eqSpotS.l0] at h
 | k + 1 => by
  have ih0:=laws_eqSpotS.mono_l k
  ·intro y0 y1 y2
   unfold laws_eqSpotS.l0
   repeat' first
   | (with_reducible exact ih0 _ _ _)
   | (with_reducible exact LeO.refl _)
   | (with_reducible exact LeO.none _)
   | (with_reducible refine LeO.ite ?_ ?_)
   | (with_reducible refine LeO.bind ?_ (fun _ => ?_))
theorem laws_eqSpotS.mono : ∀ a0 a1 k, LeO (laws_eqSpotS.f k a0 a1) (laws_eqSpotS.f (k + 1) a0 a1) := by
 intro a0 a1 k;have ih0:=laws_eqSpotS.mono_l k
 unfold laws_eqSpotS.f
 repeat' first
   | (with_reducible exact ih0 _ _ _)
   | (with_reducible exact LeO.refl _)
   | (with_reducible exact LeO.none _)
   | (with_reducible refine LeO.ite ?_ ?_)
   | (with_reducible refine LeO.bind ?_ (fun _ => ?_))
def laws_eqSpotS.T6 : Bool × List (List Nat × List Nat) := (true, [([], []), ([], []), ([0, 1], [0, 1]), ([2], [2]), ([], []), ([], []), ([4, 5], [4, 5]), ([6], [6]), ([3, 7], [3, 7]), ([8], [8])])
def laws_eqSpotS.B6 : List Nat := [0, 0, 3, 7, 0, 0, 48, 112, 255, 511]
theorem laws_eqSpotS.tab6 : rtab .any (opsOf Try.f15 6) = laws_eqSpotS.T6 := by kernel_rfl
theorem laws_eqSpotS.bits6 : waitsOk laws_eqSpotS.T6.2 laws_eqSpotS.B6 = true := by kernel_rfl
set_option maxHeartbeats 8000000 in
set_option maxRecDepth 100000 in
theorem laws_eqSpotS.calls (k : Nat) (A0 : Option Addr) (c0 : Nat) (l0 : List (S88)) (A1 : Option Addr) (c1 : Nat) (l1 : List (S88)) (r : Bool) (w : World) (hr0 : Kd.C k88 w A0 l0.length l0) (hc0 : l0.length ≤ c0) (hr1 : Kd.C k88 w A1 l1.length l1) (hc1 : l1.length ≤ c1) (h : laws_eqSpotS.f k l0 l1 = some r) :
  Calls Try.prog 15 #[.slice A0 l0.length c0,.slice A1 l1.length c1] w fun e w' => e = .returned (.bool r) ∧ Below w.heap.size w w':=by
 have hu88:=Try.underlying88;have HR0:=A_ hr0;have HC0:=A_ hc0;clear hr0 hc0;have HR1:=A_ hr1;have HC1:=A_ hc1;clear hr1 hc1;have HB:=A_ (Below.refl w.heap.size w);unfold laws_eqSpotS.f at h;have H:=h;clear h
 by_cases c3 : (l0.length : Int) = (l1.length : Int)
 ·rw [if_pos c3] at H;have c3b0 : ((l0.length : Int) == (l1.length : Int)) = true:=beq_iff_eq.mpr c3;have c3b1 : ((l0.length : Int) != (l1.length : Int)) = false:=bne_eq_false_iff_eq.mpr c3
  have c3b2 : (l0.length == l1.length) = true:=by first|simpa using c3|(simp at c3 ⊢;omega)
  clear c3;have H':=A_ H;clear H;go_enter Try.func15,Try.ntmps15;go_wp2
  go_loopg [5] k (fun kq v5 w' => ∃ (x5_1 : Int),v5 = .int .i64 x5_1 ∧ Aside0 (laws_eqSpotS.l0 kq l0 l1 x5_1 = some r) ∧ Aside0 (kq ≤ k) ∧ Aside0 (Below w.heap.size w w'))
  case atStart => exact ⟨(0),(by first|rfl|(simp;done)|(simp [*];done)),H',⟨Nat.le_refl _⟩,⟨bq_ HB⟩⟩
  case round =>
   clear H'
   try clear c1
   try clear p2
   try clear c3
   try clear c3b0
   try clear c3b1
   try clear c3b2
   obtain ⟨x5_1,rfl,HA,HK1,HB⟩:=hrel
   cases gk with
   | zero => exact absurd HA.out (by simp [laws_eqSpotS.l0])
   | succ k1 =>
    have H:=HA.out;clear HA;simp only [laws_eqSpotS.l0] at H
    by_cases c4 : x5_1 < (l0.length : Int)
    ·rw [if_pos c4] at H;have c4b0 : decide (x5_1 < (l0.length : Int)) = true:=de_ c4;clear c4
     by_cases c5 : 0 ≤ x5_1
     ·rw [if_pos c5] at H;have c5b0 : decide (0 ≤ x5_1) = true:=de_ c5;clear c5
      by_cases c6 : x5_1 < (l1.length : Int)
      ·rw [if_pos c6] at H;have c6b0 : decide (x5_1 < (l1.length : Int)) = true:=de_ c6;clear c6;replace H:=ob_.mp H;obtain ⟨t349,A70,H⟩:=H;(try dsimp only at H);have A7:=A_ A70;clear A70
       by_cases c8 : t349 = true
       ·subst c8
        rw [if_pos rfl] at H;have H':=A_ H;clear H
        try go_wp2
        replace HB:=A_ (pd_ HB.out);have p347 : 0 ≤ (x5_1 : Int):=oda_;have q347 : x5_1 < (l0.length : Int):=oda_;obtain ⟨ad347,e347,hx347_0,hx347_1,hx347_2,hx347_3⟩:=at_T88 HR0.out x5_1 p347 q347;have hw347_3:=hx347_3;have hw347_2:=hx347_2;have hw347_1:=hx347_1;have hw347_0:=hx347_0
        cases e347
        replace hx347_0:=(HB.out.cell (wb_ w _ hx347_0)).trans hx347_0;replace hx347_1:=(HB.out.cell (wb_ w _ hx347_1)).trans hx347_1;replace hx347_2:=(HB.out.cell (wb_ w _ hx347_2)).trans hx347_2;replace hx347_3:=(HB.out.cell (wb_ w _ hx347_3)).trans hx347_3;replace p347:=eq_true p347;replace q347:=eq_true q347;have p348 : 0 ≤ (x5_1 : Int):=oda_;have q348 : x5_1 < (l1.length : Int):=oda_;obtain ⟨ad348,e348,hx348_0,hx348_1,hx348_2,hx348_3⟩:=at_T88 HR1.out x5_1 p348 q348;have hw348_3:=hx348_3;have hw348_2:=hx348_2;have hw348_1:=hx348_1;have hw348_0:=hx348_0
        cases e348
        replace hx348_0:=(HB.out.cell (wb_ w _ hx348_0)).trans hx348_0;replace hx348_1:=(HB.out.cell (wb_ w _ hx348_1)).trans hx348_1;replace hx348_2:=(HB.out.cell (wb_ w _ hx348_2)).trans hx348_2;replace hx348_3:=(HB.out.cell (wb_ w _ hx348_3)).trans hx348_3;replace p348:=eq_true p348;replace q348:=eq_true q348;refine start_ (n:=10) (S:=fun w' => w'.cell? (ad347.add ((x5_1).toNat * 4)) = some (.string ((rd_T88 l0 x5_1).f0)) ∧ w'.cell? ⟨(ad347.add ((x5_1).toNat * 4)).block,(ad347.add ((x5_1).toNat * 4)).off + 1,none⟩ = some (.int .i64 ((rd_T88 l0 x5_1).f1)) ∧ w'.cell? ⟨(ad347.add ((x5_1).toNat * 4)).block,(ad347.add ((x5_1).toNat * 4)).off + 2,none⟩ = some (.int .i64 ((rd_T88 l0 x5_1).f2)) ∧ w'.cell? ⟨(ad347.add ((x5_1).toNat * 4)).block,(ad347.add ((x5_1).toNat * 4)).off + 3,none⟩ = some (.int .i64 ((rd_T88 l0 x5_1).f3)) ∧ w'.cell? (ad348.add ((x5_1).toNat * 4)) = some (.string ((rd_T88 l1 x5_1).f0)) ∧ w'.cell? ⟨(ad348.add ((x5_1).toNat * 4)).block,(ad348.add ((x5_1).toNat * 4)).off + 1,none⟩ = some (.int .i64 ((rd_T88 l1 x5_1).f1)) ∧ w'.cell? ⟨(ad348.add ((x5_1).toNat * 4)).block,(ad348.add ((x5_1).toNat * 4)).off + 2,none⟩ = some (.int .i64 ((rd_T88 l1 x5_1).f2)) ∧ w'.cell? ⟨(ad348.add ((x5_1).toNat * 4)).block,(ad348.add ((x5_1).toNat * 4)).off + 3,none⟩ = some (.int .i64 ((rd_T88 l1 x5_1).f3))) (ds:=[]) #[false,false,false,false,false,false,false,false,false,false] (by kernel_rfl) rfl rfl ⟨((HB.out.cell (wb_ w _ hw347_0)).trans hw347_0),((HB.out.cell (wb_ w _ hw347_1)).trans hw347_1),((HB.out.cell (wb_ w _ hw347_2)).trans hw347_2),((HB.out.cell (wb_ w _ hw347_3)).trans hw347_3),((HB.out.cell (wb_ w _ hw348_0)).trans hw348_0),((HB.out.cell (wb_ w _ hw348_1)).trans hw348_1),((HB.out.cell (wb_ w _ hw348_2)).trans hw348_2),((HB.out.cell (wb_ w _ hw348_3)).trans hw348_3)⟩ (fun hHeld => ?_);refine with_tabW laws_eqSpotS.tab6 laws_eqSpotS.bits6 (fun HT_ HW_ => ?_);generalize wr.drew = w9 at HB hx347_0 hx347_1 hx347_2 hx347_3 hx348_0 hx348_1 hx348_2 hx348_3 hHeld ⊢;refine pU_ 0 (some 17) ?_
        refine pU_ 1 (some 18) ?_
        refine pU_ 2 (some 19) ?_
        refine pU_ 4 (some 21) ?_
        refine pU_ 5 (some 22) ?_
        refine pU_ 6 (some 23) ?_
        refine tK_ 3 (some 20) hHeld ?_
        refine tK_ 7 (some 24) hHeld ?_
        refine oN_ 8 (some 25) (fun K hK => ?_);refine gs_ Try.func58 #[.agg #[.string ((rd_T88 l0 x5_1).f0),.int .i64 ((rd_T88 l0 x5_1).f1),.int .i64 ((rd_T88 l0 x5_1).f2),.int .i64 ((rd_T88 l0 x5_1).f3)],.agg #[.string ((rd_T88 l1 x5_1).f0),.int .i64 ((rd_T88 l1 x5_1).f1),.int .i64 ((rd_T88 l1 x5_1).f2),.int .i64 ((rd_T88 l1 x5_1).f3)]] ?_;with_reducible refine (laws_eqSpot.calls ((rd_T88 l0 x5_1).f0) ((rd_T88 l0 x5_1).f1) ((rd_T88 l0 x5_1).f2) ((rd_T88 l0 x5_1).f3) ((rd_T88 l1 x5_1).f0) ((rd_T88 l1 x5_1).f1) ((rd_T88 l1 x5_1).f2) ((rd_T88 l1 x5_1).f3) true _ A7.out).mono ?_;rintro e w10 ⟨rfl,hb⟩;refine ⟨_,rfl,?_⟩;replace HB:=bS_ HB hb
        (try clear hb)
        refine hK.out _ _ ⟨((HB.out.cell (wb_ w _ hw347_0)).trans hw347_0),((HB.out.cell (wb_ w _ hw347_1)).trans hw347_1),((HB.out.cell (wb_ w _ hw347_2)).trans hw347_2),((HB.out.cell (wb_ w _ hw347_3)).trans hw347_3),((HB.out.cell (wb_ w _ hw348_0)).trans hw348_0),((HB.out.cell (wb_ w _ hw348_1)).trans hw348_1),((HB.out.cell (wb_ w _ hw348_2)).trans hw348_2),((HB.out.cell (wb_ w _ hw348_3)).trans hw348_3)⟩ (fun hHeld => ?_);clear hK K;refine nX_ (some 25) ?_
        refine pU_ 9 (some 26) ?_
        refine done_ (done_of HT_.out (by kernel_rfl)) ?_
        try go_wp2
        go_roundg k1
        case measure => have:=HK1.out;omega
        case rel => exact ⟨(wrap64 (x5_1 + 1)),(by first|rfl|(simp;done)|(simp [*];done)),H',⟨by have:=HK1.out;omega⟩,⟨bq_ HB⟩⟩
       ·replace c8:=Bool.eq_false_iff.mpr c8;subst c8
        have H1 : (some false) = some r:=by rw [if_neg (show ¬ (false = true) by decide)] at H;exact H
        clear H;have H:=H1;clear H1;obtain rfl:=Option.some.inj H
        try go_wp2
        replace HB:=A_ (pd_ HB.out);have p347 : 0 ≤ (x5_1 : Int):=oda_;have q347 : x5_1 < (l0.length : Int):=oda_;obtain ⟨ad347,e347,hx347_0,hx347_1,hx347_2,hx347_3⟩:=at_T88 HR0.out x5_1 p347 q347;have hw347_3:=hx347_3;have hw347_2:=hx347_2;have hw347_1:=hx347_1;have hw347_0:=hx347_0
        cases e347
        replace hx347_0:=(HB.out.cell (wb_ w _ hx347_0)).trans hx347_0;replace hx347_1:=(HB.out.cell (wb_ w _ hx347_1)).trans hx347_1;replace hx347_2:=(HB.out.cell (wb_ w _ hx347_2)).trans hx347_2;replace hx347_3:=(HB.out.cell (wb_ w _ hx347_3)).trans hx347_3;replace p347:=eq_true p347;replace q347:=eq_true q347;have p348 : 0 ≤ (x5_1 : Int):=oda_;have q348 : x5_1 < (l1.length : Int):=oda_;obtain ⟨ad348,e348,hx348_0,hx348_1,hx348_2,hx348_3⟩:=at_T88 HR1.out x5_1 p348 q348;have hw348_3:=hx348_3;have hw348_2:=hx348_2;have hw348_1:=hx348_1;have hw348_0:=hx348_0
        cases e348
        replace hx348_0:=(HB.out.cell (wb_ w _ hx348_0)).trans hx348_0;replace hx348_1:=(HB.out.cell (wb_ w _ hx348_1)).trans hx348_1;replace hx348_2:=(HB.out.cell (wb_ w _ hx348_2)).trans hx348_2;replace hx348_3:=(HB.out.cell (wb_ w _ hx348_3)).trans hx348_3;replace p348:=eq_true p348;replace q348:=eq_true q348;refine start_ (n:=10) (S:=fun w' => w'.cell? (ad347.add ((x5_1).toNat * 4)) = some (.string ((rd_T88 l0 x5_1).f0)) ∧ w'.cell? ⟨(ad347.add ((x5_1).toNat * 4)).block,(ad347.add ((x5_1).toNat * 4)).off + 1,none⟩ = some (.int .i64 ((rd_T88 l0 x5_1).f1)) ∧ w'.cell? ⟨(ad347.add ((x5_1).toNat * 4)).block,(ad347.add ((x5_1).toNat * 4)).off + 2,none⟩ = some (.int .i64 ((rd_T88 l0 x5_1).f2)) ∧ w'.cell? ⟨(ad347.add ((x5_1).toNat * 4)).block,(ad347.add ((x5_1).toNat * 4)).off + 3,none⟩ = some (.int .i64 ((rd_T88 l0 x5_1).f3)) ∧ w'.cell? (ad348.add ((x5_1).toNat * 4)) = some (.string ((rd_T88 l1 x5_1).f0)) ∧ w'.cell? ⟨(ad348.add ((x5_1).toNat * 4)).block,(ad348.add ((x5_1).toNat * 4)).off + 1,none⟩ = some (.int .i64 ((rd_T88 l1 x5_1).f1)) ∧ w'.cell? ⟨(ad348.add ((x5_1).toNat * 4)).block,(ad348.add ((x5_1).toNat * 4)).off + 2,none⟩ = some (.int .i64 ((rd_T88 l1 x5_1).f2)) ∧ w'.cell? ⟨(ad348.add ((x5_1).toNat * 4)).block,(ad348.add ((x5_1).toNat * 4)).off + 3,none⟩ = some (.int .i64 ((rd_T88 l1 x5_1).f3))) (ds:=[]) #[false,false,false,false,false,false,false,false,false,false] (by kernel_rfl) rfl rfl ⟨((HB.out.cell (wb_ w _ hw347_0)).trans hw347_0),((HB.out.cell (wb_ w _ hw347_1)).trans hw347_1),((HB.out.cell (wb_ w _ hw347_2)).trans hw347_2),((HB.out.cell (wb_ w _ hw347_3)).trans hw347_3),((HB.out.cell (wb_ w _ hw348_0)).trans hw348_0),((HB.out.cell (wb_ w _ hw348_1)).trans hw348_1),((HB.out.cell (wb_ w _ hw348_2)).trans hw348_2),((HB.out.cell (wb_ w _ hw348_3)).trans hw348_3)⟩ (fun hHeld => ?_);refine with_tabW laws_eqSpotS.tab6 laws_eqSpotS.bits6 (fun HT_ HW_ => ?_);generalize wr.drew = w11 at HB hx347_0 hx347_1 hx347_2 hx347_3 hx348_0 hx348_1 hx348_2 hx348_3 hHeld ⊢;refine pU_ 0 (some 17) ?_
        refine pU_ 1 (some 18) ?_
        refine pU_ 2 (some 19) ?_
        refine pU_ 4 (some 21) ?_
        refine pU_ 5 (some 22) ?_
        refine pU_ 6 (some 23) ?_
        refine tK_ 3 (some 20) hHeld ?_
        refine tK_ 7 (some 24) hHeld ?_
        refine oN_ 8 (some 25) (fun K hK => ?_);refine gs_ Try.func58 #[.agg #[.string ((rd_T88 l0 x5_1).f0),.int .i64 ((rd_T88 l0 x5_1).f1),.int .i64 ((rd_T88 l0 x5_1).f2),.int .i64 ((rd_T88 l0 x5_1).f3)],.agg #[.string ((rd_T88 l1 x5_1).f0),.int .i64 ((rd_T88 l1 x5_1).f1),.int .i64 ((rd_T88 l1 x5_1).f2),.int .i64 ((rd_T88 l1 x5_1).f3)]] ?_;with_reducible refine (laws_eqSpot.calls ((rd_T88 l0 x5_1).f0) ((rd_T88 l0 x5_1).f1) ((rd_T88 l0 x5_1).f2) ((rd_T88 l0 x5_1).f3) ((rd_T88 l1 x5_1).f0) ((rd_T88 l1 x5_1).f1) ((rd_T88 l1 x5_1).f2) ((rd_T88 l1 x5_1).f3) false _ A7.out).mono ?_;rintro e w12 ⟨rfl,hb⟩;refine ⟨_,rfl,?_⟩;replace HB:=bS_ HB hb
        (try clear hb)
        refine hK.out _ _ ⟨((HB.out.cell (wb_ w _ hw347_0)).trans hw347_0),((HB.out.cell (wb_ w _ hw347_1)).trans hw347_1),((HB.out.cell (wb_ w _ hw347_2)).trans hw347_2),((HB.out.cell (wb_ w _ hw347_3)).trans hw347_3),((HB.out.cell (wb_ w _ hw348_0)).trans hw348_0),((HB.out.cell (wb_ w _ hw348_1)).trans hw348_1),((HB.out.cell (wb_ w _ hw348_2)).trans hw348_2),((HB.out.cell (wb_ w _ hw348_3)).trans hw348_3)⟩ (fun hHeld => ?_);clear hK K;refine nX_ (some 25) ?_
        refine pU_ 9 (some 26) ?_
        refine done_ (done_of HT_.out (by kernel_rfl)) ?_
        try go_wp2
        go_ret;exact ⟨ex_,bq_ HB⟩
      ·rw [if_neg c6] at H;exact absurd H (by simp)
     ·rw [if_neg c5] at H;exact absurd H (by simp)
    ·rw [if_neg c4] at H;have c4b0 : decide (x5_1 < (l0.length : Int)) = false:=decide_eq_false c4;clear c4;obtain rfl:=Option.some.inj H;go_wp2;go_ret;exact ⟨ex_,bq_ HB⟩
 ·rw [if_neg c3] at H;have c3b0 : ((l0.length : Int) == (l1.length : Int)) = false:=beq_eq_false_iff_ne.mpr c3;have c3b1 : ((l0.length : Int) != (l1.length : Int)) = true:=bne_iff_ne.mpr c3
  have c3b2 : (l0.length == l1.length) = false:=by first|simpa using c3|(simp at c3 ⊢;omega)
  obtain rfl:=Option.some.inj H;go_enter Try.func15,Try.ntmps15;go_wp2;go_ret;exact ⟨ex_,bq_ HB⟩
end Go.Proofs.Ytbcgnncbiblibaa.PFnExactScanSeg
