/- The contracts of the Go functions that this law reaches: what each call returns, by a plain Lean function of its arguments. No conditions but those each contract names. By the kit's print.py, run by this session's wip/gen/pp.py with facts and hand proofs beside it: not to the letter what print.sh prints. -/
import Derived.Test.YtbcgnncbiblibaaPFnExactLogStepsx0
import Derived.Test.YtbcgnncbiblibaaPFnExactLogStepsx1
import Derived.Test.YtbcgnncbiblibaaPFnExactLogStepsx9
import Derived.Test.YtbcgnncbiblibaaPFnExactLogStepsx10
import Derived.Test.YtbcgnncbiblibaaPFnExactLogStepsx11
import Derived.Test.YtbcgnncbiblibaaPFnExactLogStepsx12
namespace Go.Proofs.Ytbcgnncbiblibaa.PFnExactLogSteps
open Go.RowKit Go.Proofs.YtbcgnncbiblibaaW.PrintWords Go.Proofs.YtbcgnncbiblibaaW.PrintLast Go.Proofs.YtbcgnncbiblibaaW.PrintMore
attribute [local go_sem] max2_int min2_int max_two min_two max_three min_three max_four min_four
set_option linter.unusedVariables false
set_option linter.unusedSimpArgs false
attribute [local go_sem high] eqA69
mutual
def spec_LogSteps.j0 : Nat → ByteArray → List (S126) → ByteArray → Bool → Int → Int → List (S69) → Int → Int → List (S69) → Option ((List (S126)) × Bool)
 | 0,_,_,_,_,_,_,_,_,_,_ => none
 | k + 1,x0,x8,x12,x50,x308000,x308001,x308002,x309000,x309001,x309002 => if x50 = true then (some (x8,false)) else ((spec_l12Same.f k x308000 x308001 x308002 x309000 x309001 x309002).bind fun t324 => (if t324 = true then (some (x8,true)) else (spec_LogSteps.l0 k x0 x12 0 x308000 x308001 x308002 x309000 x309001 x309002)))
def spec_LogSteps.l0 : Nat → ByteArray → ByteArray → Int → Int → Int → List (S69) → Int → Int → List (S69) → Option ((List (S126)) × Bool)
 | 0,_,_,_,_,_,_,_,_,_ => none
 | k + 1,x0,x12,x14,x308000,x308001,x308002,x309000,x309001,x309002 => if x14 < (x308002.length : Int) then (if x14 < (x309002.length : Int) then (if 0 ≤ x14 then (if (((rd_T69 x308002 x14).f0) == ((rd_T69 x309002 x14).f0) && (((rd_T69 x308002 x14).f1) == ((rd_T69 x309002 x14).f1) && ((((rd_T69 x308002 x14).f2).toList) == (((rd_T69 x309002 x14).f2).toList)))) = true then (spec_LogSteps.l0 k x0 x12 (wrap64 (x14 + 1)) x308000 x308001 x308002 x309000 x309001 x309002) else ((spec_l12Frames.f k x309000 x309001 x309002 x14).bind fun t327 => (if x308000 = x309000 then (if x308001 = x309001 then (if (wrap64 ((x0.size : Int) + (t327.size : Int))) ≤ 20000 then (some ((([(⟨2,(⟨#[108,111,103]⟩ : ByteArray),(⟨#[]⟩ : ByteArray),t327⟩ : S126)] : List (S126))),true)) else (some ((([(⟨1,(⟨#[108,111,103,43]⟩ : ByteArray),(⟨#[]⟩ : ByteArray),x12⟩ : S126),(⟨3,(⟨#[108,111,103,43]⟩ : ByteArray),(⟨#[108,111,103]⟩ : ByteArray),(⟨#[]⟩ : ByteArray)⟩ : S126)] : List (S126))),true))) else (some ((([(⟨1,(⟨#[108,111,103,43]⟩ : ByteArray),(⟨#[]⟩ : ByteArray),x12⟩ : S126),(⟨3,(⟨#[108,111,103,43]⟩ : ByteArray),(⟨#[108,111,103]⟩ : ByteArray),(⟨#[]⟩ : ByteArray)⟩ : S126)] : List (S126))),true))) else (some ((([(⟨1,(⟨#[108,111,103,43]⟩ : ByteArray),(⟨#[]⟩ : ByteArray),x12⟩ : S126),(⟨3,(⟨#[108,111,103,43]⟩ : ByteArray),(⟨#[108,111,103]⟩ : ByteArray),(⟨#[]⟩ : ByteArray)⟩ : S126)] : List (S126))),true))))) else (none)) else ((spec_l12Frames.f k x309000 x309001 x309002 x14).bind fun t340 => (if x308000 = x309000 then (if x308001 = x309001 then (some ((([(⟨1,(⟨#[108,111,103,43]⟩ : ByteArray),(⟨#[]⟩ : ByteArray),x12⟩ : S126),(⟨3,(⟨#[108,111,103,43]⟩ : ByteArray),(⟨#[108,111,103]⟩ : ByteArray),(⟨#[]⟩ : ByteArray)⟩ : S126)] : List (S126))),true)) else (some ((([(⟨1,(⟨#[108,111,103,43]⟩ : ByteArray),(⟨#[]⟩ : ByteArray),x12⟩ : S126),(⟨3,(⟨#[108,111,103,43]⟩ : ByteArray),(⟨#[108,111,103]⟩ : ByteArray),(⟨#[]⟩ : ByteArray)⟩ : S126)] : List (S126))),true))) else (some ((([(⟨1,(⟨#[108,111,103,43]⟩ : ByteArray),(⟨#[]⟩ : ByteArray),x12⟩ : S126),(⟨3,(⟨#[108,111,103,43]⟩ : ByteArray),(⟨#[108,111,103]⟩ : ByteArray),(⟨#[]⟩ : ByteArray)⟩ : S126)] : List (S126))),true))))) else ((spec_l12Frames.f k x309000 x309001 x309002 x14).bind fun t350 => (if x308000 = x309000 then (if x308001 = x309001 then (if x14 < (x309002.length : Int) then (if (wrap64 ((x0.size : Int) + (t350.size : Int))) ≤ 20000 then (some ((([(⟨2,(⟨#[108,111,103]⟩ : ByteArray),(⟨#[]⟩ : ByteArray),t350⟩ : S126)] : List (S126))),true)) else (some ((([(⟨1,(⟨#[108,111,103,43]⟩ : ByteArray),(⟨#[]⟩ : ByteArray),x12⟩ : S126),(⟨3,(⟨#[108,111,103,43]⟩ : ByteArray),(⟨#[108,111,103]⟩ : ByteArray),(⟨#[]⟩ : ByteArray)⟩ : S126)] : List (S126))),true))) else (some ((([(⟨1,(⟨#[108,111,103,43]⟩ : ByteArray),(⟨#[]⟩ : ByteArray),x12⟩ : S126),(⟨3,(⟨#[108,111,103,43]⟩ : ByteArray),(⟨#[108,111,103]⟩ : ByteArray),(⟨#[]⟩ : ByteArray)⟩ : S126)] : List (S126))),true))) else (some ((([(⟨1,(⟨#[108,111,103,43]⟩ : ByteArray),(⟨#[]⟩ : ByteArray),x12⟩ : S126),(⟨3,(⟨#[108,111,103,43]⟩ : ByteArray),(⟨#[108,111,103]⟩ : ByteArray),(⟨#[]⟩ : ByteArray)⟩ : S126)] : List (S126))),true))) else (some ((([(⟨1,(⟨#[108,111,103,43]⟩ : ByteArray),(⟨#[]⟩ : ByteArray),x12⟩ : S126),(⟨3,(⟨#[108,111,103,43]⟩ : ByteArray),(⟨#[108,111,103]⟩ : ByteArray),(⟨#[]⟩ : ByteArray)⟩ : S126)] : List (S126))),true))))
end
def spec_LogSteps.f (k : Nat) (a0 : ByteArray) (a1_0 : Int) (a1_1 : Int) (l1_2 : List (S69)) (a2_0 : Int) (a2_1 : Int) (l2_2 : List (S69)) : Option ((List (S126)) × Bool) := (some (([] : List (S126)) : List (S126))).bind fun y309 => ((spec_ReadLog.f k a0).bind fun bt312 => ((spec_LogFile.f k a2_0 a2_1 l2_2).bind fun bt320 => ((spec_LogOk.f k a1_0 a1_1 l1_2).bind fun t322 => (if t322 = true then (if bt320.2 = true then (if bt312.2.2.2.2 = true then (if bt312.2.2.2.1 = (a0.size : Int) then ((spec_l12Same.f k bt312.1 bt312.2.1 bt312.2.2.1 a1_0 a1_1 l1_2).bind fun t323 => (spec_LogSteps.j0 k a0 y309 bt320.1 (!t323) a1_0 a1_1 l1_2 a2_0 a2_1 l2_2)) else (spec_LogSteps.j0 k a0 y309 bt320.1 true a1_0 a1_1 l1_2 a2_0 a2_1 l2_2)) else (spec_LogSteps.j0 k a0 y309 bt320.1 true a1_0 a1_1 l1_2 a2_0 a2_1 l2_2)) else (spec_LogSteps.j0 k a0 y309 bt320.1 true a1_0 a1_1 l1_2 a2_0 a2_1 l2_2)) else (spec_LogSteps.j0 k a0 y309 bt320.1 true a1_0 a1_1 l1_2 a2_0 a2_1 l2_2)))))
theorem spec_LogSteps.mono_l : ∀ k, (∀ y0 y1 y2 y3 y4 y5 y6 y7 y8 y9, LeO (spec_LogSteps.j0 k y0 y1 y2 y3 y4 y5 y6 y7 y8 y9) (spec_LogSteps.j0 (k + 1) y0 y1 y2 y3 y4 y5 y6 y7 y8 y9)) ∧ (∀ y0 y1 y2 y3 y4 y5 y6 y7 y8, LeO (spec_LogSteps.l0 k y0 y1 y2 y3 y4 y5 y6 y7 y8) (spec_LogSteps.l0 (k + 1) y0 y1 y2 y3 y4 y5 y6 y7 y8))
 | 0 => ⟨fun _ _ _ _ _ _ _ _ _ _ r h => by simp [spec_LogSteps.j0] at h,fun _ _ _ _ _ _ _ _ _ r h => by simp [spec_LogSteps.l0] at h⟩
 | k + 1 => by
  obtain ⟨ih0,ih1⟩:=spec_LogSteps.mono_l k;refine ⟨?_,?_⟩
  ·intro y0 y1 y2 y3 y4 y5 y6 y7 y8 y9
   unfold spec_LogSteps.j0
   repeat' first
   | (with_reducible exact ih1 _ _ _ _ _ _ _ _ _)
   | (with_reducible exact spec_l12Same.mono _ _ _ _ _ _ _)
   | (with_reducible exact LeO.refl _)
   | (with_reducible refine LeO.ite ?_ ?_)
   | (with_reducible refine LeO.bind ?_ (fun _ => ?_))
  ·intro y0 y1 y2 y3 y4 y5 y6 y7 y8
   unfold spec_LogSteps.l0
   repeat' first
   | (with_reducible exact ih1 _ _ _ _ _ _ _ _ _)
   | (with_reducible exact spec_l12Frames.mono _ _ _ _ _)
   | (with_reducible exact LeO.refl _)
   | (with_reducible refine LeO.ite ?_ ?_)
   | (with_reducible refine LeO.bind ?_ (fun _ => ?_))
theorem spec_LogSteps.mono : ∀ a0 a1 a2 a3 a4 a5 a6 k, LeO (spec_LogSteps.f k a0 a1 a2 a3 a4 a5 a6) (spec_LogSteps.f (k + 1) a0 a1 a2 a3 a4 a5 a6) := by
 intro a0 a1 a2 a3 a4 a5 a6 k;obtain ⟨ih0,ih1⟩:=spec_LogSteps.mono_l k
 unfold spec_LogSteps.f
 repeat' first
   | (with_reducible exact ih0 _ _ _ _ _ _ _ _ _ _)
   | (with_reducible exact spec_LogFile.mono _ _ _ _)
   | (with_reducible exact spec_LogOk.mono _ _ _ _)
   | (with_reducible exact spec_ReadLog.mono _ _)
   | (with_reducible exact spec_l12Same.mono _ _ _ _ _ _ _)
   | (with_reducible exact LeO.refl _)
   | (with_reducible refine LeO.ite ?_ ?_)
   | (with_reducible refine LeO.bind ?_ (fun _ => ?_))
set_option maxHeartbeats 8000000 in
set_option maxRecDepth 100000 in
theorem spec_LogSteps.calls (k : Nat) (a0 : ByteArray) (a1_0 : Int) (a1_1 : Int) (A1_2 : Option Addr) (c1_2 : Nat) (l1_2 : List (S69)) (a2_0 : Int) (a2_1 : Int) (A2_2 : Option Addr) (c2_2 : Nat) (l2_2 : List (S69)) (r1 : List (S126)) (r2 : Bool) (w : World) (hr1_2 : Kd.C k69 w A1_2 l1_2.length l1_2) (hc1_2 : l1_2.length ≤ c1_2) (hr2_2 : Kd.C k69 w A2_2 l2_2.length l2_2) (hc2_2 : l2_2.length ≤ c2_2) (h : spec_LogSteps.f k a0 a1_0 a1_1 l1_2 a2_0 a2_1 l2_2 = some (r1, r2)) :
  Calls Try.prog 33 #[.string a0,.agg #[.int .i64 a1_0,.int .i64 a1_1,.slice A1_2 l1_2.length c1_2],.agg #[.int .i64 a2_0,.int .i64 a2_1,.slice A2_2 l2_2.length c2_2]] w fun e w' => ∃ v0_ : Value,e = .returned (.tuple #[v0_,.bool r2]) ∧ Kd.R k126 126 w' w.heap.size (fun _ => True) v0_ r1 ∧ Below w.heap.size w w':=by
 have hu24:=Try.underlying24;have hu69:=Try.underlying69;have hu126:=Try.underlying126;have HR1_2:=A_ hr1_2;have HC1_2:=A_ hc1_2;clear hr1_2 hc1_2;have HR2_2:=A_ hr2_2;have HC2_2:=A_ hc2_2;clear hr2_2 hc2_2;have HB:=A_ (Below.refl w.heap.size w);unfold spec_LogSteps.f at h;have H:=h;clear h;obtain ⟨y309,hy309⟩ : ∃ y_ : List (S126),y_ = (([] : List (S126))):=⟨_,rfl⟩
 replace H : ((spec_ReadLog.f k a0).bind fun bt312 => ((spec_LogFile.f k a2_0 a2_1 l2_2).bind fun bt320 => ((spec_LogOk.f k a1_0 a1_1 l1_2).bind fun t322 => (if t322 = true then (if bt320.2 = true then (if bt312.2.2.2.2 = true then (if bt312.2.2.2.1 = (a0.size : Int) then ((spec_l12Same.f k bt312.1 bt312.2.1 bt312.2.2.1 a1_0 a1_1 l1_2).bind fun t323 => (spec_LogSteps.j0 k a0 y309 bt320.1 (!t323) a1_0 a1_1 l1_2 a2_0 a2_1 l2_2)) else (spec_LogSteps.j0 k a0 y309 bt320.1 true a1_0 a1_1 l1_2 a2_0 a2_1 l2_2)) else (spec_LogSteps.j0 k a0 y309 bt320.1 true a1_0 a1_1 l1_2 a2_0 a2_1 l2_2)) else (spec_LogSteps.j0 k a0 y309 bt320.1 true a1_0 a1_1 l1_2 a2_0 a2_1 l2_2)) else (spec_LogSteps.j0 k a0 y309 bt320.1 true a1_0 a1_1 l1_2 a2_0 a2_1 l2_2))))) = some (r1,r2):=by (have H2_:=(Option.bind_some _ _).symm.trans H;rw [hy309];with_reducible exact H2_)
 have Ny309:=A_ hy309;clear hy309;replace H:=ob_.mp H;obtain ⟨⟨t312,t313,t314,t317,t318⟩,A40,H⟩:=H;(try dsimp only at H);have A4:=A_ A40;clear A40;replace H:=ob_.mp H;obtain ⟨⟨t320,t321⟩,A50,H⟩:=H;(try dsimp only at H);have A5:=A_ A50;clear A50;have HC6:=A_ H;clear H;go_enter Try.func33,Try.ntmps33
 go_upto_region 4 with (first|((with_reducible refine gate_dst (N:=4) rfl ?_);(try (refine gate_guard (by rfl) ?_;dsimp only));refine bE_ 4 #[.int .i64 a1_0,.int .i64 a1_1,.slice A1_2 l1_2.length c1_2] 24 ?_;intro gb307 hg w7 hbox hb;have BK307:=A_ (hbox);have GW307:=gE_ hg HB;have GE307:=gE_ hg HB;replace HB:=bS_ HB hb;clear hb hbox hg)|((with_reducible refine gate_dst (N:=5) rfl ?_);(try (refine gate_guard (by rfl) ?_;dsimp only));refine bE_ 5 #[.int .i64 a2_0,.int .i64 a2_1,.slice A2_2 l2_2.length c2_2] 24 ?_;intro gb308 hg w8 hbox hb;have BK308:=A_ (hbox);have GW308:=gE_ hg HB;have GE308:=gE_ hg HB;replace HB:=bS_ HB hb;have NB307_308:=nB_ hg BK307;have NB308_307:=nC_ hg BK307;replace BK307:=kB_ BK307 hb;clear hb hbox hg)|((with_reducible refine gate_dst (N:=16) rfl ?_);(try (refine gate_guard (by rfl) ?_;dsimp only));refine rX_ (d:=k126) (e:=126) (xs:=([] : List (S126))) (inner:=[]) (ok:=fun _ => True) (okp:=fun _ => True) 16 (Reps.none _ _) ?_;intro v310 w9 ho10 hb hg_ hnew_;clear hg_ hnew_;(rw [← Ny309.out] at ho10);have HO311:=A_ (rw_ ho10 (bz_ (bq_ HB)));replace BK307:=kB_ BK307 hb;replace BK308:=kB_ BK308 hb;replace HB:=bS_ HB hb;clear hb ho10)|(go_at_call 8;(with_reducible refine (spec_ReadLog.calls k a0 t312 t313 t314 t317 t318 _ A4.out).mono ?_);rintro e w11 ⟨v315,rfl,ho0,hb⟩;replace HO311:=rB_ HO311 hb;have HO316:=A_ (rw_ ho0 (bz_ (bq_ HB)));replace BK307:=kB_ BK307 hb;replace BK308:=kB_ BK308 hb;replace HB:=bS_ HB hb;(try clear hb);(try clear ho0))|((with_reducible refine gate_dst (N:=9) rfl ?_);(try (refine gate_guard (by rfl) ?_;dsimp only));refine bE_ 9 #[.int .i64 0,.int .i64 0,.slice none 0 0] 24 ?_;intro gb319 hg w12 hbox hb;replace HO311:=rB_ HO311 hb;replace HO316:=rB_ HO316 hb;have BK319:=A_ (hbox);have GW319:=gE_ hg HB;have GE319:=gE_ hg HB;replace HB:=bS_ HB hb;have NB307_319:=nB_ hg BK307;have NB319_307:=nC_ hg BK307;replace BK307:=kB_ BK307 hb;have NB308_319:=nB_ hg BK308;have NB319_308:=nC_ hg BK308;replace BK308:=kB_ BK308 hb;clear hb hbox hg;have hnb13:=NB319_307.out;have hnc13:=NB307_319.out;have hnb14:=NB319_308.out;have hnc14:=NB308_319.out;obtain ⟨hcz15_0,hcz15_1,hcz15_2,hfz15_0,hfz15_1,hfz15_2⟩:=k3f_ BK319;obtain ⟨Ao16,co16,eo16⟩:=Kd.R_slice HO316.out;subst eo16;have hnb17:=NB308_307.out;have hnc17:=NB307_308.out;obtain ⟨hcz18_0,hcz18_1,hcz18_2,hfz18_0,hfz18_1,hfz18_2⟩:=k3f_ BK308)|(go_at_call 87;(with_reducible refine (spec_LogFile.calls k a2_0 a2_1 _ _ l2_2 t320 t321 _ ?side1 ?side2 A5.out).mono ?_);(case side1 => exact Kd.C_below HR2_2.out (bq_ HB));(case side2 => exact HC2_2.out);rintro e w19 ⟨rfl,hb⟩;replace HO311:=A_ (rb_ (by exact (rm_ (rf_ (p:=⟨gb319,2,none⟩) (rf_ (p:=⟨gb319,1,none⟩) (rf_ (p:=⟨gb319,0,none⟩) (Kd.R_types HO311.out BK319.out (by decide)) (fun _ hk => hk.2) (.int .i64 t312)) (fun _ hk => hk.2) (.int .i64 t313)) (fun _ hk => hk.2) (.slice Ao16 t314.length co16)) (fun _ h_ => h_.1))) hb);replace HO316:=A_ (rb_ (by exact (rm_ (rf_ (p:=⟨gb319,2,none⟩) (rf_ (p:=⟨gb319,1,none⟩) (rf_ (p:=⟨gb319,0,none⟩) (Kd.R_types HO316.out BK319.out (by decide)) (fun _ hk => hk.2) (.int .i64 t312)) (fun _ hk => hk.2) (.int .i64 t313)) (fun _ hk => hk.2) (.slice Ao16 t314.length co16)) (fun _ h_ => h_.1))) hb);replace BK307:=A_ (kb_ (g:=gb307) (o:=.cells #[.int .i64 a1_0,.int .i64 a1_1,.slice A1_2 l1_2.length c1_2] 24 (0,0)) (kz_ BK307) hb);replace BK308:=A_ (kb_ (g:=gb308) (o:=.cells #[.int .i64 a2_0,.int .i64 a2_1,.slice A2_2 l2_2.length c2_2] 24 (0,0)) (kz_ BK308) hb);replace BK319:=A_ (kb_ (g:=gb319) (o:=.cells #[.int .i64 t312,.int .i64 t313,.slice Ao16 t314.length co16] 24 (0,0)) (kz_ BK319) hb);replace HB:=bS_ HB hb;(try clear hb)))
 go_cut [50] (fun v50 wc => ∃ (kq : Nat) (x50_5 : Bool),v50 = .bool x50_5 ∧ Aside0 (spec_LogSteps.j0 kq a0 y309 t320 x50_5 a1_0 a1_1 l1_2 a2_0 a2_1 l2_2 = some (r1,r2)) ∧ Aside0 (kq ≤ k) ∧ Aside0 (Kd.R k126 126 wc w.heap.size (fun _ => True) v310 y309) ∧ Aside0 (Kd.R k69 69 wc w.heap.size (fun _ => True) (.slice Ao16 t314.length co16) t314) ∧ Aside0 (wc.heap[gb307]? = some (.cells #[.int .i64 a1_0,.int .i64 a1_1,(.slice A1_2 l1_2.length c1_2)] 24 (0,0))) ∧ Aside0 (wc.heap[gb308]? = some (.cells #[.int .i64 a2_0,.int .i64 a2_1,(.slice A2_2 l2_2.length c2_2)] 24 (0,0))) ∧ Aside0 (wc.heap[gb319]? = some (.cells #[.int .i64 t312,.int .i64 t313,(.slice Ao16 t314.length co16)] 24 (0,0))) ∧ Aside0 (Below w.heap.size w wc))
 case first =>
  have H:=HC6.out;clear HC6;replace H:=ob_.mp H;obtain ⟨t322,A200,H⟩:=H;have A20:=A_ A200;clear A200
  by_cases c21 : t322 = true
  ·subst c21
   rw [if_pos rfl] at H
   by_cases c22 : t321 = true
   ·subst c22
    rw [if_pos rfl] at H
    by_cases c23 : t318 = true
    ·subst c23
     rw [if_pos rfl] at H
     by_cases c24 : t317 = (a0.size : Int)
     ·rw [if_pos c24] at H;have c24b0 : (t317 == (a0.size : Int)) = true:=beq_iff_eq.mpr c24;have c24b1 : (t317 != (a0.size : Int)) = false:=bne_eq_false_iff_eq.mpr c24;clear c24
      (skip)
      replace H:=ob_.mp H;obtain ⟨t323,A250,H⟩:=H;have A25:=A_ A250;clear A250;have H':=A_ H;clear H;have hnb26:=NB307_308.out;have hnc26:=NB308_307.out;have hnb27:=NB307_319.out;have hnc27:=NB319_307.out;obtain ⟨hcz28_0,hcz28_1,hcz28_2,hfz28_0,hfz28_1,hfz28_2⟩:=k3f_ BK307
      go_wp2_with (first|(go_at_call 43;(with_reducible refine (spec_LogOk.calls k a1_0 a1_1 _ _ l1_2 true _ ?side1 ?side2 A20.out).mono ?_);(case side1 => repeat (exact (Kd.C_below HR1_2.out HB.out)));(case side2 => exact HC1_2.out);rintro e w29 ⟨rfl,hb⟩;replace HO311:=rB_ HO311 hb;replace HO316:=rB_ HO316 hb;replace BK307:=kB_ BK307 hb;replace BK308:=kB_ BK308 hb;replace BK319:=kB_ BK319 hb;replace HB:=bS_ HB hb;(try clear hb);have hnb30:=NB319_308.out;have hnc30:=NB308_319.out;obtain ⟨hcz31_0,hcz31_1,hcz31_2,hfz31_0,hfz31_1,hfz31_2⟩:=k3f_ BK319;obtain ⟨hcz32_0,hcz32_1,hcz32_2,hfz32_0,hfz32_1,hfz32_2⟩:=k3f_ BK307)|(go_at_call 88;(with_reducible refine (spec_l12Same.calls k t312 t313 _ _ t314 a1_0 a1_1 _ _ l1_2 t323 _ ?side1 ?side2 ?side3 ?side4 A25.out).mono ?_);(case side1 => repeat (exact (Kd.R_reads' HO316.out).2.2));(case side2 => exact (Kd.R_reads' HO316.out).2.1);(case side3 => repeat (exact (Kd.C_below HR1_2.out HB.out)));(case side4 => exact HC1_2.out);rintro e w33 ⟨rfl,hb⟩;replace HO311:=rB_ HO311 hb;replace HO316:=rB_ HO316 hb;replace BK307:=kB_ BK307 hb;replace BK308:=kB_ BK308 hb;replace BK319:=kB_ BK319 hb;replace HB:=bS_ HB hb;(try clear hb)))
      go_meet
      case rel => exact ⟨_,(!t323),(by rfl),H',⟨by omega⟩,⟨HO311.out⟩,⟨HO316.out⟩,⟨kq_ BK307⟩,⟨kq_ BK308⟩,⟨kq_ BK319⟩,⟨bq_ HB⟩⟩
     ·rw [if_neg c24] at H;have c24b0 : (t317 == (a0.size : Int)) = false:=beq_eq_false_iff_ne.mpr c24;have c24b1 : (t317 != (a0.size : Int)) = true:=bne_iff_ne.mpr c24
      (skip)
      have H':=A_ H;clear H;have hnb34:=NB307_308.out;have hnc34:=NB308_307.out;have hnb35:=NB307_319.out;have hnc35:=NB319_307.out;obtain ⟨hcz36_0,hcz36_1,hcz36_2,hfz36_0,hfz36_1,hfz36_2⟩:=k3f_ BK307
      go_wp2_with ((go_at_call 43;(with_reducible refine (spec_LogOk.calls k a1_0 a1_1 _ _ l1_2 true _ ?side1 ?side2 A20.out).mono ?_);(case side1 => repeat (exact (Kd.C_below HR1_2.out HB.out)));(case side2 => exact HC1_2.out);rintro e w37 ⟨rfl,hb⟩;replace HO311:=rB_ HO311 hb;replace HO316:=rB_ HO316 hb;replace BK307:=kB_ BK307 hb;replace BK308:=kB_ BK308 hb;replace BK319:=kB_ BK319 hb;replace HB:=bS_ HB hb;(try clear hb)))
      go_meet
      case rel => exact ⟨_,(true),(by rfl),H',⟨by omega⟩,⟨HO311.out⟩,⟨HO316.out⟩,⟨kq_ BK307⟩,⟨kq_ BK308⟩,⟨kq_ BK319⟩,⟨bq_ HB⟩⟩
    ·replace c23:=Bool.eq_false_iff.mpr c23;subst c23
     have H1 : (spec_LogSteps.j0 k a0 y309 t320 true a1_0 a1_1 l1_2 a2_0 a2_1 l2_2) = some (r1,r2):=by rw [if_neg (show ¬ (false = true) by decide)] at H;exact H
     clear H;have H:=H1;clear H1;have H':=A_ H;clear H;have hnb38:=NB307_308.out;have hnc38:=NB308_307.out;have hnb39:=NB307_319.out;have hnc39:=NB319_307.out;obtain ⟨hcz40_0,hcz40_1,hcz40_2,hfz40_0,hfz40_1,hfz40_2⟩:=k3f_ BK307
     go_wp2_with ((go_at_call 43;(with_reducible refine (spec_LogOk.calls k a1_0 a1_1 _ _ l1_2 true _ ?side1 ?side2 A20.out).mono ?_);(case side1 => repeat (exact (Kd.C_below HR1_2.out HB.out)));(case side2 => exact HC1_2.out);rintro e w41 ⟨rfl,hb⟩;replace HO311:=rB_ HO311 hb;replace HO316:=rB_ HO316 hb;replace BK307:=kB_ BK307 hb;replace BK308:=kB_ BK308 hb;replace BK319:=kB_ BK319 hb;replace HB:=bS_ HB hb;(try clear hb)))
     go_meet
     case rel => exact ⟨_,(true),(by rfl),H',⟨by omega⟩,⟨HO311.out⟩,⟨HO316.out⟩,⟨kq_ BK307⟩,⟨kq_ BK308⟩,⟨kq_ BK319⟩,⟨bq_ HB⟩⟩
   ·replace c22:=Bool.eq_false_iff.mpr c22;subst c22
    have H1 : (spec_LogSteps.j0 k a0 y309 t320 true a1_0 a1_1 l1_2 a2_0 a2_1 l2_2) = some (r1,r2):=by rw [if_neg (show ¬ (false = true) by decide)] at H;exact H
    clear H;have H:=H1;clear H1;have H':=A_ H;clear H;have hnb42:=NB307_308.out;have hnc42:=NB308_307.out;have hnb43:=NB307_319.out;have hnc43:=NB319_307.out;obtain ⟨hcz44_0,hcz44_1,hcz44_2,hfz44_0,hfz44_1,hfz44_2⟩:=k3f_ BK307
    go_wp2_with ((go_at_call 43;(with_reducible refine (spec_LogOk.calls k a1_0 a1_1 _ _ l1_2 true _ ?side1 ?side2 A20.out).mono ?_);(case side1 => repeat (exact (Kd.C_below HR1_2.out HB.out)));(case side2 => exact HC1_2.out);rintro e w45 ⟨rfl,hb⟩;replace HO311:=rB_ HO311 hb;replace HO316:=rB_ HO316 hb;replace BK307:=kB_ BK307 hb;replace BK308:=kB_ BK308 hb;replace BK319:=kB_ BK319 hb;replace HB:=bS_ HB hb;(try clear hb)))
    go_meet
    case rel => exact ⟨_,(true),(by rfl),H',⟨by omega⟩,⟨HO311.out⟩,⟨HO316.out⟩,⟨kq_ BK307⟩,⟨kq_ BK308⟩,⟨kq_ BK319⟩,⟨bq_ HB⟩⟩
  ·replace c21:=Bool.eq_false_iff.mpr c21;subst c21
   have H1 : (spec_LogSteps.j0 k a0 y309 t320 true a1_0 a1_1 l1_2 a2_0 a2_1 l2_2) = some (r1,r2):=by rw [if_neg (show ¬ (false = true) by decide)] at H;exact H
   clear H;have H:=H1;clear H1;have H':=A_ H;clear H;have hnb46:=NB307_308.out;have hnc46:=NB308_307.out;have hnb47:=NB307_319.out;have hnc47:=NB319_307.out;obtain ⟨hcz48_0,hcz48_1,hcz48_2,hfz48_0,hfz48_1,hfz48_2⟩:=k3f_ BK307
   go_wp2_with ((go_at_call 43;(with_reducible refine (spec_LogOk.calls k a1_0 a1_1 _ _ l1_2 false _ ?side1 ?side2 A20.out).mono ?_);(case side1 => repeat (exact (Kd.C_below HR1_2.out HB.out)));(case side2 => exact HC1_2.out);rintro e w49 ⟨rfl,hb⟩;replace HO311:=rB_ HO311 hb;replace HO316:=rB_ HO316 hb;replace BK307:=kB_ BK307 hb;replace BK308:=kB_ BK308 hb;replace BK319:=kB_ BK319 hb;replace HB:=bS_ HB hb;(try clear hb)))
   go_meet
   case rel => exact ⟨_,(true),(by rfl),H',⟨by omega⟩,⟨HO311.out⟩,⟨HO316.out⟩,⟨kq_ BK307⟩,⟨kq_ BK308⟩,⟨kq_ BK319⟩,⟨bq_ HB⟩⟩
 case rest =>
  clear HC6
  try clear c1
  try clear c2
  try clear p2
  try clear c3
  try clear c4
  try clear c13
  try clear c14
  try clear c17
  try clear c21
  try clear c22
  try clear c23
  try clear c24
  try clear c24b0
  try clear c24b1
  try clear c26
  try clear c27
  try clear c30
  try clear c33
  try clear c34
  try clear c35
  try clear c38
  try clear c39
  try clear c42
  try clear c43
  try clear c46
  try clear c47
  try clear hcz15_0
  try clear hcz15_1
  try clear hcz15_2
  try clear hcz18_0
  try clear hcz18_1
  try clear hcz18_2
  try clear hcz28_0
  try clear hcz28_1
  try clear hcz28_2
  try clear hcz31_0
  try clear hcz31_1
  try clear hcz31_2
  try clear hcz32_0
  try clear hcz32_1
  try clear hcz32_2
  try clear hcz36_0
  try clear hcz36_1
  try clear hcz36_2
  try clear hcz40_0
  try clear hcz40_1
  try clear hcz40_2
  try clear hcz44_0
  try clear hcz44_1
  try clear hcz44_2
  try clear hcz48_0
  try clear hcz48_1
  try clear hcz48_2
  try clear hfz15_0
  try clear hfz15_1
  try clear hfz15_2
  try clear hfz18_0
  try clear hfz18_1
  try clear hfz18_2
  try clear hfz28_0
  try clear hfz28_1
  try clear hfz28_2
  try clear hfz31_0
  try clear hfz31_1
  try clear hfz31_2
  try clear hfz32_0
  try clear hfz32_1
  try clear hfz32_2
  try clear hfz36_0
  try clear hfz36_1
  try clear hfz36_2
  try clear hfz40_0
  try clear hfz40_1
  try clear hfz40_2
  try clear hfz44_0
  try clear hfz44_1
  try clear hfz44_2
  try clear hfz48_0
  try clear hfz48_1
  try clear hfz48_2
  obtain ⟨kq,x50_5,rfl,HA,HJ5,HO_8,HO_320002,BK307,BK308,BK319,HB⟩:=hcut
  cases kq with
  | zero => exact absurd HA.out (by simp [spec_LogSteps.j0])
  | succ kj5 =>
   have H:=HA.out;clear HA;simp only [spec_LogSteps.j0] at H
   by_cases c50 : x50_5 = true
   ·subst c50
    rw [if_pos rfl] at H;simp only [Option.some.injEq,Prod.mk.injEq] at H;obtain ⟨rfl,rfl⟩:=H;go_wp2
    go_ret2;exact ⟨_,by rfl,by exact HO_8.out,bq_ HB⟩
   ·replace c50:=Bool.eq_false_iff.mpr c50;subst c50
    have H1 : ((spec_l12Same.f kj5 a1_0 a1_1 l1_2 a2_0 a2_1 l2_2).bind fun t324 => (if t324 = true then (some (y309,true)) else (spec_LogSteps.l0 kj5 a0 t320 0 a1_0 a1_1 l1_2 a2_0 a2_1 l2_2))) = some (r1,r2):=by rw [if_neg (show ¬ (false = true) by decide)] at H;exact H
    clear H;have H:=H1;clear H1;replace H:=ob_.mp H;obtain ⟨t324,A510,H⟩:=H;have A51:=A_ A510;clear A510
    by_cases c52 : t324 = true
    ·subst c52
     rw [if_pos rfl] at H;simp only [Option.some.injEq,Prod.mk.injEq] at H;obtain ⟨rfl,rfl⟩:=H;have hnb53:=NB307_308.out;have hnc53:=NB308_307.out;have hnb54:=NB307_319.out;have hnc54:=NB319_307.out;obtain ⟨hcz55_0,hcz55_1,hcz55_2,hfz55_0,hfz55_1,hfz55_2⟩:=k3f_ BK307;have hnb56:=NB308_319.out;have hnc56:=NB319_308.out;obtain ⟨hcz57_0,hcz57_1,hcz57_2,hfz57_0,hfz57_1,hfz57_2⟩:=k3f_ BK308
     go_wp2_with ((go_at_call 88;(with_reducible refine (spec_l12Same.calls kj5 a1_0 a1_1 _ _ l1_2 a2_0 a2_1 _ _ l2_2 true _ ?side1 ?side2 ?side3 ?side4 A51.out).mono ?_);(case side1 => repeat (exact (Kd.C_below HR1_2.out HB.out)));(case side2 => exact HC1_2.out);(case side3 => repeat (exact (Kd.C_below HR2_2.out HB.out)));(case side4 => exact HC2_2.out);rintro e w58 ⟨rfl,hb⟩;replace HO_8:=rB_ HO_8 hb;replace HO_320002:=rB_ HO_320002 hb;replace BK307:=kB_ BK307 hb;replace BK308:=kB_ BK308 hb;replace BK319:=kB_ BK319 hb;replace HB:=bS_ HB hb;(try clear hb)))
     go_ret2;exact ⟨_,by rfl,by exact HO_8.out,bq_ HB⟩
    ·replace c52:=Bool.eq_false_iff.mpr c52;subst c52
     have H1 : (spec_LogSteps.l0 kj5 a0 t320 0 a1_0 a1_1 l1_2 a2_0 a2_1 l2_2) = some (r1,r2):=by rw [if_neg (show ¬ (false = true) by decide)] at H;exact H
     clear H;have H:=H1;clear H1;have H':=A_ H;clear H;have hnb59:=NB307_308.out;have hnc59:=NB308_307.out;have hnb60:=NB307_319.out;have hnc60:=NB319_307.out;obtain ⟨hcz61_0,hcz61_1,hcz61_2,hfz61_0,hfz61_1,hfz61_2⟩:=k3f_ BK307;have hnb62:=NB308_319.out;have hnc62:=NB319_308.out;obtain ⟨hcz63_0,hcz63_1,hcz63_2,hfz63_0,hfz63_1,hfz63_2⟩:=k3f_ BK308
     go_wp2_with ((go_at_call 88;(with_reducible refine (spec_l12Same.calls kj5 a1_0 a1_1 _ _ l1_2 a2_0 a2_1 _ _ l2_2 false _ ?side1 ?side2 ?side3 ?side4 A51.out).mono ?_);(case side1 => repeat (exact (Kd.C_below HR1_2.out HB.out)));(case side2 => exact HC1_2.out);(case side3 => repeat (exact (Kd.C_below HR2_2.out HB.out)));(case side4 => exact HC2_2.out);rintro e w64 ⟨rfl,hb⟩;replace HO_8:=rB_ HO_8 hb;replace HO_320002:=rB_ HO_320002 hb;replace BK307:=kB_ BK307 hb;replace BK308:=kB_ BK308 hb;replace BK319:=kB_ BK319 hb;replace HB:=bS_ HB hb;(try clear hb)))
     go_loopg [14] kj5 (fun kq v14 w' => ∃ (x14_2 : Int),v14 = .int .i64 x14_2 ∧ Aside0 (spec_LogSteps.l0 kq a0 t320 x14_2 a1_0 a1_1 l1_2 a2_0 a2_1 l2_2 = some (r1,r2)) ∧ Aside0 (kq ≤ kj5) ∧ Aside0 (Kd.R k69 69 w' w.heap.size (fun _ => True) (.slice Ao16 t314.length co16) t314) ∧ Aside0 (w'.heap[gb307]? = some (.cells #[.int .i64 a1_0,.int .i64 a1_1,(.slice A1_2 l1_2.length c1_2)] 24 (0,0))) ∧ Aside0 (w'.heap[gb308]? = some (.cells #[.int .i64 a2_0,.int .i64 a2_1,(.slice A2_2 l2_2.length c2_2)] 24 (0,0))) ∧ Aside0 (w'.heap[gb319]? = some (.cells #[.int .i64 t312,.int .i64 t313,(.slice Ao16 t314.length co16)] 24 (0,0))) ∧ Aside0 (Below w.heap.size w w'))
     case atStart => exact ⟨(0),(by rfl),H',⟨Nat.le_refl _⟩,⟨HO_320002.out⟩,⟨kq_ BK307⟩,⟨kq_ BK308⟩,⟨kq_ BK319⟩,⟨bq_ HB⟩⟩
     case round =>
      clear H'
      try clear c1
      try clear c2
      try clear p2
      try clear c3
      try clear c4
      try clear c5
      try clear c6
      try clear c13
      try clear c14
      try clear c17
      try clear c21
      try clear c22
      try clear c23
      try clear c24
      try clear c24b0
      try clear c24b1
      try clear c26
      try clear c27
      try clear c30
      try clear c33
      try clear c34
      try clear c35
      try clear c38
      try clear c39
      try clear c42
      try clear c43
      try clear c46
      try clear c47
      try clear c50
      try clear c52
      try clear c53
      try clear c54
      try clear c56
      try clear c59
      try clear c60
      try clear c62
      try clear hcz15_0
      try clear hcz15_1
      try clear hcz15_2
      try clear hcz18_0
      try clear hcz18_1
      try clear hcz18_2
      try clear hcz28_0
      try clear hcz28_1
      try clear hcz28_2
      try clear hcz31_0
      try clear hcz31_1
      try clear hcz31_2
      try clear hcz32_0
      try clear hcz32_1
      try clear hcz32_2
      try clear hcz36_0
      try clear hcz36_1
      try clear hcz36_2
      try clear hcz40_0
      try clear hcz40_1
      try clear hcz40_2
      try clear hcz44_0
      try clear hcz44_1
      try clear hcz44_2
      try clear hcz48_0
      try clear hcz48_1
      try clear hcz48_2
      try clear hcz55_0
      try clear hcz55_1
      try clear hcz55_2
      try clear hcz57_0
      try clear hcz57_1
      try clear hcz57_2
      try clear hcz61_0
      try clear hcz61_1
      try clear hcz61_2
      try clear hcz63_0
      try clear hcz63_1
      try clear hcz63_2
      try clear hfz15_0
      try clear hfz15_1
      try clear hfz15_2
      try clear hfz18_0
      try clear hfz18_1
      try clear hfz18_2
      try clear hfz28_0
      try clear hfz28_1
      try clear hfz28_2
      try clear hfz31_0
      try clear hfz31_1
      try clear hfz31_2
      try clear hfz32_0
      try clear hfz32_1
      try clear hfz32_2
      try clear hfz36_0
      try clear hfz36_1
      try clear hfz36_2
      try clear hfz40_0
      try clear hfz40_1
      try clear hfz40_2
      try clear hfz44_0
      try clear hfz44_1
      try clear hfz44_2
      try clear hfz48_0
      try clear hfz48_1
      try clear hfz48_2
      try clear hfz55_0
      try clear hfz55_1
      try clear hfz55_2
      try clear hfz57_0
      try clear hfz57_1
      try clear hfz57_2
      try clear hfz61_0
      try clear hfz61_1
      try clear hfz61_2
      try clear hfz63_0
      try clear hfz63_1
      try clear hfz63_2
      try clear p2
      obtain ⟨x14_2,rfl,HA,HK2,HO_320002,BK307,BK308,BK319,HB⟩:=hrel
      cases gk with
      | zero => exact absurd HA.out (by simp [spec_LogSteps.l0])
      | succ k2 =>
       have H:=HA.out;clear HA;simp only [spec_LogSteps.l0] at H
       by_cases c65 : x14_2 < (l1_2.length : Int)
       ·rw [if_pos c65] at H;have c65b0 : decide (x14_2 < (l1_2.length : Int)) = true:=de_ c65;clear c65
        by_cases c66 : x14_2 < (l2_2.length : Int)
        ·rw [if_pos c66] at H;have c66b0 : decide (x14_2 < (l2_2.length : Int)) = true:=de_ c66;clear c66
         by_cases c67 : 0 ≤ x14_2
         ·rw [if_pos c67] at H;have c67b0 : decide (0 ≤ x14_2) = true:=de_ c67;clear c67
          by_cases c68 : (((rd_T69 l1_2 x14_2).f0) == ((rd_T69 l2_2 x14_2).f0) && (((rd_T69 l1_2 x14_2).f1) == ((rd_T69 l2_2 x14_2).f1) && ((((rd_T69 l1_2 x14_2).f2).toList) == (((rd_T69 l2_2 x14_2).f2).toList)))) = true
          ·rw [if_pos c68] at H;have c68b0 : (((rd_T69 l1_2 x14_2).f0) == ((rd_T69 l2_2 x14_2).f0) && (((rd_T69 l1_2 x14_2).f1) == ((rd_T69 l2_2 x14_2).f1) && ((((rd_T69 l1_2 x14_2).f2).toList) == (((rd_T69 l2_2 x14_2).f2).toList)))) = true:=c68
           (try (have c68b1 : decide (((rd_T69 l1_2 x14_2).f0) = ((rd_T69 l2_2 x14_2).f0) && (((rd_T69 l1_2 x14_2).f1) == ((rd_T69 l2_2 x14_2).f1) && ((((rd_T69 l1_2 x14_2).f2).toList) == (((rd_T69 l2_2 x14_2).f2).toList)))) = true:=by simpa using c68))
           (try (have c68b2 : (((rd_T69 l1_2 x14_2).f0) == ((rd_T69 l2_2 x14_2).f0) && (((rd_T69 l1_2 x14_2).f1) == ((rd_T69 l2_2 x14_2).f1) && ((((rd_T69 l1_2 x14_2).f2).toList) == (((rd_T69 l2_2 x14_2).f2).toList)))) = true:=by simpa using c68))
           clear c68;have H':=A_ H;clear H;have hnb69:=NB307_308.out;have hnc69:=NB308_307.out;have hnb70:=NB307_319.out;have hnc70:=NB319_307.out;obtain ⟨hcz71_0,hcz71_1,hcz71_2,hfz71_0,hfz71_1,hfz71_2⟩:=k3f_ BK307;have hnb72:=NB308_319.out;have hnc72:=NB319_308.out;obtain ⟨hcz73_0,hcz73_1,hcz73_2,hfz73_0,hfz73_1,hfz73_2⟩:=k3f_ BK308;have p325 : 0 ≤ (x14_2 : Int):=oda_;have q325 : x14_2 < (l1_2.length : Int):=oda_;obtain ⟨ad325,e325,hx325_0,hx325_1,hx325_2⟩:=at_T69 HR1_2.out x14_2 p325 q325
           cases e325
           replace hx325_0:=(HB.out.cell (wb_ w _ hx325_0)).trans hx325_0;replace hx325_1:=(HB.out.cell (wb_ w _ hx325_1)).trans hx325_1;replace hx325_2:=(HB.out.cell (wb_ w _ hx325_2)).trans hx325_2;replace p325:=eq_true p325;replace q325:=eq_true q325;have p326 : 0 ≤ (x14_2 : Int):=oda_;have q326 : x14_2 < (l2_2.length : Int):=oda_;obtain ⟨ad326,e326,hx326_0,hx326_1,hx326_2⟩:=at_T69 HR2_2.out x14_2 p326 q326
           cases e326
           replace hx326_0:=(HB.out.cell (wb_ w _ hx326_0)).trans hx326_0;replace hx326_1:=(HB.out.cell (wb_ w _ hx326_1)).trans hx326_1;replace hx326_2:=(HB.out.cell (wb_ w _ hx326_2)).trans hx326_2;replace p326:=eq_true p326;replace q326:=eq_true q326;go_wp2
           repeat (go_quiet (fail);try go_wp2)
           go_roundg k2
           case measure => have:=HJ5.out;have:=HK2.out;omega
           case rel => exact ⟨(wrap64 (x14_2 + 1)),(by rfl),H',⟨by have:=HJ5.out;have:=HK2.out;omega⟩,⟨by (with_reducible repeat (apply rn_));exact HO_320002.out⟩,⟨kq_ BK307⟩,⟨kq_ BK308⟩,⟨kq_ BK319⟩,⟨bq_ HB⟩⟩
          ·rw [if_neg c68] at H
           have c68b0 : (((rd_T69 l1_2 x14_2).f0) == ((rd_T69 l2_2 x14_2).f0) && (((rd_T69 l1_2 x14_2).f1) == ((rd_T69 l2_2 x14_2).f1) && ((((rd_T69 l1_2 x14_2).f2).toList) == (((rd_T69 l2_2 x14_2).f2).toList)))) = false:=by simpa using c68
           (try (have c68b1 : decide (((rd_T69 l1_2 x14_2).f0) = ((rd_T69 l2_2 x14_2).f0) && (((rd_T69 l1_2 x14_2).f1) == ((rd_T69 l2_2 x14_2).f1) && ((((rd_T69 l1_2 x14_2).f2).toList) == (((rd_T69 l2_2 x14_2).f2).toList)))) = false:=by simpa using c68))
           (try (have c68b2 : (((rd_T69 l1_2 x14_2).f0) == ((rd_T69 l2_2 x14_2).f0) && (((rd_T69 l1_2 x14_2).f1) == ((rd_T69 l2_2 x14_2).f1) && ((((rd_T69 l1_2 x14_2).f2).toList) == (((rd_T69 l2_2 x14_2).f2).toList)))) = false:=by simpa using c68))
           (try (have c68b3 : ¬ (((rd_T69 l1_2 x14_2).f0) = ((rd_T69 l2_2 x14_2).f0) && (((rd_T69 l1_2 x14_2).f1) == ((rd_T69 l2_2 x14_2).f1) && ((((rd_T69 l1_2 x14_2).f2).toList) == (((rd_T69 l2_2 x14_2).f2).toList)))):=by simpa using c68))
           clear c68;replace H:=ob_.mp H;obtain ⟨t327,A740,H⟩:=H;have A74:=A_ A740;clear A740
           by_cases c75 : a1_0 = a2_0
           ·rw [if_pos c75] at H;have c75b0 : (a1_0 == a2_0) = true:=beq_iff_eq.mpr c75;have c75b1 : (a1_0 != a2_0) = false:=bne_eq_false_iff_eq.mpr c75;clear c75
            by_cases c76 : a1_1 = a2_1
            ·rw [if_pos c76] at H;have c76b0 : (a1_1 == a2_1) = true:=beq_iff_eq.mpr c76;have c76b1 : (a1_1 != a2_1) = false:=bne_eq_false_iff_eq.mpr c76;clear c76
             by_cases c77 : (wrap64 ((a0.size : Int) + (t327.size : Int))) ≤ 20000
             ·rw [if_pos c77] at H;have c77b0 : decide ((wrap64 ((a0.size : Int) + (t327.size : Int))) ≤ 20000) = true:=de_ c77;clear c77;obtain ⟨y328,hy328⟩ : ∃ y_ : List (S126),y_ = (([(⟨2,(⟨#[108,111,103]⟩ : ByteArray),(⟨#[]⟩ : ByteArray),t327⟩ : S126)] : List (S126))):=⟨_,rfl⟩
              replace H : (some (y328,true)) = some (r1,r2):=by (rw [hy328];with_reducible exact H)
              have Ny328:=A_ hy328;clear hy328;simp only [Option.some.injEq,Prod.mk.injEq] at H;obtain ⟨rfl,rfl⟩:=H;have hnb78:=NB307_308.out;have hnc78:=NB308_307.out;have hnb79:=NB307_319.out;have hnc79:=NB319_307.out;obtain ⟨hcz80_0,hcz80_1,hcz80_2,hfz80_0,hfz80_1,hfz80_2⟩:=k3f_ BK307;have hnb81:=NB308_319.out;have hnc81:=NB319_308.out;obtain ⟨hcz82_0,hcz82_1,hcz82_2,hfz82_0,hfz82_1,hfz82_2⟩:=k3f_ BK308;have p325 : 0 ≤ (x14_2 : Int):=oda_;have q325 : x14_2 < (l1_2.length : Int):=oda_;obtain ⟨ad325,e325,hx325_0,hx325_1,hx325_2⟩:=at_T69 HR1_2.out x14_2 p325 q325
              cases e325
              replace hx325_0:=(HB.out.cell (wb_ w _ hx325_0)).trans hx325_0;replace hx325_1:=(HB.out.cell (wb_ w _ hx325_1)).trans hx325_1;replace hx325_2:=(HB.out.cell (wb_ w _ hx325_2)).trans hx325_2;replace p325:=eq_true p325;replace q325:=eq_true q325;have p326 : 0 ≤ (x14_2 : Int):=oda_;have q326 : x14_2 < (l2_2.length : Int):=oda_;obtain ⟨ad326,e326,hx326_0,hx326_1,hx326_2⟩:=at_T69 HR2_2.out x14_2 p326 q326
              cases e326
              replace hx326_0:=(HB.out.cell (wb_ w _ hx326_0)).trans hx326_0;replace hx326_1:=(HB.out.cell (wb_ w _ hx326_1)).trans hx326_1;replace hx326_2:=(HB.out.cell (wb_ w _ hx326_2)).trans hx326_2;replace p326:=eq_true p326;replace q326:=eq_true q326
              go_wp2
              repeat (go_quiet (fail);try go_wp2_with (first|(go_at_call 89;(with_reducible refine (spec_l12Frames.calls k2 a2_0 a2_1 _ _ l2_2 x14_2 t327 _ ?side1 ?side2 A74.out).mono ?_);(case side1 => repeat (first|exact (Kd.C_below HR2_2.out HB.out)|(with_reducible refine Kd.C_drewN ?_ _)));(case side2 => exact HC2_2.out);rintro e w83 ⟨rfl,hb⟩;have n0_:=rB_ HO_320002 hb;have n1_:=kB_ BK307 hb;have n2_:=kB_ BK308 hb;have n3_:=kB_ BK319 hb;have n4_:=bS_ HB hb;clear HO_320002;clear BK307;clear BK308;clear BK319;clear HB;have HO_320002:=n0_;have BK307:=n1_;have BK308:=n2_;have BK319:=n3_;have HB:=n4_;clear n0_ n1_ n2_ n3_ n4_;(try clear hb);obtain ⟨hcz84_0,hcz84_1,hcz84_2,hfz84_0,hfz84_1,hfz84_2⟩:=k3f_ BK307;obtain ⟨hcz85_0,hcz85_1,hcz85_2,hfz85_0,hfz85_1,hfz85_2⟩:=k3f_ BK308)|((with_reducible refine gate_dst (N:=115) rfl ?_);(try (refine gate_guard (by rfl) ?_;dsimp only));refine rX_ (d:=k126) (e:=126) (xs:=([(⟨2,(⟨#[108,111,103]⟩ : ByteArray),(⟨#[]⟩ : ByteArray),t327⟩ : S126)] : List (S126))) (inner:=[.int .i64 2,.string (⟨#[108,111,103]⟩ : ByteArray),.string (⟨#[]⟩ : ByteArray),.string t327]) (ok:=fun _ => True) (okp:=fun _ => True) 115 (Reps.c4 (show Kd.M k126 _ _ _ (⟨2,(⟨#[108,111,103]⟩ : ByteArray),(⟨#[]⟩ : ByteArray),t327⟩ : S126) [.int .i64 2,.string (⟨#[108,111,103]⟩ : ByteArray),.string (⟨#[]⟩ : ByteArray),.string t327] from (k126_mkM _ _ _ (⟨2,(⟨#[108,111,103]⟩ : ByteArray),(⟨#[]⟩ : ByteArray),t327⟩ : S126) )) (Reps.none _ _)) ?_;intro v329 w86 ho87 hb hg_ hnew_;clear hg_ hnew_;(rw [← Ny328.out] at ho87);have n0_:=rB_ HO_320002 hb;have n1_:=A_ (rw_ ho87 (bz_ (bq_ HB)));have n2_:=kB_ BK307 hb;have n3_:=kB_ BK308 hb;have n4_:=kB_ BK319 hb;have n5_:=bS_ HB hb;clear HO_320002;clear BK307;clear BK308;clear BK319;clear HB;have HO_320002:=n0_;have HO330:=n1_;have BK307:=n2_;have BK308:=n3_;have BK319:=n4_;have HB:=n5_;clear n0_ n1_ n2_ n3_ n4_ n5_;clear hb ho87)))
              go_ret2;exact ⟨_,by rfl,by exact HO330.out,bq_ HB⟩
             ·rw [if_neg c77] at H;have c77b0 : decide ((wrap64 ((a0.size : Int) + (t327.size : Int))) ≤ 20000) = false:=decide_eq_false c77;clear c77;obtain ⟨y331,hy331⟩ : ∃ y_ : List (S126),y_ = (([(⟨1,(⟨#[108,111,103,43]⟩ : ByteArray),(⟨#[]⟩ : ByteArray),t320⟩ : S126),(⟨3,(⟨#[108,111,103,43]⟩ : ByteArray),(⟨#[108,111,103]⟩ : ByteArray),(⟨#[]⟩ : ByteArray)⟩ : S126)] : List (S126))):=⟨_,rfl⟩
              replace H : (some (y331,true)) = some (r1,r2):=by (rw [hy331];with_reducible exact H)
              have Ny331:=A_ hy331;clear hy331;simp only [Option.some.injEq,Prod.mk.injEq] at H;obtain ⟨rfl,rfl⟩:=H;have hnb88:=NB307_308.out;have hnc88:=NB308_307.out;have hnb89:=NB307_319.out;have hnc89:=NB319_307.out;obtain ⟨hcz90_0,hcz90_1,hcz90_2,hfz90_0,hfz90_1,hfz90_2⟩:=k3f_ BK307;have hnb91:=NB308_319.out;have hnc91:=NB319_308.out;obtain ⟨hcz92_0,hcz92_1,hcz92_2,hfz92_0,hfz92_1,hfz92_2⟩:=k3f_ BK308;have p325 : 0 ≤ (x14_2 : Int):=oda_;have q325 : x14_2 < (l1_2.length : Int):=oda_;obtain ⟨ad325,e325,hx325_0,hx325_1,hx325_2⟩:=at_T69 HR1_2.out x14_2 p325 q325
              cases e325
              replace hx325_0:=(HB.out.cell (wb_ w _ hx325_0)).trans hx325_0;replace hx325_1:=(HB.out.cell (wb_ w _ hx325_1)).trans hx325_1;replace hx325_2:=(HB.out.cell (wb_ w _ hx325_2)).trans hx325_2;replace p325:=eq_true p325;replace q325:=eq_true q325;have p326 : 0 ≤ (x14_2 : Int):=oda_;have q326 : x14_2 < (l2_2.length : Int):=oda_;obtain ⟨ad326,e326,hx326_0,hx326_1,hx326_2⟩:=at_T69 HR2_2.out x14_2 p326 q326
              cases e326
              replace hx326_0:=(HB.out.cell (wb_ w _ hx326_0)).trans hx326_0;replace hx326_1:=(HB.out.cell (wb_ w _ hx326_1)).trans hx326_1;replace hx326_2:=(HB.out.cell (wb_ w _ hx326_2)).trans hx326_2;replace p326:=eq_true p326;replace q326:=eq_true q326
              go_wp2
              repeat (go_quiet (fail);try go_wp2_with (first|(go_at_call 89;(with_reducible refine (spec_l12Frames.calls k2 a2_0 a2_1 _ _ l2_2 x14_2 t327 _ ?side1 ?side2 A74.out).mono ?_);(case side1 => repeat (first|exact (Kd.C_below HR2_2.out HB.out)|(with_reducible refine Kd.C_drewN ?_ _)));(case side2 => exact HC2_2.out);rintro e w93 ⟨rfl,hb⟩;have n0_:=rB_ HO_320002 hb;have n1_:=kB_ BK307 hb;have n2_:=kB_ BK308 hb;have n3_:=kB_ BK319 hb;have n4_:=bS_ HB hb;clear HO_320002;clear BK307;clear BK308;clear BK319;clear HB;have HO_320002:=n0_;have BK307:=n1_;have BK308:=n2_;have BK319:=n3_;have HB:=n4_;clear n0_ n1_ n2_ n3_ n4_;(try clear hb);obtain ⟨hcz94_0,hcz94_1,hcz94_2,hfz94_0,hfz94_1,hfz94_2⟩:=k3f_ BK307;obtain ⟨hcz95_0,hcz95_1,hcz95_2,hfz95_0,hfz95_1,hfz95_2⟩:=k3f_ BK308)|((with_reducible refine gate_dst (N:=119) rfl ?_);(try (refine gate_guard (by rfl) ?_;dsimp only));refine rX_ (d:=k126) (e:=126) (xs:=([(⟨1,(⟨#[108,111,103,43]⟩ : ByteArray),(⟨#[]⟩ : ByteArray),t320⟩ : S126),(⟨3,(⟨#[108,111,103,43]⟩ : ByteArray),(⟨#[108,111,103]⟩ : ByteArray),(⟨#[]⟩ : ByteArray)⟩ : S126)] : List (S126))) (inner:=[.int .i64 1,.string (⟨#[108,111,103,43]⟩ : ByteArray),.string (⟨#[]⟩ : ByteArray),.string t320,.int .i64 3,.string (⟨#[108,111,103,43]⟩ : ByteArray),.string (⟨#[108,111,103]⟩ : ByteArray),.string (⟨#[]⟩ : ByteArray)]) (ok:=fun _ => True) (okp:=fun _ => True) 119 (Reps.c4 (show Kd.M k126 _ _ _ (⟨1,(⟨#[108,111,103,43]⟩ : ByteArray),(⟨#[]⟩ : ByteArray),t320⟩ : S126) [.int .i64 1,.string (⟨#[108,111,103,43]⟩ : ByteArray),.string (⟨#[]⟩ : ByteArray),.string t320] from (k126_mkM _ _ _ (⟨1,(⟨#[108,111,103,43]⟩ : ByteArray),(⟨#[]⟩ : ByteArray),t320⟩ : S126) )) (Reps.c4 (show Kd.M k126 _ _ _ (⟨3,(⟨#[108,111,103,43]⟩ : ByteArray),(⟨#[108,111,103]⟩ : ByteArray),(⟨#[]⟩ : ByteArray)⟩ : S126) [.int .i64 3,.string (⟨#[108,111,103,43]⟩ : ByteArray),.string (⟨#[108,111,103]⟩ : ByteArray),.string (⟨#[]⟩ : ByteArray)] from (k126_mkM _ _ _ (⟨3,(⟨#[108,111,103,43]⟩ : ByteArray),(⟨#[108,111,103]⟩ : ByteArray),(⟨#[]⟩ : ByteArray)⟩ : S126) )) (Reps.none _ _))) ?_;intro v332 w96 ho97 hb hg_ hnew_;clear hg_ hnew_;(rw [← Ny331.out] at ho97);have n0_:=rB_ HO_320002 hb;have n1_:=A_ (rw_ ho97 (bz_ (bq_ HB)));have n2_:=kB_ BK307 hb;have n3_:=kB_ BK308 hb;have n4_:=kB_ BK319 hb;have n5_:=bS_ HB hb;clear HO_320002;clear BK307;clear BK308;clear BK319;clear HB;have HO_320002:=n0_;have HO333:=n1_;have BK307:=n2_;have BK308:=n3_;have BK319:=n4_;have HB:=n5_;clear n0_ n1_ n2_ n3_ n4_ n5_;clear hb ho97)))
              go_ret2;exact ⟨_,by rfl,by exact HO333.out,bq_ HB⟩
            ·rw [if_neg c76] at H;have c76b0 : (a1_1 == a2_1) = false:=beq_eq_false_iff_ne.mpr c76;have c76b1 : (a1_1 != a2_1) = true:=bne_iff_ne.mpr c76;obtain ⟨y334,hy334⟩ : ∃ y_ : List (S126),y_ = (([(⟨1,(⟨#[108,111,103,43]⟩ : ByteArray),(⟨#[]⟩ : ByteArray),t320⟩ : S126),(⟨3,(⟨#[108,111,103,43]⟩ : ByteArray),(⟨#[108,111,103]⟩ : ByteArray),(⟨#[]⟩ : ByteArray)⟩ : S126)] : List (S126))):=⟨_,rfl⟩
             replace H : (some (y334,true)) = some (r1,r2):=by (rw [hy334];with_reducible exact H)
             have Ny334:=A_ hy334;clear hy334;simp only [Option.some.injEq,Prod.mk.injEq] at H;obtain ⟨rfl,rfl⟩:=H;have hnb98:=NB307_308.out;have hnc98:=NB308_307.out;have hnb99:=NB307_319.out;have hnc99:=NB319_307.out;obtain ⟨hcz100_0,hcz100_1,hcz100_2,hfz100_0,hfz100_1,hfz100_2⟩:=k3f_ BK307;have hnb101:=NB308_319.out;have hnc101:=NB319_308.out;obtain ⟨hcz102_0,hcz102_1,hcz102_2,hfz102_0,hfz102_1,hfz102_2⟩:=k3f_ BK308;have p325 : 0 ≤ (x14_2 : Int):=oda_;have q325 : x14_2 < (l1_2.length : Int):=oda_;obtain ⟨ad325,e325,hx325_0,hx325_1,hx325_2⟩:=at_T69 HR1_2.out x14_2 p325 q325
             cases e325
             replace hx325_0:=(HB.out.cell (wb_ w _ hx325_0)).trans hx325_0;replace hx325_1:=(HB.out.cell (wb_ w _ hx325_1)).trans hx325_1;replace hx325_2:=(HB.out.cell (wb_ w _ hx325_2)).trans hx325_2;replace p325:=eq_true p325;replace q325:=eq_true q325;have p326 : 0 ≤ (x14_2 : Int):=oda_;have q326 : x14_2 < (l2_2.length : Int):=oda_;obtain ⟨ad326,e326,hx326_0,hx326_1,hx326_2⟩:=at_T69 HR2_2.out x14_2 p326 q326
             cases e326
             replace hx326_0:=(HB.out.cell (wb_ w _ hx326_0)).trans hx326_0;replace hx326_1:=(HB.out.cell (wb_ w _ hx326_1)).trans hx326_1;replace hx326_2:=(HB.out.cell (wb_ w _ hx326_2)).trans hx326_2;replace p326:=eq_true p326;replace q326:=eq_true q326
             go_wp2
             repeat (go_quiet (fail);try go_wp2_with (first|(go_at_call 89;(with_reducible refine (spec_l12Frames.calls k2 a2_0 a2_1 _ _ l2_2 x14_2 t327 _ ?side1 ?side2 A74.out).mono ?_);(case side1 => repeat (first|exact (Kd.C_below HR2_2.out HB.out)|(with_reducible refine Kd.C_drewN ?_ _)));(case side2 => exact HC2_2.out);rintro e w103 ⟨rfl,hb⟩;have n0_:=rB_ HO_320002 hb;have n1_:=kB_ BK307 hb;have n2_:=kB_ BK308 hb;have n3_:=kB_ BK319 hb;have n4_:=bS_ HB hb;clear HO_320002;clear BK307;clear BK308;clear BK319;clear HB;have HO_320002:=n0_;have BK307:=n1_;have BK308:=n2_;have BK319:=n3_;have HB:=n4_;clear n0_ n1_ n2_ n3_ n4_;(try clear hb);obtain ⟨hcz104_0,hcz104_1,hcz104_2,hfz104_0,hfz104_1,hfz104_2⟩:=k3f_ BK307;obtain ⟨hcz105_0,hcz105_1,hcz105_2,hfz105_0,hfz105_1,hfz105_2⟩:=k3f_ BK308)|((with_reducible refine gate_dst (N:=119) rfl ?_);(try (refine gate_guard (by rfl) ?_;dsimp only));refine rX_ (d:=k126) (e:=126) (xs:=([(⟨1,(⟨#[108,111,103,43]⟩ : ByteArray),(⟨#[]⟩ : ByteArray),t320⟩ : S126),(⟨3,(⟨#[108,111,103,43]⟩ : ByteArray),(⟨#[108,111,103]⟩ : ByteArray),(⟨#[]⟩ : ByteArray)⟩ : S126)] : List (S126))) (inner:=[.int .i64 1,.string (⟨#[108,111,103,43]⟩ : ByteArray),.string (⟨#[]⟩ : ByteArray),.string t320,.int .i64 3,.string (⟨#[108,111,103,43]⟩ : ByteArray),.string (⟨#[108,111,103]⟩ : ByteArray),.string (⟨#[]⟩ : ByteArray)]) (ok:=fun _ => True) (okp:=fun _ => True) 119 (Reps.c4 (show Kd.M k126 _ _ _ (⟨1,(⟨#[108,111,103,43]⟩ : ByteArray),(⟨#[]⟩ : ByteArray),t320⟩ : S126) [.int .i64 1,.string (⟨#[108,111,103,43]⟩ : ByteArray),.string (⟨#[]⟩ : ByteArray),.string t320] from (k126_mkM _ _ _ (⟨1,(⟨#[108,111,103,43]⟩ : ByteArray),(⟨#[]⟩ : ByteArray),t320⟩ : S126) )) (Reps.c4 (show Kd.M k126 _ _ _ (⟨3,(⟨#[108,111,103,43]⟩ : ByteArray),(⟨#[108,111,103]⟩ : ByteArray),(⟨#[]⟩ : ByteArray)⟩ : S126) [.int .i64 3,.string (⟨#[108,111,103,43]⟩ : ByteArray),.string (⟨#[108,111,103]⟩ : ByteArray),.string (⟨#[]⟩ : ByteArray)] from (k126_mkM _ _ _ (⟨3,(⟨#[108,111,103,43]⟩ : ByteArray),(⟨#[108,111,103]⟩ : ByteArray),(⟨#[]⟩ : ByteArray)⟩ : S126) )) (Reps.none _ _))) ?_;intro v335 w106 ho107 hb hg_ hnew_;clear hg_ hnew_;(rw [← Ny334.out] at ho107);have n0_:=rB_ HO_320002 hb;have n1_:=A_ (rw_ ho107 (bz_ (bq_ HB)));have n2_:=kB_ BK307 hb;have n3_:=kB_ BK308 hb;have n4_:=kB_ BK319 hb;have n5_:=bS_ HB hb;clear HO_320002;clear BK307;clear BK308;clear BK319;clear HB;have HO_320002:=n0_;have HO336:=n1_;have BK307:=n2_;have BK308:=n3_;have BK319:=n4_;have HB:=n5_;clear n0_ n1_ n2_ n3_ n4_ n5_;clear hb ho107)))
             go_ret2;exact ⟨_,by rfl,by exact HO336.out,bq_ HB⟩
           ·rw [if_neg c75] at H;have c75b0 : (a1_0 == a2_0) = false:=beq_eq_false_iff_ne.mpr c75;have c75b1 : (a1_0 != a2_0) = true:=bne_iff_ne.mpr c75;obtain ⟨y337,hy337⟩ : ∃ y_ : List (S126),y_ = (([(⟨1,(⟨#[108,111,103,43]⟩ : ByteArray),(⟨#[]⟩ : ByteArray),t320⟩ : S126),(⟨3,(⟨#[108,111,103,43]⟩ : ByteArray),(⟨#[108,111,103]⟩ : ByteArray),(⟨#[]⟩ : ByteArray)⟩ : S126)] : List (S126))):=⟨_,rfl⟩
            replace H : (some (y337,true)) = some (r1,r2):=by (rw [hy337];with_reducible exact H)
            have Ny337:=A_ hy337;clear hy337;simp only [Option.some.injEq,Prod.mk.injEq] at H;obtain ⟨rfl,rfl⟩:=H;have hnb108:=NB307_308.out;have hnc108:=NB308_307.out;have hnb109:=NB307_319.out;have hnc109:=NB319_307.out;obtain ⟨hcz110_0,hcz110_1,hcz110_2,hfz110_0,hfz110_1,hfz110_2⟩:=k3f_ BK307;have hnb111:=NB308_319.out;have hnc111:=NB319_308.out;obtain ⟨hcz112_0,hcz112_1,hcz112_2,hfz112_0,hfz112_1,hfz112_2⟩:=k3f_ BK308;have p325 : 0 ≤ (x14_2 : Int):=oda_;have q325 : x14_2 < (l1_2.length : Int):=oda_;obtain ⟨ad325,e325,hx325_0,hx325_1,hx325_2⟩:=at_T69 HR1_2.out x14_2 p325 q325
            cases e325
            replace hx325_0:=(HB.out.cell (wb_ w _ hx325_0)).trans hx325_0;replace hx325_1:=(HB.out.cell (wb_ w _ hx325_1)).trans hx325_1;replace hx325_2:=(HB.out.cell (wb_ w _ hx325_2)).trans hx325_2;replace p325:=eq_true p325;replace q325:=eq_true q325;have p326 : 0 ≤ (x14_2 : Int):=oda_;have q326 : x14_2 < (l2_2.length : Int):=oda_;obtain ⟨ad326,e326,hx326_0,hx326_1,hx326_2⟩:=at_T69 HR2_2.out x14_2 p326 q326
            cases e326
            replace hx326_0:=(HB.out.cell (wb_ w _ hx326_0)).trans hx326_0;replace hx326_1:=(HB.out.cell (wb_ w _ hx326_1)).trans hx326_1;replace hx326_2:=(HB.out.cell (wb_ w _ hx326_2)).trans hx326_2;replace p326:=eq_true p326;replace q326:=eq_true q326
            go_wp2
            repeat (go_quiet (fail);try go_wp2_with (first|(go_at_call 89;(with_reducible refine (spec_l12Frames.calls k2 a2_0 a2_1 _ _ l2_2 x14_2 t327 _ ?side1 ?side2 A74.out).mono ?_);(case side1 => repeat (first|exact (Kd.C_below HR2_2.out HB.out)|(with_reducible refine Kd.C_drewN ?_ _)));(case side2 => exact HC2_2.out);rintro e w113 ⟨rfl,hb⟩;have n0_:=rB_ HO_320002 hb;have n1_:=kB_ BK307 hb;have n2_:=kB_ BK308 hb;have n3_:=kB_ BK319 hb;have n4_:=bS_ HB hb;clear HO_320002;clear BK307;clear BK308;clear BK319;clear HB;have HO_320002:=n0_;have BK307:=n1_;have BK308:=n2_;have BK319:=n3_;have HB:=n4_;clear n0_ n1_ n2_ n3_ n4_;(try clear hb);obtain ⟨hcz114_0,hcz114_1,hcz114_2,hfz114_0,hfz114_1,hfz114_2⟩:=k3f_ BK307;obtain ⟨hcz115_0,hcz115_1,hcz115_2,hfz115_0,hfz115_1,hfz115_2⟩:=k3f_ BK308)|((with_reducible refine gate_dst (N:=119) rfl ?_);(try (refine gate_guard (by rfl) ?_;dsimp only));refine rX_ (d:=k126) (e:=126) (xs:=([(⟨1,(⟨#[108,111,103,43]⟩ : ByteArray),(⟨#[]⟩ : ByteArray),t320⟩ : S126),(⟨3,(⟨#[108,111,103,43]⟩ : ByteArray),(⟨#[108,111,103]⟩ : ByteArray),(⟨#[]⟩ : ByteArray)⟩ : S126)] : List (S126))) (inner:=[.int .i64 1,.string (⟨#[108,111,103,43]⟩ : ByteArray),.string (⟨#[]⟩ : ByteArray),.string t320,.int .i64 3,.string (⟨#[108,111,103,43]⟩ : ByteArray),.string (⟨#[108,111,103]⟩ : ByteArray),.string (⟨#[]⟩ : ByteArray)]) (ok:=fun _ => True) (okp:=fun _ => True) 119 (Reps.c4 (show Kd.M k126 _ _ _ (⟨1,(⟨#[108,111,103,43]⟩ : ByteArray),(⟨#[]⟩ : ByteArray),t320⟩ : S126) [.int .i64 1,.string (⟨#[108,111,103,43]⟩ : ByteArray),.string (⟨#[]⟩ : ByteArray),.string t320] from (k126_mkM _ _ _ (⟨1,(⟨#[108,111,103,43]⟩ : ByteArray),(⟨#[]⟩ : ByteArray),t320⟩ : S126) )) (Reps.c4 (show Kd.M k126 _ _ _ (⟨3,(⟨#[108,111,103,43]⟩ : ByteArray),(⟨#[108,111,103]⟩ : ByteArray),(⟨#[]⟩ : ByteArray)⟩ : S126) [.int .i64 3,.string (⟨#[108,111,103,43]⟩ : ByteArray),.string (⟨#[108,111,103]⟩ : ByteArray),.string (⟨#[]⟩ : ByteArray)] from (k126_mkM _ _ _ (⟨3,(⟨#[108,111,103,43]⟩ : ByteArray),(⟨#[108,111,103]⟩ : ByteArray),(⟨#[]⟩ : ByteArray)⟩ : S126) )) (Reps.none _ _))) ?_;intro v338 w116 ho117 hb hg_ hnew_;clear hg_ hnew_;(rw [← Ny337.out] at ho117);have n0_:=rB_ HO_320002 hb;have n1_:=A_ (rw_ ho117 (bz_ (bq_ HB)));have n2_:=kB_ BK307 hb;have n3_:=kB_ BK308 hb;have n4_:=kB_ BK319 hb;have n5_:=bS_ HB hb;clear HO_320002;clear BK307;clear BK308;clear BK319;clear HB;have HO_320002:=n0_;have HO339:=n1_;have BK307:=n2_;have BK308:=n3_;have BK319:=n4_;have HB:=n5_;clear n0_ n1_ n2_ n3_ n4_ n5_;clear hb ho117)))
            go_ret2;exact ⟨_,by rfl,by exact HO339.out,bq_ HB⟩
         ·rw [if_neg c67] at H;exact absurd H (by simp)
        ·rw [if_neg c66] at H;have c66b0 : decide (x14_2 < (l2_2.length : Int)) = false:=decide_eq_false c66;clear c66;replace H:=ob_.mp H;obtain ⟨t340,A1180,H⟩:=H;have A118:=A_ A1180;clear A1180
         by_cases c119 : a1_0 = a2_0
         ·rw [if_pos c119] at H;have c119b0 : (a1_0 == a2_0) = true:=beq_iff_eq.mpr c119;have c119b1 : (a1_0 != a2_0) = false:=bne_eq_false_iff_eq.mpr c119;clear c119
          by_cases c120 : a1_1 = a2_1
          ·rw [if_pos c120] at H;have c120b0 : (a1_1 == a2_1) = true:=beq_iff_eq.mpr c120;have c120b1 : (a1_1 != a2_1) = false:=bne_eq_false_iff_eq.mpr c120;clear c120;obtain ⟨y341,hy341⟩ : ∃ y_ : List (S126),y_ = (([(⟨1,(⟨#[108,111,103,43]⟩ : ByteArray),(⟨#[]⟩ : ByteArray),t320⟩ : S126),(⟨3,(⟨#[108,111,103,43]⟩ : ByteArray),(⟨#[108,111,103]⟩ : ByteArray),(⟨#[]⟩ : ByteArray)⟩ : S126)] : List (S126))):=⟨_,rfl⟩
           replace H : (some (y341,true)) = some (r1,r2):=by (rw [hy341];with_reducible exact H)
           have Ny341:=A_ hy341;clear hy341;simp only [Option.some.injEq,Prod.mk.injEq] at H;obtain ⟨rfl,rfl⟩:=H;have hnb121:=NB307_308.out;have hnc121:=NB308_307.out;have hnb122:=NB307_319.out;have hnc122:=NB319_307.out;obtain ⟨hcz123_0,hcz123_1,hcz123_2,hfz123_0,hfz123_1,hfz123_2⟩:=k3f_ BK307;have hnb124:=NB308_319.out;have hnc124:=NB319_308.out;obtain ⟨hcz125_0,hcz125_1,hcz125_2,hfz125_0,hfz125_1,hfz125_2⟩:=k3f_ BK308
           go_wp2
           repeat (go_quiet (fail);try go_wp2_with (first|(go_at_call 89;(with_reducible refine (spec_l12Frames.calls k2 a2_0 a2_1 _ _ l2_2 x14_2 t340 _ ?side1 ?side2 A118.out).mono ?_);(case side1 => repeat (first|exact (Kd.C_below HR2_2.out HB.out)|(with_reducible refine Kd.C_drewN ?_ _)));(case side2 => exact HC2_2.out);rintro e w126 ⟨rfl,hb⟩;have n0_:=rB_ HO_320002 hb;have n1_:=kB_ BK307 hb;have n2_:=kB_ BK308 hb;have n3_:=kB_ BK319 hb;have n4_:=bS_ HB hb;clear HO_320002;clear BK307;clear BK308;clear BK319;clear HB;have HO_320002:=n0_;have BK307:=n1_;have BK308:=n2_;have BK319:=n3_;have HB:=n4_;clear n0_ n1_ n2_ n3_ n4_;(try clear hb);obtain ⟨hcz127_0,hcz127_1,hcz127_2,hfz127_0,hfz127_1,hfz127_2⟩:=k3f_ BK307;obtain ⟨hcz128_0,hcz128_1,hcz128_2,hfz128_0,hfz128_1,hfz128_2⟩:=k3f_ BK308)|((with_reducible refine gate_dst (N:=119) rfl ?_);(try (refine gate_guard (by rfl) ?_;dsimp only));refine rX_ (d:=k126) (e:=126) (xs:=([(⟨1,(⟨#[108,111,103,43]⟩ : ByteArray),(⟨#[]⟩ : ByteArray),t320⟩ : S126),(⟨3,(⟨#[108,111,103,43]⟩ : ByteArray),(⟨#[108,111,103]⟩ : ByteArray),(⟨#[]⟩ : ByteArray)⟩ : S126)] : List (S126))) (inner:=[.int .i64 1,.string (⟨#[108,111,103,43]⟩ : ByteArray),.string (⟨#[]⟩ : ByteArray),.string t320,.int .i64 3,.string (⟨#[108,111,103,43]⟩ : ByteArray),.string (⟨#[108,111,103]⟩ : ByteArray),.string (⟨#[]⟩ : ByteArray)]) (ok:=fun _ => True) (okp:=fun _ => True) 119 (Reps.c4 (show Kd.M k126 _ _ _ (⟨1,(⟨#[108,111,103,43]⟩ : ByteArray),(⟨#[]⟩ : ByteArray),t320⟩ : S126) [.int .i64 1,.string (⟨#[108,111,103,43]⟩ : ByteArray),.string (⟨#[]⟩ : ByteArray),.string t320] from (k126_mkM _ _ _ (⟨1,(⟨#[108,111,103,43]⟩ : ByteArray),(⟨#[]⟩ : ByteArray),t320⟩ : S126) )) (Reps.c4 (show Kd.M k126 _ _ _ (⟨3,(⟨#[108,111,103,43]⟩ : ByteArray),(⟨#[108,111,103]⟩ : ByteArray),(⟨#[]⟩ : ByteArray)⟩ : S126) [.int .i64 3,.string (⟨#[108,111,103,43]⟩ : ByteArray),.string (⟨#[108,111,103]⟩ : ByteArray),.string (⟨#[]⟩ : ByteArray)] from (k126_mkM _ _ _ (⟨3,(⟨#[108,111,103,43]⟩ : ByteArray),(⟨#[108,111,103]⟩ : ByteArray),(⟨#[]⟩ : ByteArray)⟩ : S126) )) (Reps.none _ _))) ?_;intro v342 w129 ho130 hb hg_ hnew_;clear hg_ hnew_;(rw [← Ny341.out] at ho130);have n0_:=rB_ HO_320002 hb;have n1_:=A_ (rw_ ho130 (bz_ (bq_ HB)));have n2_:=kB_ BK307 hb;have n3_:=kB_ BK308 hb;have n4_:=kB_ BK319 hb;have n5_:=bS_ HB hb;clear HO_320002;clear BK307;clear BK308;clear BK319;clear HB;have HO_320002:=n0_;have HO343:=n1_;have BK307:=n2_;have BK308:=n3_;have BK319:=n4_;have HB:=n5_;clear n0_ n1_ n2_ n3_ n4_ n5_;clear hb ho130)))
           go_ret2;exact ⟨_,by rfl,by exact HO343.out,bq_ HB⟩
          ·rw [if_neg c120] at H;have c120b0 : (a1_1 == a2_1) = false:=beq_eq_false_iff_ne.mpr c120;have c120b1 : (a1_1 != a2_1) = true:=bne_iff_ne.mpr c120;obtain ⟨y344,hy344⟩ : ∃ y_ : List (S126),y_ = (([(⟨1,(⟨#[108,111,103,43]⟩ : ByteArray),(⟨#[]⟩ : ByteArray),t320⟩ : S126),(⟨3,(⟨#[108,111,103,43]⟩ : ByteArray),(⟨#[108,111,103]⟩ : ByteArray),(⟨#[]⟩ : ByteArray)⟩ : S126)] : List (S126))):=⟨_,rfl⟩
           replace H : (some (y344,true)) = some (r1,r2):=by (rw [hy344];with_reducible exact H)
           have Ny344:=A_ hy344;clear hy344;simp only [Option.some.injEq,Prod.mk.injEq] at H;obtain ⟨rfl,rfl⟩:=H;have hnb131:=NB307_308.out;have hnc131:=NB308_307.out;have hnb132:=NB307_319.out;have hnc132:=NB319_307.out;obtain ⟨hcz133_0,hcz133_1,hcz133_2,hfz133_0,hfz133_1,hfz133_2⟩:=k3f_ BK307;have hnb134:=NB308_319.out;have hnc134:=NB319_308.out;obtain ⟨hcz135_0,hcz135_1,hcz135_2,hfz135_0,hfz135_1,hfz135_2⟩:=k3f_ BK308
           go_wp2
           repeat (go_quiet (fail);try go_wp2_with (first|(go_at_call 89;(with_reducible refine (spec_l12Frames.calls k2 a2_0 a2_1 _ _ l2_2 x14_2 t340 _ ?side1 ?side2 A118.out).mono ?_);(case side1 => repeat (first|exact (Kd.C_below HR2_2.out HB.out)|(with_reducible refine Kd.C_drewN ?_ _)));(case side2 => exact HC2_2.out);rintro e w136 ⟨rfl,hb⟩;have n0_:=rB_ HO_320002 hb;have n1_:=kB_ BK307 hb;have n2_:=kB_ BK308 hb;have n3_:=kB_ BK319 hb;have n4_:=bS_ HB hb;clear HO_320002;clear BK307;clear BK308;clear BK319;clear HB;have HO_320002:=n0_;have BK307:=n1_;have BK308:=n2_;have BK319:=n3_;have HB:=n4_;clear n0_ n1_ n2_ n3_ n4_;(try clear hb);obtain ⟨hcz137_0,hcz137_1,hcz137_2,hfz137_0,hfz137_1,hfz137_2⟩:=k3f_ BK307;obtain ⟨hcz138_0,hcz138_1,hcz138_2,hfz138_0,hfz138_1,hfz138_2⟩:=k3f_ BK308)|((with_reducible refine gate_dst (N:=119) rfl ?_);(try (refine gate_guard (by rfl) ?_;dsimp only));refine rX_ (d:=k126) (e:=126) (xs:=([(⟨1,(⟨#[108,111,103,43]⟩ : ByteArray),(⟨#[]⟩ : ByteArray),t320⟩ : S126),(⟨3,(⟨#[108,111,103,43]⟩ : ByteArray),(⟨#[108,111,103]⟩ : ByteArray),(⟨#[]⟩ : ByteArray)⟩ : S126)] : List (S126))) (inner:=[.int .i64 1,.string (⟨#[108,111,103,43]⟩ : ByteArray),.string (⟨#[]⟩ : ByteArray),.string t320,.int .i64 3,.string (⟨#[108,111,103,43]⟩ : ByteArray),.string (⟨#[108,111,103]⟩ : ByteArray),.string (⟨#[]⟩ : ByteArray)]) (ok:=fun _ => True) (okp:=fun _ => True) 119 (Reps.c4 (show Kd.M k126 _ _ _ (⟨1,(⟨#[108,111,103,43]⟩ : ByteArray),(⟨#[]⟩ : ByteArray),t320⟩ : S126) [.int .i64 1,.string (⟨#[108,111,103,43]⟩ : ByteArray),.string (⟨#[]⟩ : ByteArray),.string t320] from (k126_mkM _ _ _ (⟨1,(⟨#[108,111,103,43]⟩ : ByteArray),(⟨#[]⟩ : ByteArray),t320⟩ : S126) )) (Reps.c4 (show Kd.M k126 _ _ _ (⟨3,(⟨#[108,111,103,43]⟩ : ByteArray),(⟨#[108,111,103]⟩ : ByteArray),(⟨#[]⟩ : ByteArray)⟩ : S126) [.int .i64 3,.string (⟨#[108,111,103,43]⟩ : ByteArray),.string (⟨#[108,111,103]⟩ : ByteArray),.string (⟨#[]⟩ : ByteArray)] from (k126_mkM _ _ _ (⟨3,(⟨#[108,111,103,43]⟩ : ByteArray),(⟨#[108,111,103]⟩ : ByteArray),(⟨#[]⟩ : ByteArray)⟩ : S126) )) (Reps.none _ _))) ?_;intro v345 w139 ho140 hb hg_ hnew_;clear hg_ hnew_;(rw [← Ny344.out] at ho140);have n0_:=rB_ HO_320002 hb;have n1_:=A_ (rw_ ho140 (bz_ (bq_ HB)));have n2_:=kB_ BK307 hb;have n3_:=kB_ BK308 hb;have n4_:=kB_ BK319 hb;have n5_:=bS_ HB hb;clear HO_320002;clear BK307;clear BK308;clear BK319;clear HB;have HO_320002:=n0_;have HO346:=n1_;have BK307:=n2_;have BK308:=n3_;have BK319:=n4_;have HB:=n5_;clear n0_ n1_ n2_ n3_ n4_ n5_;clear hb ho140)))
           go_ret2;exact ⟨_,by rfl,by exact HO346.out,bq_ HB⟩
         ·rw [if_neg c119] at H;have c119b0 : (a1_0 == a2_0) = false:=beq_eq_false_iff_ne.mpr c119;have c119b1 : (a1_0 != a2_0) = true:=bne_iff_ne.mpr c119;obtain ⟨y347,hy347⟩ : ∃ y_ : List (S126),y_ = (([(⟨1,(⟨#[108,111,103,43]⟩ : ByteArray),(⟨#[]⟩ : ByteArray),t320⟩ : S126),(⟨3,(⟨#[108,111,103,43]⟩ : ByteArray),(⟨#[108,111,103]⟩ : ByteArray),(⟨#[]⟩ : ByteArray)⟩ : S126)] : List (S126))):=⟨_,rfl⟩
          replace H : (some (y347,true)) = some (r1,r2):=by (rw [hy347];with_reducible exact H)
          have Ny347:=A_ hy347;clear hy347;simp only [Option.some.injEq,Prod.mk.injEq] at H;obtain ⟨rfl,rfl⟩:=H;have hnb141:=NB307_308.out;have hnc141:=NB308_307.out;have hnb142:=NB307_319.out;have hnc142:=NB319_307.out;obtain ⟨hcz143_0,hcz143_1,hcz143_2,hfz143_0,hfz143_1,hfz143_2⟩:=k3f_ BK307;have hnb144:=NB308_319.out;have hnc144:=NB319_308.out;obtain ⟨hcz145_0,hcz145_1,hcz145_2,hfz145_0,hfz145_1,hfz145_2⟩:=k3f_ BK308
          go_wp2
          repeat (go_quiet (fail);try go_wp2_with (first|(go_at_call 89;(with_reducible refine (spec_l12Frames.calls k2 a2_0 a2_1 _ _ l2_2 x14_2 t340 _ ?side1 ?side2 A118.out).mono ?_);(case side1 => repeat (first|exact (Kd.C_below HR2_2.out HB.out)|(with_reducible refine Kd.C_drewN ?_ _)));(case side2 => exact HC2_2.out);rintro e w146 ⟨rfl,hb⟩;have n0_:=rB_ HO_320002 hb;have n1_:=kB_ BK307 hb;have n2_:=kB_ BK308 hb;have n3_:=kB_ BK319 hb;have n4_:=bS_ HB hb;clear HO_320002;clear BK307;clear BK308;clear BK319;clear HB;have HO_320002:=n0_;have BK307:=n1_;have BK308:=n2_;have BK319:=n3_;have HB:=n4_;clear n0_ n1_ n2_ n3_ n4_;(try clear hb);obtain ⟨hcz147_0,hcz147_1,hcz147_2,hfz147_0,hfz147_1,hfz147_2⟩:=k3f_ BK307;obtain ⟨hcz148_0,hcz148_1,hcz148_2,hfz148_0,hfz148_1,hfz148_2⟩:=k3f_ BK308)|((with_reducible refine gate_dst (N:=119) rfl ?_);(try (refine gate_guard (by rfl) ?_;dsimp only));refine rX_ (d:=k126) (e:=126) (xs:=([(⟨1,(⟨#[108,111,103,43]⟩ : ByteArray),(⟨#[]⟩ : ByteArray),t320⟩ : S126),(⟨3,(⟨#[108,111,103,43]⟩ : ByteArray),(⟨#[108,111,103]⟩ : ByteArray),(⟨#[]⟩ : ByteArray)⟩ : S126)] : List (S126))) (inner:=[.int .i64 1,.string (⟨#[108,111,103,43]⟩ : ByteArray),.string (⟨#[]⟩ : ByteArray),.string t320,.int .i64 3,.string (⟨#[108,111,103,43]⟩ : ByteArray),.string (⟨#[108,111,103]⟩ : ByteArray),.string (⟨#[]⟩ : ByteArray)]) (ok:=fun _ => True) (okp:=fun _ => True) 119 (Reps.c4 (show Kd.M k126 _ _ _ (⟨1,(⟨#[108,111,103,43]⟩ : ByteArray),(⟨#[]⟩ : ByteArray),t320⟩ : S126) [.int .i64 1,.string (⟨#[108,111,103,43]⟩ : ByteArray),.string (⟨#[]⟩ : ByteArray),.string t320] from (k126_mkM _ _ _ (⟨1,(⟨#[108,111,103,43]⟩ : ByteArray),(⟨#[]⟩ : ByteArray),t320⟩ : S126) )) (Reps.c4 (show Kd.M k126 _ _ _ (⟨3,(⟨#[108,111,103,43]⟩ : ByteArray),(⟨#[108,111,103]⟩ : ByteArray),(⟨#[]⟩ : ByteArray)⟩ : S126) [.int .i64 3,.string (⟨#[108,111,103,43]⟩ : ByteArray),.string (⟨#[108,111,103]⟩ : ByteArray),.string (⟨#[]⟩ : ByteArray)] from (k126_mkM _ _ _ (⟨3,(⟨#[108,111,103,43]⟩ : ByteArray),(⟨#[108,111,103]⟩ : ByteArray),(⟨#[]⟩ : ByteArray)⟩ : S126) )) (Reps.none _ _))) ?_;intro v348 w149 ho150 hb hg_ hnew_;clear hg_ hnew_;(rw [← Ny347.out] at ho150);have n0_:=rB_ HO_320002 hb;have n1_:=A_ (rw_ ho150 (bz_ (bq_ HB)));have n2_:=kB_ BK307 hb;have n3_:=kB_ BK308 hb;have n4_:=kB_ BK319 hb;have n5_:=bS_ HB hb;clear HO_320002;clear BK307;clear BK308;clear BK319;clear HB;have HO_320002:=n0_;have HO349:=n1_;have BK307:=n2_;have BK308:=n3_;have BK319:=n4_;have HB:=n5_;clear n0_ n1_ n2_ n3_ n4_ n5_;clear hb ho150)))
          go_ret2;exact ⟨_,by rfl,by exact HO349.out,bq_ HB⟩
       ·rw [if_neg c65] at H;have c65b0 : decide (x14_2 < (l1_2.length : Int)) = false:=decide_eq_false c65;clear c65;replace H:=ob_.mp H;obtain ⟨t350,A1510,H⟩:=H;have A151:=A_ A1510;clear A1510
        by_cases c152 : a1_0 = a2_0
        ·rw [if_pos c152] at H;have c152b0 : (a1_0 == a2_0) = true:=beq_iff_eq.mpr c152;have c152b1 : (a1_0 != a2_0) = false:=bne_eq_false_iff_eq.mpr c152;clear c152
         by_cases c153 : a1_1 = a2_1
         ·rw [if_pos c153] at H;have c153b0 : (a1_1 == a2_1) = true:=beq_iff_eq.mpr c153;have c153b1 : (a1_1 != a2_1) = false:=bne_eq_false_iff_eq.mpr c153;clear c153
          by_cases c154 : x14_2 < (l2_2.length : Int)
          ·rw [if_pos c154] at H;have c154b0 : decide (x14_2 < (l2_2.length : Int)) = true:=de_ c154;clear c154
           by_cases c155 : (wrap64 ((a0.size : Int) + (t350.size : Int))) ≤ 20000
           ·rw [if_pos c155] at H;have c155b0 : decide ((wrap64 ((a0.size : Int) + (t350.size : Int))) ≤ 20000) = true:=de_ c155;clear c155;obtain ⟨y351,hy351⟩ : ∃ y_ : List (S126),y_ = (([(⟨2,(⟨#[108,111,103]⟩ : ByteArray),(⟨#[]⟩ : ByteArray),t350⟩ : S126)] : List (S126))):=⟨_,rfl⟩
            replace H : (some (y351,true)) = some (r1,r2):=by (rw [hy351];with_reducible exact H)
            have Ny351:=A_ hy351;clear hy351;simp only [Option.some.injEq,Prod.mk.injEq] at H;obtain ⟨rfl,rfl⟩:=H;have hnb156:=NB307_308.out;have hnc156:=NB308_307.out;have hnb157:=NB307_319.out;have hnc157:=NB319_307.out;obtain ⟨hcz158_0,hcz158_1,hcz158_2,hfz158_0,hfz158_1,hfz158_2⟩:=k3f_ BK307;have hnb159:=NB308_319.out;have hnc159:=NB319_308.out;obtain ⟨hcz160_0,hcz160_1,hcz160_2,hfz160_0,hfz160_1,hfz160_2⟩:=k3f_ BK308
            go_wp2
            repeat (go_quiet (fail);try go_wp2_with (first|(go_at_call 89;(with_reducible refine (spec_l12Frames.calls k2 a2_0 a2_1 _ _ l2_2 x14_2 t350 _ ?side1 ?side2 A151.out).mono ?_);(case side1 => repeat (first|exact (Kd.C_below HR2_2.out HB.out)|(with_reducible refine Kd.C_drewN ?_ _)));(case side2 => exact HC2_2.out);rintro e w161 ⟨rfl,hb⟩;have n0_:=rB_ HO_320002 hb;have n1_:=kB_ BK307 hb;have n2_:=kB_ BK308 hb;have n3_:=kB_ BK319 hb;have n4_:=bS_ HB hb;clear HO_320002;clear BK307;clear BK308;clear BK319;clear HB;have HO_320002:=n0_;have BK307:=n1_;have BK308:=n2_;have BK319:=n3_;have HB:=n4_;clear n0_ n1_ n2_ n3_ n4_;(try clear hb);obtain ⟨hcz162_0,hcz162_1,hcz162_2,hfz162_0,hfz162_1,hfz162_2⟩:=k3f_ BK307;obtain ⟨hcz163_0,hcz163_1,hcz163_2,hfz163_0,hfz163_1,hfz163_2⟩:=k3f_ BK308)|((with_reducible refine gate_dst (N:=115) rfl ?_);(try (refine gate_guard (by rfl) ?_;dsimp only));refine rX_ (d:=k126) (e:=126) (xs:=([(⟨2,(⟨#[108,111,103]⟩ : ByteArray),(⟨#[]⟩ : ByteArray),t350⟩ : S126)] : List (S126))) (inner:=[.int .i64 2,.string (⟨#[108,111,103]⟩ : ByteArray),.string (⟨#[]⟩ : ByteArray),.string t350]) (ok:=fun _ => True) (okp:=fun _ => True) 115 (Reps.c4 (show Kd.M k126 _ _ _ (⟨2,(⟨#[108,111,103]⟩ : ByteArray),(⟨#[]⟩ : ByteArray),t350⟩ : S126) [.int .i64 2,.string (⟨#[108,111,103]⟩ : ByteArray),.string (⟨#[]⟩ : ByteArray),.string t350] from (k126_mkM _ _ _ (⟨2,(⟨#[108,111,103]⟩ : ByteArray),(⟨#[]⟩ : ByteArray),t350⟩ : S126) )) (Reps.none _ _)) ?_;intro v352 w164 ho165 hb hg_ hnew_;clear hg_ hnew_;(rw [← Ny351.out] at ho165);have n0_:=rB_ HO_320002 hb;have n1_:=A_ (rw_ ho165 (bz_ (bq_ HB)));have n2_:=kB_ BK307 hb;have n3_:=kB_ BK308 hb;have n4_:=kB_ BK319 hb;have n5_:=bS_ HB hb;clear HO_320002;clear BK307;clear BK308;clear BK319;clear HB;have HO_320002:=n0_;have HO353:=n1_;have BK307:=n2_;have BK308:=n3_;have BK319:=n4_;have HB:=n5_;clear n0_ n1_ n2_ n3_ n4_ n5_;clear hb ho165)))
            go_ret2;exact ⟨_,by rfl,by exact HO353.out,bq_ HB⟩
           ·rw [if_neg c155] at H;have c155b0 : decide ((wrap64 ((a0.size : Int) + (t350.size : Int))) ≤ 20000) = false:=decide_eq_false c155;clear c155;obtain ⟨y354,hy354⟩ : ∃ y_ : List (S126),y_ = (([(⟨1,(⟨#[108,111,103,43]⟩ : ByteArray),(⟨#[]⟩ : ByteArray),t320⟩ : S126),(⟨3,(⟨#[108,111,103,43]⟩ : ByteArray),(⟨#[108,111,103]⟩ : ByteArray),(⟨#[]⟩ : ByteArray)⟩ : S126)] : List (S126))):=⟨_,rfl⟩
            replace H : (some (y354,true)) = some (r1,r2):=by (rw [hy354];with_reducible exact H)
            have Ny354:=A_ hy354;clear hy354;simp only [Option.some.injEq,Prod.mk.injEq] at H;obtain ⟨rfl,rfl⟩:=H;have hnb166:=NB307_308.out;have hnc166:=NB308_307.out;have hnb167:=NB307_319.out;have hnc167:=NB319_307.out;obtain ⟨hcz168_0,hcz168_1,hcz168_2,hfz168_0,hfz168_1,hfz168_2⟩:=k3f_ BK307;have hnb169:=NB308_319.out;have hnc169:=NB319_308.out;obtain ⟨hcz170_0,hcz170_1,hcz170_2,hfz170_0,hfz170_1,hfz170_2⟩:=k3f_ BK308
            go_wp2
            repeat (go_quiet (fail);try go_wp2_with (first|(go_at_call 89;(with_reducible refine (spec_l12Frames.calls k2 a2_0 a2_1 _ _ l2_2 x14_2 t350 _ ?side1 ?side2 A151.out).mono ?_);(case side1 => repeat (first|exact (Kd.C_below HR2_2.out HB.out)|(with_reducible refine Kd.C_drewN ?_ _)));(case side2 => exact HC2_2.out);rintro e w171 ⟨rfl,hb⟩;have n0_:=rB_ HO_320002 hb;have n1_:=kB_ BK307 hb;have n2_:=kB_ BK308 hb;have n3_:=kB_ BK319 hb;have n4_:=bS_ HB hb;clear HO_320002;clear BK307;clear BK308;clear BK319;clear HB;have HO_320002:=n0_;have BK307:=n1_;have BK308:=n2_;have BK319:=n3_;have HB:=n4_;clear n0_ n1_ n2_ n3_ n4_;(try clear hb);obtain ⟨hcz172_0,hcz172_1,hcz172_2,hfz172_0,hfz172_1,hfz172_2⟩:=k3f_ BK307;obtain ⟨hcz173_0,hcz173_1,hcz173_2,hfz173_0,hfz173_1,hfz173_2⟩:=k3f_ BK308)|((with_reducible refine gate_dst (N:=119) rfl ?_);(try (refine gate_guard (by rfl) ?_;dsimp only));refine rX_ (d:=k126) (e:=126) (xs:=([(⟨1,(⟨#[108,111,103,43]⟩ : ByteArray),(⟨#[]⟩ : ByteArray),t320⟩ : S126),(⟨3,(⟨#[108,111,103,43]⟩ : ByteArray),(⟨#[108,111,103]⟩ : ByteArray),(⟨#[]⟩ : ByteArray)⟩ : S126)] : List (S126))) (inner:=[.int .i64 1,.string (⟨#[108,111,103,43]⟩ : ByteArray),.string (⟨#[]⟩ : ByteArray),.string t320,.int .i64 3,.string (⟨#[108,111,103,43]⟩ : ByteArray),.string (⟨#[108,111,103]⟩ : ByteArray),.string (⟨#[]⟩ : ByteArray)]) (ok:=fun _ => True) (okp:=fun _ => True) 119 (Reps.c4 (show Kd.M k126 _ _ _ (⟨1,(⟨#[108,111,103,43]⟩ : ByteArray),(⟨#[]⟩ : ByteArray),t320⟩ : S126) [.int .i64 1,.string (⟨#[108,111,103,43]⟩ : ByteArray),.string (⟨#[]⟩ : ByteArray),.string t320] from (k126_mkM _ _ _ (⟨1,(⟨#[108,111,103,43]⟩ : ByteArray),(⟨#[]⟩ : ByteArray),t320⟩ : S126) )) (Reps.c4 (show Kd.M k126 _ _ _ (⟨3,(⟨#[108,111,103,43]⟩ : ByteArray),(⟨#[108,111,103]⟩ : ByteArray),(⟨#[]⟩ : ByteArray)⟩ : S126) [.int .i64 3,.string (⟨#[108,111,103,43]⟩ : ByteArray),.string (⟨#[108,111,103]⟩ : ByteArray),.string (⟨#[]⟩ : ByteArray)] from (k126_mkM _ _ _ (⟨3,(⟨#[108,111,103,43]⟩ : ByteArray),(⟨#[108,111,103]⟩ : ByteArray),(⟨#[]⟩ : ByteArray)⟩ : S126) )) (Reps.none _ _))) ?_;intro v355 w174 ho175 hb hg_ hnew_;clear hg_ hnew_;(rw [← Ny354.out] at ho175);have n0_:=rB_ HO_320002 hb;have n1_:=A_ (rw_ ho175 (bz_ (bq_ HB)));have n2_:=kB_ BK307 hb;have n3_:=kB_ BK308 hb;have n4_:=kB_ BK319 hb;have n5_:=bS_ HB hb;clear HO_320002;clear BK307;clear BK308;clear BK319;clear HB;have HO_320002:=n0_;have HO356:=n1_;have BK307:=n2_;have BK308:=n3_;have BK319:=n4_;have HB:=n5_;clear n0_ n1_ n2_ n3_ n4_ n5_;clear hb ho175)))
            go_ret2;exact ⟨_,by rfl,by exact HO356.out,bq_ HB⟩
          ·rw [if_neg c154] at H;have c154b0 : decide (x14_2 < (l2_2.length : Int)) = false:=decide_eq_false c154;clear c154;obtain ⟨y357,hy357⟩ : ∃ y_ : List (S126),y_ = (([(⟨1,(⟨#[108,111,103,43]⟩ : ByteArray),(⟨#[]⟩ : ByteArray),t320⟩ : S126),(⟨3,(⟨#[108,111,103,43]⟩ : ByteArray),(⟨#[108,111,103]⟩ : ByteArray),(⟨#[]⟩ : ByteArray)⟩ : S126)] : List (S126))):=⟨_,rfl⟩
           replace H : (some (y357,true)) = some (r1,r2):=by (rw [hy357];with_reducible exact H)
           have Ny357:=A_ hy357;clear hy357;simp only [Option.some.injEq,Prod.mk.injEq] at H;obtain ⟨rfl,rfl⟩:=H;have hnb176:=NB307_308.out;have hnc176:=NB308_307.out;have hnb177:=NB307_319.out;have hnc177:=NB319_307.out;obtain ⟨hcz178_0,hcz178_1,hcz178_2,hfz178_0,hfz178_1,hfz178_2⟩:=k3f_ BK307;have hnb179:=NB308_319.out;have hnc179:=NB319_308.out;obtain ⟨hcz180_0,hcz180_1,hcz180_2,hfz180_0,hfz180_1,hfz180_2⟩:=k3f_ BK308
           go_wp2
           repeat (go_quiet (fail);try go_wp2_with (first|(go_at_call 89;(with_reducible refine (spec_l12Frames.calls k2 a2_0 a2_1 _ _ l2_2 x14_2 t350 _ ?side1 ?side2 A151.out).mono ?_);(case side1 => repeat (first|exact (Kd.C_below HR2_2.out HB.out)|(with_reducible refine Kd.C_drewN ?_ _)));(case side2 => exact HC2_2.out);rintro e w181 ⟨rfl,hb⟩;have n0_:=rB_ HO_320002 hb;have n1_:=kB_ BK307 hb;have n2_:=kB_ BK308 hb;have n3_:=kB_ BK319 hb;have n4_:=bS_ HB hb;clear HO_320002;clear BK307;clear BK308;clear BK319;clear HB;have HO_320002:=n0_;have BK307:=n1_;have BK308:=n2_;have BK319:=n3_;have HB:=n4_;clear n0_ n1_ n2_ n3_ n4_;(try clear hb);obtain ⟨hcz182_0,hcz182_1,hcz182_2,hfz182_0,hfz182_1,hfz182_2⟩:=k3f_ BK307;obtain ⟨hcz183_0,hcz183_1,hcz183_2,hfz183_0,hfz183_1,hfz183_2⟩:=k3f_ BK308)|((with_reducible refine gate_dst (N:=119) rfl ?_);(try (refine gate_guard (by rfl) ?_;dsimp only));refine rX_ (d:=k126) (e:=126) (xs:=([(⟨1,(⟨#[108,111,103,43]⟩ : ByteArray),(⟨#[]⟩ : ByteArray),t320⟩ : S126),(⟨3,(⟨#[108,111,103,43]⟩ : ByteArray),(⟨#[108,111,103]⟩ : ByteArray),(⟨#[]⟩ : ByteArray)⟩ : S126)] : List (S126))) (inner:=[.int .i64 1,.string (⟨#[108,111,103,43]⟩ : ByteArray),.string (⟨#[]⟩ : ByteArray),.string t320,.int .i64 3,.string (⟨#[108,111,103,43]⟩ : ByteArray),.string (⟨#[108,111,103]⟩ : ByteArray),.string (⟨#[]⟩ : ByteArray)]) (ok:=fun _ => True) (okp:=fun _ => True) 119 (Reps.c4 (show Kd.M k126 _ _ _ (⟨1,(⟨#[108,111,103,43]⟩ : ByteArray),(⟨#[]⟩ : ByteArray),t320⟩ : S126) [.int .i64 1,.string (⟨#[108,111,103,43]⟩ : ByteArray),.string (⟨#[]⟩ : ByteArray),.string t320] from (k126_mkM _ _ _ (⟨1,(⟨#[108,111,103,43]⟩ : ByteArray),(⟨#[]⟩ : ByteArray),t320⟩ : S126) )) (Reps.c4 (show Kd.M k126 _ _ _ (⟨3,(⟨#[108,111,103,43]⟩ : ByteArray),(⟨#[108,111,103]⟩ : ByteArray),(⟨#[]⟩ : ByteArray)⟩ : S126) [.int .i64 3,.string (⟨#[108,111,103,43]⟩ : ByteArray),.string (⟨#[108,111,103]⟩ : ByteArray),.string (⟨#[]⟩ : ByteArray)] from (k126_mkM _ _ _ (⟨3,(⟨#[108,111,103,43]⟩ : ByteArray),(⟨#[108,111,103]⟩ : ByteArray),(⟨#[]⟩ : ByteArray)⟩ : S126) )) (Reps.none _ _))) ?_;intro v358 w184 ho185 hb hg_ hnew_;clear hg_ hnew_;(rw [← Ny357.out] at ho185);have n0_:=rB_ HO_320002 hb;have n1_:=A_ (rw_ ho185 (bz_ (bq_ HB)));have n2_:=kB_ BK307 hb;have n3_:=kB_ BK308 hb;have n4_:=kB_ BK319 hb;have n5_:=bS_ HB hb;clear HO_320002;clear BK307;clear BK308;clear BK319;clear HB;have HO_320002:=n0_;have HO359:=n1_;have BK307:=n2_;have BK308:=n3_;have BK319:=n4_;have HB:=n5_;clear n0_ n1_ n2_ n3_ n4_ n5_;clear hb ho185)))
           go_ret2;exact ⟨_,by rfl,by exact HO359.out,bq_ HB⟩
         ·rw [if_neg c153] at H;have c153b0 : (a1_1 == a2_1) = false:=beq_eq_false_iff_ne.mpr c153;have c153b1 : (a1_1 != a2_1) = true:=bne_iff_ne.mpr c153;obtain ⟨y360,hy360⟩ : ∃ y_ : List (S126),y_ = (([(⟨1,(⟨#[108,111,103,43]⟩ : ByteArray),(⟨#[]⟩ : ByteArray),t320⟩ : S126),(⟨3,(⟨#[108,111,103,43]⟩ : ByteArray),(⟨#[108,111,103]⟩ : ByteArray),(⟨#[]⟩ : ByteArray)⟩ : S126)] : List (S126))):=⟨_,rfl⟩
          replace H : (some (y360,true)) = some (r1,r2):=by (rw [hy360];with_reducible exact H)
          have Ny360:=A_ hy360;clear hy360;simp only [Option.some.injEq,Prod.mk.injEq] at H;obtain ⟨rfl,rfl⟩:=H;have hnb186:=NB307_308.out;have hnc186:=NB308_307.out;have hnb187:=NB307_319.out;have hnc187:=NB319_307.out;obtain ⟨hcz188_0,hcz188_1,hcz188_2,hfz188_0,hfz188_1,hfz188_2⟩:=k3f_ BK307;have hnb189:=NB308_319.out;have hnc189:=NB319_308.out;obtain ⟨hcz190_0,hcz190_1,hcz190_2,hfz190_0,hfz190_1,hfz190_2⟩:=k3f_ BK308
          go_wp2
          repeat (go_quiet (fail);try go_wp2_with (first|(go_at_call 89;(with_reducible refine (spec_l12Frames.calls k2 a2_0 a2_1 _ _ l2_2 x14_2 t350 _ ?side1 ?side2 A151.out).mono ?_);(case side1 => repeat (first|exact (Kd.C_below HR2_2.out HB.out)|(with_reducible refine Kd.C_drewN ?_ _)));(case side2 => exact HC2_2.out);rintro e w191 ⟨rfl,hb⟩;have n0_:=rB_ HO_320002 hb;have n1_:=kB_ BK307 hb;have n2_:=kB_ BK308 hb;have n3_:=kB_ BK319 hb;have n4_:=bS_ HB hb;clear HO_320002;clear BK307;clear BK308;clear BK319;clear HB;have HO_320002:=n0_;have BK307:=n1_;have BK308:=n2_;have BK319:=n3_;have HB:=n4_;clear n0_ n1_ n2_ n3_ n4_;(try clear hb);obtain ⟨hcz192_0,hcz192_1,hcz192_2,hfz192_0,hfz192_1,hfz192_2⟩:=k3f_ BK307;obtain ⟨hcz193_0,hcz193_1,hcz193_2,hfz193_0,hfz193_1,hfz193_2⟩:=k3f_ BK308)|((with_reducible refine gate_dst (N:=119) rfl ?_);(try (refine gate_guard (by rfl) ?_;dsimp only));refine rX_ (d:=k126) (e:=126) (xs:=([(⟨1,(⟨#[108,111,103,43]⟩ : ByteArray),(⟨#[]⟩ : ByteArray),t320⟩ : S126),(⟨3,(⟨#[108,111,103,43]⟩ : ByteArray),(⟨#[108,111,103]⟩ : ByteArray),(⟨#[]⟩ : ByteArray)⟩ : S126)] : List (S126))) (inner:=[.int .i64 1,.string (⟨#[108,111,103,43]⟩ : ByteArray),.string (⟨#[]⟩ : ByteArray),.string t320,.int .i64 3,.string (⟨#[108,111,103,43]⟩ : ByteArray),.string (⟨#[108,111,103]⟩ : ByteArray),.string (⟨#[]⟩ : ByteArray)]) (ok:=fun _ => True) (okp:=fun _ => True) 119 (Reps.c4 (show Kd.M k126 _ _ _ (⟨1,(⟨#[108,111,103,43]⟩ : ByteArray),(⟨#[]⟩ : ByteArray),t320⟩ : S126) [.int .i64 1,.string (⟨#[108,111,103,43]⟩ : ByteArray),.string (⟨#[]⟩ : ByteArray),.string t320] from (k126_mkM _ _ _ (⟨1,(⟨#[108,111,103,43]⟩ : ByteArray),(⟨#[]⟩ : ByteArray),t320⟩ : S126) )) (Reps.c4 (show Kd.M k126 _ _ _ (⟨3,(⟨#[108,111,103,43]⟩ : ByteArray),(⟨#[108,111,103]⟩ : ByteArray),(⟨#[]⟩ : ByteArray)⟩ : S126) [.int .i64 3,.string (⟨#[108,111,103,43]⟩ : ByteArray),.string (⟨#[108,111,103]⟩ : ByteArray),.string (⟨#[]⟩ : ByteArray)] from (k126_mkM _ _ _ (⟨3,(⟨#[108,111,103,43]⟩ : ByteArray),(⟨#[108,111,103]⟩ : ByteArray),(⟨#[]⟩ : ByteArray)⟩ : S126) )) (Reps.none _ _))) ?_;intro v361 w194 ho195 hb hg_ hnew_;clear hg_ hnew_;(rw [← Ny360.out] at ho195);have n0_:=rB_ HO_320002 hb;have n1_:=A_ (rw_ ho195 (bz_ (bq_ HB)));have n2_:=kB_ BK307 hb;have n3_:=kB_ BK308 hb;have n4_:=kB_ BK319 hb;have n5_:=bS_ HB hb;clear HO_320002;clear BK307;clear BK308;clear BK319;clear HB;have HO_320002:=n0_;have HO362:=n1_;have BK307:=n2_;have BK308:=n3_;have BK319:=n4_;have HB:=n5_;clear n0_ n1_ n2_ n3_ n4_ n5_;clear hb ho195)))
          go_ret2;exact ⟨_,by rfl,by exact HO362.out,bq_ HB⟩
        ·rw [if_neg c152] at H;have c152b0 : (a1_0 == a2_0) = false:=beq_eq_false_iff_ne.mpr c152;have c152b1 : (a1_0 != a2_0) = true:=bne_iff_ne.mpr c152;obtain ⟨y363,hy363⟩ : ∃ y_ : List (S126),y_ = (([(⟨1,(⟨#[108,111,103,43]⟩ : ByteArray),(⟨#[]⟩ : ByteArray),t320⟩ : S126),(⟨3,(⟨#[108,111,103,43]⟩ : ByteArray),(⟨#[108,111,103]⟩ : ByteArray),(⟨#[]⟩ : ByteArray)⟩ : S126)] : List (S126))):=⟨_,rfl⟩
         replace H : (some (y363,true)) = some (r1,r2):=by (rw [hy363];with_reducible exact H)
         have Ny363:=A_ hy363;clear hy363;simp only [Option.some.injEq,Prod.mk.injEq] at H;obtain ⟨rfl,rfl⟩:=H;have hnb196:=NB307_308.out;have hnc196:=NB308_307.out;have hnb197:=NB307_319.out;have hnc197:=NB319_307.out;obtain ⟨hcz198_0,hcz198_1,hcz198_2,hfz198_0,hfz198_1,hfz198_2⟩:=k3f_ BK307;have hnb199:=NB308_319.out;have hnc199:=NB319_308.out;obtain ⟨hcz200_0,hcz200_1,hcz200_2,hfz200_0,hfz200_1,hfz200_2⟩:=k3f_ BK308
         go_wp2
         repeat (go_quiet (fail);try go_wp2_with (first|(go_at_call 89;(with_reducible refine (spec_l12Frames.calls k2 a2_0 a2_1 _ _ l2_2 x14_2 t350 _ ?side1 ?side2 A151.out).mono ?_);(case side1 => repeat (first|exact (Kd.C_below HR2_2.out HB.out)|(with_reducible refine Kd.C_drewN ?_ _)));(case side2 => exact HC2_2.out);rintro e w201 ⟨rfl,hb⟩;have n0_:=rB_ HO_320002 hb;have n1_:=kB_ BK307 hb;have n2_:=kB_ BK308 hb;have n3_:=kB_ BK319 hb;have n4_:=bS_ HB hb;clear HO_320002;clear BK307;clear BK308;clear BK319;clear HB;have HO_320002:=n0_;have BK307:=n1_;have BK308:=n2_;have BK319:=n3_;have HB:=n4_;clear n0_ n1_ n2_ n3_ n4_;(try clear hb);obtain ⟨hcz202_0,hcz202_1,hcz202_2,hfz202_0,hfz202_1,hfz202_2⟩:=k3f_ BK307;obtain ⟨hcz203_0,hcz203_1,hcz203_2,hfz203_0,hfz203_1,hfz203_2⟩:=k3f_ BK308)|((with_reducible refine gate_dst (N:=119) rfl ?_);(try (refine gate_guard (by rfl) ?_;dsimp only));refine rX_ (d:=k126) (e:=126) (xs:=([(⟨1,(⟨#[108,111,103,43]⟩ : ByteArray),(⟨#[]⟩ : ByteArray),t320⟩ : S126),(⟨3,(⟨#[108,111,103,43]⟩ : ByteArray),(⟨#[108,111,103]⟩ : ByteArray),(⟨#[]⟩ : ByteArray)⟩ : S126)] : List (S126))) (inner:=[.int .i64 1,.string (⟨#[108,111,103,43]⟩ : ByteArray),.string (⟨#[]⟩ : ByteArray),.string t320,.int .i64 3,.string (⟨#[108,111,103,43]⟩ : ByteArray),.string (⟨#[108,111,103]⟩ : ByteArray),.string (⟨#[]⟩ : ByteArray)]) (ok:=fun _ => True) (okp:=fun _ => True) 119 (Reps.c4 (show Kd.M k126 _ _ _ (⟨1,(⟨#[108,111,103,43]⟩ : ByteArray),(⟨#[]⟩ : ByteArray),t320⟩ : S126) [.int .i64 1,.string (⟨#[108,111,103,43]⟩ : ByteArray),.string (⟨#[]⟩ : ByteArray),.string t320] from (k126_mkM _ _ _ (⟨1,(⟨#[108,111,103,43]⟩ : ByteArray),(⟨#[]⟩ : ByteArray),t320⟩ : S126) )) (Reps.c4 (show Kd.M k126 _ _ _ (⟨3,(⟨#[108,111,103,43]⟩ : ByteArray),(⟨#[108,111,103]⟩ : ByteArray),(⟨#[]⟩ : ByteArray)⟩ : S126) [.int .i64 3,.string (⟨#[108,111,103,43]⟩ : ByteArray),.string (⟨#[108,111,103]⟩ : ByteArray),.string (⟨#[]⟩ : ByteArray)] from (k126_mkM _ _ _ (⟨3,(⟨#[108,111,103,43]⟩ : ByteArray),(⟨#[108,111,103]⟩ : ByteArray),(⟨#[]⟩ : ByteArray)⟩ : S126) )) (Reps.none _ _))) ?_;intro v364 w204 ho205 hb hg_ hnew_;clear hg_ hnew_;(rw [← Ny363.out] at ho205);have n0_:=rB_ HO_320002 hb;have n1_:=A_ (rw_ ho205 (bz_ (bq_ HB)));have n2_:=kB_ BK307 hb;have n3_:=kB_ BK308 hb;have n4_:=kB_ BK319 hb;have n5_:=bS_ HB hb;clear HO_320002;clear BK307;clear BK308;clear BK319;clear HB;have HO_320002:=n0_;have HO365:=n1_;have BK307:=n2_;have BK308:=n3_;have BK319:=n4_;have HB:=n5_;clear n0_ n1_ n2_ n3_ n4_ n5_;clear hb ho205)))
         go_ret2;exact ⟨_,by rfl,by exact HO365.out,bq_ HB⟩
end Go.Proofs.Ytbcgnncbiblibaa.PFnExactLogSteps
