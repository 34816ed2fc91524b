/- The contracts of the Go functions that this law reaches: what each call returns, by a plain Lean function of its arguments. No conditions but those each contract names. By the kit's print.py, run by this session's wip/gen/pp.py with facts and hand proofs beside it: not to the letter what print.sh prints. -/
import Derived.Test.YtbcgnncbiblibaaDoorPFnExactShelfMapx0
import Derived.Test.YtbcgnncbiblibaaDoorPFnExactShelfMapx2
import Derived.Test.YtbcgnncbiblibaaDoorPFnExactShelfMapx3
import Derived.Test.YtbcgnncbiblibaaDoorPFnExactShelfMapx4
namespace Go.Proofs.YtbcgnncbiblibaaDoor.PFnExactShelfMap
open Go.RowKit Go.Proofs.YtbcgnncbiblibaaDoorW.PrintWords Go.Proofs.YtbcgnncbiblibaaDoorW.PrintLast Go.Proofs.YtbcgnncbiblibaaDoorW.PrintMore
attribute [local go_sem] max2_int min2_int max_two min_two max_three min_three max_four min_four
set_option linter.unusedVariables false
set_option linter.unusedSimpArgs false
mutual
def spec_ShelfMap.j0 : Nat → List (S74) → Bool → List (S62) → List Int → Int → Int → Int → List Int → List (S71) → Int → Option ((List (S74)) × Bool)
 | 0,_,_,_,_,_,_,_,_,_,_ => none
 | k + 1,x6,x19,x166000,x167000,x167001,x167002,x167003,x167004,x167005,x167006 => if x19 = true then (some (x6,false)) else (spec_ShelfMap.l0 k x6 0 x166000 x167000 x167001 x167002 x167003 x167004 x167005 x167006)
def spec_ShelfMap.l0 : Nat → List (S74) → Int → List (S62) → List Int → Int → Int → Int → List Int → List (S71) → Int → Option ((List (S74)) × Bool)
 | 0,_,_,_,_,_,_,_,_,_,_ => none
 | k + 1,x6,x7,x166000,x167000,x167001,x167002,x167003,x167004,x167005,x167006 => if x7 < (x167005.length : Int) then (if 0 ≤ x7 then ((spec_SegName.f k ((rd_T71 x167005 x7).f1)).bind fun t174 => ((spec_l03Text.f k x166000 t174).bind fun t175 => (if (wrap64 (((rd_T71 x167005 x7).f2) + ((rd_T71 x167005 x7).f3))) > (t175.size : Int) then (some ((([] : List (S74))),false)) else (if 0 ≤ ((rd_T71 x167005 x7).f2) then (if ((rd_T71 x167005 x7).f2) ≤ (wrap64 (((rd_T71 x167005 x7).f2) + ((rd_T71 x167005 x7).f3))) then (if (wrap64 (((rd_T71 x167005 x7).f2) + ((rd_T71 x167005 x7).f3))) ≤ (t175.size : Int) then (if x6.length < 4398046511104 then (spec_ShelfMap.l0 k (x6 ++ [(⟨(rd_T71 x167005 x7).f0,t175.extract (((rd_T71 x167005 x7).f2) : Int).toNat ((wrap64 (((rd_T71 x167005 x7).f2) + ((rd_T71 x167005 x7).f3))) : Int).toNat⟩ : S74)]) (wrap64 (x7 + 1)) x166000 x167000 x167001 x167002 x167003 x167004 x167005 x167006) else (none)) else (none)) else (none)) else (none))))) else (none)) else (some (x6,true))
end
def spec_ShelfMap.f (k : Nat) (l0_0 : List (S62)) (l1_0 : List Int) (a1_1 : Int) (a1_2 : Int) (a1_3 : Int) (l1_4 : List Int) (l1_5 : List (S71)) (a1_6 : Int) : Option ((List (S74)) × Bool) := (some (([] : List (S74)) : List (S74))).bind fun y167 => ((spec_DiskOk.f k l0_0).bind fun t170 => (if t170 = true then ((spec_DirOk.f k l1_5).bind fun t171 => (spec_ShelfMap.j0 k y167 (!t171) l0_0 l1_0 a1_1 a1_2 a1_3 l1_4 l1_5 a1_6)) else (spec_ShelfMap.j0 k y167 true l0_0 l1_0 a1_1 a1_2 a1_3 l1_4 l1_5 a1_6)))
theorem spec_ShelfMap.mono_l : ∀ k, (∀ y0 y1 y2 y3 y4 y5 y6 y7 y8 y9, LeO (spec_ShelfMap.j0 k y0 y1 y2 y3 y4 y5 y6 y7 y8 y9) (spec_ShelfMap.j0 (k + 1) y0 y1 y2 y3 y4 y5 y6 y7 y8 y9)) ∧ (∀ y0 y1 y2 y3 y4 y5 y6 y7 y8 y9, LeO (spec_ShelfMap.l0 k y0 y1 y2 y3 y4 y5 y6 y7 y8 y9) (spec_ShelfMap.l0 (k + 1) y0 y1 y2 y3 y4 y5 y6 y7 y8 y9))
 | 0 => ⟨fun _ _ _ _ _ _ _ _ _ _ r h => by simp [spec_ShelfMap.j0] at h,fun _ _ _ _ _ _ _ _ _ _ r h => by simp [spec_ShelfMap.l0] at h⟩
 | k + 1 => by
  obtain ⟨ih0,ih1⟩:=spec_ShelfMap.mono_l k;refine ⟨?_,?_⟩
  ·intro y0 y1 y2 y3 y4 y5 y6 y7 y8 y9
   unfold spec_ShelfMap.j0
   repeat' first
   | (with_reducible exact ih0 _ _ _ _ _ _ _ _ _ _)
   | (with_reducible exact ih1 _ _ _ _ _ _ _ _ _ _)
   | (with_reducible exact spec_DirOk.mono _ _)
   | (with_reducible exact spec_DiskOk.mono _ _)
   | (with_reducible exact spec_SegName.mono _ _)
   | (with_reducible exact spec_l03Text.mono _ _ _)
   | (with_reducible exact LeO.refl _)
   | (with_reducible exact LeO.none _)
   | (with_reducible refine LeO.ite ?_ ?_)
   | (with_reducible refine LeO.bind ?_ (fun _ => ?_))
  ·intro y0 y1 y2 y3 y4 y5 y6 y7 y8 y9
   unfold spec_ShelfMap.l0
   repeat' first
   | (with_reducible exact ih0 _ _ _ _ _ _ _ _ _ _)
   | (with_reducible exact ih1 _ _ _ _ _ _ _ _ _ _)
   | (with_reducible exact spec_DirOk.mono _ _)
   | (with_reducible exact spec_DiskOk.mono _ _)
   | (with_reducible exact spec_SegName.mono _ _)
   | (with_reducible exact spec_l03Text.mono _ _ _)
   | (with_reducible exact LeO.refl _)
   | (with_reducible exact LeO.none _)
   | (with_reducible refine LeO.ite ?_ ?_)
   | (with_reducible refine LeO.bind ?_ (fun _ => ?_))
theorem spec_ShelfMap.mono : ∀ a0 a1 a2 a3 a4 a5 a6 a7 k, LeO (spec_ShelfMap.f k a0 a1 a2 a3 a4 a5 a6 a7) (spec_ShelfMap.f (k + 1) a0 a1 a2 a3 a4 a5 a6 a7) := by
 intro a0 a1 a2 a3 a4 a5 a6 a7 k;obtain ⟨ih0,ih1⟩:=spec_ShelfMap.mono_l k
 unfold spec_ShelfMap.f
 repeat' first
   | (with_reducible exact ih0 _ _ _ _ _ _ _ _ _ _)
   | (with_reducible exact ih1 _ _ _ _ _ _ _ _ _ _)
   | (with_reducible exact spec_DirOk.mono _ _)
   | (with_reducible exact spec_DiskOk.mono _ _)
   | (with_reducible exact spec_SegName.mono _ _)
   | (with_reducible exact spec_l03Text.mono _ _ _)
   | (with_reducible exact LeO.refl _)
   | (with_reducible exact LeO.none _)
   | (with_reducible refine LeO.ite ?_ ?_)
   | (with_reducible refine LeO.bind ?_ (fun _ => ?_))
def spec_ShelfMap.T11 : Bool × List (List Nat × List Nat) := (true, [([], []), ([], []), ([1], [1]), ([], []), ([], []), ([4], [4]), ([], []), ([6], [6]), ([], []), ([8], [8]), ([7, 9], [7, 9]), ([3, 5, 10], [3, 5, 10]), ([2, 11], [2, 11]), ([12], [12]), ([0, 13], [0, 13]), ([14, 14, 0, 1, 2, 3, 4, 5, 6, 7, 8, 9, 10, 11, 12, 13, 14], [0, 14])])
def spec_ShelfMap.B11 : List Nat := [0, 0, 2, 0, 0, 16, 0, 64, 0, 256, 960, 2040, 4094, 8190, 16383, 32767]
theorem spec_ShelfMap.tab11 : rtab .any (opsOf Tryd.f15 11) = spec_ShelfMap.T11 := by kernel_rfl
theorem spec_ShelfMap.bits11 : waitsOk spec_ShelfMap.T11.2 spec_ShelfMap.B11 = true := by kernel_rfl
set_option maxHeartbeats 8000000 in
set_option maxRecDepth 100000 in
theorem spec_ShelfMap.calls (k : Nat) (A0_0 : Option Addr) (c0_0 : Nat) (l0_0 : List (S62)) (A1_0 : Option Addr) (c1_0 : Nat) (l1_0 : List Int) (a1_1 : Int) (a1_2 : Int) (a1_3 : Int) (A1_4 : Option Addr) (c1_4 : Nat) (l1_4 : List Int) (A1_5 : Option Addr) (c1_5 : Nat) (l1_5 : List (S71)) (a1_6 : Int) (r1 : List (S74)) (r2 : Bool) (w : World) (hr0_0 : Kd.C k62 w A0_0 l0_0.length l0_0) (hc0_0 : l0_0.length ≤ c0_0) (hr1_0 : Kd.C (Kd.int .i64) w A1_0 l1_0.length l1_0) (hc1_0 : l1_0.length ≤ c1_0) (hr1_4 : Kd.C (Kd.int .i64) w A1_4 l1_4.length l1_4) (hc1_4 : l1_4.length ≤ c1_4) (hr1_5 : Kd.C k71 w A1_5 l1_5.length l1_5) (hc1_5 : l1_5.length ≤ c1_5) (h : spec_ShelfMap.f k l0_0 l1_0 a1_1 a1_2 a1_3 l1_4 l1_5 a1_6 = some (r1, r2)) :
  Calls Tryd.prog 15 #[.agg #[.slice A0_0 l0_0.length c0_0],.agg #[.slice A1_0 l1_0.length c1_0,.int .i64 a1_1,.int .i64 a1_2,.int .i64 a1_3,.slice A1_4 l1_4.length c1_4,.slice A1_5 l1_5.length c1_5,.int .i64 a1_6]] w fun e w' => ∃ v0_ : Value,e = .returned (.tuple #[v0_,.bool r2]) ∧ Kd.R k74 74 w' w.heap.size (fun _ => True) v0_ r1 ∧ Below w.heap.size w w':=by
 have hu25:=Tryd.underlying25;have hu51:=Tryd.underlying51;have hu71:=Tryd.underlying71;have hu74:=Tryd.underlying74;have HR0_0:=A_ hr0_0;have HC0_0:=A_ hc0_0;clear hr0_0 hc0_0;have HR1_0:=A_ hr1_0;have HC1_0:=A_ hc1_0;clear hr1_0 hc1_0;have HR1_4:=A_ hr1_4;have HC1_4:=A_ hc1_4;clear hr1_4 hc1_4;have HR1_5:=A_ hr1_5;have HC1_5:=A_ hc1_5;clear hr1_5 hc1_5;have HB:=A_ (Below.refl w.heap.size w);have H : ((some (([] : List (S74)) : List (S74))).bind fun y167 => ((spec_DiskOk.f k l0_0).bind fun t170 => (if t170 = true then ((spec_DirOk.f k l1_5).bind fun t171 => (spec_ShelfMap.j0 k y167 (!t171) l0_0 l1_0 a1_1 a1_2 a1_3 l1_4 l1_5 a1_6)) else (spec_ShelfMap.j0 k y167 true l0_0 l1_0 a1_1 a1_2 a1_3 l1_4 l1_5 a1_6)))) = some (r1,r2):=h;clear h;obtain ⟨y167,hy167⟩ : ∃ y_ : List (S74),y_ = (([] : List (S74))):=⟨_,rfl⟩
 replace H : ((spec_DiskOk.f k l0_0).bind fun t170 => (if t170 = true then ((spec_DirOk.f k l1_5).bind fun t171 => (spec_ShelfMap.j0 k y167 (!t171) l0_0 l1_0 a1_1 a1_2 a1_3 l1_4 l1_5 a1_6)) else (spec_ShelfMap.j0 k y167 true l0_0 l1_0 a1_1 a1_2 a1_3 l1_4 l1_5 a1_6))) = some (r1,r2):=by first|(rw [hy167];with_reducible exact H)|(have H2_:=(Option.bind_some _ _).symm.trans H;rw [hy167];with_reducible exact H2_)|(have H2_:=(Option.bind_some _ _).symm.trans H;with_reducible exact H2_)|with_reducible exact H|(rw [hy167];exact H)|exact H
 have Ny167:=A_ hy167;clear hy167;have HC3:=A_ H;clear H;go_enter Tryd.func15,Tryd.ntmps15
 go_upto_region 2 with (first|((with_reducible refine gate_dst (N:=2) rfl ?_);refine box_event ?hg (N:=2) ?hd (cs:=#[.slice A0_0 l0_0.length c0_0]) (t:=25) ?hr ?_;(case hd => rfl);(case hg => rfl);(case hr => first|(go_simp;done)|(go_simp;rfl));intro gb165 hg w4 hbox hb;have n0_:=A_ (bs_ (by repeat (first|(with_reducible first|exact HB.out|apply pa_|apply pn_|apply pd_)|exact HB.out)) hb);have n1_:=A_ (hbox);have n3_:=A_ ((by rw [hg];exact (bz_ (by repeat (first|(with_reducible first|exact HB.out|apply pa_|apply pn_|apply pd_)|exact HB.out))) : w.heap.size ≤ gb165));clear HB;have HB:=n0_;have BK165:=n1_;have GE165:=n3_;clear n0_ n1_ n3_;clear hb hbox hg)|((with_reducible refine gate_dst (N:=3) rfl ?_);refine box_event ?hg (N:=3) ?hd (cs:=#[.slice A1_0 l1_0.length c1_0,.int .i64 a1_1,.int .i64 a1_2,.int .i64 a1_3,.slice A1_4 l1_4.length c1_4,.slice A1_5 l1_5.length c1_5,.int .i64 a1_6]) (t:=51) ?hr ?_;(case hd => rfl);(case hg => rfl);(case hr => first|(go_simp;done)|(go_simp;rfl));intro gb166 hg w5 hbox hb;have n0_:=A_ (kb_ (by (with_reducible repeat (first|refine kn_ ?_ _|refine kd_ ?_|refine ka_ ?_ _));exact BK165.out) hb);have n1_:=A_ (bs_ (by repeat (first|(with_reducible first|exact HB.out|apply pa_|apply pn_|apply pd_|refine ps_ ?_ GE165.out)|exact HB.out)) hb);have n2_:=A_ (hbox);have n4_:=A_ ((by rw [hg];exact (bz_ (by repeat (first|(with_reducible first|exact HB.out|apply pa_|apply pn_|apply pd_|refine ps_ ?_ GE165.out)|exact HB.out))) : w.heap.size ≤ gb166));have n5_:=A_ ((by rw [hg];exact nl_ (kl_ (g:=gb165) (o:=.cells #[.slice A0_0 l0_0.length c0_0] 25 (0,0)) (by (with_reducible repeat (first|refine kn_ ?_ _|refine kd_ ?_|refine ka_ ?_ _));exact BK165.out)) : gb165 ≠ gb166));have n6_:=A_ ((by rw [hg];exact ng_ (kl_ (g:=gb165) (o:=.cells #[.slice A0_0 l0_0.length c0_0] 25 (0,0)) (by (with_reducible repeat (first|refine kn_ ?_ _|refine kd_ ?_|refine ka_ ?_ _));exact BK165.out)) : gb166 ≠ gb165));clear BK165;clear HB;have BK165:=n0_;have HB:=n1_;have BK166:=n2_;have GE166:=n4_;have NB165_166:=n5_;have NB166_165:=n6_;clear n0_ n1_ n2_ n4_ n5_ n6_;clear hb hbox hg)|((with_reducible refine gate_dst (N:=10) rfl ?_);refine Kd.R_lit k74 _ 74 ?hg (N:=10) ?hd (xs:=([] : List (S74))) (inner:=[]) (ok:=fun _ => True) (okp:=fun _ => True) ?hr ?hp (fun _ hk => hk) trivial (Below.refl _ _) (Nat.le_refl _) (by simp) ?_;(case hd => rfl);(case hg => rfl);(case hr => first|(go_simp;done)|(go_simp;rfl));(case hp => exact (Reps.none _ _));intro v168 w6 ho7 hb hg_ hnew_;clear hg_ hnew_;(first|rw [← Ny167.out] at ho7|(simp only [Int.reduceToNat] at ho7;rw [← Ny167.out] at ho7));have HO169:=A_ (rw_ ho7 (bz_ (by repeat (first|(with_reducible first|exact HB.out|apply pa_|apply pn_|apply pd_|refine ps_ ?_ GE165.out|refine ps_ ?_ GE166.out)|exact HB.out))));replace BK165:=A_ (kb_ (by (with_reducible repeat (first|refine kn_ ?_ _|refine kd_ ?_|refine ka_ ?_ _));exact BK165.out) hb);replace BK166:=A_ (kb_ (by (with_reducible repeat (first|refine kn_ ?_ _|refine kd_ ?_|refine ka_ ?_ _));exact BK166.out) hb);replace HB:=A_ (bs_ (by repeat (first|(with_reducible first|exact HB.out|apply pa_|apply pn_|apply pd_|refine ps_ ?_ GE165.out|refine ps_ ?_ GE166.out)|exact HB.out)) hb);clear hb ho7))
 (try simp only [Act.put,s1_,s2_,s3_])
 go_cut [19] (fun v19 wc => ∃ (kq : Nat) (x19_2 : Bool),v19 = .bool x19_2 ∧ Aside0 (spec_ShelfMap.j0 kq y167 x19_2 l0_0 l1_0 a1_1 a1_2 a1_3 l1_4 l1_5 a1_6 = some (r1,r2)) ∧ Aside0 (kq ≤ k) ∧ Aside0 (Kd.R k74 74 wc w.heap.size (fun _ => True) v168 y167) ∧ Aside0 (wc.heap[gb165]? = some (.cells #[(.slice A0_0 l0_0.length c0_0)] 25 (0,0))) ∧ Aside0 (wc.heap[gb166]? = some (.cells #[(.slice A1_0 l1_0.length c1_0),.int .i64 a1_1,.int .i64 a1_2,.int .i64 a1_3,(.slice A1_4 l1_4.length c1_4),(.slice A1_5 l1_5.length c1_5),.int .i64 a1_6] 51 (0,0))) ∧ Aside0 (Below w.heap.size w wc))
 case first =>
  have H:=HC3.out;clear HC3;replace H:=ob_.mp H;obtain ⟨t170,A80,H⟩:=H;replace H : (if t170 = true then ((spec_DirOk.f k l1_5).bind fun t171 => (spec_ShelfMap.j0 k y167 (!t171) l0_0 l1_0 a1_1 a1_2 a1_3 l1_4 l1_5 a1_6)) else (spec_ShelfMap.j0 k y167 true l0_0 l1_0 a1_1 a1_2 a1_3 l1_4 l1_5 a1_6)) = some (r1,r2):=H;have A8:=A_ A80;clear A80
  by_cases c9 : t170 = true
  ·subst c9
   have H1 : ((spec_DirOk.f k l1_5).bind fun t171 => (spec_ShelfMap.j0 k y167 (!t171) l0_0 l1_0 a1_1 a1_2 a1_3 l1_4 l1_5 a1_6)) = some (r1,r2):=by rw [if_pos rfl] at H;exact H
   clear H;have H:=H1;clear H1;replace H:=ob_.mp H;obtain ⟨t171,A100,H⟩:=H;replace H : (spec_ShelfMap.j0 k y167 (!t171) l0_0 l1_0 a1_1 a1_2 a1_3 l1_4 l1_5 a1_6) = some (r1,r2):=H;have A10:=A_ A100;clear A100;have H':=A_ H;clear H;have hnb11:=NB165_166.out;have hnc11:=NB166_165.out;have hcz12_0 : w6.cell? ⟨gb165,0,none⟩ = some (.slice A0_0 l0_0.length c0_0):=(kc_ BK165.out 0).trans rfl;have hfz12_0:=kf_ BK165.out 0
   go_wp2_with (first|((with_reducible refine gate_callee (f:=34) rfl ?_);refine goesL_ (some 12) rfl rfl Tryd.func34 (by kernel_rfl) rfl #[.agg #[.slice A0_0 l0_0.length c0_0]] rfl (by (try simp only [s4_,s5_,s6_]);first|done|rfl|(simp only [List.length_drop,List.length_take];rfl)) ?_;(with_reducible refine (spec_DiskOk.calls k _ _ l0_0 true _ ?side1 ?side2 A8.out).mono ?_);(case side1 => repeat (first|exact (Kd.C_below HR0_0.out HB.out)|(with_reducible refine Kd.C_alloc ?_ _)|(with_reducible refine Kd.C_drewN ?_ _)|(with_reducible refine Kd.C_drew ?_)));(case side2 => exact HC0_0.out);rintro e w13 ⟨rfl,hb⟩;refine ⟨_,rfl,?_⟩;replace HO169:=A_ (rb_ (by (with_reducible repeat (first|apply ra_|apply rn_|apply Rd_));exact HO169.out) hb);replace BK165:=A_ (kb_ (by (with_reducible repeat (first|refine kn_ ?_ _|refine kd_ ?_|refine ka_ ?_ _));exact BK165.out) hb);replace BK166:=A_ (kb_ (by (with_reducible repeat (first|refine kn_ ?_ _|refine kd_ ?_|refine ka_ ?_ _));exact BK166.out) hb);replace HB:=A_ (bs_ (by repeat (first|(with_reducible first|exact HB.out|apply pa_|apply pn_|apply pd_|refine ps_ ?_ GE165.out|refine ps_ ?_ GE166.out)|exact HB.out)) hb);(try clear hb);(try clear hb2);(try clear hk);(try clear hi);have hcz14_0 : w13.cell? ⟨gb166,0,none⟩ = some (.slice A1_0 l1_0.length c1_0):=(kc_ BK166.out 0).trans rfl;have hcz14_1 : w13.cell? ⟨gb166,1,none⟩ = some (.int .i64 a1_1):=(kc_ BK166.out 1).trans rfl;have hcz14_2 : w13.cell? ⟨gb166,2,none⟩ = some (.int .i64 a1_2):=(kc_ BK166.out 2).trans rfl;have hcz14_3 : w13.cell? ⟨gb166,3,none⟩ = some (.int .i64 a1_3):=(kc_ BK166.out 3).trans rfl;have hcz14_4 : w13.cell? ⟨gb166,4,none⟩ = some (.slice A1_4 l1_4.length c1_4):=(kc_ BK166.out 4).trans rfl;have hcz14_5 : w13.cell? ⟨gb166,5,none⟩ = some (.slice A1_5 l1_5.length c1_5):=(kc_ BK166.out 5).trans rfl;have hcz14_6 : w13.cell? ⟨gb166,6,none⟩ = some (.int .i64 a1_6):=(kc_ BK166.out 6).trans rfl;have hfz14_0:=kf_ BK166.out 0;have hfz14_1:=kf_ BK166.out 1;have hfz14_2:=kf_ BK166.out 2;have hfz14_3:=kf_ BK166.out 3;have hfz14_4:=kf_ BK166.out 4;have hfz14_5:=kf_ BK166.out 5;have hfz14_6:=kf_ BK166.out 6)|(go_at_call 35;(with_reducible refine (spec_DirOk.calls k _ _ l1_5 t171 _ ?side1 ?side2 A10.out).mono ?_);(case side1 => repeat (first|exact (Kd.C_below HR1_5.out HB.out)|(with_reducible refine Kd.C_alloc ?_ _)|(with_reducible refine Kd.C_drewN ?_ _)|(with_reducible refine Kd.C_drew ?_)));(case side2 => exact HC1_5.out);rintro e w15 ⟨rfl,hb⟩;replace HO169:=A_ (rb_ (by (with_reducible repeat (first|apply ra_|apply rn_|apply Rd_));exact HO169.out) hb);replace BK165:=A_ (kb_ (by (with_reducible repeat (first|refine kn_ ?_ _|refine kd_ ?_|refine ka_ ?_ _));exact BK165.out) hb);replace BK166:=A_ (kb_ (by (with_reducible repeat (first|refine kn_ ?_ _|refine kd_ ?_|refine ka_ ?_ _));exact BK166.out) hb);replace HB:=A_ (bs_ (by repeat (first|(with_reducible first|exact HB.out|apply pa_|apply pn_|apply pd_|refine ps_ ?_ GE165.out|refine ps_ ?_ GE166.out)|exact HB.out)) hb);(try clear hb);(try clear hb2);(try clear hk);(try clear hi)))
   go_meet
   case rel => exact ⟨_,(!t171),(by first|rfl|(simp;done)|(simp [*];done)),H',⟨by first|omega|exact Nat.le_refl _⟩,⟨by (with_reducible repeat (first|apply ra_|apply rn_|apply Rd_));exact HO169.out⟩,⟨by (with_reducible repeat (first|refine kn_ ?_ _|refine kd_ ?_|refine ka_ ?_ _));exact BK165.out⟩,⟨by (with_reducible repeat (first|refine kn_ ?_ _|refine kd_ ?_|refine ka_ ?_ _));exact BK166.out⟩,⟨by repeat (first|(with_reducible first|exact HB.out|apply pa_|apply pn_|apply pd_|refine ps_ ?_ GE165.out|refine ps_ ?_ GE166.out)|exact HB.out)⟩⟩
  ·replace c9:=Bool.eq_false_iff.mpr c9;subst c9
   have H1 : (spec_ShelfMap.j0 k y167 true l0_0 l1_0 a1_1 a1_2 a1_3 l1_4 l1_5 a1_6) = some (r1,r2):=by rw [if_neg (show ¬ (false = true) by decide)] at H;exact H
   clear H;have H:=H1;clear H1;have H':=A_ H;clear H;have hnb16:=NB165_166.out;have hnc16:=NB166_165.out;have hcz17_0 : w6.cell? ⟨gb165,0,none⟩ = some (.slice A0_0 l0_0.length c0_0):=(kc_ BK165.out 0).trans rfl;have hfz17_0:=kf_ BK165.out 0
   go_wp2_with (first|((with_reducible refine gate_callee (f:=34) rfl ?_);refine goesL_ (some 12) rfl rfl Tryd.func34 (by kernel_rfl) rfl #[.agg #[.slice A0_0 l0_0.length c0_0]] rfl (by (try simp only [s4_,s5_,s6_]);first|done|rfl|(simp only [List.length_drop,List.length_take];rfl)) ?_;(with_reducible refine (spec_DiskOk.calls k _ _ l0_0 false _ ?side1 ?side2 A8.out).mono ?_);(case side1 => repeat (first|exact (Kd.C_below HR0_0.out HB.out)|(with_reducible refine Kd.C_alloc ?_ _)|(with_reducible refine Kd.C_drewN ?_ _)|(with_reducible refine Kd.C_drew ?_)));(case side2 => exact HC0_0.out);rintro e w18 ⟨rfl,hb⟩;refine ⟨_,rfl,?_⟩;replace HO169:=A_ (rb_ (by (with_reducible repeat (first|apply ra_|apply rn_|apply Rd_));exact HO169.out) hb);replace BK165:=A_ (kb_ (by (with_reducible repeat (first|refine kn_ ?_ _|refine kd_ ?_|refine ka_ ?_ _));exact BK165.out) hb);replace BK166:=A_ (kb_ (by (with_reducible repeat (first|refine kn_ ?_ _|refine kd_ ?_|refine ka_ ?_ _));exact BK166.out) hb);replace HB:=A_ (bs_ (by repeat (first|(with_reducible first|exact HB.out|apply pa_|apply pn_|apply pd_|refine ps_ ?_ GE165.out|refine ps_ ?_ GE166.out)|exact HB.out)) hb);(try clear hb);(try clear hb2);(try clear hk);(try clear hi)))
   go_meet
   case rel => exact ⟨_,(true),(by first|rfl|(simp;done)|(simp [*];done)),H',⟨by first|omega|exact Nat.le_refl _⟩,⟨by (with_reducible repeat (first|apply ra_|apply rn_|apply Rd_));exact HO169.out⟩,⟨by (with_reducible repeat (first|refine kn_ ?_ _|refine kd_ ?_|refine ka_ ?_ _));exact BK165.out⟩,⟨by (with_reducible repeat (first|refine kn_ ?_ _|refine kd_ ?_|refine ka_ ?_ _));exact BK166.out⟩,⟨by repeat (first|(with_reducible first|exact HB.out|apply pa_|apply pn_|apply pd_|refine ps_ ?_ GE165.out|refine ps_ ?_ GE166.out)|exact HB.out)⟩⟩
 case rest =>
  clear HC3
  try clear c1
  try clear p2
  try clear c3
  try clear c9
  try clear c11
  try clear c15
  try clear c16
  try clear hcz12_0
  try clear hcz14_0
  try clear hcz14_1
  try clear hcz14_2
  try clear hcz14_3
  try clear hcz14_4
  try clear hcz14_5
  try clear hcz14_6
  try clear hcz17_0
  try clear hfz12_0
  try clear hfz14_0
  try clear hfz14_1
  try clear hfz14_2
  try clear hfz14_3
  try clear hfz14_4
  try clear hfz14_5
  try clear hfz14_6
  try clear hfz17_0
  obtain ⟨kq,x19_2,rfl,HA,HJ2,HO_6,BK165,BK166,HB⟩:=hcut
  cases kq with
  | zero => exact absurd HA.out (by simp [spec_ShelfMap.j0])
  | succ kj2 =>
   have H:=HA.out;clear HA;simp only [spec_ShelfMap.j0] at H
   by_cases c19 : x19_2 = true
   ·subst c19
    have H1 : (some (y167,false)) = some (r1,r2):=by rw [if_pos rfl] at H;exact H
    clear H;have H:=H1;clear H1;simp only [Option.some.injEq,Prod.mk.injEq] at H;obtain ⟨rfl,rfl⟩:=H;go_wp2;go_ret2;exact ⟨_,by first|rfl|(simp [*,errW_none,errW_some] <;> rfl),by (with_reducible repeat (first|apply ra_|apply rn_|apply Rd_));exact HO_6.out,by repeat (first|(with_reducible first|exact HB.out|apply pa_|apply pn_|apply pd_|refine ps_ ?_ GE165.out|refine ps_ ?_ GE166.out)|exact HB.out)⟩
   ·replace c19:=Bool.eq_false_iff.mpr c19;subst c19
    have H1 : (spec_ShelfMap.l0 kj2 y167 0 l0_0 l1_0 a1_1 a1_2 a1_3 l1_4 l1_5 a1_6) = some (r1,r2):=by rw [if_neg (show ¬ (false = true) by decide)] at H;exact H
    clear H;have H:=H1;clear H1;have H':=A_ H;clear H;go_wp2
    go_loopg [6,7] kj2 (fun kq v6 v7 w' => ∃ (x6_2 : List (S74)) (x7_2 : Int),v7 = .int .i64 x7_2 ∧ Aside0 (spec_ShelfMap.l0 kq x6_2 x7_2 l0_0 l1_0 a1_1 a1_2 a1_3 l1_4 l1_5 a1_6 = some (r1,r2)) ∧ Aside0 (kq ≤ kj2) ∧ Aside0 (Kd.R k74 74 w' w.heap.size (fun _ => True) v6 x6_2) ∧ Aside0 (w'.heap[gb165]? = some (.cells #[(.slice A0_0 l0_0.length c0_0)] 25 (0,0))) ∧ Aside0 (w'.heap[gb166]? = some (.cells #[(.slice A1_0 l1_0.length c1_0),.int .i64 a1_1,.int .i64 a1_2,.int .i64 a1_3,(.slice A1_4 l1_4.length c1_4),(.slice A1_5 l1_5.length c1_5),.int .i64 a1_6] 51 (0,0))) ∧ Aside0 (Below w.heap.size w w'))
    case atStart => exact ⟨(y167),(0),(by first|rfl|(simp;done)|(simp [*];done)),H',⟨Nat.le_refl _⟩,⟨by (with_reducible repeat (first|apply ra_|apply rn_|apply Rd_));exact HO_6.out⟩,⟨by (with_reducible repeat (first|refine kn_ ?_ _|refine kd_ ?_|refine ka_ ?_ _));exact BK165.out⟩,⟨by (with_reducible repeat (first|refine kn_ ?_ _|refine kd_ ?_|refine ka_ ?_ _));exact BK166.out⟩,⟨by repeat (first|(with_reducible first|exact HB.out|apply pa_|apply pn_|apply pd_|refine ps_ ?_ GE165.out|refine ps_ ?_ GE166.out)|exact HB.out)⟩⟩
    case round =>
     clear H'
     try clear c1
     try clear p2
     try clear c3
     try clear c9
     try clear c11
     try clear c15
     try clear c16
     try clear c19
     try clear hcz12_0
     try clear hcz14_0
     try clear hcz14_1
     try clear hcz14_2
     try clear hcz14_3
     try clear hcz14_4
     try clear hcz14_5
     try clear hcz14_6
     try clear hcz17_0
     try clear hfz12_0
     try clear hfz14_0
     try clear hfz14_1
     try clear hfz14_2
     try clear hfz14_3
     try clear hfz14_4
     try clear hfz14_5
     try clear hfz14_6
     try clear hfz17_0
     try clear p2
     obtain ⟨x6_2,x7_2,rfl,HA,HK2,HO_6,BK165,BK166,HB⟩:=hrel
     cases gk with
     | zero => exact absurd HA.out (by simp [spec_ShelfMap.l0])
     | succ k2 =>
      have H:=HA.out;clear HA;simp only [spec_ShelfMap.l0] at H;have HC20:=A_ H;clear H;have hnb21:=NB166_165.out;have hnc21:=NB165_166.out;have hcz22_0 : wr.cell? ⟨gb166,0,none⟩ = some (.slice A1_0 l1_0.length c1_0):=(kc_ BK166.out 0).trans rfl;have hcz22_1 : wr.cell? ⟨gb166,1,none⟩ = some (.int .i64 a1_1):=(kc_ BK166.out 1).trans rfl;have hcz22_2 : wr.cell? ⟨gb166,2,none⟩ = some (.int .i64 a1_2):=(kc_ BK166.out 2).trans rfl;have hcz22_3 : wr.cell? ⟨gb166,3,none⟩ = some (.int .i64 a1_3):=(kc_ BK166.out 3).trans rfl;have hcz22_4 : wr.cell? ⟨gb166,4,none⟩ = some (.slice A1_4 l1_4.length c1_4):=(kc_ BK166.out 4).trans rfl;have hcz22_5 : wr.cell? ⟨gb166,5,none⟩ = some (.slice A1_5 l1_5.length c1_5):=(kc_ BK166.out 5).trans rfl;have hcz22_6 : wr.cell? ⟨gb166,6,none⟩ = some (.int .i64 a1_6):=(kc_ BK166.out 6).trans rfl;have hfz22_0:=kf_ BK166.out 0;have hfz22_1:=kf_ BK166.out 1;have hfz22_2:=kf_ BK166.out 2;have hfz22_3:=kf_ BK166.out 3;have hfz22_4:=kf_ BK166.out 4;have hfz22_5:=kf_ BK166.out 5;have hfz22_6:=kf_ BK166.out 6
      go_upto_if 25 with (fail)
      have H:=HC20.out;clear HC20
      by_cases c23 : x7_2 < (l1_5.length : Int)
      ·rw [if_pos c23] at H;have c23b0 : decide (x7_2 < (l1_5.length : Int)) = true:=de_ c23;clear c23
       (first|rw [c23b0]|(simp only [i64_w,i32_w];rw [c23b0])|skip)
       by_cases c24 : 0 ≤ x7_2
       ·rw [if_pos c24] at H;have c24b0 : decide (0 ≤ x7_2) = true:=de_ c24;clear c24;replace H:=ob_.mp H;obtain ⟨t174,A250,H⟩:=H;replace H : ((spec_l03Text.f k2 l0_0 t174).bind fun t175 => (if (wrap64 (((rd_T71 l1_5 x7_2).f2) + ((rd_T71 l1_5 x7_2).f3))) > (t175.size : Int) then (some ((([] : List (S74))),false)) else (if 0 ≤ ((rd_T71 l1_5 x7_2).f2) then (if ((rd_T71 l1_5 x7_2).f2) ≤ (wrap64 (((rd_T71 l1_5 x7_2).f2) + ((rd_T71 l1_5 x7_2).f3))) then (if (wrap64 (((rd_T71 l1_5 x7_2).f2) + ((rd_T71 l1_5 x7_2).f3))) ≤ (t175.size : Int) then (if x6_2.length < 4398046511104 then (spec_ShelfMap.l0 k2 (x6_2 ++ [(⟨(rd_T71 l1_5 x7_2).f0,t175.extract (((rd_T71 l1_5 x7_2).f2) : Int).toNat ((wrap64 (((rd_T71 l1_5 x7_2).f2) + ((rd_T71 l1_5 x7_2).f3))) : Int).toNat⟩ : S74)]) (wrap64 (x7_2 + 1)) l0_0 l1_0 a1_1 a1_2 a1_3 l1_4 l1_5 a1_6) else (none)) else (none)) else (none)) else (none)))) = some (r1,r2):=H;have A25:=A_ A250;clear A250;replace H:=ob_.mp H;obtain ⟨t175,A260,H⟩:=H;replace H : (if (wrap64 (((rd_T71 l1_5 x7_2).f2) + ((rd_T71 l1_5 x7_2).f3))) > (t175.size : Int) then (some ((([] : List (S74))),false)) else (if 0 ≤ ((rd_T71 l1_5 x7_2).f2) then (if ((rd_T71 l1_5 x7_2).f2) ≤ (wrap64 (((rd_T71 l1_5 x7_2).f2) + ((rd_T71 l1_5 x7_2).f3))) then (if (wrap64 (((rd_T71 l1_5 x7_2).f2) + ((rd_T71 l1_5 x7_2).f3))) ≤ (t175.size : Int) then (if x6_2.length < 4398046511104 then (spec_ShelfMap.l0 k2 (x6_2 ++ [(⟨(rd_T71 l1_5 x7_2).f0,t175.extract (((rd_T71 l1_5 x7_2).f2) : Int).toNat ((wrap64 (((rd_T71 l1_5 x7_2).f2) + ((rd_T71 l1_5 x7_2).f3))) : Int).toNat⟩ : S74)]) (wrap64 (x7_2 + 1)) l0_0 l1_0 a1_1 a1_2 a1_3 l1_4 l1_5 a1_6) else (none)) else (none)) else (none)) else (none))) = some (r1,r2):=H;have A26:=A_ A260;clear A260;have HC27:=A_ H;clear H;have hnb28:=NB166_165.out;have hnc28:=NB165_166.out;have hcz29_0 : wr.cell? ⟨gb166,0,none⟩ = some (.slice A1_0 l1_0.length c1_0):=(kc_ BK166.out 0).trans rfl;have hcz29_1 : wr.cell? ⟨gb166,1,none⟩ = some (.int .i64 a1_1):=(kc_ BK166.out 1).trans rfl;have hcz29_2 : wr.cell? ⟨gb166,2,none⟩ = some (.int .i64 a1_2):=(kc_ BK166.out 2).trans rfl;have hcz29_3 : wr.cell? ⟨gb166,3,none⟩ = some (.int .i64 a1_3):=(kc_ BK166.out 3).trans rfl;have hcz29_4 : wr.cell? ⟨gb166,4,none⟩ = some (.slice A1_4 l1_4.length c1_4):=(kc_ BK166.out 4).trans rfl;have hcz29_5 : wr.cell? ⟨gb166,5,none⟩ = some (.slice A1_5 l1_5.length c1_5):=(kc_ BK166.out 5).trans rfl;have hcz29_6 : wr.cell? ⟨gb166,6,none⟩ = some (.int .i64 a1_6):=(kc_ BK166.out 6).trans rfl;have hfz29_0:=kf_ BK166.out 0;have hfz29_1:=kf_ BK166.out 1;have hfz29_2:=kf_ BK166.out 2;have hfz29_3:=kf_ BK166.out 3;have hfz29_4:=kf_ BK166.out 4;have hfz29_5:=kf_ BK166.out 5;have hfz29_6:=kf_ BK166.out 6;have p172 : 0 ≤ (x7_2 : Int):=oda_;have q172 : x7_2 < (l1_5.length : Int):=oda_;obtain ⟨ad172,e172,hx172_0,hx172_1,hx172_2,hx172_3⟩:=at_T71 HR1_5.out x7_2 p172 q172
        cases e172
        replace hx172_0:=(HB.out.cell (wb_ w _ hx172_0)).trans hx172_0;replace hx172_1:=(HB.out.cell (wb_ w _ hx172_1)).trans hx172_1;replace hx172_2:=(HB.out.cell (wb_ w _ hx172_2)).trans hx172_2;replace hx172_3:=(HB.out.cell (wb_ w _ hx172_3)).trans hx172_3;replace p172:=eq_true p172;replace q172:=eq_true q172
        try go_wp2_with (first|((with_reducible refine gate_dst (N:=8) rfl ?_);refine box_event ?hg (N:=8) ?hd (cs:=#[.string (⟨#[]⟩ : ByteArray),.int .i64 0,.int .i64 0,.int .i64 0]) (t:=71) ?hr ?_;(case hd => rfl);(case hg => rfl);(case hr => first|(go_simp;done)|(go_simp;rfl));intro gb173 hg w30 hbox hb;have n0_:=A_ (rb_ (by (with_reducible repeat (first|apply ra_|apply rn_|apply Rd_));exact HO_6.out) hb);have n1_:=A_ (kb_ (by (with_reducible repeat (first|refine kn_ ?_ _|refine kd_ ?_|refine ka_ ?_ _));exact BK165.out) hb);have n2_:=A_ (kb_ (by (with_reducible repeat (first|refine kn_ ?_ _|refine kd_ ?_|refine ka_ ?_ _));exact BK166.out) hb);have n3_:=A_ (bs_ (by repeat (first|(with_reducible first|exact HB.out|apply pa_|apply pn_|apply pd_|refine ps_ ?_ GE165.out|refine ps_ ?_ GE166.out)|exact HB.out)) hb);have n4_:=A_ (hbox);have n6_:=A_ ((by rw [hg];exact (bz_ (by repeat (first|(with_reducible first|exact HB.out|apply pa_|apply pn_|apply pd_|refine ps_ ?_ GE165.out|refine ps_ ?_ GE166.out)|exact HB.out))) : w.heap.size ≤ gb173));have n7_:=A_ ((by rw [hg];exact nl_ (kl_ (g:=gb165) (o:=.cells #[.slice A0_0 l0_0.length c0_0] 25 (0,0)) (by (with_reducible repeat (first|refine kn_ ?_ _|refine kd_ ?_|refine ka_ ?_ _));exact BK165.out)) : gb165 ≠ gb173));have n8_:=A_ ((by rw [hg];exact ng_ (kl_ (g:=gb165) (o:=.cells #[.slice A0_0 l0_0.length c0_0] 25 (0,0)) (by (with_reducible repeat (first|refine kn_ ?_ _|refine kd_ ?_|refine ka_ ?_ _));exact BK165.out)) : gb173 ≠ gb165));have n9_:=A_ ((by rw [hg];exact nl_ (kl_ (g:=gb166) (o:=.cells #[.slice A1_0 l1_0.length c1_0,.int .i64 a1_1,.int .i64 a1_2,.int .i64 a1_3,.slice A1_4 l1_4.length c1_4,.slice (some ad172) l1_5.length c1_5,.int .i64 a1_6] 51 (0,0)) (by (with_reducible repeat (first|refine kn_ ?_ _|refine kd_ ?_|refine ka_ ?_ _));exact BK166.out)) : gb166 ≠ gb173));have n10_:=A_ ((by rw [hg];exact ng_ (kl_ (g:=gb166) (o:=.cells #[.slice A1_0 l1_0.length c1_0,.int .i64 a1_1,.int .i64 a1_2,.int .i64 a1_3,.slice A1_4 l1_4.length c1_4,.slice (some ad172) l1_5.length c1_5,.int .i64 a1_6] 51 (0,0)) (by (with_reducible repeat (first|refine kn_ ?_ _|refine kd_ ?_|refine ka_ ?_ _));exact BK166.out)) : gb173 ≠ gb166));clear HO_6;clear BK165;clear BK166;clear HB;have HO_6:=n0_;have BK165:=n1_;have BK166:=n2_;have HB:=n3_;have BK173:=n4_;have GE173:=n6_;have NB165_173:=n7_;have NB173_165:=n8_;have NB166_173:=n9_;have NB173_166:=n10_;clear n0_ n1_ n2_ n3_ n4_ n6_ n7_ n8_ n9_ n10_;clear hb hbox hg;have hnb31:=NB173_165.out;have hnc31:=NB165_173.out;have hnb32:=NB173_166.out;have hnc32:=NB166_173.out;have hcz33_0 : w30.cell? ⟨gb173,0,none⟩ = some (.string (⟨#[]⟩ : ByteArray)):=(kc_ BK173.out 0).trans rfl;have hcz33_1 : w30.cell? ⟨gb173,1,none⟩ = some (.int .i64 0):=(kc_ BK173.out 1).trans rfl;have hcz33_2 : w30.cell? ⟨gb173,2,none⟩ = some (.int .i64 0):=(kc_ BK173.out 2).trans rfl;have hcz33_3 : w30.cell? ⟨gb173,3,none⟩ = some (.int .i64 0):=(kc_ BK173.out 3).trans rfl;have hfz33_0:=kf_ BK173.out 0;have hfz33_1:=kf_ BK173.out 1;have hfz33_2:=kf_ BK173.out 2;have hfz33_3:=kf_ BK173.out 3))
        have n0_ : Aside0 (Kd.R k74 74 ((((w30.setCell ⟨gb173,0,none⟩ (.string ((rd_T71 l1_5 x7_2).f0))).setCell ⟨gb173,1,none⟩ (.int .i64 ((rd_T71 l1_5 x7_2).f1))).setCell ⟨gb173,2,none⟩ (.int .i64 ((rd_T71 l1_5 x7_2).f2))).setCell ⟨gb173,3,none⟩ (.int .i64 ((rd_T71 l1_5 x7_2).f3))) w.heap.size (fun _ => True) u6 x6_2):=⟨by (with_reducible repeat (first|apply ra_|apply rn_|apply Rd_));exact rm_ (rf_ (p:=⟨gb173,3,none⟩) (rf_ (p:=⟨gb173,2,none⟩) (rf_ (p:=⟨gb173,1,none⟩) (rf_ (p:=⟨gb173,0,none⟩) (Kd.R_types HO_6.out BK173.out (by decide)) (fun _ hk => hk.2) (.string ((rd_T71 l1_5 x7_2).f0))) (fun _ hk => hk.2) (.int .i64 ((rd_T71 l1_5 x7_2).f1))) (fun _ hk => hk.2) (.int .i64 ((rd_T71 l1_5 x7_2).f2))) (fun _ hk => hk.2) (.int .i64 ((rd_T71 l1_5 x7_2).f3))) (fun _ hk => trivial)⟩;have n1_ : Aside0 (((((w30.setCell ⟨gb173,0,none⟩ (.string ((rd_T71 l1_5 x7_2).f0))).setCell ⟨gb173,1,none⟩ (.int .i64 ((rd_T71 l1_5 x7_2).f1))).setCell ⟨gb173,2,none⟩ (.int .i64 ((rd_T71 l1_5 x7_2).f2))).setCell ⟨gb173,3,none⟩ (.int .i64 ((rd_T71 l1_5 x7_2).f3))).heap[gb165]? = some (.cells #[.slice A0_0 l0_0.length c0_0] 25 (0,0))):=⟨by (with_reducible repeat (first|refine kn_ ?_ _|refine kd_ ?_|refine ka_ ?_ _));refine kr_ ?_ NB165_173.out _;(with_reducible repeat (first|refine kn_ ?_ _|refine kd_ ?_|refine ka_ ?_ _));refine kr_ ?_ NB165_173.out _;(with_reducible repeat (first|refine kn_ ?_ _|refine kd_ ?_|refine ka_ ?_ _));refine kr_ ?_ NB165_173.out _;(with_reducible repeat (first|refine kn_ ?_ _|refine kd_ ?_|refine ka_ ?_ _));refine kr_ ?_ NB165_173.out _;(with_reducible repeat (first|refine kn_ ?_ _|refine kd_ ?_|refine ka_ ?_ _));exact BK165.out⟩;have n2_ : Aside0 (((((w30.setCell ⟨gb173,0,none⟩ (.string ((rd_T71 l1_5 x7_2).f0))).setCell ⟨gb173,1,none⟩ (.int .i64 ((rd_T71 l1_5 x7_2).f1))).setCell ⟨gb173,2,none⟩ (.int .i64 ((rd_T71 l1_5 x7_2).f2))).setCell ⟨gb173,3,none⟩ (.int .i64 ((rd_T71 l1_5 x7_2).f3))).heap[gb166]? = some (.cells #[.slice A1_0 l1_0.length c1_0,.int .i64 a1_1,.int .i64 a1_2,.int .i64 a1_3,.slice A1_4 l1_4.length c1_4,.slice (some ad172) l1_5.length c1_5,.int .i64 a1_6] 51 (0,0))):=⟨by (with_reducible repeat (first|refine kn_ ?_ _|refine kd_ ?_|refine ka_ ?_ _));refine kr_ ?_ NB166_173.out _;(with_reducible repeat (first|refine kn_ ?_ _|refine kd_ ?_|refine ka_ ?_ _));refine kr_ ?_ NB166_173.out _;(with_reducible repeat (first|refine kn_ ?_ _|refine kd_ ?_|refine ka_ ?_ _));refine kr_ ?_ NB166_173.out _;(with_reducible repeat (first|refine kn_ ?_ _|refine kd_ ?_|refine ka_ ?_ _));refine kr_ ?_ NB166_173.out _;(with_reducible repeat (first|refine kn_ ?_ _|refine kd_ ?_|refine ka_ ?_ _));exact BK166.out⟩;have n3_ : Aside0 (((((w30.setCell ⟨gb173,0,none⟩ (.string ((rd_T71 l1_5 x7_2).f0))).setCell ⟨gb173,1,none⟩ (.int .i64 ((rd_T71 l1_5 x7_2).f1))).setCell ⟨gb173,2,none⟩ (.int .i64 ((rd_T71 l1_5 x7_2).f2))).setCell ⟨gb173,3,none⟩ (.int .i64 ((rd_T71 l1_5 x7_2).f3))).heap[gb173]? = some (.cells #[.string ((rd_T71 l1_5 x7_2).f0),.int .i64 ((rd_T71 l1_5 x7_2).f1),.int .i64 ((rd_T71 l1_5 x7_2).f2),.int .i64 ((rd_T71 l1_5 x7_2).f3)] 71 (0,0))):=⟨by (with_reducible repeat (first|refine kn_ ?_ _|refine kd_ ?_|refine ka_ ?_ _));refine ku_ (cs:=#[.string ((rd_T71 l1_5 x7_2).f0),.int .i64 ((rd_T71 l1_5 x7_2).f1),.int .i64 ((rd_T71 l1_5 x7_2).f2),.int .i64 0]) ?_ 3 _ rfl;(with_reducible repeat (first|refine kn_ ?_ _|refine kd_ ?_|refine ka_ ?_ _));refine ku_ (cs:=#[.string ((rd_T71 l1_5 x7_2).f0),.int .i64 ((rd_T71 l1_5 x7_2).f1),.int .i64 0,.int .i64 0]) ?_ 2 _ rfl;(with_reducible repeat (first|refine kn_ ?_ _|refine kd_ ?_|refine ka_ ?_ _));refine ku_ (cs:=#[.string ((rd_T71 l1_5 x7_2).f0),.int .i64 0,.int .i64 0,.int .i64 0]) ?_ 1 _ rfl;(with_reducible repeat (first|refine kn_ ?_ _|refine kd_ ?_|refine ka_ ?_ _));refine ku_ (cs:=#[.string (⟨#[]⟩ : ByteArray),.int .i64 0,.int .i64 0,.int .i64 0]) ?_ 0 _ rfl;(with_reducible repeat (first|refine kn_ ?_ _|refine kd_ ?_|refine ka_ ?_ _));exact BK173.out⟩;have n4_ : Aside0 (Below w.heap.size w ((((w30.setCell ⟨gb173,0,none⟩ (.string ((rd_T71 l1_5 x7_2).f0))).setCell ⟨gb173,1,none⟩ (.int .i64 ((rd_T71 l1_5 x7_2).f1))).setCell ⟨gb173,2,none⟩ (.int .i64 ((rd_T71 l1_5 x7_2).f2))).setCell ⟨gb173,3,none⟩ (.int .i64 ((rd_T71 l1_5 x7_2).f3)))):=⟨by repeat (first|(with_reducible first|exact HB.out|apply pa_|apply pn_|apply pd_|refine ps_ ?_ GE165.out|refine ps_ ?_ GE166.out|refine ps_ ?_ GE173.out)|exact HB.out)⟩
        (try clear HO_6)
        (try clear BK165)
        (try clear BK166)
        (try clear BK173)
        (try clear HB)
        generalize ((((w30.setCell ⟨gb173,0,none⟩ (.string ((rd_T71 l1_5 x7_2).f0))).setCell ⟨gb173,1,none⟩ (.int .i64 ((rd_T71 l1_5 x7_2).f1))).setCell ⟨gb173,2,none⟩ (.int .i64 ((rd_T71 l1_5 x7_2).f2))).setCell ⟨gb173,3,none⟩ (.int .i64 ((rd_T71 l1_5 x7_2).f3))) = w34 at n0_ n1_ n2_ n3_ n4_ ⊢;have HO_6:=n0_;have BK165:=n1_;have BK166:=n2_;have BK173:=n3_;have HB:=n4_;clear n0_ n1_ n2_ n3_ n4_;replace HO_6:=A_ (Rd_ HO_6.out);replace BK165:=A_ (kd_ BK165.out);replace BK166:=A_ (kd_ BK166.out);replace BK173:=A_ (kd_ BK173.out);replace HB:=A_ (pd_ HB.out);refine start_ (n:=6) (S:=fun w' => w'.cell? ⟨gb165,0,none⟩ = some (.slice A0_0 l0_0.length c0_0) ∧ w'.cell? ⟨gb173,0,none⟩ = some (.string ((rd_T71 l1_5 x7_2).f0)) ∧ w'.cell? ⟨gb173,1,none⟩ = some (.int .i64 ((rd_T71 l1_5 x7_2).f1)) ∧ w'.cell? ⟨gb173,2,none⟩ = some (.int .i64 ((rd_T71 l1_5 x7_2).f2)) ∧ w'.cell? ⟨gb173,3,none⟩ = some (.int .i64 ((rd_T71 l1_5 x7_2).f3))) (ds:=[]) #[false,false,false,false,false,false] (by kernel_rfl) rfl rfl ⟨(kc_ BK165.out 0).trans rfl,(kc_ BK173.out 0).trans rfl,(kc_ BK173.out 1).trans rfl,(kc_ BK173.out 2).trans rfl,(kc_ BK173.out 3).trans rfl⟩ (fun hHeld => ?_);generalize w34.drew = w35 at HO_6 BK165 BK166 BK173 HB hHeld ⊢;refine pure_ (i:=1) (N:=some 34) (v:=?_) (a':=?_) #[false,true,false,false,false,false] rfl rfl (by kernel_rfl) (fun _ _ _ h => h) (Or.inl ⟨by rfl,?_⟩) ?_ ?_;rotate_left
        ·intro w';go_simp;with_reducible rfl
        rotate_left
        ·simp only [Act.put,s1_,s2_,s3_,i64_w,i32_w];rfl
        refine take_ (i:=0) (N:=some 33) (v:=?_) (a':=?_) #[true,true,false,false,false,false] rfl rfl (by kernel_rfl) (fun _ _ _ h => h) (Or.inl ⟨by rfl,?_⟩) hHeld ?_ ?_;rotate_left
        ·rintro w' ⟨s0,s1,s2,s3,s4⟩;go_simp;with_reducible rfl
        rotate_left
        ·simp only [Act.put,s1_,s2_,s3_,i64_w,i32_w];rfl
        refine take_ (i:=2) (N:=some 35) (v:=?_) (a':=?_) #[true,true,true,false,false,false] rfl rfl (by kernel_rfl) (fun _ _ _ h => h) (Or.inl ⟨by rfl,?_⟩) hHeld ?_ ?_;rotate_left
        ·rintro w' ⟨s0,s1,s2,s3,s4⟩;go_simp;with_reducible rfl
        rotate_left
        ·simp only [Act.put,s1_,s2_,s3_,i64_w,i32_w];rfl
        refine one_ (i:=3) (N:=some 36) #[true,true,true,true,false,false] rfl rfl (by kernel_rfl) (by decide) (fun K hK => ?_);refine goes_ Tryd.func25 (by kernel_rfl) rfl #[.int .i64 ((rd_T71 l1_5 x7_2).f1)] (by rfl) rfl rfl (by (try simp only [s4_,s5_,s6_]);first|done|rfl|(simp only [List.length_drop,List.length_take];rfl)) ?_;with_reducible refine (spec_SegName.calls k2 ((rd_T71 l1_5 x7_2).f1) t174 _ A25.out).mono ?_;rintro e w36 ⟨rfl,hb⟩;refine ⟨_,rfl,?_⟩;replace HO_6:=A_ (rb_ (by (with_reducible repeat (first|apply ra_|apply rn_|apply Rd_));exact HO_6.out) hb);replace BK165:=A_ (kb_ (by (with_reducible repeat (first|refine kn_ ?_ _|refine kd_ ?_|refine ka_ ?_ _));exact BK165.out) hb);replace BK166:=A_ (kb_ (by (with_reducible repeat (first|refine kn_ ?_ _|refine kd_ ?_|refine ka_ ?_ _));exact BK166.out) hb);replace BK173:=A_ (kb_ (by (with_reducible repeat (first|refine kn_ ?_ _|refine kd_ ?_|refine ka_ ?_ _));exact BK173.out) hb);replace HB:=A_ (bs_ (by repeat (first|(with_reducible first|exact HB.out|apply pa_|apply pn_|apply pd_|refine ps_ ?_ GE165.out|refine ps_ ?_ GE166.out|refine ps_ ?_ GE173.out)|exact HB.out)) hb)
        (try clear hb)
        (try clear hb2)
        (try clear hk)
        (try clear hi)
        refine hK.out _ _ ⟨(kc_ BK165.out 0).trans rfl,(kc_ BK173.out 0).trans rfl,(kc_ BK173.out 1).trans rfl,(kc_ BK173.out 2).trans rfl,(kc_ BK173.out 3).trans rfl⟩ (fun hHeld => ?_);clear hK K;refine norm_ (a':=?_) ?_ ?_;rotate_left
        ·show Act.put _ (some 36) _ = _;simp only [Act.put,s1_,s2_,s3_,i64_w,i32_w];rfl
        refine one_ (i:=4) (N:=some 37) #[true,true,true,true,true,false] rfl rfl (by kernel_rfl) (by decide) (fun K hK => ?_);refine goes_ Tryd.func36 (by kernel_rfl) rfl #[.agg #[.slice A0_0 l0_0.length c0_0],.string t174] (by rfl) rfl rfl (by (try simp only [s4_,s5_,s6_]);first|done|rfl|(simp only [List.length_drop,List.length_take];rfl)) ?_;with_reducible refine (spec_l03Text.calls k2 _ _ l0_0 t174 t175 _ ?side1 ?side2 A26.out).mono ?_
        (case side1 => repeat (first|exact (Kd.C_below HR0_0.out HB.out)|(with_reducible refine Kd.C_alloc ?_ _)|(with_reducible refine Kd.C_drewN ?_ _)|(with_reducible refine Kd.C_drew ?_)))
        (case side2 => exact HC0_0.out)
        rintro e w37 ⟨rfl,hb⟩;refine ⟨_,rfl,?_⟩;replace HO_6:=A_ (rb_ (by (with_reducible repeat (first|apply ra_|apply rn_|apply Rd_));exact HO_6.out) hb);replace BK165:=A_ (kb_ (by (with_reducible repeat (first|refine kn_ ?_ _|refine kd_ ?_|refine ka_ ?_ _));exact BK165.out) hb);replace BK166:=A_ (kb_ (by (with_reducible repeat (first|refine kn_ ?_ _|refine kd_ ?_|refine ka_ ?_ _));exact BK166.out) hb);replace BK173:=A_ (kb_ (by (with_reducible repeat (first|refine kn_ ?_ _|refine kd_ ?_|refine ka_ ?_ _));exact BK173.out) hb);replace HB:=A_ (bs_ (by repeat (first|(with_reducible first|exact HB.out|apply pa_|apply pn_|apply pd_|refine ps_ ?_ GE165.out|refine ps_ ?_ GE166.out|refine ps_ ?_ GE173.out)|exact HB.out)) hb)
        (try clear hb)
        (try clear hb2)
        (try clear hk)
        (try clear hi)
        refine hK.out _ _ ⟨(kc_ BK165.out 0).trans rfl,(kc_ BK173.out 0).trans rfl,(kc_ BK173.out 1).trans rfl,(kc_ BK173.out 2).trans rfl,(kc_ BK173.out 3).trans rfl⟩ (fun hHeld => ?_);clear hK K;refine norm_ (a':=?_) ?_ ?_;rotate_left
        ·show Act.put _ (some 37) _ = _;simp only [Act.put,s1_,s2_,s3_,i64_w,i32_w];rfl
        refine pure_ (i:=5) (N:=some 9) (v:=?_) (a':=?_) #[true,true,true,true,true,true] rfl rfl (by kernel_rfl) (fun _ _ _ h => h) (Or.inl ⟨by rfl,?_⟩) ?_ ?_;rotate_left
        ·intro w';go_simp;with_reducible rfl
        rotate_left
        ·simp only [Act.put,s1_,s2_,s3_,i64_w,i32_w];rfl
        refine done_ (by kernel_rfl) ?_;have hcz38_0 : w37.cell? ⟨gb173,0,none⟩ = some (.string ((rd_T71 l1_5 x7_2).f0)):=(kc_ BK173.out 0).trans rfl;have hcz38_1 : w37.cell? ⟨gb173,1,none⟩ = some (.int .i64 ((rd_T71 l1_5 x7_2).f1)):=(kc_ BK173.out 1).trans rfl;have hcz38_2 : w37.cell? ⟨gb173,2,none⟩ = some (.int .i64 ((rd_T71 l1_5 x7_2).f2)):=(kc_ BK173.out 2).trans rfl;have hcz38_3 : w37.cell? ⟨gb173,3,none⟩ = some (.int .i64 ((rd_T71 l1_5 x7_2).f3)):=(kc_ BK173.out 3).trans rfl;have hfz38_0:=kf_ BK173.out 0;have hfz38_1:=kf_ BK173.out 1;have hfz38_2:=kf_ BK173.out 2;have hfz38_3:=kf_ BK173.out 3
        go_upto_if 45 with (fail)
        have H:=HC27.out;clear HC27
        by_cases c39 : (wrap64 (((rd_T71 l1_5 x7_2).f2) + ((rd_T71 l1_5 x7_2).f3))) > (t175.size : Int)
        ·rw [if_pos c39] at H;have c39b0 : decide ((t175.size : Int) < (wrap64 (((rd_T71 l1_5 x7_2).f2) + ((rd_T71 l1_5 x7_2).f3)))) = true:=de_ c39;clear c39
         (first|rw [c39b0]|(simp only [i64_w,i32_w];rw [c39b0])|skip)
         obtain ⟨y176,hy176⟩ : ∃ y_ : List (S74),y_ = (([] : List (S74))):=⟨_,rfl⟩
         replace H : (some (y176,false)) = some (r1,r2):=by first|(rw [hy176];with_reducible exact H)|(have H2_:=(Option.bind_some _ _).symm.trans H;rw [hy176];with_reducible exact H2_)|(have H2_:=(Option.bind_some _ _).symm.trans H;with_reducible exact H2_)|with_reducible exact H|(rw [hy176];exact H)|exact H
         have Ny176:=A_ hy176;clear hy176;simp only [Option.some.injEq,Prod.mk.injEq] at H;obtain ⟨rfl,rfl⟩:=H
         go_wp2_with (first|((with_reducible refine gate_dst (N:=46) rfl ?_);refine Kd.R_lit k74 _ 74 ?hg (N:=46) ?hd (xs:=([] : List (S74))) (inner:=[]) (ok:=fun _ => True) (okp:=fun _ => True) ?hr ?hp (fun _ hk => hk) trivial (Below.refl _ _) (Nat.le_refl _) (by simp) ?_;(case hd => rfl);(case hg => rfl);(case hr => first|(go_simp;done)|(go_simp;rfl));(case hp => exact (Reps.none _ _));intro v177 w40 ho41 hb hg_ hnew_;clear hg_ hnew_;(first|rw [← Ny176.out] at ho41|(simp only [Int.reduceToNat] at ho41;rw [← Ny176.out] at ho41));have n1_:=A_ (rw_ (Kd.R_new' ho41 (Kd.R_lt (by (with_reducible repeat (first|apply ra_|apply rn_|apply Rd_));exact HO_6.out))) (bz_ (by repeat (first|(with_reducible first|exact HB.out|apply pa_|apply pn_|apply pd_|refine ps_ ?_ GE165.out|refine ps_ ?_ GE166.out|refine ps_ ?_ GE173.out)|exact HB.out))));have n5_:=A_ (bs_ (by repeat (first|(with_reducible first|exact HB.out|apply pa_|apply pn_|apply pd_|refine ps_ ?_ GE165.out|refine ps_ ?_ GE166.out|refine ps_ ?_ GE173.out)|exact HB.out)) hb);clear HO_6;clear BK165;clear BK166;clear BK173;clear HB;have HO178:=n1_;have HB:=n5_;clear n1_ n5_;clear hb ho41))
         go_ret2;exact ⟨_,by first|rfl|(simp [*,errW_none,errW_some] <;> rfl),by (with_reducible repeat (first|apply ra_|apply rn_|apply Rd_));exact rm_ HO178.out (fun _ hk => trivial),by repeat (first|(with_reducible first|exact HB.out|apply pa_|apply pn_|apply pd_|refine ps_ ?_ GE165.out|refine ps_ ?_ GE166.out|refine ps_ ?_ GE173.out)|exact HB.out)⟩
        ·rw [if_neg c39] at H;have c39b0 : decide ((t175.size : Int) < (wrap64 (((rd_T71 l1_5 x7_2).f2) + ((rd_T71 l1_5 x7_2).f3)))) = false:=decide_eq_false c39;clear c39
         (first|rw [c39b0]|(simp only [i64_w,i32_w];rw [c39b0])|skip)
         by_cases c42 : 0 ≤ ((rd_T71 l1_5 x7_2).f2)
         ·rw [if_pos c42] at H;have c42b0:=eq_true c42;have c42b1 : decide (0 ≤ ((rd_T71 l1_5 x7_2).f2)) = true:=de_ c42;clear c42
          by_cases c43 : ((rd_T71 l1_5 x7_2).f2) ≤ (wrap64 (((rd_T71 l1_5 x7_2).f2) + ((rd_T71 l1_5 x7_2).f3)))
          ·rw [if_pos c43] at H;have c43b0:=eq_true c43;have c43b1 : decide (((rd_T71 l1_5 x7_2).f2) ≤ (wrap64 (((rd_T71 l1_5 x7_2).f2) + ((rd_T71 l1_5 x7_2).f3)))) = true:=de_ c43
           by_cases c44 : (wrap64 (((rd_T71 l1_5 x7_2).f2) + ((rd_T71 l1_5 x7_2).f3))) ≤ (t175.size : Int)
           ·rw [if_pos c44] at H;have c44b0:=eq_true c44;have c44b1 : decide ((wrap64 (((rd_T71 l1_5 x7_2).f2) + ((rd_T71 l1_5 x7_2).f3))) ≤ (t175.size : Int)) = true:=de_ c44
            by_cases c45 : x6_2.length < 4398046511104
            ·rw [if_pos c45] at H;have LMc45:=A_ c45;clear c45;obtain ⟨y179,hy179⟩ : ∃ y_ : List (S74),y_ = (x6_2 ++ [(⟨(rd_T71 l1_5 x7_2).f0,t175.extract (((rd_T71 l1_5 x7_2).f2) : Int).toNat ((wrap64 (((rd_T71 l1_5 x7_2).f2) + ((rd_T71 l1_5 x7_2).f3))) : Int).toNat⟩ : S74)]):=⟨_,rfl⟩
             replace H : (spec_ShelfMap.l0 k2 y179 (wrap64 (x7_2 + 1)) l0_0 l1_0 a1_1 a1_2 a1_3 l1_4 l1_5 a1_6) = some (r1,r2):=by first|(rw [hy179];with_reducible exact H)|(have H2_:=(Option.bind_some _ _).symm.trans H;rw [hy179];with_reducible exact H2_)|(have H2_:=(Option.bind_some _ _).symm.trans H;with_reducible exact H2_)|with_reducible exact H|(rw [hy179];exact H)|exact H
             have Ny179:=A_ hy179;clear hy179;have H':=A_ H;clear H
             try go_wp2
             replace HO_6:=A_ (Rd_ HO_6.out);replace BK165:=A_ (kd_ BK165.out);replace BK166:=A_ (kd_ BK166.out);replace BK173:=A_ (kd_ BK173.out);replace HB:=A_ (pd_ HB.out);refine start_ (n:=16) (S:=fun w' => w'.cell? ⟨gb173,0,none⟩ = some (.string ((rd_T71 l1_5 x7_2).f0)) ∧ w'.cell? ⟨gb173,1,none⟩ = some (.int .i64 ((rd_T71 l1_5 x7_2).f1)) ∧ w'.cell? ⟨gb173,2,none⟩ = some (.int .i64 ((rd_T71 l1_5 x7_2).f2)) ∧ w'.cell? ⟨gb173,3,none⟩ = some (.int .i64 ((rd_T71 l1_5 x7_2).f3))) (ds:=[]) #[false,false,false,false,false,false,false,false,false,false,false,false,false,false,false,false] (by kernel_rfl) rfl rfl ⟨(kc_ BK173.out 0).trans rfl,(kc_ BK173.out 1).trans rfl,(kc_ BK173.out 2).trans rfl,(kc_ BK173.out 3).trans rfl⟩ (fun hHeld => ?_);refine with_tabW spec_ShelfMap.tab11 spec_ShelfMap.bits11 (fun HT_ HW_ => ?_);generalize w37.drew = w46 at HO_6 BK165 BK166 BK173 HB hHeld ⊢;refine pure_ (i:=0) (N:=some 47) (v:=?_) (a':=?_) #[true,false,false,false,false,false,false,false,false,false,false,false,false,false,false,false] rfl rfl (any_of HT_.out (by kernel_rfl)) (fun _ _ _ h => h) (Or.inl ⟨by rfl,?_⟩) ?_ ?_;rotate_left
             ·intro w';go_simp;with_reducible rfl
             rotate_left
             ·simp only [Act.put,s1_,s2_,s3_,i64_w,i32_w];rfl
             refine pure_ (i:=1) (N:=some 48) (v:=?_) (a':=?_) #[true,true,false,false,false,false,false,false,false,false,false,false,false,false,false,false] rfl rfl (any_of HT_.out (by kernel_rfl)) (fun _ _ _ h => h) (Or.inl ⟨by rfl,?_⟩) ?_ ?_;rotate_left
             ·intro w';go_simp;with_reducible rfl
             rotate_left
             ·simp only [Act.put,s1_,s2_,s3_,i64_w,i32_w];rfl
             refine pure_ (i:=3) (N:=some 50) (v:=?_) (a':=?_) #[true,true,false,true,false,false,false,false,false,false,false,false,false,false,false,false] rfl rfl (any_of HT_.out (by kernel_rfl)) (fun _ _ _ h => h) (Or.inl ⟨by rfl,?_⟩) ?_ ?_;rotate_left
             ·intro w';go_simp;with_reducible rfl
             rotate_left
             ·simp only [Act.put,s1_,s2_,s3_,i64_w,i32_w];rfl
             refine pure_ (i:=4) (N:=some 51) (v:=?_) (a':=?_) #[true,true,false,true,true,false,false,false,false,false,false,false,false,false,false,false] rfl rfl (any_of HT_.out (by kernel_rfl)) (fun _ _ _ h => h) (Or.inl ⟨by rfl,?_⟩) ?_ ?_;rotate_left
             ·intro w';go_simp;with_reducible rfl
             rotate_left
             ·simp only [Act.put,s1_,s2_,s3_,i64_w,i32_w];rfl
             refine pure_ (i:=6) (N:=some 53) (v:=?_) (a':=?_) #[true,true,false,true,true,false,true,false,false,false,false,false,false,false,false,false] rfl rfl (any_of HT_.out (by kernel_rfl)) (fun _ _ _ h => h) (Or.inl ⟨by rfl,?_⟩) ?_ ?_;rotate_left
             ·intro w';go_simp;with_reducible rfl
             rotate_left
             ·simp only [Act.put,s1_,s2_,s3_,i64_w,i32_w];rfl
             refine pure_ (i:=8) (N:=some 55) (v:=?_) (a':=?_) #[true,true,false,true,true,false,true,false,true,false,false,false,false,false,false,false] rfl rfl (any_of HT_.out (by kernel_rfl)) (fun _ _ _ h => h) (Or.inl ⟨by rfl,?_⟩) ?_ ?_;rotate_left
             ·intro w';go_simp;with_reducible rfl
             rotate_left
             ·simp only [Act.put,s1_,s2_,s3_,i64_w,i32_w];rfl
             refine take_ (i:=2) (N:=some 49) (v:=?_) (a':=?_) #[true,true,true,true,true,false,true,false,true,false,false,false,false,false,false,false] rfl rfl (take_ofW HT_.out HW_.out (by kernel_rfl)) (fun _ _ _ h => h) (Or.inl ⟨by rfl,?_⟩) hHeld ?_ ?_;rotate_left
             ·rintro w' ⟨s0,s1,s2,s3⟩;go_simp;with_reducible rfl
             rotate_left
             ·simp only [Act.put,s1_,s2_,s3_,i64_w,i32_w];rfl
             refine take_ (i:=5) (N:=some 52) (v:=?_) (a':=?_) #[true,true,true,true,true,true,true,false,true,false,false,false,false,false,false,false] rfl rfl (take_ofW HT_.out HW_.out (by kernel_rfl)) (fun _ _ _ h => h) (Or.inl ⟨by rfl,?_⟩) hHeld ?_ ?_;rotate_left
             ·rintro w' ⟨s0,s1,s2,s3⟩;go_simp;with_reducible rfl
             rotate_left
             ·simp only [Act.put,s1_,s2_,s3_,i64_w,i32_w];rfl
             refine take_ (i:=7) (N:=some 54) (v:=?_) (a':=?_) #[true,true,true,true,true,true,true,true,true,false,false,false,false,false,false,false] rfl rfl (take_ofW HT_.out HW_.out (by kernel_rfl)) (fun _ _ _ h => h) (Or.inl ⟨by rfl,?_⟩) hHeld ?_ ?_;rotate_left
             ·rintro w' ⟨s0,s1,s2,s3⟩;go_simp;with_reducible rfl
             rotate_left
             ·simp only [Act.put,s1_,s2_,s3_,i64_w,i32_w];rfl
             refine take_ (i:=9) (N:=some 56) (v:=?_) (a':=?_) #[true,true,true,true,true,true,true,true,true,true,false,false,false,false,false,false] rfl rfl (take_ofW HT_.out HW_.out (by kernel_rfl)) (fun _ _ _ h => h) (Or.inl ⟨by rfl,?_⟩) hHeld ?_ ?_;rotate_left
             ·rintro w' ⟨s0,s1,s2,s3⟩;go_simp;with_reducible rfl
             rotate_left
             ·simp only [Act.put,s1_,s2_,s3_,i64_w,i32_w];rfl
             refine pure_ (i:=10) (N:=some 57) (v:=?_) (a':=?_) #[true,true,true,true,true,true,true,true,true,true,true,false,false,false,false,false] rfl rfl (any_of HT_.out (by kernel_rfl)) (fun _ _ _ h => h) (Or.inl ⟨by rfl,?_⟩) ?_ ?_;rotate_left
             ·intro w';go_simp;with_reducible rfl
             rotate_left
             ·simp only [Act.put,s1_,s2_,s3_,i64_w,i32_w];rfl
             refine pure_ (i:=11) (N:=some 58) (v:=?_) (a':=?_) #[true,true,true,true,true,true,true,true,true,true,true,true,false,false,false,false] rfl rfl (any_of HT_.out (by kernel_rfl)) (fun _ _ _ h => h) (Or.inl ⟨by rfl,?_⟩) ?_ ?_;rotate_left
             ·intro w';go_simp;with_reducible rfl
             rotate_left
             ·simp only [Act.put,s1_,s2_,s3_,i64_w,i32_w];rfl
             refine pure_ (i:=12) (N:=some 59) (v:=?_) (a':=?_) #[true,true,true,true,true,true,true,true,true,true,true,true,true,false,false,false] rfl rfl (any_of HT_.out (by kernel_rfl)) (fun _ _ _ h => h) (Or.inl ⟨by rfl,?_⟩) ?_ ?_;rotate_left
             ·intro w';go_simp;with_reducible rfl
             rotate_left
             ·simp only [Act.put,s1_,s2_,s3_,i64_w,i32_w];rfl
             refine one_ (i:=13) (N:=some 60) #[true,true,true,true,true,true,true,true,true,true,true,true,true,true,false,false] rfl rfl (one_of HT_.out (by kernel_rfl)) (by decide) (fun K hK => ?_);refine value_ (w1:=?_) (v:=?_) (by rfl) rfl ?_ ?_;rotate_left 2
             ·go_simp
              constructor
              ·rfl
              ·rfl
             refine hK.out _ _ ⟨(kc_ (ka_ BK173.out _) 0).trans rfl,(kc_ (ka_ BK173.out _) 1).trans rfl,(kc_ (ka_ BK173.out _) 2).trans rfl,(kc_ (ka_ BK173.out _) 3).trans rfl⟩ (fun hHeld => ?_);clear hK K;refine norm_ (a':=?_) ?_ ?_;rotate_left
             ·show Act.put _ (some 60) _ = _;simp only [Act.put,s1_,s2_,s3_,i64_w,i32_w];rfl
             refine one_ (i:=14) (N:=some 61) #[true,true,true,true,true,true,true,true,true,true,true,true,true,true,true,false] rfl rfl (one_of HT_.out (by kernel_rfl)) (by decide) (fun K hK => ?_);refine Kd.R_append_step k74 (w0:=w) w.heap.size (by rfl) (.tmp 47) (.tmp 60) 44 74 (.agg #[(.string ⟨#[]⟩),(.string ⟨#[]⟩)]) 32 rfl Tryd.underlying44 info74 rfl (by decide) (by omega) u6 x6_2 (⟨(rd_T71 l1_5 x7_2).f0,t175.extract (((rd_T71 l1_5 x7_2).f2) : Int).toNat ((wrap64 (((rd_T71 l1_5 x7_2).f2) + ((rd_T71 l1_5 x7_2).f3))) : Int).toNat⟩ : S74) [.string ((rd_T71 l1_5 x7_2).f0),.string (t175.extract (((rd_T71 l1_5 x7_2).f2) : Int).toNat ((wrap64 (((rd_T71 l1_5 x7_2).f2) + ((rd_T71 l1_5 x7_2).f3))) : Int).toNat)] (fun _ => True) (fun _ => False) rfl rfl ?aP (fun _ hk => hk.elim) ?aF ?aO ?aB ?aS ?aL ?_
             (case aP => exact k74_mkM _ _ _ (⟨(rd_T71 l1_5 x7_2).f0,t175.extract (((rd_T71 l1_5 x7_2).f2) : Int).toNat ((wrap64 (((rd_T71 l1_5 x7_2).f2) + ((rd_T71 l1_5 x7_2).f3))) : Int).toNat⟩ : S74))
             (case aB => exact (by repeat (first|(with_reducible first|exact HB.out|apply pa_|apply pn_|apply pd_|refine ps_ ?_ GE165.out|refine ps_ ?_ GE166.out|refine ps_ ?_ GE173.out)|exact HB.out)))
             (case aF => exact (fun _ _ => trivial))
             (case aO => exact (by (with_reducible repeat (first|apply ra_|apply rn_|apply Rd_));exact HO_6.out))
             (case aS => exact (bz_ (by repeat (first|(with_reducible first|exact HB.out|apply pa_|apply pn_|apply pd_|refine ps_ ?_ GE165.out|refine ps_ ?_ GE166.out|refine ps_ ?_ GE173.out)|exact HB.out))))
             (case aL => have:=LMc45.out;omega)
             intro v180 w47 ho hb hg hat;rw [← Ny179.out] at ho;replace BK165:=A_ (kg_ (by (with_reducible repeat (first|refine kn_ ?_ _|refine kd_ ?_|refine ka_ ?_ _));exact BK165.out) hg (re_ HO_6.out BK165.out (by decide)));replace BK166:=A_ (kg_ (by (with_reducible repeat (first|refine kn_ ?_ _|refine kd_ ?_|refine ka_ ?_ _));exact BK166.out) hg (re_ HO_6.out BK166.out (by decide)));replace BK173:=A_ (kg_ (by (with_reducible repeat (first|refine kn_ ?_ _|refine kd_ ?_|refine ka_ ?_ _));exact BK173.out) hg (re_ HO_6.out BK173.out (by decide)));replace HB:=A_ (hb);have HO181:=A_ (ho);clear HO_6;clear ho hb hg hat;refine hK.out _ _ ⟨(kc_ BK173.out 0).trans rfl,(kc_ BK173.out 1).trans rfl,(kc_ BK173.out 2).trans rfl,(kc_ BK173.out 3).trans rfl⟩ (fun hHeld => ?_);clear hK K;refine norm_ (a':=?_) ?_ ?_;rotate_left
             ·show Act.put _ (some 61) _ = _;simp only [Act.put,s1_,s2_,s3_,i64_w,i32_w];rfl
             refine pure_ (i:=15) (N:=some 6) (v:=?_) (a':=?_) #[true,true,true,true,true,true,true,true,true,true,true,true,true,true,true,true] rfl rfl (any_of HT_.out (by kernel_rfl)) (fun _ _ _ h => h) (Or.inl ⟨by rfl,?_⟩) ?_ ?_;rotate_left
             ·intro w';go_simp;with_reducible rfl
             rotate_left
             ·simp only [Act.put,s1_,s2_,s3_,i64_w,i32_w];rfl
             refine done_ (done_of HT_.out (by kernel_rfl)) ?_
             try go_wp2
             go_roundg k2
             case measure => have:=HJ2.out;have:=HK2.out;omega
             case rel => exact ⟨(y179),(wrap64 (x7_2 + 1)),(by first|rfl|(simp;done)|(simp [*];done)),H',⟨by have:=HJ2.out;have:=HK2.out;omega⟩,⟨by (with_reducible repeat (first|apply ra_|apply rn_|apply Rd_));exact HO181.out⟩,⟨by (with_reducible repeat (first|refine kn_ ?_ _|refine kd_ ?_|refine ka_ ?_ _));exact BK165.out⟩,⟨by (with_reducible repeat (first|refine kn_ ?_ _|refine kd_ ?_|refine ka_ ?_ _));exact BK166.out⟩,⟨by repeat (first|(with_reducible first|exact HB.out|apply pa_|apply pn_|apply pd_|refine ps_ ?_ GE165.out|refine ps_ ?_ GE166.out|refine ps_ ?_ GE173.out)|exact HB.out)⟩⟩
            ·rw [if_neg c45] at H;exact absurd H (by simp)
           ·rw [if_neg c44] at H;exact absurd H (by simp)
          ·rw [if_neg c43] at H;exact absurd H (by simp)
         ·rw [if_neg c42] at H;exact absurd H (by simp)
       ·rw [if_neg c24] at H;exact absurd H (by simp)
      ·rw [if_neg c23] at H;have c23b0 : decide (x7_2 < (l1_5.length : Int)) = false:=decide_eq_false c23;clear c23
       (first|rw [c23b0]|(simp only [i64_w,i32_w];rw [c23b0])|skip)
       simp only [Option.some.injEq,Prod.mk.injEq] at H;obtain ⟨rfl,rfl⟩:=H;go_wp2;go_ret2;exact ⟨_,by first|rfl|(simp [*,errW_none,errW_some] <;> rfl),by (with_reducible repeat (first|apply ra_|apply rn_|apply Rd_));exact HO_6.out,by repeat (first|(with_reducible first|exact HB.out|apply pa_|apply pn_|apply pd_|refine ps_ ?_ GE165.out|refine ps_ ?_ GE166.out)|exact HB.out)⟩
def laws_toFile.f (a0_0 : ByteArray) (a0_1 : ByteArray) : Option (ByteArray × ByteArray) := some (a0_0, a0_1)
set_option maxHeartbeats 8000000 in
set_option maxRecDepth 100000 in
theorem laws_toFile.calls (a0_0 : ByteArray) (a0_1 : ByteArray) (r1 : ByteArray) (r2 : ByteArray) (w : World) (h : laws_toFile.f a0_0 a0_1 = some (r1, r2)) :
  Calls Tryd.prog 66 #[.agg #[.string a0_0,.string a0_1]] w fun e w' => e = .returned (.agg #[.string r1,.string r2]) ∧ Below w.heap.size w w':=by
 have hu91:=Tryd.underlying91;have hu62:=Tryd.underlying62;have HB:=A_ (Below.refl w.heap.size w);have H : (some (a0_0,a0_1)) = some (r1,r2):=h;clear h;simp only [Option.some.injEq,Prod.mk.injEq] at H;obtain ⟨rfl,rfl⟩:=H;go_enter Tryd.func66,Tryd.ntmps66
 go_wp2_with (first|((with_reducible refine gate_dst (N:=1) rfl ?_);refine box_event ?hg (N:=1) ?hd (cs:=#[.string a0_0,.string a0_1]) (t:=91) ?hr ?_;(case hd => rfl);(case hg => rfl);(case hr => first|(go_simp;done)|(go_simp;rfl));intro gb182 hg w2 hbox hb;have n0_:=A_ (bs_ (by repeat (first|(with_reducible first|exact HB.out|apply pa_|apply pn_|apply pd_)|exact HB.out)) hb);have n1_:=A_ (hbox);have n3_:=A_ ((by rw [hg];exact (bz_ (by repeat (first|(with_reducible first|exact HB.out|apply pa_|apply pn_|apply pd_)|exact HB.out))) : w.heap.size ≤ gb182));clear HB;have HB:=n0_;have BK182:=n1_;have GE182:=n3_;clear n0_ n1_ n3_;clear hb hbox hg)|((with_reducible refine gate_dst (N:=2) rfl ?_);refine box_event ?hg (N:=2) ?hd (cs:=#[.string (⟨#[]⟩ : ByteArray),.string (⟨#[]⟩ : ByteArray)]) (t:=62) ?hr ?_;(case hd => rfl);(case hg => rfl);(case hr => first|(go_simp;done)|(go_simp;rfl));intro gb183 hg w3 hbox hb;have n0_:=A_ (kb_ (by (with_reducible repeat (first|refine kn_ ?_ _|refine kd_ ?_|refine ka_ ?_ _));exact BK182.out) hb);have n1_:=A_ (bs_ (by repeat (first|(with_reducible first|exact HB.out|apply pa_|apply pn_|apply pd_|refine ps_ ?_ GE182.out)|exact HB.out)) hb);have n2_:=A_ (hbox);have n4_:=A_ ((by rw [hg];exact (bz_ (by repeat (first|(with_reducible first|exact HB.out|apply pa_|apply pn_|apply pd_|refine ps_ ?_ GE182.out)|exact HB.out))) : w.heap.size ≤ gb183));have n5_:=A_ ((by rw [hg];exact nl_ (kl_ (g:=gb182) (o:=.cells #[.string a0_0,.string a0_1] 91 (0,0)) (by (with_reducible repeat (first|refine kn_ ?_ _|refine kd_ ?_|refine ka_ ?_ _));exact BK182.out)) : gb182 ≠ gb183));have n6_:=A_ ((by rw [hg];exact ng_ (kl_ (g:=gb182) (o:=.cells #[.string a0_0,.string a0_1] 91 (0,0)) (by (with_reducible repeat (first|refine kn_ ?_ _|refine kd_ ?_|refine ka_ ?_ _));exact BK182.out)) : gb183 ≠ gb182));clear BK182;clear HB;have BK182:=n0_;have HB:=n1_;have BK183:=n2_;have GE183:=n4_;have NB182_183:=n5_;have NB183_182:=n6_;clear n0_ n1_ n2_ n4_ n5_ n6_;clear hb hbox hg)|((with_reducible refine gate_dst (N:=3) rfl ?_);refine box_event ?hg (N:=3) ?hd (cs:=#[.string (⟨#[]⟩ : ByteArray),.string (⟨#[]⟩ : ByteArray)]) (t:=62) ?hr ?_;(case hd => rfl);(case hg => rfl);(case hr => first|(go_simp;done)|(go_simp;rfl));intro gb184 hg w4 hbox hb;have n0_:=A_ (kb_ (by (with_reducible repeat (first|refine kn_ ?_ _|refine kd_ ?_|refine ka_ ?_ _));exact BK182.out) hb);have n1_:=A_ (kb_ (by (with_reducible repeat (first|refine kn_ ?_ _|refine kd_ ?_|refine ka_ ?_ _));exact BK183.out) hb);have n2_:=A_ (bs_ (by repeat (first|(with_reducible first|exact HB.out|apply pa_|apply pn_|apply pd_|refine ps_ ?_ GE182.out|refine ps_ ?_ GE183.out)|exact HB.out)) hb);have n3_:=A_ (hbox);have n5_:=A_ ((by rw [hg];exact (bz_ (by repeat (first|(with_reducible first|exact HB.out|apply pa_|apply pn_|apply pd_|refine ps_ ?_ GE182.out|refine ps_ ?_ GE183.out)|exact HB.out))) : w.heap.size ≤ gb184));have n6_:=A_ ((by rw [hg];exact nl_ (kl_ (g:=gb182) (o:=.cells #[.string a0_0,.string a0_1] 91 (0,0)) (by (with_reducible repeat (first|refine kn_ ?_ _|refine kd_ ?_|refine ka_ ?_ _));exact BK182.out)) : gb182 ≠ gb184));have n7_:=A_ ((by rw [hg];exact ng_ (kl_ (g:=gb182) (o:=.cells #[.string a0_0,.string a0_1] 91 (0,0)) (by (with_reducible repeat (first|refine kn_ ?_ _|refine kd_ ?_|refine ka_ ?_ _));exact BK182.out)) : gb184 ≠ gb182));have n8_:=A_ ((by rw [hg];exact nl_ (kl_ (g:=gb183) (o:=.cells #[.string (⟨#[]⟩ : ByteArray),.string (⟨#[]⟩ : ByteArray)] 62 (0,0)) (by (with_reducible repeat (first|refine kn_ ?_ _|refine kd_ ?_|refine ka_ ?_ _));exact BK183.out)) : gb183 ≠ gb184));have n9_:=A_ ((by rw [hg];exact ng_ (kl_ (g:=gb183) (o:=.cells #[.string (⟨#[]⟩ : ByteArray),.string (⟨#[]⟩ : ByteArray)] 62 (0,0)) (by (with_reducible repeat (first|refine kn_ ?_ _|refine kd_ ?_|refine ka_ ?_ _));exact BK183.out)) : gb184 ≠ gb183));clear BK182;clear BK183;clear HB;have BK182:=n0_;have BK183:=n1_;have HB:=n2_;have BK184:=n3_;have GE184:=n5_;have NB182_184:=n6_;have NB184_182:=n7_;have NB183_184:=n8_;have NB184_183:=n9_;clear n0_ n1_ n2_ n3_ n5_ n6_ n7_ n8_ n9_;clear hb hbox hg;have hnb5:=NB182_183.out;have hnc5:=NB183_182.out;have hnb6:=NB182_184.out;have hnc6:=NB184_182.out;have hcz7_0 : w4.cell? ⟨gb182,0,none⟩ = some (.string a0_0):=(kc_ BK182.out 0).trans rfl;have hcz7_1 : w4.cell? ⟨gb182,1,none⟩ = some (.string a0_1):=(kc_ BK182.out 1).trans rfl;have hfz7_0:=kf_ BK182.out 0;have hfz7_1:=kf_ BK182.out 1;have hnb8:=NB184_183.out;have hnc8:=NB183_184.out;have hcz9_0 : w4.cell? ⟨gb184,0,none⟩ = some (.string (⟨#[]⟩ : ByteArray)):=(kc_ BK184.out 0).trans rfl;have hcz9_1 : w4.cell? ⟨gb184,1,none⟩ = some (.string (⟨#[]⟩ : ByteArray)):=(kc_ BK184.out 1).trans rfl;have hfz9_0:=kf_ BK184.out 0;have hfz9_1:=kf_ BK184.out 1;have hcz10_0 : w4.cell? ⟨gb183,0,none⟩ = some (.string (⟨#[]⟩ : ByteArray)):=(kc_ BK183.out 0).trans rfl;have hcz10_1 : w4.cell? ⟨gb183,1,none⟩ = some (.string (⟨#[]⟩ : ByteArray)):=(kc_ BK183.out 1).trans rfl;have hfz10_0:=kf_ BK183.out 0;have hfz10_1:=kf_ BK183.out 1))
 refine bodyPost_ret (results_cell_row rfl _ _ gb183 62 #[.string a0_0,.string a0_1] (0,0) _ rfl (by (with_reducible repeat (first|refine kn_ ?_ _|refine kd_ ?_|refine ka_ ?_ _));refine ku_ (cs:=#[.string a0_0,.string (⟨#[]⟩ : ByteArray)]) ?_ 1 _ rfl;(with_reducible repeat (first|refine kn_ ?_ _|refine kd_ ?_|refine ka_ ?_ _));refine ku_ (cs:=#[.string (⟨#[]⟩ : ByteArray),.string (⟨#[]⟩ : ByteArray)]) ?_ 0 _ rfl;(with_reducible repeat (first|refine kn_ ?_ _|refine kd_ ?_|refine ka_ ?_ _));refine kr_ ?_ NB183_184.out _;(with_reducible repeat (first|refine kn_ ?_ _|refine kd_ ?_|refine ka_ ?_ _));refine kr_ ?_ NB183_184.out _;(with_reducible repeat (first|refine kn_ ?_ _|refine kd_ ?_|refine ka_ ?_ _));exact BK183.out) Tryd.underlying62 rfl (by kernel_rfl)) rfl ?_;exact ⟨by first|rfl|(simp [*,errW_none,errW_some] <;> rfl),by repeat (first|(with_reducible first|exact HB.out|apply pa_|apply pn_|apply pd_|refine ps_ ?_ GE182.out|refine ps_ ?_ GE183.out|refine ps_ ?_ GE184.out)|exact HB.out)⟩
def laws_toFileS.l0 : Nat → List (S91) → List (S62) → Int → Option ((List (S62)))
 | 0,_,_,_ => none
 | k + 1,x0,x3,x4 => if x4 < (x0.length : Int) then (if 0 ≤ x4 then ((laws_toFile.f ((rd_T91 x0 x4).f0) ((rd_T91 x0 x4).f1)).bind fun bt189 => (if x4 < (x3.length : Int) then (laws_toFileS.l0 k x0 (x3.set (x4 : Int).toNat (⟨bt189.1,bt189.2⟩ : S62)) (wrap64 (x4 + 1))) else (none))) else (none)) else (some x3)
def laws_toFileS.f (k : Nat) (l0 : List (S91)) : Option ((List (S62))) := if 0 ≤ (l0.length : Int) then (if ((l0.length : Int) : Int).toNat ≤ 8796093022208 then (laws_toFileS.l0 k l0 (List.replicate ((l0.length : Int) : Int).toNat z62) 0) else (none)) else (none)
theorem laws_toFileS.mono_l : ∀ k, (∀ y0 y1 y2, LeO (laws_toFileS.l0 k y0 y1 y2) (laws_toFileS.l0 (k + 1) y0 y1 y2))
 | 0 => fun _ _ _ r h => by simp [laws_toFileS.l0] at h
 | k + 1 => by
  have ih0:=laws_toFileS.mono_l k
  ·intro y0 y1 y2
   unfold laws_toFileS.l0
   repeat' first
   | (with_reducible exact ih0 _ _ _)
   | (with_reducible exact LeO.refl _)
   | (with_reducible exact LeO.none _)
   | (with_reducible refine LeO.ite ?_ ?_)
   | (with_reducible refine LeO.bind ?_ (fun _ => ?_))
theorem laws_toFileS.mono : ∀ a0 k, LeO (laws_toFileS.f k a0) (laws_toFileS.f (k + 1) a0) := by
 intro a0 k;have ih0:=laws_toFileS.mono_l k
 unfold laws_toFileS.f
 repeat' first
   | (with_reducible exact ih0 _ _ _)
   | (with_reducible exact LeO.refl _)
   | (with_reducible exact LeO.none _)
   | (with_reducible refine LeO.ite ?_ ?_)
   | (with_reducible refine LeO.bind ?_ (fun _ => ?_))
set_option maxHeartbeats 8000000 in
set_option maxRecDepth 100000 in
theorem laws_toFileS.calls (k : Nat) (A0 : Option Addr) (c0 : Nat) (l0 : List (S91)) (r : List (S62)) (w : World) (hr0 : Kd.C k91 w A0 l0.length l0) (hc0 : l0.length ≤ c0) (h : laws_toFileS.f k l0 = some r) :
  Calls Tryd.prog 37 #[.slice A0 l0.length c0] w fun e w' => ∃ v0_ : Value,e = .returned (v0_) ∧ Kd.R k62 62 w' w.heap.size (fun _ => True) v0_ r ∧ Below w.heap.size w w':=by
 have hu91:=Tryd.underlying91;have hu62:=Tryd.underlying62;have HR0:=A_ hr0;have HC0:=A_ hc0;clear hr0 hc0;have HB:=A_ (Below.refl w.heap.size w);have H : (if 0 ≤ (l0.length : Int) then (if ((l0.length : Int) : Int).toNat ≤ 8796093022208 then (laws_toFileS.l0 k l0 (List.replicate ((l0.length : Int) : Int).toNat z62) 0) else (none)) else (none)) = some r:=h;clear h
 by_cases c2 : 0 ≤ (l0.length : Int)
 ·rw [if_pos c2] at H;have c2b0:=eq_true c2;have c2b1 : decide (0 ≤ (l0.length : Int)) = true:=de_ c2;clear c2
  by_cases c3 : ((l0.length : Int) : Int).toNat ≤ 8796093022208
  ·rw [if_pos c3] at H;have c3b0:=eq_true c3;have c3b1 : decide (((l0.length : Int) : Int).toNat ≤ 8796093022208) = true:=de_ c3;clear c3;obtain ⟨y185,hy185⟩ : ∃ y_ : List (S62),y_ = (List.replicate ((l0.length : Int) : Int).toNat z62):=⟨_,rfl⟩
   replace H : (laws_toFileS.l0 k l0 y185 0) = some r:=by first|(rw [hy185];with_reducible exact H)|(have H2_:=(Option.bind_some _ _).symm.trans H;rw [hy185];with_reducible exact H2_)|(have H2_:=(Option.bind_some _ _).symm.trans H;with_reducible exact H2_)|with_reducible exact H|(rw [hy185];exact H)|exact H
   have Ny185:=A_ hy185;clear hy185;have H':=A_ H;clear H;go_enter Tryd.func37,Tryd.ntmps37
   go_wp2_with (first|((with_reducible refine gate_dst (N:=7) rfl ?_);refine Kd.R_make k62 _ 62 rfl (N:=7) rfl 23 _ _ rfl (l0.length : Int) rfl rfl Tryd.underlying23 (.agg #[(.string ⟨#[]⟩),(.string ⟨#[]⟩)]) 32 info62 rfl (by decide) (by omega) z62 (ok:=fun _ => True) (okp:=fun _ => True) (k62_mkM _ _ _ z62 ) (fun _ hk => hk) trivial (oda_) (Nat.le_trans (Nat.mul_le_mul_right _ (oda_ : (l0.length : Int).toNat ≤ 8796093022208)) (by omega)) (Below.refl _ _) (Nat.le_refl _) ?_;intro v186 w4 ho5 hb hg_ hnew_;clear hg_ hnew_;(first|rw [← Ny185.out] at ho5|(simp only [Int.reduceToNat] at ho5;rw [← Ny185.out] at ho5));have HO187:=A_ (rw_ ho5 (bz_ (by repeat (first|(with_reducible first|exact HB.out|apply pa_|apply pn_|apply pd_)|exact HB.out))));replace HB:=A_ (bs_ (by repeat (first|(with_reducible first|exact HB.out|apply pa_|apply pn_|apply pd_)|exact HB.out)) hb);clear hb ho5))
   go_loopg [4] k (fun kq v4 w' => ∃ (x3_1 : List (S62)) (x4_1 : Int),v4 = .int .i64 x4_1 ∧ Aside0 (laws_toFileS.l0 kq l0 x3_1 x4_1 = some r) ∧ Aside0 (kq ≤ k) ∧ Aside0 (Kd.R k62 62 w' w.heap.size (fun _ => True) v186 x3_1) ∧ Aside0 (Below w.heap.size w w'))
   case atStart => exact ⟨(y185),(0),(by first|rfl|(simp;done)|(simp [*];done)),H',⟨Nat.le_refl _⟩,⟨by (with_reducible repeat (first|apply ra_|apply rn_|apply Rd_));exact HO187.out⟩,⟨by repeat (first|(with_reducible first|exact HB.out|apply pa_|apply pn_|apply pd_)|exact HB.out)⟩⟩
   case round =>
    clear H'
    try clear c2
    try clear c2b0
    try clear c2b1
    try clear p2
    try clear c3
    try clear c3b0
    try clear c3b1
    obtain ⟨x3_1,x4_1,rfl,HA,HK1,HO_3,HB⟩:=hrel
    cases gk with
    | zero => exact absurd HA.out (by simp [laws_toFileS.l0])
    | succ k1 =>
     have H:=HA.out;clear HA;simp only [laws_toFileS.l0] at H
     by_cases c6 : x4_1 < (l0.length : Int)
     ·rw [if_pos c6] at H;have c6b0 : decide (x4_1 < (l0.length : Int)) = true:=de_ c6;clear c6
      by_cases c7 : 0 ≤ x4_1
      ·rw [if_pos c7] at H;have c7b0 : decide (0 ≤ x4_1) = true:=de_ c7;clear c7;replace H:=ob_.mp H;obtain ⟨⟨t189,t190⟩,A80,H⟩:=H;replace H : (if x4_1 < (x3_1.length : Int) then (laws_toFileS.l0 k1 l0 (x3_1.set (x4_1 : Int).toNat (⟨t189,t190⟩ : S62)) (wrap64 (x4_1 + 1))) else (none)) = some r:=H;have A8:=A_ A80;clear A80
       by_cases c9 : x4_1 < (x3_1.length : Int)
       ·rw [if_pos c9] at H;have c9b0 : decide (x4_1 < (x3_1.length : Int)) = true:=de_ c9;clear c9;obtain ⟨y191,hy191⟩ : ∃ y_ : List (S62),y_ = (x3_1.set (x4_1 : Int).toNat (⟨t189,t190⟩ : S62)):=⟨_,rfl⟩
        replace H : (laws_toFileS.l0 k1 l0 y191 (wrap64 (x4_1 + 1))) = some r:=by first|(rw [hy191];with_reducible exact H)|(have H2_:=(Option.bind_some _ _).symm.trans H;rw [hy191];with_reducible exact H2_)|(have H2_:=(Option.bind_some _ _).symm.trans H;with_reducible exact H2_)|with_reducible exact H|(rw [hy191];exact H)|exact H
        have Ny191:=A_ hy191;clear hy191;have H':=A_ H;clear H;have p188 : 0 ≤ (x4_1 : Int):=oda_;have q188 : x4_1 < (l0.length : Int):=oda_;obtain ⟨ad188,e188,hx188_0,hx188_1⟩:=at_T91 HR0.out x4_1 p188 q188
        cases e188
        replace hx188_0:=(HB.out.cell (wb_ w _ hx188_0)).trans hx188_0;replace hx188_1:=(HB.out.cell (wb_ w _ hx188_1)).trans hx188_1;replace p188:=eq_true p188;replace q188:=eq_true q188
        go_wp2_with (first|((with_reducible refine gate_callee (f:=66) rfl ?_);refine goesL_ (some 20) rfl rfl Tryd.func66 (by kernel_rfl) rfl #[.agg #[.string ((rd_T91 l0 x4_1).f0),.string ((rd_T91 l0 x4_1).f1)]] rfl (by (try simp only [s4_,s5_,s6_]);first|done|rfl|(simp only [List.length_drop,List.length_take];rfl)) ?_;(with_reducible refine (laws_toFile.calls ((rd_T91 l0 x4_1).f0) ((rd_T91 l0 x4_1).f1) t189 t190 _ A8.out).mono ?_);rintro e w11 ⟨rfl,hb⟩;refine ⟨_,rfl,?_⟩;replace HO_3:=A_ (rb_ (by (with_reducible repeat (first|apply ra_|apply rn_|apply Rd_));exact HO_3.out) hb);replace HB:=A_ (bs_ (by repeat (first|(with_reducible first|exact HB.out|apply pa_|apply pn_|apply pd_)|exact HB.out)) hb);(try clear hb);(try clear hb2);(try clear hk);(try clear hi);have p10 : 0 ≤ (x4_1 : Int):=oda_;have q10 : (x4_1 : Int) < ((x3_1.length : Int) : Int):=oda_;obtain ⟨go10,co10,eo10,gb10,gl10,cl10,HG10⟩:=Kd.R_form HO_3.out (by omega);(first|cases eo10|(injection eo10 with ea_ en_ ec_;(first|subst ea_|(injection ea_ with ea_;subst ea_));subst ec_;clear en_));have GB10:=A_ gb10;have GG10:=A_ HG10;clear gb10 gl10 HG10;obtain ⟨ce10,hcl10,hM10,hcc10,hfr10⟩:=Kd.R_elem HO_3.out z62 (x4_1 : Int) p10 q10;obtain rfl:=k62_openM hM10;have hx10_0 : w11.cell? ⟨go10,(x4_1 : Int).toNat * 2,none⟩ = some (.string ((rd_T62 x3_1 x4_1).f0)):=hcc10 0 _ rfl;have hx10_1 : w11.cell? ⟨go10,(x4_1 : Int).toNat * 2 + 1,none⟩ = some (.string ((rd_T62 x3_1 x4_1).f1)):=hcc10 1 _ rfl;have hf10_0 : w11.frozen? ⟨go10,(x4_1 : Int).toNat * 2,none⟩ = false:=hfr10 0;have hf10_1 : w11.frozen? ⟨go10,(x4_1 : Int).toNat * 2 + 1,none⟩ = false:=hfr10 1;clear hcl10 hcc10 hfr10 hM10;replace p10:=eq_true p10;replace q10:=eq_true q10;have HX12:=A_ (show Kd.R k62 62 w11 w.heap.size (fun _ => True) (.slice (some ⟨go10,0,none⟩) x3_1.length co10) x3_1 from (by (with_reducible repeat (first|apply ra_|apply rn_|apply Rd_));exact HO_3.out));obtain ⟨ce12,hcl12,hM12,hcc12,hfr12⟩:=Kd.R_elem HX12.out z62 (x4_1 : Int) (oda_) (by have h_ : (x4_1 : Int) < ((x3_1.length : Int) : Int):=oda_;first|exact h_|(have e_:=(Kd.R_reads' HO_3.out).1;omega)|simpa using h_);obtain rfl:=k62_openM hM12;have HP12:=Kd.R_seg HX12.out (x4_1 : Int) (oda_) (by have h_ : (x4_1 : Int) < ((x3_1.length : Int) : Int):=oda_;first|exact h_|(have e_:=(Kd.R_reads' HO_3.out).1;omega)|simpa using h_) (seg:=[.string t189,.string t190]) (j:=0) hcl12 hcc12 (show 2 ≤ 2 from by decide) (x':=(⟨t189,t190⟩ : S62)) (k62_mkM _ _ _ (⟨t189,t190⟩ : S62) ) (fun _ hk => hk);have hx12_0:=hcc12 0 _ rfl;(try simp only [show (k62).sz = 2 from rfl,Nat.mul_one,Nat.add_zero] at hx12_0);have hf12_0:=hfr12 0;(try simp only [show (k62).sz = 2 from rfl,Nat.mul_one,Nat.add_zero] at hf12_0);have hx12_1:=hcc12 1 _ rfl;(try simp only [show (k62).sz = 2 from rfl,Nat.mul_one,Nat.add_zero] at hx12_1);have hf12_1:=hfr12 1;(try simp only [show (k62).sz = 2 from rfl,Nat.mul_one,Nat.add_zero] at hf12_1);clear hcl12 hcc12 hfr12 hM12)|((with_reducible refine gate_store (t:=62) (p:=21) rfl ?_);refine store_event (t:=62) (p:=21) (v:=?vo_w13) (w1:=((w11.setCell ⟨go10,(x4_1 : Int).toNat * 2,none⟩ (.string t189)).setCell ⟨go10,(x4_1 : Int).toNat * 2 + 1,none⟩ (.string t190))) ?hg ?ho ?hn ?hr ?_;(case ho => rfl);(case hg => rfl);(case hn => rfl);(case hr => first|(go_simp;done)|(go_simp;rfl));intro w13 hw;have hg : w11.grownBy w13 (some go10):=(by rw [hw];exact HP12.2);have hp_ : Kd.R k62 62 w13 w.heap.size (fun _ => True) (.slice (some ⟨go10,0,none⟩) x3_1.length co10) y191:=(by rw [hw,Ny191.out];exact HP12.1);clear HP12;replace HO_3:=A_ (hp_);replace HB:=A_ ((by rw [hw];exact ps_ (ps_ (HB.out) GB10.out) GB10.out : Below w.heap.size w w13));clear hg hw hp_))
        go_roundg k1
        case measure => have:=HK1.out;omega
        case rel => exact ⟨(y191),(wrap64 (x4_1 + 1)),(by first|rfl|(simp;done)|(simp [*];done)),H',⟨by have:=HK1.out;omega⟩,⟨by (with_reducible repeat (first|apply ra_|apply rn_|apply Rd_));exact HO_3.out⟩,⟨by repeat (first|(with_reducible first|exact HB.out|apply pa_|apply pn_|apply pd_)|exact HB.out)⟩⟩
       ·rw [if_neg c9] at H;exact absurd H (by simp)
      ·rw [if_neg c7] at H;exact absurd H (by simp)
     ·rw [if_neg c6] at H;have c6b0 : decide (x4_1 < (l0.length : Int)) = false:=decide_eq_false c6;clear c6;obtain rfl:=Option.some.inj H;go_wp2;go_ret;exact ⟨_,by first|rfl|(simp [*,errW_none,errW_some] <;> rfl),by (with_reducible repeat (first|apply ra_|apply rn_|apply Rd_));exact HO_3.out,by repeat (first|(with_reducible first|exact HB.out|apply pa_|apply pn_|apply pd_)|exact HB.out)⟩
  ·rw [if_neg c3] at H;exact absurd H (by simp)
 ·rw [if_neg c2] at H;exact absurd H (by simp)
def laws_toDisk.f (k : Nat) (l0_0 : List (S91)) : Option ((List (S62))) := (laws_toFileS.f k l0_0).bind fun t195 => (some t195)
theorem laws_toDisk.mono : ∀ a0 k, LeO (laws_toDisk.f k a0) (laws_toDisk.f (k + 1) a0) := by
 intro a0 k
 unfold laws_toDisk.f
 repeat' first
   | (with_reducible exact laws_toFileS.mono _ _)
   | (with_reducible exact LeO.refl _)
   | (with_reducible exact LeO.none _)
   | (with_reducible refine LeO.ite ?_ ?_)
   | (with_reducible refine LeO.bind ?_ (fun _ => ?_))
set_option maxHeartbeats 8000000 in
set_option maxRecDepth 100000 in
theorem laws_toDisk.calls (k : Nat) (A0_0 : Option Addr) (c0_0 : Nat) (l0_0 : List (S91)) (r : List (S62)) (w : World) (hr0_0 : Kd.C k91 w A0_0 l0_0.length l0_0) (hc0_0 : l0_0.length ≤ c0_0) (h : laws_toDisk.f k l0_0 = some r) :
  Calls Tryd.prog 16 #[.agg #[.slice A0_0 l0_0.length c0_0]] w fun e w' => ∃ v0_ : Value,e = .returned (.agg #[v0_]) ∧ Kd.R k62 62 w' w.heap.size (fun _ => True) v0_ r ∧ Below w.heap.size w w':=by
 have hu36:=Tryd.underlying36;have hu25:=Tryd.underlying25;have HR0_0:=A_ hr0_0;have HC0_0:=A_ hc0_0;clear hr0_0 hc0_0;have HB:=A_ (Below.refl w.heap.size w);have H : ((laws_toFileS.f k l0_0).bind fun t195 => (some t195)) = some r:=h;clear h;replace H:=ob_.mp H;obtain ⟨t195,A20,H⟩:=H;replace H : (some t195) = some r:=H;have A2:=A_ A20;clear A20;obtain rfl:=Option.some.inj H;go_enter Tryd.func16,Tryd.ntmps16
 go_wp2_with (first|((with_reducible refine gate_dst (N:=1) rfl ?_);refine box_event ?hg (N:=1) ?hd (cs:=#[.slice A0_0 l0_0.length c0_0]) (t:=36) ?hr ?_;(case hd => rfl);(case hg => rfl);(case hr => first|(go_simp;done)|(go_simp;rfl));intro gb192 hg w3 hbox hb;have n0_:=A_ (bs_ (by repeat (first|(with_reducible first|exact HB.out|apply pa_|apply pn_|apply pd_)|exact HB.out)) hb);have n1_:=A_ (hbox);have n3_:=A_ ((by rw [hg];exact (bz_ (by repeat (first|(with_reducible first|exact HB.out|apply pa_|apply pn_|apply pd_)|exact HB.out))) : w.heap.size ≤ gb192));clear HB;have HB:=n0_;have BK192:=n1_;have GE192:=n3_;clear n0_ n1_ n3_;clear hb hbox hg)|((with_reducible refine gate_dst (N:=2) rfl ?_);refine box_event ?hg (N:=2) ?hd (cs:=#[.slice none 0 0]) (t:=25) ?hr ?_;(case hd => rfl);(case hg => rfl);(case hr => first|(go_simp;done)|(go_simp;rfl));intro gb193 hg w4 hbox hb;have n0_:=A_ (kb_ (by (with_reducible repeat (first|refine kn_ ?_ _|refine kd_ ?_|refine ka_ ?_ _));exact BK192.out) hb);have n1_:=A_ (bs_ (by repeat (first|(with_reducible first|exact HB.out|apply pa_|apply pn_|apply pd_|refine ps_ ?_ GE192.out)|exact HB.out)) hb);have n2_:=A_ (hbox);have n4_:=A_ ((by rw [hg];exact (bz_ (by repeat (first|(with_reducible first|exact HB.out|apply pa_|apply pn_|apply pd_|refine ps_ ?_ GE192.out)|exact HB.out))) : w.heap.size ≤ gb193));have n5_:=A_ ((by rw [hg];exact nl_ (kl_ (g:=gb192) (o:=.cells #[.slice A0_0 l0_0.length c0_0] 36 (0,0)) (by (with_reducible repeat (first|refine kn_ ?_ _|refine kd_ ?_|refine ka_ ?_ _));exact BK192.out)) : gb192 ≠ gb193));have n6_:=A_ ((by rw [hg];exact ng_ (kl_ (g:=gb192) (o:=.cells #[.slice A0_0 l0_0.length c0_0] 36 (0,0)) (by (with_reducible repeat (first|refine kn_ ?_ _|refine kd_ ?_|refine ka_ ?_ _));exact BK192.out)) : gb193 ≠ gb192));clear BK192;clear HB;have BK192:=n0_;have HB:=n1_;have BK193:=n2_;have GE193:=n4_;have NB192_193:=n5_;have NB193_192:=n6_;clear n0_ n1_ n2_ n4_ n5_ n6_;clear hb hbox hg)|((with_reducible refine gate_dst (N:=3) rfl ?_);refine box_event ?hg (N:=3) ?hd (cs:=#[.slice none 0 0]) (t:=25) ?hr ?_;(case hd => rfl);(case hg => rfl);(case hr => first|(go_simp;done)|(go_simp;rfl));intro gb194 hg w5 hbox hb;have n0_:=A_ (kb_ (by (with_reducible repeat (first|refine kn_ ?_ _|refine kd_ ?_|refine ka_ ?_ _));exact BK192.out) hb);have n1_:=A_ (kb_ (by (with_reducible repeat (first|refine kn_ ?_ _|refine kd_ ?_|refine ka_ ?_ _));exact BK193.out) hb);have n2_:=A_ (bs_ (by repeat (first|(with_reducible first|exact HB.out|apply pa_|apply pn_|apply pd_|refine ps_ ?_ GE192.out|refine ps_ ?_ GE193.out)|exact HB.out)) hb);have n3_:=A_ (hbox);have n5_:=A_ ((by rw [hg];exact (bz_ (by repeat (first|(with_reducible first|exact HB.out|apply pa_|apply pn_|apply pd_|refine ps_ ?_ GE192.out|refine ps_ ?_ GE193.out)|exact HB.out))) : w.heap.size ≤ gb194));have n6_:=A_ ((by rw [hg];exact nl_ (kl_ (g:=gb192) (o:=.cells #[.slice A0_0 l0_0.length c0_0] 36 (0,0)) (by (with_reducible repeat (first|refine kn_ ?_ _|refine kd_ ?_|refine ka_ ?_ _));exact BK192.out)) : gb192 ≠ gb194));have n7_:=A_ ((by rw [hg];exact ng_ (kl_ (g:=gb192) (o:=.cells #[.slice A0_0 l0_0.length c0_0] 36 (0,0)) (by (with_reducible repeat (first|refine kn_ ?_ _|refine kd_ ?_|refine ka_ ?_ _));exact BK192.out)) : gb194 ≠ gb192));have n8_:=A_ ((by rw [hg];exact nl_ (kl_ (g:=gb193) (o:=.cells #[.slice none 0 0] 25 (0,0)) (by (with_reducible repeat (first|refine kn_ ?_ _|refine kd_ ?_|refine ka_ ?_ _));exact BK193.out)) : gb193 ≠ gb194));have n9_:=A_ ((by rw [hg];exact ng_ (kl_ (g:=gb193) (o:=.cells #[.slice none 0 0] 25 (0,0)) (by (with_reducible repeat (first|refine kn_ ?_ _|refine kd_ ?_|refine ka_ ?_ _));exact BK193.out)) : gb194 ≠ gb193));clear BK192;clear BK193;clear HB;have BK192:=n0_;have BK193:=n1_;have HB:=n2_;have BK194:=n3_;have GE194:=n5_;have NB192_194:=n6_;have NB194_192:=n7_;have NB193_194:=n8_;have NB194_193:=n9_;clear n0_ n1_ n2_ n3_ n5_ n6_ n7_ n8_ n9_;clear hb hbox hg;have hnb6:=NB192_193.out;have hnc6:=NB193_192.out;have hnb7:=NB192_194.out;have hnc7:=NB194_192.out;have hcz8_0 : w5.cell? ⟨gb192,0,none⟩ = some (.slice A0_0 l0_0.length c0_0):=(kc_ BK192.out 0).trans rfl;have hfz8_0:=kf_ BK192.out 0)|((with_reducible refine gate_callee (f:=37) rfl ?_);refine goesL_ (some 6) rfl rfl Tryd.func37 (by kernel_rfl) rfl #[.slice A0_0 l0_0.length c0_0] rfl (by (try simp only [s4_,s5_,s6_]);first|done|rfl|(simp only [List.length_drop,List.length_take];rfl)) ?_;(with_reducible refine (laws_toFileS.calls k _ _ l0_0 t195 _ ?side1 ?side2 A2.out).mono ?_);(case side1 => repeat (first|exact (Kd.C_below HR0_0.out HB.out)|(with_reducible refine Kd.C_alloc ?_ _)|(with_reducible refine Kd.C_drewN ?_ _)|(with_reducible refine Kd.C_drew ?_)));(case side2 => exact HC0_0.out);rintro e w9 ⟨v196,rfl,ho0,hb⟩;refine ⟨_,rfl,?_⟩;have n0_:=A_ (rw_ ho0 (bz_ (by repeat (first|(with_reducible first|exact HB.out|apply pa_|apply pn_|apply pd_|refine ps_ ?_ GE192.out|refine ps_ ?_ GE193.out|refine ps_ ?_ GE194.out)|exact HB.out))));have n2_:=A_ (kb_ (by (with_reducible repeat (first|refine kn_ ?_ _|refine kd_ ?_|refine ka_ ?_ _));exact BK193.out) hb);have n3_:=A_ (kb_ (by (with_reducible repeat (first|refine kn_ ?_ _|refine kd_ ?_|refine ka_ ?_ _));exact BK194.out) hb);have n4_:=A_ (bs_ (by repeat (first|(with_reducible first|exact HB.out|apply pa_|apply pn_|apply pd_|refine ps_ ?_ GE192.out|refine ps_ ?_ GE193.out|refine ps_ ?_ GE194.out)|exact HB.out)) hb);clear BK192;clear BK193;clear BK194;clear HB;have HO197:=n0_;have BK193:=n2_;have BK194:=n3_;have HB:=n4_;clear n0_ n2_ n3_ n4_;(try clear hb);(try clear hb2);(try clear hk);(try clear hi);(try clear ho0);obtain ⟨Ao10,co10,eo10⟩:=Kd.R_slice HO197.out;subst eo10;have hnb11:=NB194_193.out;have hnc11:=NB193_194.out;have hcz12_0 : w9.cell? ⟨gb194,0,none⟩ = some (.slice none 0 0):=(kc_ BK194.out 0).trans rfl;have hfz12_0:=kf_ BK194.out 0;have hcz13_0 : w9.cell? ⟨gb193,0,none⟩ = some (.slice none 0 0):=(kc_ BK193.out 0).trans rfl;have hfz13_0:=kf_ BK193.out 0))
 refine bodyPost_ret (results_cell_row rfl _ _ gb193 25 #[.slice Ao10 t195.length co10] (0,0) _ rfl (by (with_reducible repeat (first|refine kn_ ?_ _|refine kd_ ?_|refine ka_ ?_ _));refine ku_ (cs:=#[.slice none 0 0]) ?_ 0 _ rfl;(with_reducible repeat (first|refine kn_ ?_ _|refine kd_ ?_|refine ka_ ?_ _));refine kr_ ?_ NB193_194.out _;(with_reducible repeat (first|refine kn_ ?_ _|refine kd_ ?_|refine ka_ ?_ _));exact BK193.out) Tryd.underlying25 rfl (by kernel_rfl)) rfl ?_;exact ⟨_,by first|rfl|(simp [*,errW_none,errW_some] <;> rfl),by (with_reducible repeat (first|apply ra_|apply rn_|apply Rd_));exact rm_ (rf_ (p:=⟨gb193,0,none⟩) (rf_ (p:=⟨gb194,0,none⟩) (Kd.R_types (Kd.R_types HO197.out BK194.out (by decide)) BK193.out (by decide)) (fun _ hk => hk.1.2) (.slice Ao10 t195.length co10)) (fun _ hk => hk.2) (.slice Ao10 t195.length co10)) (fun _ hk => trivial),by repeat (first|(with_reducible first|exact HB.out|apply pa_|apply pn_|apply pd_|refine ps_ ?_ GE192.out|refine ps_ ?_ GE193.out|refine ps_ ?_ GE194.out)|exact HB.out)⟩
end Go.Proofs.YtbcgnncbiblibaaDoor.PFnExactShelfMap
