/- The contracts of the Go functions that this law reaches: what each call returns, by a plain Lean function of its arguments. No conditions but those each contract names. By the kit's print.py, run by this session's wip/gen/pp.py with facts and hand proofs beside it: not to the letter what print.sh prints. -/
import Derived.Test.YtbcgnncbiblibaaDoorPFnExactShelfMapx0
import Derived.Test.YtbcgnncbiblibaaDoorPFnExactShelfMapx6
import Derived.Test.YtbcgnncbiblibaaDoorPFnExactShelfMapx7
namespace Go.Proofs.YtbcgnncbiblibaaDoor.PFnExactShelfMap
open Go.RowKit Go.Proofs.YtbcgnncbiblibaaDoorW.PrintWords Go.Proofs.YtbcgnncbiblibaaDoorW.PrintLast Go.Proofs.YtbcgnncbiblibaaDoorW.PrintMore
attribute [local go_sem] max2_int min2_int max_two min_two max_three min_three max_four min_four
set_option linter.unusedVariables false
set_option linter.unusedSimpArgs false
mutual
def impl_ShelfMap.j0 : Nat → Bool → List (S62) → List Int → Int → Int → Int → List Int → List (S71) → Int → Option ((List (S74)) × Bool)
 | 0,_,_,_,_,_,_,_,_,_ => none
 | k + 1,x19,x260000,x261000,x261001,x261002,x261003,x261004,x261005,x261006 => if x19 = true then (some (([] : List (S74)),false)) else (impl_ShelfMap.l0 k ([] : List (S74)) x261005 (x261005.length : Int) 0 x260000)
def impl_ShelfMap.l0 : Nat → List (S74) → List (S71) → Int → Int → List (S62) → Option ((List (S74)) × Bool)
 | 0,_,_,_,_,_ => none
 | k + 1,x6,x21,x22,x23,x260000 => if x23 < x22 then (if 0 ≤ x23 then (if x23 < (x21.length : Int) then ((impl_SegName.f ((rd_T71 x21 x23).f1)).bind fun t265 => ((impl_FileAt.f k x260000 t265).bind fun bt266 => (if (wrap64 (((rd_T71 x21 x23).f2) + ((rd_T71 x21 x23).f3))) > (bt266.1.size : Int) then (some (([] : List (S74)),false)) else (if 0 ≤ ((rd_T71 x21 x23).f2) then (if ((rd_T71 x21 x23).f2) ≤ (wrap64 (((rd_T71 x21 x23).f2) + ((rd_T71 x21 x23).f3))) then (if (wrap64 (((rd_T71 x21 x23).f2) + ((rd_T71 x21 x23).f3))) ≤ (bt266.1.size : Int) then (if x6.length < 4398046511104 then (impl_ShelfMap.l0 k (x6 ++ [(⟨(rd_T71 x21 x23).f0,bt266.1.extract (((rd_T71 x21 x23).f2) : Int).toNat ((wrap64 (((rd_T71 x21 x23).f2) + ((rd_T71 x21 x23).f3))) : Int).toNat⟩ : S74)]) x21 x22 (wrap64 (x23 + 1)) x260000) else (none)) else (none)) else (none)) else (none))))) else (none)) else (none)) else (some (x6,true))
end
def impl_ShelfMap.f (k : Nat) (l0_0 : List (S62)) (l1_0 : List Int) (a1_1 : Int) (a1_2 : Int) (a1_3 : Int) (l1_4 : List Int) (l1_5 : List (S71)) (a1_6 : Int) : Option ((List (S74)) × Bool) := (impl_DiskOk.f k l0_0).bind fun t261 => (if t261 = true then ((impl_DirOk.f k l1_5).bind fun t262 => (impl_ShelfMap.j0 k (!t262) l0_0 l1_0 a1_1 a1_2 a1_3 l1_4 l1_5 a1_6)) else (impl_ShelfMap.j0 k true l0_0 l1_0 a1_1 a1_2 a1_3 l1_4 l1_5 a1_6))
theorem impl_ShelfMap.mono_l : ∀ k, (∀ y0 y1 y2 y3 y4 y5 y6 y7 y8, LeO (impl_ShelfMap.j0 k y0 y1 y2 y3 y4 y5 y6 y7 y8) (impl_ShelfMap.j0 (k + 1) y0 y1 y2 y3 y4 y5 y6 y7 y8)) ∧ (∀ y0 y1 y2 y3 y4, LeO (impl_ShelfMap.l0 k y0 y1 y2 y3 y4) (impl_ShelfMap.l0 (k + 1) y0 y1 y2 y3 y4))
 | 0 => ⟨fun _ _ _ _ _ _ _ _ _ r h => by simp [impl_ShelfMap.j0] at h,fun _ _ _ _ _ r h => by simp [impl_ShelfMap.l0] at h⟩
 | k + 1 => by
  obtain ⟨ih0,ih1⟩:=impl_ShelfMap.mono_l k;refine ⟨?_,?_⟩
  ·intro y0 y1 y2 y3 y4 y5 y6 y7 y8
   unfold impl_ShelfMap.j0
   repeat' first
   | (with_reducible exact ih0 _ _ _ _ _ _ _ _ _)
   | (with_reducible exact ih1 _ _ _ _ _)
   | (with_reducible exact impl_DirOk.mono _ _)
   | (with_reducible exact impl_DiskOk.mono _ _)
   | (with_reducible exact impl_FileAt.mono _ _ _)
   | (with_reducible exact LeO.refl _)
   | (with_reducible exact LeO.none _)
   | (with_reducible refine LeO.ite ?_ ?_)
   | (with_reducible refine LeO.bind ?_ (fun _ => ?_))
  ·intro y0 y1 y2 y3 y4
   unfold impl_ShelfMap.l0
   repeat' first
   | (with_reducible exact ih0 _ _ _ _ _ _ _ _ _)
   | (with_reducible exact ih1 _ _ _ _ _)
   | (with_reducible exact impl_DirOk.mono _ _)
   | (with_reducible exact impl_DiskOk.mono _ _)
   | (with_reducible exact impl_FileAt.mono _ _ _)
   | (with_reducible exact LeO.refl _)
   | (with_reducible exact LeO.none _)
   | (with_reducible refine LeO.ite ?_ ?_)
   | (with_reducible refine LeO.bind ?_ (fun _ => ?_))
theorem impl_ShelfMap.mono : ∀ a0 a1 a2 a3 a4 a5 a6 a7 k, LeO (impl_ShelfMap.f k a0 a1 a2 a3 a4 a5 a6 a7) (impl_ShelfMap.f (k + 1) a0 a1 a2 a3 a4 a5 a6 a7) := by
 intro a0 a1 a2 a3 a4 a5 a6 a7 k;obtain ⟨ih0,ih1⟩:=impl_ShelfMap.mono_l k
 unfold impl_ShelfMap.f
 repeat' first
   | (with_reducible exact ih0 _ _ _ _ _ _ _ _ _)
   | (with_reducible exact ih1 _ _ _ _ _)
   | (with_reducible exact impl_DirOk.mono _ _)
   | (with_reducible exact impl_DiskOk.mono _ _)
   | (with_reducible exact impl_FileAt.mono _ _ _)
   | (with_reducible exact LeO.refl _)
   | (with_reducible exact LeO.none _)
   | (with_reducible refine LeO.ite ?_ ?_)
   | (with_reducible refine LeO.bind ?_ (fun _ => ?_))
def impl_ShelfMap.T7 : Bool × List (List Nat × List Nat) := (true, [([], []), ([], []), ([1], [1]), ([2], [2]), ([0, 3, 3], [0, 3]), ([4], [4]), ([5], [5]), ([5], [5]), ([6, 4, 0, 1, 2, 3, 4, 5, 6], [6]), ([7, 8, 0, 1, 2, 3, 4, 5, 6, 7, 8], [7])])
def impl_ShelfMap.B7 : List Nat := [0, 0, 2, 6, 15, 31, 63, 63, 127, 511]
theorem impl_ShelfMap.tab7 : rtab .any (opsOf Tryd.f18 7) = impl_ShelfMap.T7 := by kernel_rfl
theorem impl_ShelfMap.bits7 : waitsOk impl_ShelfMap.T7.2 impl_ShelfMap.B7 = true := by kernel_rfl
def impl_ShelfMap.T10 : Bool × List (List Nat × List Nat) := (true, [([], []), ([], []), ([1], [1]), ([], []), ([], []), ([4], [4]), ([], []), ([6], [6]), ([], []), ([8], [8]), ([7, 9], [7, 9]), ([3, 5, 10], [3, 5, 10]), ([2, 11], [2, 11]), ([12], [12]), ([0, 13], [0, 13]), ([14, 14, 0, 1, 2, 3, 4, 5, 6, 7, 8, 9, 10, 11, 12, 13, 14], [0, 14])])
def impl_ShelfMap.B10 : List Nat := [0, 0, 2, 0, 0, 16, 0, 64, 0, 256, 960, 2040, 4094, 8190, 16383, 32767]
theorem impl_ShelfMap.tab10 : rtab .any (opsOf Tryd.f18 10) = impl_ShelfMap.T10 := by kernel_rfl
theorem impl_ShelfMap.bits10 : waitsOk impl_ShelfMap.T10.2 impl_ShelfMap.B10 = true := by kernel_rfl
set_option maxHeartbeats 8000000 in
set_option maxRecDepth 100000 in
theorem impl_ShelfMap.calls (k : Nat) (A0_0 : Option Addr) (c0_0 : Nat) (l0_0 : List (S62)) (A1_0 : Option Addr) (c1_0 : Nat) (l1_0 : List Int) (a1_1 : Int) (a1_2 : Int) (a1_3 : Int) (A1_4 : Option Addr) (c1_4 : Nat) (l1_4 : List Int) (A1_5 : Option Addr) (c1_5 : Nat) (l1_5 : List (S71)) (a1_6 : Int) (r1 : List (S74)) (r2 : Bool) (w : World) (hr0_0 : Kd.C k62 w A0_0 l0_0.length l0_0) (hc0_0 : l0_0.length ≤ c0_0) (hr1_0 : Kd.C (Kd.int .i64) w A1_0 l1_0.length l1_0) (hc1_0 : l1_0.length ≤ c1_0) (hr1_4 : Kd.C (Kd.int .i64) w A1_4 l1_4.length l1_4) (hc1_4 : l1_4.length ≤ c1_4) (hr1_5 : Kd.C k71 w A1_5 l1_5.length l1_5) (hc1_5 : l1_5.length ≤ c1_5) (h : impl_ShelfMap.f k l0_0 l1_0 a1_1 a1_2 a1_3 l1_4 l1_5 a1_6 = some (r1, r2)) (hT : TB w) :
  Calls Tryd.prog 18 #[.agg #[.slice A0_0 l0_0.length c0_0],.agg #[.slice A1_0 l1_0.length c1_0,.int .i64 a1_1,.int .i64 a1_2,.int .i64 a1_3,.slice A1_4 l1_4.length c1_4,.slice A1_5 l1_5.length c1_5,.int .i64 a1_6]] w fun e w' => ∃ v0_ : Value,e = .returned (.tuple #[v0_,.bool r2]) ∧ Kd.R k74 74 w' w.heap.size (fun _ => True) v0_ r1 ∧ Below w.heap.size w w':=by
 have HT:=A_ hT;clear hT;have hu25:=Tryd.underlying25;have hu51:=Tryd.underlying51;have hu71:=Tryd.underlying71;have hu74:=Tryd.underlying74;have HR0_0:=A_ hr0_0;have HC0_0:=A_ hc0_0;clear hr0_0 hc0_0;have HR1_0:=A_ hr1_0;have HC1_0:=A_ hc1_0;clear hr1_0 hc1_0;have HR1_4:=A_ hr1_4;have HC1_4:=A_ hc1_4;clear hr1_4 hc1_4;have HR1_5:=A_ hr1_5;have HC1_5:=A_ hc1_5;clear hr1_5 hc1_5;have HB:=A_ (Below.refl w.heap.size w);have H : ((impl_DiskOk.f k l0_0).bind fun t261 => (if t261 = true then ((impl_DirOk.f k l1_5).bind fun t262 => (impl_ShelfMap.j0 k (!t262) l0_0 l1_0 a1_1 a1_2 a1_3 l1_4 l1_5 a1_6)) else (impl_ShelfMap.j0 k true l0_0 l1_0 a1_1 a1_2 a1_3 l1_4 l1_5 a1_6))) = some (r1,r2):=h;clear h;have HC3:=A_ H;clear H;go_enter Tryd.func18,Tryd.ntmps18
 go_upto_region 1 with (first|((with_reducible refine gate_dst (N:=2) rfl ?_);refine box_event ?hg (N:=2) ?hd (cs:=#[.slice A0_0 l0_0.length c0_0]) (t:=25) ?hr ?_;(case hd => rfl);(case hg => rfl);(case hr => first|(go_simp;done)|(go_simp;rfl));intro gb259 hg w4 hbox hb;have n0_:=A_ (bs_ (by repeat (first|(with_reducible first|exact HB.out|apply pa_|apply pn_|apply pd_)|exact HB.out)) hb);have n1_:=A_ (hbox);have n3_:=A_ ((by rw [hg];exact (bz_ (by repeat (first|(with_reducible first|exact HB.out|apply pa_|apply pn_|apply pd_)|exact HB.out))) : w.heap.size ≤ gb259));clear HB;have HB:=n0_;have BK259:=n1_;have GE259:=n3_;clear n0_ n1_ n3_;clear hb hbox hg)|((with_reducible refine gate_dst (N:=3) rfl ?_);refine box_event ?hg (N:=3) ?hd (cs:=#[.slice A1_0 l1_0.length c1_0,.int .i64 a1_1,.int .i64 a1_2,.int .i64 a1_3,.slice A1_4 l1_4.length c1_4,.slice A1_5 l1_5.length c1_5,.int .i64 a1_6]) (t:=51) ?hr ?_;(case hd => rfl);(case hg => rfl);(case hr => first|(go_simp;done)|(go_simp;rfl));intro gb260 hg w5 hbox hb;have n0_:=A_ (kb_ (by (with_reducible repeat (first|refine kn_ ?_ _|refine kd_ ?_|refine ka_ ?_ _));exact BK259.out) hb);have n1_:=A_ (bs_ (by repeat (first|(with_reducible first|exact HB.out|apply pa_|apply pn_|apply pd_|refine ps_ ?_ GE259.out)|exact HB.out)) hb);have n2_:=A_ (hbox);have n4_:=A_ ((by rw [hg];exact (bz_ (by repeat (first|(with_reducible first|exact HB.out|apply pa_|apply pn_|apply pd_|refine ps_ ?_ GE259.out)|exact HB.out))) : w.heap.size ≤ gb260));have n5_:=A_ ((by rw [hg];exact nl_ (kl_ (g:=gb259) (o:=.cells #[.slice A0_0 l0_0.length c0_0] 25 (0,0)) (by (with_reducible repeat (first|refine kn_ ?_ _|refine kd_ ?_|refine ka_ ?_ _));exact BK259.out)) : gb259 ≠ gb260));have n6_:=A_ ((by rw [hg];exact ng_ (kl_ (g:=gb259) (o:=.cells #[.slice A0_0 l0_0.length c0_0] 25 (0,0)) (by (with_reducible repeat (first|refine kn_ ?_ _|refine kd_ ?_|refine ka_ ?_ _));exact BK259.out)) : gb260 ≠ gb259));clear BK259;clear HB;have BK259:=n0_;have HB:=n1_;have BK260:=n2_;have GE260:=n4_;have NB259_260:=n5_;have NB260_259:=n6_;clear n0_ n1_ n2_ n4_ n5_ n6_;clear hb hbox hg))
 (try simp only [Act.put,s1_,s2_,s3_])
 go_cut [19] (fun v19 wc => ∃ (kq : Nat) (x19_2 : Bool),v19 = .bool x19_2 ∧ Aside0 (impl_ShelfMap.j0 kq x19_2 l0_0 l1_0 a1_1 a1_2 a1_3 l1_4 l1_5 a1_6 = some (r1,r2)) ∧ Aside0 (kq ≤ k) ∧ Aside0 (wc.heap[gb259]? = some (.cells #[(.slice A0_0 l0_0.length c0_0)] 25 (0,0))) ∧ Aside0 (wc.heap[gb260]? = some (.cells #[(.slice A1_0 l1_0.length c1_0),.int .i64 a1_1,.int .i64 a1_2,.int .i64 a1_3,(.slice A1_4 l1_4.length c1_4),(.slice A1_5 l1_5.length c1_5),.int .i64 a1_6] 51 (0,0))) ∧ Aside0 (Below w.heap.size w wc))
 case first =>
  have H:=HC3.out;clear HC3;replace H:=ob_.mp H;obtain ⟨t261,A60,H⟩:=H;replace H : (if t261 = true then ((impl_DirOk.f k l1_5).bind fun t262 => (impl_ShelfMap.j0 k (!t262) l0_0 l1_0 a1_1 a1_2 a1_3 l1_4 l1_5 a1_6)) else (impl_ShelfMap.j0 k true l0_0 l1_0 a1_1 a1_2 a1_3 l1_4 l1_5 a1_6)) = some (r1,r2):=H;have A6:=A_ A60;clear A60
  by_cases c7 : t261 = true
  ·subst c7
   have H1 : ((impl_DirOk.f k l1_5).bind fun t262 => (impl_ShelfMap.j0 k (!t262) l0_0 l1_0 a1_1 a1_2 a1_3 l1_4 l1_5 a1_6)) = some (r1,r2):=by rw [if_pos rfl] at H;exact H
   clear H;have H:=H1;clear H1;replace H:=ob_.mp H;obtain ⟨t262,A80,H⟩:=H;replace H : (impl_ShelfMap.j0 k (!t262) l0_0 l1_0 a1_1 a1_2 a1_3 l1_4 l1_5 a1_6) = some (r1,r2):=H;have A8:=A_ A80;clear A80;have H':=A_ H;clear H;have hnb9:=NB259_260.out;have hnc9:=NB260_259.out;have hcz10_0 : w5.cell? ⟨gb259,0,none⟩ = some (.slice A0_0 l0_0.length c0_0):=(kc_ BK259.out 0).trans rfl;have hfz10_0:=kf_ BK259.out 0
   go_wp2_with (first|((with_reducible refine gate_callee (f:=40) rfl ?_);refine goesL_ (some 12) rfl rfl Tryd.func40 (by kernel_rfl) rfl #[.agg #[.slice A0_0 l0_0.length c0_0]] rfl (by (try simp only [s4_,s5_,s6_]);first|done|rfl|(simp only [List.length_drop,List.length_take];rfl)) ?_;(with_reducible refine (impl_DiskOk.calls k _ _ l0_0 true _ ?side1 ?side2 A6.out).mono ?_);(case side1 => repeat (first|exact (Kd.C_below HR0_0.out HB.out)|(with_reducible refine Kd.C_alloc ?_ _)|(with_reducible refine Kd.C_drewN ?_ _)|(with_reducible refine Kd.C_drew ?_)));(case side2 => exact HC0_0.out);rintro e w11 ⟨rfl,hb⟩;refine ⟨_,rfl,?_⟩;replace BK259:=A_ (kb_ (by (with_reducible repeat (first|refine kn_ ?_ _|refine kd_ ?_|refine ka_ ?_ _));exact BK259.out) hb);replace BK260:=A_ (kb_ (by (with_reducible repeat (first|refine kn_ ?_ _|refine kd_ ?_|refine ka_ ?_ _));exact BK260.out) hb);replace HB:=A_ (bs_ (by repeat (first|(with_reducible first|exact HB.out|apply pa_|apply pn_|apply pd_|refine ps_ ?_ GE259.out|refine ps_ ?_ GE260.out)|exact HB.out)) hb);(try clear hb);(try clear hb2);(try clear hk);(try clear hi);have hcz12_0 : w11.cell? ⟨gb260,0,none⟩ = some (.slice A1_0 l1_0.length c1_0):=(kc_ BK260.out 0).trans rfl;have hcz12_1 : w11.cell? ⟨gb260,1,none⟩ = some (.int .i64 a1_1):=(kc_ BK260.out 1).trans rfl;have hcz12_2 : w11.cell? ⟨gb260,2,none⟩ = some (.int .i64 a1_2):=(kc_ BK260.out 2).trans rfl;have hcz12_3 : w11.cell? ⟨gb260,3,none⟩ = some (.int .i64 a1_3):=(kc_ BK260.out 3).trans rfl;have hcz12_4 : w11.cell? ⟨gb260,4,none⟩ = some (.slice A1_4 l1_4.length c1_4):=(kc_ BK260.out 4).trans rfl;have hcz12_5 : w11.cell? ⟨gb260,5,none⟩ = some (.slice A1_5 l1_5.length c1_5):=(kc_ BK260.out 5).trans rfl;have hcz12_6 : w11.cell? ⟨gb260,6,none⟩ = some (.int .i64 a1_6):=(kc_ BK260.out 6).trans rfl;have hfz12_0:=kf_ BK260.out 0;have hfz12_1:=kf_ BK260.out 1;have hfz12_2:=kf_ BK260.out 2;have hfz12_3:=kf_ BK260.out 3;have hfz12_4:=kf_ BK260.out 4;have hfz12_5:=kf_ BK260.out 5;have hfz12_6:=kf_ BK260.out 6)|(go_at_call 41;(with_reducible refine (impl_DirOk.calls k _ _ l1_5 t262 _ ?side1 ?side2 A8.out).mono ?_);(case side1 => repeat (first|exact (Kd.C_below HR1_5.out HB.out)|(with_reducible refine Kd.C_alloc ?_ _)|(with_reducible refine Kd.C_drewN ?_ _)|(with_reducible refine Kd.C_drew ?_)));(case side2 => exact HC1_5.out);rintro e w13 ⟨rfl,hb⟩;replace BK259:=A_ (kb_ (by (with_reducible repeat (first|refine kn_ ?_ _|refine kd_ ?_|refine ka_ ?_ _));exact BK259.out) hb);replace BK260:=A_ (kb_ (by (with_reducible repeat (first|refine kn_ ?_ _|refine kd_ ?_|refine ka_ ?_ _));exact BK260.out) hb);replace HB:=A_ (bs_ (by repeat (first|(with_reducible first|exact HB.out|apply pa_|apply pn_|apply pd_|refine ps_ ?_ GE259.out|refine ps_ ?_ GE260.out)|exact HB.out)) hb);(try clear hb);(try clear hb2);(try clear hk);(try clear hi)))
   go_meet
   case rel => exact ⟨_,(!t262),(by first|rfl|(simp;done)|(simp [*];done)),H',⟨by first|omega|exact Nat.le_refl _⟩,⟨by (with_reducible repeat (first|refine kn_ ?_ _|refine kd_ ?_|refine ka_ ?_ _));exact BK259.out⟩,⟨by (with_reducible repeat (first|refine kn_ ?_ _|refine kd_ ?_|refine ka_ ?_ _));exact BK260.out⟩,⟨by repeat (first|(with_reducible first|exact HB.out|apply pa_|apply pn_|apply pd_|refine ps_ ?_ GE259.out|refine ps_ ?_ GE260.out)|exact HB.out)⟩⟩
  ·replace c7:=Bool.eq_false_iff.mpr c7;subst c7
   have H1 : (impl_ShelfMap.j0 k true l0_0 l1_0 a1_1 a1_2 a1_3 l1_4 l1_5 a1_6) = some (r1,r2):=by rw [if_neg (show ¬ (false = true) by decide)] at H;exact H
   clear H;have H:=H1;clear H1;have H':=A_ H;clear H;have hnb14:=NB259_260.out;have hnc14:=NB260_259.out;have hcz15_0 : w5.cell? ⟨gb259,0,none⟩ = some (.slice A0_0 l0_0.length c0_0):=(kc_ BK259.out 0).trans rfl;have hfz15_0:=kf_ BK259.out 0
   go_wp2_with (first|((with_reducible refine gate_callee (f:=40) rfl ?_);refine goesL_ (some 12) rfl rfl Tryd.func40 (by kernel_rfl) rfl #[.agg #[.slice A0_0 l0_0.length c0_0]] rfl (by (try simp only [s4_,s5_,s6_]);first|done|rfl|(simp only [List.length_drop,List.length_take];rfl)) ?_;(with_reducible refine (impl_DiskOk.calls k _ _ l0_0 false _ ?side1 ?side2 A6.out).mono ?_);(case side1 => repeat (first|exact (Kd.C_below HR0_0.out HB.out)|(with_reducible refine Kd.C_alloc ?_ _)|(with_reducible refine Kd.C_drewN ?_ _)|(with_reducible refine Kd.C_drew ?_)));(case side2 => exact HC0_0.out);rintro e w16 ⟨rfl,hb⟩;refine ⟨_,rfl,?_⟩;replace BK259:=A_ (kb_ (by (with_reducible repeat (first|refine kn_ ?_ _|refine kd_ ?_|refine ka_ ?_ _));exact BK259.out) hb);replace BK260:=A_ (kb_ (by (with_reducible repeat (first|refine kn_ ?_ _|refine kd_ ?_|refine ka_ ?_ _));exact BK260.out) hb);replace HB:=A_ (bs_ (by repeat (first|(with_reducible first|exact HB.out|apply pa_|apply pn_|apply pd_|refine ps_ ?_ GE259.out|refine ps_ ?_ GE260.out)|exact HB.out)) hb);(try clear hb);(try clear hb2);(try clear hk);(try clear hi)))
   go_meet
   case rel => exact ⟨_,(true),(by first|rfl|(simp;done)|(simp [*];done)),H',⟨by first|omega|exact Nat.le_refl _⟩,⟨by (with_reducible repeat (first|refine kn_ ?_ _|refine kd_ ?_|refine ka_ ?_ _));exact BK259.out⟩,⟨by (with_reducible repeat (first|refine kn_ ?_ _|refine kd_ ?_|refine ka_ ?_ _));exact BK260.out⟩,⟨by repeat (first|(with_reducible first|exact HB.out|apply pa_|apply pn_|apply pd_|refine ps_ ?_ GE259.out|refine ps_ ?_ GE260.out)|exact HB.out)⟩⟩
 case rest =>
  clear HC3
  try clear c1
  try clear p2
  try clear c4
  try clear c7
  try clear c9
  try clear c14
  try clear hcz10_0
  try clear hcz12_0
  try clear hcz12_1
  try clear hcz12_2
  try clear hcz12_3
  try clear hcz12_4
  try clear hcz12_5
  try clear hcz12_6
  try clear hcz15_0
  try clear hfz10_0
  try clear hfz12_0
  try clear hfz12_1
  try clear hfz12_2
  try clear hfz12_3
  try clear hfz12_4
  try clear hfz12_5
  try clear hfz12_6
  try clear hfz15_0
  obtain ⟨kq,x19_2,rfl,HA,HJ2,BK259,BK260,HB⟩:=hcut
  cases kq with
  | zero => exact absurd HA.out (by simp [impl_ShelfMap.j0])
  | succ kj2 =>
   have H:=HA.out;clear HA;simp only [impl_ShelfMap.j0] at H
   by_cases c17 : x19_2 = true
   ·subst c17
    have H1 : (some (([] : List (S74)),false)) = some (r1,r2):=by rw [if_pos rfl] at H;exact H
    clear H;have H:=H1;clear H1;simp only [Option.some.injEq,Prod.mk.injEq] at H;obtain ⟨rfl,rfl⟩:=H;go_wp2;go_ret2;exact ⟨_,by first|rfl|(simp [*,errW_none,errW_some] <;> rfl),by first|exact Kd.R_nil _ _ _ _ _|exact Kd.N_nil _ _ _ _ _|exact Kd.V_nil _ _ _ _ _|exact Kd.Q_nil _ _ _ _ _|exact Kd.S_nil _ _ _ _ _,by repeat (first|(with_reducible first|exact HB.out|apply pa_|apply pn_|apply pd_|refine ps_ ?_ GE259.out|refine ps_ ?_ GE260.out)|exact HB.out)⟩
   ·replace c17:=Bool.eq_false_iff.mpr c17;subst c17
    have H1 : (impl_ShelfMap.l0 kj2 ([] : List (S74)) l1_5 (l1_5.length : Int) 0 l0_0) = some (r1,r2):=by rw [if_neg (show ¬ (false = true) by decide)] at H;exact H
    clear H;have H:=H1;clear H1;have H':=A_ H;clear H;have hnb18:=NB260_259.out;have hnc18:=NB259_260.out;have hcz19_0 : wc.cell? ⟨gb260,0,none⟩ = some (.slice A1_0 l1_0.length c1_0):=(kc_ BK260.out 0).trans rfl;have hcz19_1 : wc.cell? ⟨gb260,1,none⟩ = some (.int .i64 a1_1):=(kc_ BK260.out 1).trans rfl;have hcz19_2 : wc.cell? ⟨gb260,2,none⟩ = some (.int .i64 a1_2):=(kc_ BK260.out 2).trans rfl;have hcz19_3 : wc.cell? ⟨gb260,3,none⟩ = some (.int .i64 a1_3):=(kc_ BK260.out 3).trans rfl;have hcz19_4 : wc.cell? ⟨gb260,4,none⟩ = some (.slice A1_4 l1_4.length c1_4):=(kc_ BK260.out 4).trans rfl;have hcz19_5 : wc.cell? ⟨gb260,5,none⟩ = some (.slice A1_5 l1_5.length c1_5):=(kc_ BK260.out 5).trans rfl;have hcz19_6 : wc.cell? ⟨gb260,6,none⟩ = some (.int .i64 a1_6):=(kc_ BK260.out 6).trans rfl;have hfz19_0:=kf_ BK260.out 0;have hfz19_1:=kf_ BK260.out 1;have hfz19_2:=kf_ BK260.out 2;have hfz19_3:=kf_ BK260.out 3;have hfz19_4:=kf_ BK260.out 4;have hfz19_5:=kf_ BK260.out 5;have hfz19_6:=kf_ BK260.out 6;go_wp2
    go_loopg [6,23] kj2 (fun kq v6 v23 w' => ∃ (x6_2 : List (S74)) (x23_2 : Int),v23 = .int .i64 x23_2 ∧ Aside0 (impl_ShelfMap.l0 kq x6_2 l1_5 (l1_5.length : Int) x23_2 l0_0 = some (r1,r2)) ∧ Aside0 (kq ≤ kj2) ∧ Aside0 (Kd.R k74 74 w' w.heap.size (fun _ => True) v6 x6_2) ∧ Aside0 (w'.heap[gb259]? = some (.cells #[(.slice A0_0 l0_0.length c0_0)] 25 (0,0))) ∧ Aside0 (w'.heap[gb260]? = some (.cells #[(.slice A1_0 l1_0.length c1_0),.int .i64 a1_1,.int .i64 a1_2,.int .i64 a1_3,(.slice A1_4 l1_4.length c1_4),(.slice A1_5 l1_5.length c1_5),.int .i64 a1_6] 51 (0,0))) ∧ Aside0 (Below w.heap.size w w'))
    case atStart => exact ⟨(([] : List (S74))),(0),(by first|rfl|(simp;done)|(simp [*];done)),H',⟨Nat.le_refl _⟩,⟨by first|exact Kd.R_nil _ _ _ _ _|exact Kd.N_nil _ _ _ _ _|exact Kd.V_nil _ _ _ _ _|exact Kd.Q_nil _ _ _ _ _|exact Kd.S_nil _ _ _ _ _⟩,⟨by (with_reducible repeat (first|refine kn_ ?_ _|refine kd_ ?_|refine ka_ ?_ _));exact BK259.out⟩,⟨by (with_reducible repeat (first|refine kn_ ?_ _|refine kd_ ?_|refine ka_ ?_ _));exact BK260.out⟩,⟨by repeat (first|(with_reducible first|exact HB.out|apply pa_|apply pn_|apply pd_|refine ps_ ?_ GE259.out|refine ps_ ?_ GE260.out)|exact HB.out)⟩⟩
    case round =>
     clear H'
     try clear c1
     try clear p2
     try clear c4
     try clear c7
     try clear c9
     try clear c14
     try clear c17
     try clear c18
     try clear hcz10_0
     try clear hcz12_0
     try clear hcz12_1
     try clear hcz12_2
     try clear hcz12_3
     try clear hcz12_4
     try clear hcz12_5
     try clear hcz12_6
     try clear hcz15_0
     try clear hcz19_0
     try clear hcz19_1
     try clear hcz19_2
     try clear hcz19_3
     try clear hcz19_4
     try clear hcz19_5
     try clear hcz19_6
     try clear hfz10_0
     try clear hfz12_0
     try clear hfz12_1
     try clear hfz12_2
     try clear hfz12_3
     try clear hfz12_4
     try clear hfz12_5
     try clear hfz12_6
     try clear hfz15_0
     try clear hfz19_0
     try clear hfz19_1
     try clear hfz19_2
     try clear hfz19_3
     try clear hfz19_4
     try clear hfz19_5
     try clear hfz19_6
     try clear p2
     obtain ⟨x6_2,x23_2,rfl,HA,HK2,HO_6,BK259,BK260,HB⟩:=hrel
     cases gk with
     | zero => exact absurd HA.out (by simp [impl_ShelfMap.l0])
     | succ k2 =>
      have H:=HA.out;clear HA;simp only [impl_ShelfMap.l0] at H
      by_cases c20 : x23_2 < (l1_5.length : Int)
      ·rw [if_pos c20] at H;have c20b0 : decide (x23_2 < (l1_5.length : Int)) = true:=de_ c20;clear c20
       by_cases c21 : 0 ≤ x23_2
       ·rw [if_pos c21] at H;have c21b0 : decide (0 ≤ x23_2) = true:=de_ c21;clear c21
        by_cases c22 : x23_2 < (l1_5.length : Int)
        ·rw [if_pos c22] at H;have c22b0 : decide (x23_2 < (l1_5.length : Int)) = true:=de_ c22;clear c22;replace H:=ob_.mp H;obtain ⟨t265,A230,H⟩:=H;replace H : ((impl_FileAt.f k2 l0_0 t265).bind fun bt266 => (if (wrap64 (((rd_T71 l1_5 x23_2).f2) + ((rd_T71 l1_5 x23_2).f3))) > (bt266.1.size : Int) then (some (([] : List (S74)),false)) else (if 0 ≤ ((rd_T71 l1_5 x23_2).f2) then (if ((rd_T71 l1_5 x23_2).f2) ≤ (wrap64 (((rd_T71 l1_5 x23_2).f2) + ((rd_T71 l1_5 x23_2).f3))) then (if (wrap64 (((rd_T71 l1_5 x23_2).f2) + ((rd_T71 l1_5 x23_2).f3))) ≤ (bt266.1.size : Int) then (if x6_2.length < 4398046511104 then (impl_ShelfMap.l0 k2 (x6_2 ++ [(⟨(rd_T71 l1_5 x23_2).f0,bt266.1.extract (((rd_T71 l1_5 x23_2).f2) : Int).toNat ((wrap64 (((rd_T71 l1_5 x23_2).f2) + ((rd_T71 l1_5 x23_2).f3))) : Int).toNat⟩ : S74)]) l1_5 (l1_5.length : Int) (wrap64 (x23_2 + 1)) l0_0) else (none)) else (none)) else (none)) else (none)))) = some (r1,r2):=H;have A23:=A_ A230;clear A230;replace H:=ob_.mp H;obtain ⟨⟨t266,t267⟩,A240,H⟩:=H;replace H : (if (wrap64 (((rd_T71 l1_5 x23_2).f2) + ((rd_T71 l1_5 x23_2).f3))) > (t266.size : Int) then (some (([] : List (S74)),false)) else (if 0 ≤ ((rd_T71 l1_5 x23_2).f2) then (if ((rd_T71 l1_5 x23_2).f2) ≤ (wrap64 (((rd_T71 l1_5 x23_2).f2) + ((rd_T71 l1_5 x23_2).f3))) then (if (wrap64 (((rd_T71 l1_5 x23_2).f2) + ((rd_T71 l1_5 x23_2).f3))) ≤ (t266.size : Int) then (if x6_2.length < 4398046511104 then (impl_ShelfMap.l0 k2 (x6_2 ++ [(⟨(rd_T71 l1_5 x23_2).f0,t266.extract (((rd_T71 l1_5 x23_2).f2) : Int).toNat ((wrap64 (((rd_T71 l1_5 x23_2).f2) + ((rd_T71 l1_5 x23_2).f3))) : Int).toNat⟩ : S74)]) l1_5 (l1_5.length : Int) (wrap64 (x23_2 + 1)) l0_0) else (none)) else (none)) else (none)) else (none))) = some (r1,r2):=H;have A24:=A_ A240;clear A240;have HC25:=A_ H;clear H;have p263 : 0 ≤ (x23_2 : Int):=oda_;have q263 : x23_2 < (l1_5.length : Int):=oda_;obtain ⟨ad263,e263,hx263_0,hx263_1,hx263_2,hx263_3⟩:=at_T71 HR1_5.out x23_2 p263 q263
         cases e263
         replace hx263_0:=(HB.out.cell (wb_ w _ hx263_0)).trans hx263_0;replace hx263_1:=(HB.out.cell (wb_ w _ hx263_1)).trans hx263_1;replace hx263_2:=(HB.out.cell (wb_ w _ hx263_2)).trans hx263_2;replace hx263_3:=(HB.out.cell (wb_ w _ hx263_3)).trans hx263_3;replace p263:=eq_true p263;replace q263:=eq_true q263
         try go_wp2_with (first|((with_reducible refine gate_dst (N:=8) rfl ?_);refine box_event ?hg (N:=8) ?hd (cs:=#[.string (⟨#[]⟩ : ByteArray),.int .i64 0,.int .i64 0,.int .i64 0]) (t:=71) ?hr ?_;(case hd => rfl);(case hg => rfl);(case hr => first|(go_simp;done)|(go_simp;rfl));intro gb264 hg w26 hbox hb;have n0_:=A_ (rb_ (by (with_reducible repeat (first|apply ra_|apply rn_|apply Rd_));exact HO_6.out) hb);have n1_:=A_ (kb_ (by (with_reducible repeat (first|refine kn_ ?_ _|refine kd_ ?_|refine ka_ ?_ _));exact BK259.out) hb);have n2_:=A_ (kb_ (by (with_reducible repeat (first|refine kn_ ?_ _|refine kd_ ?_|refine ka_ ?_ _));exact BK260.out) hb);have n3_:=A_ (bs_ (by repeat (first|(with_reducible first|exact HB.out|apply pa_|apply pn_|apply pd_|refine ps_ ?_ GE259.out|refine ps_ ?_ GE260.out)|exact HB.out)) hb);have n4_:=A_ (hbox);have n6_:=A_ ((by rw [hg];exact (bz_ (by repeat (first|(with_reducible first|exact HB.out|apply pa_|apply pn_|apply pd_|refine ps_ ?_ GE259.out|refine ps_ ?_ GE260.out)|exact HB.out))) : w.heap.size ≤ gb264));have n7_:=A_ ((by rw [hg];exact nl_ (kl_ (g:=gb259) (o:=.cells #[.slice A0_0 l0_0.length c0_0] 25 (0,0)) (by (with_reducible repeat (first|refine kn_ ?_ _|refine kd_ ?_|refine ka_ ?_ _));exact BK259.out)) : gb259 ≠ gb264));have n8_:=A_ ((by rw [hg];exact ng_ (kl_ (g:=gb259) (o:=.cells #[.slice A0_0 l0_0.length c0_0] 25 (0,0)) (by (with_reducible repeat (first|refine kn_ ?_ _|refine kd_ ?_|refine ka_ ?_ _));exact BK259.out)) : gb264 ≠ gb259));have n9_:=A_ ((by rw [hg];exact nl_ (kl_ (g:=gb260) (o:=.cells #[.slice A1_0 l1_0.length c1_0,.int .i64 a1_1,.int .i64 a1_2,.int .i64 a1_3,.slice A1_4 l1_4.length c1_4,.slice (some ad263) l1_5.length c1_5,.int .i64 a1_6] 51 (0,0)) (by (with_reducible repeat (first|refine kn_ ?_ _|refine kd_ ?_|refine ka_ ?_ _));exact BK260.out)) : gb260 ≠ gb264));have n10_:=A_ ((by rw [hg];exact ng_ (kl_ (g:=gb260) (o:=.cells #[.slice A1_0 l1_0.length c1_0,.int .i64 a1_1,.int .i64 a1_2,.int .i64 a1_3,.slice A1_4 l1_4.length c1_4,.slice (some ad263) l1_5.length c1_5,.int .i64 a1_6] 51 (0,0)) (by (with_reducible repeat (first|refine kn_ ?_ _|refine kd_ ?_|refine ka_ ?_ _));exact BK260.out)) : gb264 ≠ gb260));clear HO_6;clear BK259;clear BK260;clear HB;have HO_6:=n0_;have BK259:=n1_;have BK260:=n2_;have HB:=n3_;have BK264:=n4_;have GE264:=n6_;have NB259_264:=n7_;have NB264_259:=n8_;have NB260_264:=n9_;have NB264_260:=n10_;clear n0_ n1_ n2_ n3_ n4_ n6_ n7_ n8_ n9_ n10_;clear hb hbox hg;have hnb27:=NB264_259.out;have hnc27:=NB259_264.out;have hnb28:=NB264_260.out;have hnc28:=NB260_264.out;have hcz29_0 : w26.cell? ⟨gb264,0,none⟩ = some (.string (⟨#[]⟩ : ByteArray)):=(kc_ BK264.out 0).trans rfl;have hcz29_1 : w26.cell? ⟨gb264,1,none⟩ = some (.int .i64 0):=(kc_ BK264.out 1).trans rfl;have hcz29_2 : w26.cell? ⟨gb264,2,none⟩ = some (.int .i64 0):=(kc_ BK264.out 2).trans rfl;have hcz29_3 : w26.cell? ⟨gb264,3,none⟩ = some (.int .i64 0):=(kc_ BK264.out 3).trans rfl;have hfz29_0:=kf_ BK264.out 0;have hfz29_1:=kf_ BK264.out 1;have hfz29_2:=kf_ BK264.out 2;have hfz29_3:=kf_ BK264.out 3))
         have n0_ : Aside0 (Kd.R k74 74 ((((w26.setCell ⟨gb264,0,none⟩ (.string ((rd_T71 l1_5 x23_2).f0))).setCell ⟨gb264,1,none⟩ (.int .i64 ((rd_T71 l1_5 x23_2).f1))).setCell ⟨gb264,2,none⟩ (.int .i64 ((rd_T71 l1_5 x23_2).f2))).setCell ⟨gb264,3,none⟩ (.int .i64 ((rd_T71 l1_5 x23_2).f3))) w.heap.size (fun _ => True) u6 x6_2):=⟨by (with_reducible repeat (first|apply ra_|apply rn_|apply Rd_));exact rm_ (rf_ (p:=⟨gb264,3,none⟩) (rf_ (p:=⟨gb264,2,none⟩) (rf_ (p:=⟨gb264,1,none⟩) (rf_ (p:=⟨gb264,0,none⟩) (Kd.R_types HO_6.out BK264.out (by decide)) (fun _ hk => hk.2) (.string ((rd_T71 l1_5 x23_2).f0))) (fun _ hk => hk.2) (.int .i64 ((rd_T71 l1_5 x23_2).f1))) (fun _ hk => hk.2) (.int .i64 ((rd_T71 l1_5 x23_2).f2))) (fun _ hk => hk.2) (.int .i64 ((rd_T71 l1_5 x23_2).f3))) (fun _ hk => trivial)⟩;have n1_ : Aside0 (((((w26.setCell ⟨gb264,0,none⟩ (.string ((rd_T71 l1_5 x23_2).f0))).setCell ⟨gb264,1,none⟩ (.int .i64 ((rd_T71 l1_5 x23_2).f1))).setCell ⟨gb264,2,none⟩ (.int .i64 ((rd_T71 l1_5 x23_2).f2))).setCell ⟨gb264,3,none⟩ (.int .i64 ((rd_T71 l1_5 x23_2).f3))).heap[gb259]? = some (.cells #[.slice A0_0 l0_0.length c0_0] 25 (0,0))):=⟨by (with_reducible repeat (first|refine kn_ ?_ _|refine kd_ ?_|refine ka_ ?_ _));refine kr_ ?_ NB259_264.out _;(with_reducible repeat (first|refine kn_ ?_ _|refine kd_ ?_|refine ka_ ?_ _));refine kr_ ?_ NB259_264.out _;(with_reducible repeat (first|refine kn_ ?_ _|refine kd_ ?_|refine ka_ ?_ _));refine kr_ ?_ NB259_264.out _;(with_reducible repeat (first|refine kn_ ?_ _|refine kd_ ?_|refine ka_ ?_ _));refine kr_ ?_ NB259_264.out _;(with_reducible repeat (first|refine kn_ ?_ _|refine kd_ ?_|refine ka_ ?_ _));exact BK259.out⟩;have n2_ : Aside0 (((((w26.setCell ⟨gb264,0,none⟩ (.string ((rd_T71 l1_5 x23_2).f0))).setCell ⟨gb264,1,none⟩ (.int .i64 ((rd_T71 l1_5 x23_2).f1))).setCell ⟨gb264,2,none⟩ (.int .i64 ((rd_T71 l1_5 x23_2).f2))).setCell ⟨gb264,3,none⟩ (.int .i64 ((rd_T71 l1_5 x23_2).f3))).heap[gb260]? = some (.cells #[.slice A1_0 l1_0.length c1_0,.int .i64 a1_1,.int .i64 a1_2,.int .i64 a1_3,.slice A1_4 l1_4.length c1_4,.slice (some ad263) l1_5.length c1_5,.int .i64 a1_6] 51 (0,0))):=⟨by (with_reducible repeat (first|refine kn_ ?_ _|refine kd_ ?_|refine ka_ ?_ _));refine kr_ ?_ NB260_264.out _;(with_reducible repeat (first|refine kn_ ?_ _|refine kd_ ?_|refine ka_ ?_ _));refine kr_ ?_ NB260_264.out _;(with_reducible repeat (first|refine kn_ ?_ _|refine kd_ ?_|refine ka_ ?_ _));refine kr_ ?_ NB260_264.out _;(with_reducible repeat (first|refine kn_ ?_ _|refine kd_ ?_|refine ka_ ?_ _));refine kr_ ?_ NB260_264.out _;(with_reducible repeat (first|refine kn_ ?_ _|refine kd_ ?_|refine ka_ ?_ _));exact BK260.out⟩;have n3_ : Aside0 (((((w26.setCell ⟨gb264,0,none⟩ (.string ((rd_T71 l1_5 x23_2).f0))).setCell ⟨gb264,1,none⟩ (.int .i64 ((rd_T71 l1_5 x23_2).f1))).setCell ⟨gb264,2,none⟩ (.int .i64 ((rd_T71 l1_5 x23_2).f2))).setCell ⟨gb264,3,none⟩ (.int .i64 ((rd_T71 l1_5 x23_2).f3))).heap[gb264]? = some (.cells #[.string ((rd_T71 l1_5 x23_2).f0),.int .i64 ((rd_T71 l1_5 x23_2).f1),.int .i64 ((rd_T71 l1_5 x23_2).f2),.int .i64 ((rd_T71 l1_5 x23_2).f3)] 71 (0,0))):=⟨by (with_reducible repeat (first|refine kn_ ?_ _|refine kd_ ?_|refine ka_ ?_ _));refine ku_ (cs:=#[.string ((rd_T71 l1_5 x23_2).f0),.int .i64 ((rd_T71 l1_5 x23_2).f1),.int .i64 ((rd_T71 l1_5 x23_2).f2),.int .i64 0]) ?_ 3 _ rfl;(with_reducible repeat (first|refine kn_ ?_ _|refine kd_ ?_|refine ka_ ?_ _));refine ku_ (cs:=#[.string ((rd_T71 l1_5 x23_2).f0),.int .i64 ((rd_T71 l1_5 x23_2).f1),.int .i64 0,.int .i64 0]) ?_ 2 _ rfl;(with_reducible repeat (first|refine kn_ ?_ _|refine kd_ ?_|refine ka_ ?_ _));refine ku_ (cs:=#[.string ((rd_T71 l1_5 x23_2).f0),.int .i64 0,.int .i64 0,.int .i64 0]) ?_ 1 _ rfl;(with_reducible repeat (first|refine kn_ ?_ _|refine kd_ ?_|refine ka_ ?_ _));refine ku_ (cs:=#[.string (⟨#[]⟩ : ByteArray),.int .i64 0,.int .i64 0,.int .i64 0]) ?_ 0 _ rfl;(with_reducible repeat (first|refine kn_ ?_ _|refine kd_ ?_|refine ka_ ?_ _));exact BK264.out⟩;have n4_ : Aside0 (Below w.heap.size w ((((w26.setCell ⟨gb264,0,none⟩ (.string ((rd_T71 l1_5 x23_2).f0))).setCell ⟨gb264,1,none⟩ (.int .i64 ((rd_T71 l1_5 x23_2).f1))).setCell ⟨gb264,2,none⟩ (.int .i64 ((rd_T71 l1_5 x23_2).f2))).setCell ⟨gb264,3,none⟩ (.int .i64 ((rd_T71 l1_5 x23_2).f3)))):=⟨by repeat (first|(with_reducible first|exact HB.out|apply pa_|apply pn_|apply pd_|refine ps_ ?_ GE259.out|refine ps_ ?_ GE260.out|refine ps_ ?_ GE264.out)|exact HB.out)⟩
         (try clear HO_6)
         (try clear BK259)
         (try clear BK260)
         (try clear BK264)
         (try clear HB)
         generalize ((((w26.setCell ⟨gb264,0,none⟩ (.string ((rd_T71 l1_5 x23_2).f0))).setCell ⟨gb264,1,none⟩ (.int .i64 ((rd_T71 l1_5 x23_2).f1))).setCell ⟨gb264,2,none⟩ (.int .i64 ((rd_T71 l1_5 x23_2).f2))).setCell ⟨gb264,3,none⟩ (.int .i64 ((rd_T71 l1_5 x23_2).f3))) = w30 at n0_ n1_ n2_ n3_ n4_ ⊢;have HO_6:=n0_;have BK259:=n1_;have BK260:=n2_;have BK264:=n3_;have HB:=n4_;clear n0_ n1_ n2_ n3_ n4_;replace HO_6:=A_ (Rd_ HO_6.out);replace BK259:=A_ (kd_ BK259.out);replace BK260:=A_ (kd_ BK260.out);replace BK264:=A_ (kd_ BK264.out);replace HB:=A_ (pd_ HB.out);refine start_ (n:=10) (S:=fun w' => w'.cell? ⟨gb259,0,none⟩ = some (.slice A0_0 l0_0.length c0_0) ∧ w'.cell? ⟨gb264,0,none⟩ = some (.string ((rd_T71 l1_5 x23_2).f0)) ∧ w'.cell? ⟨gb264,1,none⟩ = some (.int .i64 ((rd_T71 l1_5 x23_2).f1)) ∧ w'.cell? ⟨gb264,2,none⟩ = some (.int .i64 ((rd_T71 l1_5 x23_2).f2)) ∧ w'.cell? ⟨gb264,3,none⟩ = some (.int .i64 ((rd_T71 l1_5 x23_2).f3))) (ds:=[]) #[false,false,false,false,false,false,false,false,false,false] (by kernel_rfl) rfl rfl ⟨(kc_ BK259.out 0).trans rfl,(kc_ BK264.out 0).trans rfl,(kc_ BK264.out 1).trans rfl,(kc_ BK264.out 2).trans rfl,(kc_ BK264.out 3).trans rfl⟩ (fun hHeld => ?_);refine with_tabW impl_ShelfMap.tab7 impl_ShelfMap.bits7 (fun HT_ HW_ => ?_);generalize w30.drew = w31 at HO_6 BK259 BK260 BK264 HB hHeld ⊢;refine pure_ (i:=1) (N:=some 29) (v:=?_) (a':=?_) #[false,true,false,false,false,false,false,false,false,false] rfl rfl (any_of HT_.out (by kernel_rfl)) (fun _ _ _ h => h) (Or.inl ⟨by rfl,?_⟩) ?_ ?_;rotate_left
         ·intro w';go_simp;with_reducible rfl
         rotate_left
         ·simp only [Act.put,s1_,s2_,s3_,i64_w,i32_w];rfl
         refine take_ (i:=0) (N:=some 28) (v:=?_) (a':=?_) #[true,true,false,false,false,false,false,false,false,false] rfl rfl (take_ofW HT_.out HW_.out (by kernel_rfl)) (fun _ _ _ h => h) (Or.inl ⟨by rfl,?_⟩) hHeld ?_ ?_;rotate_left
         ·rintro w' ⟨s0,s1,s2,s3,s4⟩;go_simp;with_reducible rfl
         rotate_left
         ·simp only [Act.put,s1_,s2_,s3_,i64_w,i32_w];rfl
         refine take_ (i:=2) (N:=some 30) (v:=?_) (a':=?_) #[true,true,true,false,false,false,false,false,false,false] rfl rfl (take_ofW HT_.out HW_.out (by kernel_rfl)) (fun _ _ _ h => h) (Or.inl ⟨by rfl,?_⟩) hHeld ?_ ?_;rotate_left
         ·rintro w' ⟨s0,s1,s2,s3,s4⟩;go_simp;with_reducible rfl
         rotate_left
         ·simp only [Act.put,s1_,s2_,s3_,i64_w,i32_w];rfl
         refine one_ (i:=3) (N:=some 31) #[true,true,true,true,false,false,false,false,false,false] rfl rfl (one_of HT_.out (by kernel_rfl)) (by decide) (fun K hK => ?_);refine goes_ Tryd.func27 (by kernel_rfl) rfl #[.int .i64 ((rd_T71 l1_5 x23_2).f1)] (by rfl) rfl rfl (by (try simp only [s4_,s5_,s6_]);first|done|rfl|(simp only [List.length_drop,List.length_take];rfl)) ?_;with_reducible refine (impl_SegName.calls ((rd_T71 l1_5 x23_2).f1) t265 _ A23.out ?sideT).mono ?_
         case sideT => exact tb_on HT.out (by repeat (first|(with_reducible first|exact HB.out|apply pa_|apply pn_|apply pd_|refine ps_ ?_ GE259.out|refine ps_ ?_ GE260.out|refine ps_ ?_ GE264.out)|exact HB.out))
         rintro e w32 ⟨rfl,hb⟩;refine ⟨_,rfl,?_⟩;replace HO_6:=A_ (rb_ (by (with_reducible repeat (first|apply ra_|apply rn_|apply Rd_));exact HO_6.out) hb);replace BK259:=A_ (kb_ (by (with_reducible repeat (first|refine kn_ ?_ _|refine kd_ ?_|refine ka_ ?_ _));exact BK259.out) hb);replace BK260:=A_ (kb_ (by (with_reducible repeat (first|refine kn_ ?_ _|refine kd_ ?_|refine ka_ ?_ _));exact BK260.out) hb);replace BK264:=A_ (kb_ (by (with_reducible repeat (first|refine kn_ ?_ _|refine kd_ ?_|refine ka_ ?_ _));exact BK264.out) hb);replace HB:=A_ (bs_ (by repeat (first|(with_reducible first|exact HB.out|apply pa_|apply pn_|apply pd_|refine ps_ ?_ GE259.out|refine ps_ ?_ GE260.out|refine ps_ ?_ GE264.out)|exact HB.out)) hb)
         (try clear hb)
         (try clear hb2)
         (try clear hk)
         (try clear hi)
         refine hK.out _ _ ⟨(kc_ BK259.out 0).trans rfl,(kc_ BK264.out 0).trans rfl,(kc_ BK264.out 1).trans rfl,(kc_ BK264.out 2).trans rfl,(kc_ BK264.out 3).trans rfl⟩ (fun hHeld => ?_);clear hK K;refine norm_ (a':=?_) ?_ ?_;rotate_left
         ·show Act.put _ (some 31) _ = _;simp only [Act.put,s1_,s2_,s3_,i64_w,i32_w];rfl
         refine one_ (i:=4) (N:=some 32) #[true,true,true,true,true,false,false,false,false,false] rfl rfl (one_of HT_.out (by kernel_rfl)) (by decide) (fun K hK => ?_);refine goes_ Tryd.func42 (by kernel_rfl) rfl #[.agg #[.slice A0_0 l0_0.length c0_0],.string t265] (by rfl) rfl rfl (by (try simp only [s4_,s5_,s6_]);first|done|rfl|(simp only [List.length_drop,List.length_take];rfl)) ?_;with_reducible refine (impl_FileAt.calls k2 _ _ l0_0 t265 t266 t267 _ ?side1 ?side2 A24.out).mono ?_
         (case side1 => repeat (first|exact (Kd.C_below HR0_0.out HB.out)|(with_reducible refine Kd.C_alloc ?_ _)|(with_reducible refine Kd.C_drewN ?_ _)|(with_reducible refine Kd.C_drew ?_)))
         (case side2 => exact HC0_0.out)
         rintro e w33 ⟨rfl,hb⟩;refine ⟨_,rfl,?_⟩;replace HO_6:=A_ (rb_ (by (with_reducible repeat (first|apply ra_|apply rn_|apply Rd_));exact HO_6.out) hb);replace BK259:=A_ (kb_ (by (with_reducible repeat (first|refine kn_ ?_ _|refine kd_ ?_|refine ka_ ?_ _));exact BK259.out) hb);replace BK260:=A_ (kb_ (by (with_reducible repeat (first|refine kn_ ?_ _|refine kd_ ?_|refine ka_ ?_ _));exact BK260.out) hb);replace BK264:=A_ (kb_ (by (with_reducible repeat (first|refine kn_ ?_ _|refine kd_ ?_|refine ka_ ?_ _));exact BK264.out) hb);replace HB:=A_ (bs_ (by repeat (first|(with_reducible first|exact HB.out|apply pa_|apply pn_|apply pd_|refine ps_ ?_ GE259.out|refine ps_ ?_ GE260.out|refine ps_ ?_ GE264.out)|exact HB.out)) hb)
         (try clear hb)
         (try clear hb2)
         (try clear hk)
         (try clear hi)
         refine hK.out _ _ ⟨(kc_ BK259.out 0).trans rfl,(kc_ BK264.out 0).trans rfl,(kc_ BK264.out 1).trans rfl,(kc_ BK264.out 2).trans rfl,(kc_ BK264.out 3).trans rfl⟩ (fun hHeld => ?_);clear hK K;refine norm_ (a':=?_) ?_ ?_;rotate_left
         ·show Act.put _ (some 32) _ = _;simp only [Act.put,s1_,s2_,s3_,i64_w,i32_w];rfl
         refine pure_ (i:=5) (N:=some 27) (v:=?_) (a':=?_) #[true,true,true,true,true,true,false,false,false,false] rfl rfl (any_of HT_.out (by kernel_rfl)) (fun _ _ _ h => h) (Or.inl ⟨by rfl,?_⟩) ?_ ?_;rotate_left
         ·intro w';go_simp;with_reducible rfl
         rotate_left
         ·simp only [Act.put,s1_,s2_,s3_,i64_w,i32_w];rfl
         refine pure_ (i:=6) (N:=some 33) (v:=?_) (a':=?_) #[true,true,true,true,true,true,true,false,false,false] rfl rfl (any_of HT_.out (by kernel_rfl)) (fun _ _ _ h => h) (Or.inl ⟨by rfl,?_⟩) ?_ ?_;rotate_left
         ·intro w';go_simp;with_reducible rfl
         rotate_left
         ·simp only [Act.put,s1_,s2_,s3_,i64_w,i32_w];rfl
         refine pure_ (i:=7) (N:=some 34) (v:=?_) (a':=?_) #[true,true,true,true,true,true,true,true,false,false] rfl rfl (any_of HT_.out (by kernel_rfl)) (fun _ _ _ h => h) (Or.inl ⟨by rfl,?_⟩) ?_ ?_;rotate_left
         ·intro w';go_simp;with_reducible rfl
         rotate_left
         ·simp only [Act.put,s1_,s2_,s3_,i64_w,i32_w];rfl
         refine pure_ (i:=8) (N:=some 9) (v:=?_) (a':=?_) #[true,true,true,true,true,true,true,true,true,false] rfl rfl (any_of HT_.out (by kernel_rfl)) (fun _ _ _ h => h) (Or.inl ⟨by rfl,?_⟩) ?_ ?_;rotate_left
         ·intro w';go_simp;with_reducible rfl
         rotate_left
         ·simp only [Act.put,s1_,s2_,s3_,i64_w,i32_w];rfl
         refine pure_ (i:=9) (N:=some 10) (v:=?_) (a':=?_) #[true,true,true,true,true,true,true,true,true,true] rfl rfl (any_of HT_.out (by kernel_rfl)) (fun _ _ _ h => h) (Or.inl ⟨by rfl,?_⟩) ?_ ?_;rotate_left
         ·intro w';go_simp;with_reducible rfl
         rotate_left
         ·simp only [Act.put,s1_,s2_,s3_,i64_w,i32_w];rfl
         refine done_ (done_of HT_.out (by kernel_rfl)) ?_;have hcz34_0 : w33.cell? ⟨gb264,0,none⟩ = some (.string ((rd_T71 l1_5 x23_2).f0)):=(kc_ BK264.out 0).trans rfl;have hcz34_1 : w33.cell? ⟨gb264,1,none⟩ = some (.int .i64 ((rd_T71 l1_5 x23_2).f1)):=(kc_ BK264.out 1).trans rfl;have hcz34_2 : w33.cell? ⟨gb264,2,none⟩ = some (.int .i64 ((rd_T71 l1_5 x23_2).f2)):=(kc_ BK264.out 2).trans rfl;have hcz34_3 : w33.cell? ⟨gb264,3,none⟩ = some (.int .i64 ((rd_T71 l1_5 x23_2).f3)):=(kc_ BK264.out 3).trans rfl;have hfz34_0:=kf_ BK264.out 0;have hfz34_1:=kf_ BK264.out 1;have hfz34_2:=kf_ BK264.out 2;have hfz34_3:=kf_ BK264.out 3
         go_upto_if 42 with (fail)
         have H:=HC25.out;clear HC25
         by_cases c35 : (wrap64 (((rd_T71 l1_5 x23_2).f2) + ((rd_T71 l1_5 x23_2).f3))) > (t266.size : Int)
         ·rw [if_pos c35] at H;have c35b0 : decide ((t266.size : Int) < (wrap64 (((rd_T71 l1_5 x23_2).f2) + ((rd_T71 l1_5 x23_2).f3)))) = true:=de_ c35;clear c35
          (first|rw [c35b0]|(simp only [i64_w,i32_w];rw [c35b0])|skip)
          simp only [Option.some.injEq,Prod.mk.injEq] at H;obtain ⟨rfl,rfl⟩:=H;go_wp2;go_ret2;exact ⟨_,by first|rfl|(simp [*,errW_none,errW_some] <;> rfl),by first|exact Kd.R_nil _ _ _ _ _|exact Kd.N_nil _ _ _ _ _|exact Kd.V_nil _ _ _ _ _|exact Kd.Q_nil _ _ _ _ _|exact Kd.S_nil _ _ _ _ _,by repeat (first|(with_reducible first|exact HB.out|apply pa_|apply pn_|apply pd_|refine ps_ ?_ GE259.out|refine ps_ ?_ GE260.out|refine ps_ ?_ GE264.out)|exact HB.out)⟩
         ·rw [if_neg c35] at H;have c35b0 : decide ((t266.size : Int) < (wrap64 (((rd_T71 l1_5 x23_2).f2) + ((rd_T71 l1_5 x23_2).f3)))) = false:=decide_eq_false c35;clear c35
          (first|rw [c35b0]|(simp only [i64_w,i32_w];rw [c35b0])|skip)
          by_cases c36 : 0 ≤ ((rd_T71 l1_5 x23_2).f2)
          ·rw [if_pos c36] at H;have c36b0:=eq_true c36;have c36b1 : decide (0 ≤ ((rd_T71 l1_5 x23_2).f2)) = true:=de_ c36;clear c36
           by_cases c37 : ((rd_T71 l1_5 x23_2).f2) ≤ (wrap64 (((rd_T71 l1_5 x23_2).f2) + ((rd_T71 l1_5 x23_2).f3)))
           ·rw [if_pos c37] at H;have c37b0:=eq_true c37;have c37b1 : decide (((rd_T71 l1_5 x23_2).f2) ≤ (wrap64 (((rd_T71 l1_5 x23_2).f2) + ((rd_T71 l1_5 x23_2).f3)))) = true:=de_ c37
            by_cases c38 : (wrap64 (((rd_T71 l1_5 x23_2).f2) + ((rd_T71 l1_5 x23_2).f3))) ≤ (t266.size : Int)
            ·rw [if_pos c38] at H;have c38b0:=eq_true c38;have c38b1 : decide ((wrap64 (((rd_T71 l1_5 x23_2).f2) + ((rd_T71 l1_5 x23_2).f3))) ≤ (t266.size : Int)) = true:=de_ c38
             by_cases c39 : x6_2.length < 4398046511104
             ·rw [if_pos c39] at H;have LMc39:=A_ c39;clear c39;obtain ⟨y268,hy268⟩ : ∃ y_ : List (S74),y_ = (x6_2 ++ [(⟨(rd_T71 l1_5 x23_2).f0,t266.extract (((rd_T71 l1_5 x23_2).f2) : Int).toNat ((wrap64 (((rd_T71 l1_5 x23_2).f2) + ((rd_T71 l1_5 x23_2).f3))) : Int).toNat⟩ : S74)]):=⟨_,rfl⟩
              replace H : (impl_ShelfMap.l0 k2 y268 l1_5 (l1_5.length : Int) (wrap64 (x23_2 + 1)) l0_0) = some (r1,r2):=by first|(rw [hy268];with_reducible exact H)|(have H2_:=(Option.bind_some _ _).symm.trans H;rw [hy268];with_reducible exact H2_)|(have H2_:=(Option.bind_some _ _).symm.trans H;with_reducible exact H2_)|with_reducible exact H|(rw [hy268];exact H)|exact H
              have Ny268:=A_ hy268;clear hy268;have H':=A_ H;clear H
              try go_wp2
              replace HO_6:=A_ (Rd_ HO_6.out);replace BK259:=A_ (kd_ BK259.out);replace BK260:=A_ (kd_ BK260.out);replace BK264:=A_ (kd_ BK264.out);replace HB:=A_ (pd_ HB.out);refine start_ (n:=16) (S:=fun w' => w'.cell? ⟨gb264,0,none⟩ = some (.string ((rd_T71 l1_5 x23_2).f0)) ∧ w'.cell? ⟨gb264,1,none⟩ = some (.int .i64 ((rd_T71 l1_5 x23_2).f1)) ∧ w'.cell? ⟨gb264,2,none⟩ = some (.int .i64 ((rd_T71 l1_5 x23_2).f2)) ∧ w'.cell? ⟨gb264,3,none⟩ = some (.int .i64 ((rd_T71 l1_5 x23_2).f3))) (ds:=[]) #[false,false,false,false,false,false,false,false,false,false,false,false,false,false,false,false] (by kernel_rfl) rfl rfl ⟨(kc_ BK264.out 0).trans rfl,(kc_ BK264.out 1).trans rfl,(kc_ BK264.out 2).trans rfl,(kc_ BK264.out 3).trans rfl⟩ (fun hHeld => ?_);refine with_tabW impl_ShelfMap.tab10 impl_ShelfMap.bits10 (fun HT_ HW_ => ?_);generalize w33.drew = w40 at HO_6 BK259 BK260 BK264 HB hHeld ⊢;refine pure_ (i:=0) (N:=some 43) (v:=?_) (a':=?_) #[true,false,false,false,false,false,false,false,false,false,false,false,false,false,false,false] rfl rfl (any_of HT_.out (by kernel_rfl)) (fun _ _ _ h => h) (Or.inl ⟨by rfl,?_⟩) ?_ ?_;rotate_left
              ·intro w';go_simp;with_reducible rfl
              rotate_left
              ·simp only [Act.put,s1_,s2_,s3_,i64_w,i32_w];rfl
              refine pure_ (i:=1) (N:=some 44) (v:=?_) (a':=?_) #[true,true,false,false,false,false,false,false,false,false,false,false,false,false,false,false] rfl rfl (any_of HT_.out (by kernel_rfl)) (fun _ _ _ h => h) (Or.inl ⟨by rfl,?_⟩) ?_ ?_;rotate_left
              ·intro w';go_simp;with_reducible rfl
              rotate_left
              ·simp only [Act.put,s1_,s2_,s3_,i64_w,i32_w];rfl
              refine pure_ (i:=3) (N:=some 46) (v:=?_) (a':=?_) #[true,true,false,true,false,false,false,false,false,false,false,false,false,false,false,false] rfl rfl (any_of HT_.out (by kernel_rfl)) (fun _ _ _ h => h) (Or.inl ⟨by rfl,?_⟩) ?_ ?_;rotate_left
              ·intro w';go_simp;with_reducible rfl
              rotate_left
              ·simp only [Act.put,s1_,s2_,s3_,i64_w,i32_w];rfl
              refine pure_ (i:=4) (N:=some 47) (v:=?_) (a':=?_) #[true,true,false,true,true,false,false,false,false,false,false,false,false,false,false,false] rfl rfl (any_of HT_.out (by kernel_rfl)) (fun _ _ _ h => h) (Or.inl ⟨by rfl,?_⟩) ?_ ?_;rotate_left
              ·intro w';go_simp;with_reducible rfl
              rotate_left
              ·simp only [Act.put,s1_,s2_,s3_,i64_w,i32_w];rfl
              refine pure_ (i:=6) (N:=some 49) (v:=?_) (a':=?_) #[true,true,false,true,true,false,true,false,false,false,false,false,false,false,false,false] rfl rfl (any_of HT_.out (by kernel_rfl)) (fun _ _ _ h => h) (Or.inl ⟨by rfl,?_⟩) ?_ ?_;rotate_left
              ·intro w';go_simp;with_reducible rfl
              rotate_left
              ·simp only [Act.put,s1_,s2_,s3_,i64_w,i32_w];rfl
              refine pure_ (i:=8) (N:=some 51) (v:=?_) (a':=?_) #[true,true,false,true,true,false,true,false,true,false,false,false,false,false,false,false] rfl rfl (any_of HT_.out (by kernel_rfl)) (fun _ _ _ h => h) (Or.inl ⟨by rfl,?_⟩) ?_ ?_;rotate_left
              ·intro w';go_simp;with_reducible rfl
              rotate_left
              ·simp only [Act.put,s1_,s2_,s3_,i64_w,i32_w];rfl
              refine take_ (i:=2) (N:=some 45) (v:=?_) (a':=?_) #[true,true,true,true,true,false,true,false,true,false,false,false,false,false,false,false] rfl rfl (take_ofW HT_.out HW_.out (by kernel_rfl)) (fun _ _ _ h => h) (Or.inl ⟨by rfl,?_⟩) hHeld ?_ ?_;rotate_left
              ·rintro w' ⟨s0,s1,s2,s3⟩;go_simp;with_reducible rfl
              rotate_left
              ·simp only [Act.put,s1_,s2_,s3_,i64_w,i32_w];rfl
              refine take_ (i:=5) (N:=some 48) (v:=?_) (a':=?_) #[true,true,true,true,true,true,true,false,true,false,false,false,false,false,false,false] rfl rfl (take_ofW HT_.out HW_.out (by kernel_rfl)) (fun _ _ _ h => h) (Or.inl ⟨by rfl,?_⟩) hHeld ?_ ?_;rotate_left
              ·rintro w' ⟨s0,s1,s2,s3⟩;go_simp;with_reducible rfl
              rotate_left
              ·simp only [Act.put,s1_,s2_,s3_,i64_w,i32_w];rfl
              refine take_ (i:=7) (N:=some 50) (v:=?_) (a':=?_) #[true,true,true,true,true,true,true,true,true,false,false,false,false,false,false,false] rfl rfl (take_ofW HT_.out HW_.out (by kernel_rfl)) (fun _ _ _ h => h) (Or.inl ⟨by rfl,?_⟩) hHeld ?_ ?_;rotate_left
              ·rintro w' ⟨s0,s1,s2,s3⟩;go_simp;with_reducible rfl
              rotate_left
              ·simp only [Act.put,s1_,s2_,s3_,i64_w,i32_w];rfl
              refine take_ (i:=9) (N:=some 52) (v:=?_) (a':=?_) #[true,true,true,true,true,true,true,true,true,true,false,false,false,false,false,false] rfl rfl (take_ofW HT_.out HW_.out (by kernel_rfl)) (fun _ _ _ h => h) (Or.inl ⟨by rfl,?_⟩) hHeld ?_ ?_;rotate_left
              ·rintro w' ⟨s0,s1,s2,s3⟩;go_simp;with_reducible rfl
              rotate_left
              ·simp only [Act.put,s1_,s2_,s3_,i64_w,i32_w];rfl
              refine pure_ (i:=10) (N:=some 53) (v:=?_) (a':=?_) #[true,true,true,true,true,true,true,true,true,true,true,false,false,false,false,false] rfl rfl (any_of HT_.out (by kernel_rfl)) (fun _ _ _ h => h) (Or.inl ⟨by rfl,?_⟩) ?_ ?_;rotate_left
              ·intro w';go_simp;with_reducible rfl
              rotate_left
              ·simp only [Act.put,s1_,s2_,s3_,i64_w,i32_w];rfl
              refine pure_ (i:=11) (N:=some 54) (v:=?_) (a':=?_) #[true,true,true,true,true,true,true,true,true,true,true,true,false,false,false,false] rfl rfl (any_of HT_.out (by kernel_rfl)) (fun _ _ _ h => h) (Or.inl ⟨by rfl,?_⟩) ?_ ?_;rotate_left
              ·intro w';go_simp;with_reducible rfl
              rotate_left
              ·simp only [Act.put,s1_,s2_,s3_,i64_w,i32_w];rfl
              refine pure_ (i:=12) (N:=some 55) (v:=?_) (a':=?_) #[true,true,true,true,true,true,true,true,true,true,true,true,true,false,false,false] rfl rfl (any_of HT_.out (by kernel_rfl)) (fun _ _ _ h => h) (Or.inl ⟨by rfl,?_⟩) ?_ ?_;rotate_left
              ·intro w';go_simp;with_reducible rfl
              rotate_left
              ·simp only [Act.put,s1_,s2_,s3_,i64_w,i32_w];rfl
              refine one_ (i:=13) (N:=some 56) #[true,true,true,true,true,true,true,true,true,true,true,true,true,true,false,false] rfl rfl (one_of HT_.out (by kernel_rfl)) (by decide) (fun K hK => ?_);refine value_ (w1:=?_) (v:=?_) (by rfl) rfl ?_ ?_;rotate_left 2
              ·go_simp
               constructor
               ·rfl
               ·rfl
              refine hK.out _ _ ⟨(kc_ (ka_ BK264.out _) 0).trans rfl,(kc_ (ka_ BK264.out _) 1).trans rfl,(kc_ (ka_ BK264.out _) 2).trans rfl,(kc_ (ka_ BK264.out _) 3).trans rfl⟩ (fun hHeld => ?_);clear hK K;refine norm_ (a':=?_) ?_ ?_;rotate_left
              ·show Act.put _ (some 56) _ = _;simp only [Act.put,s1_,s2_,s3_,i64_w,i32_w];rfl
              refine one_ (i:=14) (N:=some 57) #[true,true,true,true,true,true,true,true,true,true,true,true,true,true,true,false] rfl rfl (one_of HT_.out (by kernel_rfl)) (by decide) (fun K hK => ?_);refine Kd.R_append_step k74 (w0:=w) w.heap.size (by rfl) (.tmp 43) (.tmp 56) 44 74 (.agg #[(.string ⟨#[]⟩),(.string ⟨#[]⟩)]) 32 rfl Tryd.underlying44 info74 rfl (by decide) (by omega) u6 x6_2 (⟨(rd_T71 l1_5 x23_2).f0,t266.extract (((rd_T71 l1_5 x23_2).f2) : Int).toNat ((wrap64 (((rd_T71 l1_5 x23_2).f2) + ((rd_T71 l1_5 x23_2).f3))) : Int).toNat⟩ : S74) [.string ((rd_T71 l1_5 x23_2).f0),.string (t266.extract (((rd_T71 l1_5 x23_2).f2) : Int).toNat ((wrap64 (((rd_T71 l1_5 x23_2).f2) + ((rd_T71 l1_5 x23_2).f3))) : Int).toNat)] (fun _ => True) (fun _ => False) rfl rfl ?aP (fun _ hk => hk.elim) ?aF ?aO ?aB ?aS ?aL ?_
              (case aP => exact k74_mkM _ _ _ (⟨(rd_T71 l1_5 x23_2).f0,t266.extract (((rd_T71 l1_5 x23_2).f2) : Int).toNat ((wrap64 (((rd_T71 l1_5 x23_2).f2) + ((rd_T71 l1_5 x23_2).f3))) : Int).toNat⟩ : S74))
              (case aB => exact (by repeat (first|(with_reducible first|exact HB.out|apply pa_|apply pn_|apply pd_|refine ps_ ?_ GE259.out|refine ps_ ?_ GE260.out|refine ps_ ?_ GE264.out)|exact HB.out)))
              (case aF => exact (fun _ _ => trivial))
              (case aO => exact (by (with_reducible repeat (first|apply ra_|apply rn_|apply Rd_));exact HO_6.out))
              (case aS => exact (bz_ (by repeat (first|(with_reducible first|exact HB.out|apply pa_|apply pn_|apply pd_|refine ps_ ?_ GE259.out|refine ps_ ?_ GE260.out|refine ps_ ?_ GE264.out)|exact HB.out))))
              (case aL => have:=LMc39.out;omega)
              intro v269 w41 ho hb hg hat;rw [← Ny268.out] at ho;replace BK259:=A_ (kg_ (by (with_reducible repeat (first|refine kn_ ?_ _|refine kd_ ?_|refine ka_ ?_ _));exact BK259.out) hg (re_ HO_6.out BK259.out (by decide)));replace BK260:=A_ (kg_ (by (with_reducible repeat (first|refine kn_ ?_ _|refine kd_ ?_|refine ka_ ?_ _));exact BK260.out) hg (re_ HO_6.out BK260.out (by decide)));replace BK264:=A_ (kg_ (by (with_reducible repeat (first|refine kn_ ?_ _|refine kd_ ?_|refine ka_ ?_ _));exact BK264.out) hg (re_ HO_6.out BK264.out (by decide)));replace HB:=A_ (hb);have HO270:=A_ (ho);clear HO_6;clear ho hb hg hat;refine hK.out _ _ ⟨(kc_ BK264.out 0).trans rfl,(kc_ BK264.out 1).trans rfl,(kc_ BK264.out 2).trans rfl,(kc_ BK264.out 3).trans rfl⟩ (fun hHeld => ?_);clear hK K;refine norm_ (a':=?_) ?_ ?_;rotate_left
              ·show Act.put _ (some 57) _ = _;simp only [Act.put,s1_,s2_,s3_,i64_w,i32_w];rfl
              refine pure_ (i:=15) (N:=some 6) (v:=?_) (a':=?_) #[true,true,true,true,true,true,true,true,true,true,true,true,true,true,true,true] rfl rfl (any_of HT_.out (by kernel_rfl)) (fun _ _ _ h => h) (Or.inl ⟨by rfl,?_⟩) ?_ ?_;rotate_left
              ·intro w';go_simp;with_reducible rfl
              rotate_left
              ·simp only [Act.put,s1_,s2_,s3_,i64_w,i32_w];rfl
              refine done_ (done_of HT_.out (by kernel_rfl)) ?_
              try go_wp2
              go_roundg k2
              case measure => have:=HJ2.out;have:=HK2.out;omega
              case rel => exact ⟨(y268),(wrap64 (x23_2 + 1)),(by first|rfl|(simp;done)|(simp [*];done)),H',⟨by have:=HJ2.out;have:=HK2.out;omega⟩,⟨by (with_reducible repeat (first|apply ra_|apply rn_|apply Rd_));exact HO270.out⟩,⟨by (with_reducible repeat (first|refine kn_ ?_ _|refine kd_ ?_|refine ka_ ?_ _));exact BK259.out⟩,⟨by (with_reducible repeat (first|refine kn_ ?_ _|refine kd_ ?_|refine ka_ ?_ _));exact BK260.out⟩,⟨by repeat (first|(with_reducible first|exact HB.out|apply pa_|apply pn_|apply pd_|refine ps_ ?_ GE259.out|refine ps_ ?_ GE260.out|refine ps_ ?_ GE264.out)|exact HB.out)⟩⟩
             ·rw [if_neg c39] at H;exact absurd H (by simp)
            ·rw [if_neg c38] at H;exact absurd H (by simp)
           ·rw [if_neg c37] at H;exact absurd H (by simp)
          ·rw [if_neg c36] at H;exact absurd H (by simp)
        ·rw [if_neg c22] at H;exact absurd H (by simp)
       ·rw [if_neg c21] at H;exact absurd H (by simp)
      ·rw [if_neg c20] at H;have c20b0 : decide (x23_2 < (l1_5.length : Int)) = false:=decide_eq_false c20;clear c20;simp only [Option.some.injEq,Prod.mk.injEq] at H;obtain ⟨rfl,rfl⟩:=H;go_wp2;go_ret2;exact ⟨_,by first|rfl|(simp [*,errW_none,errW_some] <;> rfl),by (with_reducible repeat (first|apply ra_|apply rn_|apply Rd_));exact HO_6.out,by repeat (first|(with_reducible first|exact HB.out|apply pa_|apply pn_|apply pd_|refine ps_ ?_ GE259.out|refine ps_ ?_ GE260.out)|exact HB.out)⟩
def laws_eqPair.f (a0_0 : ByteArray) (a0_1 : ByteArray) (a1_0 : ByteArray) (a1_1 : ByteArray) : Option (Bool) := if a0_0.toList = a1_0.toList then (if a0_1.toList = a1_1.toList then (some true) else (some false)) else (some false)
set_option maxHeartbeats 8000000 in
set_option maxRecDepth 100000 in
theorem laws_eqPair.calls (a0_0 : ByteArray) (a0_1 : ByteArray) (a1_0 : ByteArray) (a1_1 : ByteArray) (r : Bool) (w : World) (h : laws_eqPair.f a0_0 a0_1 a1_0 a1_1 = some r) :
  Calls Tryd.prog 43 #[.agg #[.string a0_0,.string a0_1],.agg #[.string a1_0,.string a1_1]] w fun e w' => e = .returned (.bool r) ∧ Below w.heap.size w w':=by
 have hu74:=Tryd.underlying74;have HB:=A_ (Below.refl w.heap.size w);have H : (if a0_0.toList = a1_0.toList then (if a0_1.toList = a1_1.toList then (some true) else (some false)) else (some false)) = some r:=h;clear h;have HC3:=A_ H;clear H;go_enter Tryd.func43,Tryd.ntmps43
 go_upto_if 9 with (first|((with_reducible refine gate_dst (N:=2) rfl ?_);refine box_event ?hg (N:=2) ?hd (cs:=#[.string a0_0,.string a0_1]) (t:=74) ?hr ?_;(case hd => rfl);(case hg => rfl);(case hr => first|(go_simp;done)|(go_simp;rfl));intro gb271 hg w4 hbox hb;have n0_:=A_ (bs_ (by repeat (first|(with_reducible first|exact HB.out|apply pa_|apply pn_|apply pd_)|exact HB.out)) hb);have n1_:=A_ (hbox);have n3_:=A_ ((by rw [hg];exact (bz_ (by repeat (first|(with_reducible first|exact HB.out|apply pa_|apply pn_|apply pd_)|exact HB.out))) : w.heap.size ≤ gb271));clear HB;have HB:=n0_;have BK271:=n1_;have GE271:=n3_;clear n0_ n1_ n3_;clear hb hbox hg)|((with_reducible refine gate_dst (N:=3) rfl ?_);refine box_event ?hg (N:=3) ?hd (cs:=#[.string a1_0,.string a1_1]) (t:=74) ?hr ?_;(case hd => rfl);(case hg => rfl);(case hr => first|(go_simp;done)|(go_simp;rfl));intro gb272 hg w5 hbox hb;have n0_:=A_ (kb_ (by (with_reducible repeat (first|refine kn_ ?_ _|refine kd_ ?_|refine ka_ ?_ _));exact BK271.out) hb);have n1_:=A_ (bs_ (by repeat (first|(with_reducible first|exact HB.out|apply pa_|apply pn_|apply pd_|refine ps_ ?_ GE271.out)|exact HB.out)) hb);have n2_:=A_ (hbox);have n4_:=A_ ((by rw [hg];exact (bz_ (by repeat (first|(with_reducible first|exact HB.out|apply pa_|apply pn_|apply pd_|refine ps_ ?_ GE271.out)|exact HB.out))) : w.heap.size ≤ gb272));have n5_:=A_ ((by rw [hg];exact nl_ (kl_ (g:=gb271) (o:=.cells #[.string a0_0,.string a0_1] 74 (0,0)) (by (with_reducible repeat (first|refine kn_ ?_ _|refine kd_ ?_|refine ka_ ?_ _));exact BK271.out)) : gb271 ≠ gb272));have n6_:=A_ ((by rw [hg];exact ng_ (kl_ (g:=gb271) (o:=.cells #[.string a0_0,.string a0_1] 74 (0,0)) (by (with_reducible repeat (first|refine kn_ ?_ _|refine kd_ ?_|refine ka_ ?_ _));exact BK271.out)) : gb272 ≠ gb271));clear BK271;clear HB;have BK271:=n0_;have HB:=n1_;have BK272:=n2_;have GE272:=n4_;have NB271_272:=n5_;have NB272_271:=n6_;clear n0_ n1_ n2_ n4_ n5_ n6_;clear hb hbox hg;have hnb6:=NB271_272.out;have hnc6:=NB272_271.out;have hcz7_0 : w5.cell? ⟨gb271,0,none⟩ = some (.string a0_0):=(kc_ BK271.out 0).trans rfl;have hcz7_1 : w5.cell? ⟨gb271,1,none⟩ = some (.string a0_1):=(kc_ BK271.out 1).trans rfl;have hfz7_0:=kf_ BK271.out 0;have hfz7_1:=kf_ BK271.out 1;have hcz8_0 : w5.cell? ⟨gb272,0,none⟩ = some (.string a1_0):=(kc_ BK272.out 0).trans rfl;have hcz8_1 : w5.cell? ⟨gb272,1,none⟩ = some (.string a1_1):=(kc_ BK272.out 1).trans rfl;have hfz8_0:=kf_ BK272.out 0;have hfz8_1:=kf_ BK272.out 1))
 have H:=HC3.out;clear HC3
 by_cases c9 : a0_0.toList = a1_0.toList
 ·rw [if_pos c9] at H;have c9b0 : (a0_0.toList == a1_0.toList) = true:=beq_iff_eq.mpr c9;have c9b1 : (a0_0.toList != a1_0.toList) = false:=bne_eq_false_iff_eq.mpr c9;clear c9
  (first|rw [c9b0]|(simp only [i64_w,i32_w];rw [c9b0])|skip)
  have HC10:=A_ H;clear H;have hnb11:=NB271_272.out;have hnc11:=NB272_271.out;have hcz12_0 : w5.cell? ⟨gb271,0,none⟩ = some (.string a0_0):=(kc_ BK271.out 0).trans rfl;have hcz12_1 : w5.cell? ⟨gb271,1,none⟩ = some (.string a0_1):=(kc_ BK271.out 1).trans rfl;have hfz12_0:=kf_ BK271.out 0;have hfz12_1:=kf_ BK271.out 1;have hcz13_0 : w5.cell? ⟨gb272,0,none⟩ = some (.string a1_0):=(kc_ BK272.out 0).trans rfl;have hcz13_1 : w5.cell? ⟨gb272,1,none⟩ = some (.string a1_1):=(kc_ BK272.out 1).trans rfl;have hfz13_0:=kf_ BK272.out 0;have hfz13_1:=kf_ BK272.out 1
  go_upto_if 14 with (fail)
  have H:=HC10.out;clear HC10
  by_cases c14 : a0_1.toList = a1_1.toList
  ·rw [if_pos c14] at H;have c14b0 : (a0_1.toList == a1_1.toList) = true:=beq_iff_eq.mpr c14;have c14b1 : (a0_1.toList != a1_1.toList) = false:=bne_eq_false_iff_eq.mpr c14;clear c14
   (first|rw [c14b0]|(simp only [i64_w,i32_w];rw [c14b0])|skip)
   obtain rfl:=Option.some.inj H;go_wp2;go_ret;exact ⟨by first|rfl|(simp [*,errW_none,errW_some] <;> rfl),by repeat (first|(with_reducible first|exact HB.out|apply pa_|apply pn_|apply pd_|refine ps_ ?_ GE271.out|refine ps_ ?_ GE272.out)|exact HB.out)⟩
  ·rw [if_neg c14] at H;have c14b0 : (a0_1.toList == a1_1.toList) = false:=beq_eq_false_iff_ne.mpr c14;have c14b1 : (a0_1.toList != a1_1.toList) = true:=bne_iff_ne.mpr c14
   (first|rw [c14b0]|(simp only [i64_w,i32_w];rw [c14b0])|skip)
   obtain rfl:=Option.some.inj H;go_wp2;go_ret;exact ⟨by first|rfl|(simp [*,errW_none,errW_some] <;> rfl),by repeat (first|(with_reducible first|exact HB.out|apply pa_|apply pn_|apply pd_|refine ps_ ?_ GE271.out|refine ps_ ?_ GE272.out)|exact HB.out)⟩
 ·rw [if_neg c9] at H;have c9b0 : (a0_0.toList == a1_0.toList) = false:=beq_eq_false_iff_ne.mpr c9;have c9b1 : (a0_0.toList != a1_0.toList) = true:=bne_iff_ne.mpr c9
  (first|rw [c9b0]|(simp only [i64_w,i32_w];rw [c9b0])|skip)
  obtain rfl:=Option.some.inj H;go_wp2;go_ret;exact ⟨by first|rfl|(simp [*,errW_none,errW_some] <;> rfl),by repeat (first|(with_reducible first|exact HB.out|apply pa_|apply pn_|apply pd_|refine ps_ ?_ GE271.out|refine ps_ ?_ GE272.out)|exact HB.out)⟩
end Go.Proofs.YtbcgnncbiblibaaDoor.PFnExactShelfMap
