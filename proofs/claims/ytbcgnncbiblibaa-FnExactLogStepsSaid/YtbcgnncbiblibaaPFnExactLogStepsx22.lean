/- The contracts of the Go functions that this law reaches: what each call returns, by a plain Lean function of its arguments. No conditions but those each contract names. By the kit's print.py, run by this session's wip/gen/pp.py with facts and hand proofs beside it: not to the letter what print.sh prints. -/
import Derived.Test.YtbcgnncbiblibaaPFnExactLogStepsx0
import Derived.Test.YtbcgnncbiblibaaPFnExactLogStepsx1
import Derived.Test.YtbcgnncbiblibaaPFnExactLogStepsx18
import Derived.Test.YtbcgnncbiblibaaPFnExactLogStepsx19
import Derived.Test.YtbcgnncbiblibaaPFnExactLogStepsx20
import Derived.Test.YtbcgnncbiblibaaPFnExactLogStepsx21
namespace Go.Proofs.Ytbcgnncbiblibaa.PFnExactLogSteps
open Go.RowKit Go.Proofs.YtbcgnncbiblibaaW.PrintWords Go.Proofs.YtbcgnncbiblibaaW.PrintLast Go.Proofs.YtbcgnncbiblibaaW.PrintMore
attribute [local go_sem] max2_int min2_int max_two min_two max_three min_three max_four min_four
set_option linter.unusedVariables false
set_option linter.unusedSimpArgs false
attribute [local go_sem high] eqA69
mutual
def impl_LogSteps.j0 : Nat → ByteArray → ByteArray → Bool → Int → Int → List (S69) → Int → Int → List (S69) → Option ((List (S126)) × Bool)
 | 0,_,_,_,_,_,_,_,_,_ => none
 | k + 1,x0,x11,x48,x542000,x542001,x542002,x543000,x543001,x543002 => if x48 = true then (some (([] : List (S126)),false)) else ((impl_sameLog.f k x542000 x542001 x542002 x543000 x543001 x543002).bind fun t555 => (if t555 = true then (some (([] : List (S126)),true)) else (if x542000 = x543000 then (impl_LogSteps.j1 k x0 x11 (x542001 == x543001) x542000 x542001 x542002 x543000 x543001 x543002) else (impl_LogSteps.j1 k x0 x11 false x542000 x542001 x542002 x543000 x543001 x543002))))
def impl_LogSteps.j1 : Nat → ByteArray → ByteArray → Bool → Int → Int → List (S69) → Int → Int → List (S69) → Option ((List (S126)) × Bool)
 | 0,_,_,_,_,_,_,_,_,_ => none
 | k + 1,x0,x11,x63,x542000,x542001,x542002,x543000,x543001,x543002 => if x63 = true then (impl_LogSteps.l0 k x0 x11 0 x542000 x542001 x542002 x543000 x543001 x543002) else (some ((([(⟨1,(⟨#[108,111,103,43]⟩ : ByteArray),(⟨#[]⟩ : ByteArray),x11⟩ : S126),(⟨3,(⟨#[108,111,103,43]⟩ : ByteArray),(⟨#[108,111,103]⟩ : ByteArray),(⟨#[]⟩ : ByteArray)⟩ : S126)] : List (S126))),true))
def impl_LogSteps.l0 : Nat → ByteArray → ByteArray → Int → Int → Int → List (S69) → Int → Int → List (S69) → Option ((List (S126)) × Bool)
 | 0,_,_,_,_,_,_,_,_,_ => none
 | k + 1,x0,x11,x13,x542000,x542001,x542002,x543000,x543001,x543002 => if x13 < (mn (x542002.length : Int) (x543002.length : Int)) then (if 0 ≤ x13 then (if x13 < (x542002.length : Int) then (if x13 < (x543002.length : Int) then (if (((rd_T69 x542002 x13).f0) == ((rd_T69 x543002 x13).f0) && (((rd_T69 x542002 x13).f1) == ((rd_T69 x543002 x13).f1) && ((((rd_T69 x542002 x13).f2).toList) == (((rd_T69 x543002 x13).f2).toList)))) = true then (impl_LogSteps.l0 k x0 x11 (wrap64 (x13 + 1)) x542000 x542001 x542002 x543000 x543001 x543002) else ((impl_entryFrames.f k x543000 x543001 x543002 x13).bind fun t558 => (if t558.toList = ([] : List UInt8) then (some ((([(⟨1,(⟨#[108,111,103,43]⟩ : ByteArray),(⟨#[]⟩ : ByteArray),x11⟩ : S126),(⟨3,(⟨#[108,111,103,43]⟩ : ByteArray),(⟨#[108,111,103]⟩ : ByteArray),(⟨#[]⟩ : ByteArray)⟩ : S126)] : List (S126))),true)) else (if (wrap64 ((x0.size : Int) + (t558.size : Int))) ≤ 20000 then (some ((([(⟨2,(⟨#[108,111,103]⟩ : ByteArray),(⟨#[]⟩ : ByteArray),t558⟩ : S126)] : List (S126))),true)) else (some ((([(⟨1,(⟨#[108,111,103,43]⟩ : ByteArray),(⟨#[]⟩ : ByteArray),x11⟩ : S126),(⟨3,(⟨#[108,111,103,43]⟩ : ByteArray),(⟨#[108,111,103]⟩ : ByteArray),(⟨#[]⟩ : ByteArray)⟩ : S126)] : List (S126))),true)))))) else (none)) else (none)) else (none)) else ((impl_entryFrames.f k x543000 x543001 x543002 x13).bind fun t568 => (if t568.toList = ([] : List UInt8) then (some ((([(⟨1,(⟨#[108,111,103,43]⟩ : ByteArray),(⟨#[]⟩ : ByteArray),x11⟩ : S126),(⟨3,(⟨#[108,111,103,43]⟩ : ByteArray),(⟨#[108,111,103]⟩ : ByteArray),(⟨#[]⟩ : ByteArray)⟩ : S126)] : List (S126))),true)) else (if (wrap64 ((x0.size : Int) + (t568.size : Int))) ≤ 20000 then (some ((([(⟨2,(⟨#[108,111,103]⟩ : ByteArray),(⟨#[]⟩ : ByteArray),t568⟩ : S126)] : List (S126))),true)) else (some ((([(⟨1,(⟨#[108,111,103,43]⟩ : ByteArray),(⟨#[]⟩ : ByteArray),x11⟩ : S126),(⟨3,(⟨#[108,111,103,43]⟩ : ByteArray),(⟨#[108,111,103]⟩ : ByteArray),(⟨#[]⟩ : ByteArray)⟩ : S126)] : List (S126))),true)))))
end
def impl_LogSteps.f (k : Nat) (a0 : ByteArray) (a1_0 : Int) (a1_1 : Int) (l1_2 : List (S69)) (a2_0 : Int) (a2_1 : Int) (l2_2 : List (S69)) : Option ((List (S126)) × Bool) := (impl_ReadLog.f k a0).bind fun bt543 => ((impl_LogFile.f k a2_0 a2_1 l2_2).bind fun bt551 => ((impl_LogOk.f k a1_0 a1_1 l1_2).bind fun t553 => (if t553 = true then (if bt543.2.2.2.2 = true then (if bt543.2.2.2.1 = (a0.size : Int) then ((impl_sameLog.f k bt543.1 bt543.2.1 bt543.2.2.1 a1_0 a1_1 l1_2).bind fun t554 => (if t554 = true then (impl_LogSteps.j0 k a0 bt551.1 (!bt551.2) a1_0 a1_1 l1_2 a2_0 a2_1 l2_2) else (impl_LogSteps.j0 k a0 bt551.1 true a1_0 a1_1 l1_2 a2_0 a2_1 l2_2))) else (impl_LogSteps.j0 k a0 bt551.1 true a1_0 a1_1 l1_2 a2_0 a2_1 l2_2)) else (impl_LogSteps.j0 k a0 bt551.1 true a1_0 a1_1 l1_2 a2_0 a2_1 l2_2)) else (impl_LogSteps.j0 k a0 bt551.1 true a1_0 a1_1 l1_2 a2_0 a2_1 l2_2))))
theorem impl_LogSteps.mono_l : ∀ k, (∀ y0 y1 y2 y3 y4 y5 y6 y7 y8, LeO (impl_LogSteps.j0 k y0 y1 y2 y3 y4 y5 y6 y7 y8) (impl_LogSteps.j0 (k + 1) y0 y1 y2 y3 y4 y5 y6 y7 y8)) ∧ (∀ y0 y1 y2 y3 y4 y5 y6 y7 y8, LeO (impl_LogSteps.j1 k y0 y1 y2 y3 y4 y5 y6 y7 y8) (impl_LogSteps.j1 (k + 1) y0 y1 y2 y3 y4 y5 y6 y7 y8)) ∧ (∀ y0 y1 y2 y3 y4 y5 y6 y7 y8, LeO (impl_LogSteps.l0 k y0 y1 y2 y3 y4 y5 y6 y7 y8) (impl_LogSteps.l0 (k + 1) y0 y1 y2 y3 y4 y5 y6 y7 y8))
 | 0 => ⟨fun _ _ _ _ _ _ _ _ _ r h => by simp [impl_LogSteps.j0] at h,fun _ _ _ _ _ _ _ _ _ r h => by simp [impl_LogSteps.j1] at h,fun _ _ _ _ _ _ _ _ _ r h => by simp [impl_LogSteps.l0] at h⟩
 | k + 1 => by
  obtain ⟨ih0,ih1,ih2⟩:=impl_LogSteps.mono_l k;refine ⟨?_,?_,?_⟩
  ·intro y0 y1 y2 y3 y4 y5 y6 y7 y8
   unfold impl_LogSteps.j0
   repeat' first
   | (with_reducible exact ih1 _ _ _ _ _ _ _ _ _)
   | (with_reducible exact impl_sameLog.mono _ _ _ _ _ _ _)
   | (with_reducible exact LeO.refl _)
   | (with_reducible refine LeO.ite ?_ ?_)
   | (with_reducible refine LeO.bind ?_ (fun _ => ?_))
  ·intro y0 y1 y2 y3 y4 y5 y6 y7 y8
   unfold impl_LogSteps.j1
   repeat' first
   | (with_reducible exact ih2 _ _ _ _ _ _ _ _ _)
   | (with_reducible exact LeO.refl _)
   | (with_reducible refine LeO.ite ?_ ?_)
  ·intro y0 y1 y2 y3 y4 y5 y6 y7 y8
   unfold impl_LogSteps.l0
   repeat' first
   | (with_reducible exact ih2 _ _ _ _ _ _ _ _ _)
   | (with_reducible exact impl_entryFrames.mono _ _ _ _ _)
   | (with_reducible exact LeO.refl _)
   | (with_reducible refine LeO.ite ?_ ?_)
   | (with_reducible refine LeO.bind ?_ (fun _ => ?_))
theorem impl_LogSteps.mono : ∀ a0 a1 a2 a3 a4 a5 a6 k, LeO (impl_LogSteps.f k a0 a1 a2 a3 a4 a5 a6) (impl_LogSteps.f (k + 1) a0 a1 a2 a3 a4 a5 a6) := by
 intro a0 a1 a2 a3 a4 a5 a6 k;obtain ⟨ih0,ih1,ih2⟩:=impl_LogSteps.mono_l k
 unfold impl_LogSteps.f
 repeat' first
   | (with_reducible exact ih0 _ _ _ _ _ _ _ _ _)
   | (with_reducible exact impl_LogFile.mono _ _ _ _)
   | (with_reducible exact impl_LogOk.mono _ _ _ _)
   | (with_reducible exact impl_ReadLog.mono _ _)
   | (with_reducible exact impl_sameLog.mono _ _ _ _ _ _ _)
   | (with_reducible refine LeO.ite ?_ ?_)
   | (with_reducible refine LeO.bind ?_ (fun _ => ?_))
set_option maxHeartbeats 8000000 in
set_option maxRecDepth 100000 in
theorem impl_LogSteps.calls (k : Nat) (a0 : ByteArray) (a1_0 : Int) (a1_1 : Int) (A1_2 : Option Addr) (c1_2 : Nat) (l1_2 : List (S69)) (a2_0 : Int) (a2_1 : Int) (A2_2 : Option Addr) (c2_2 : Nat) (l2_2 : List (S69)) (r1 : List (S126)) (r2 : Bool) (w : World) (hr1_2 : Kd.C k69 w A1_2 l1_2.length l1_2) (hc1_2 : l1_2.length ≤ c1_2) (hr2_2 : Kd.C k69 w A2_2 l2_2.length l2_2) (hc2_2 : l2_2.length ≤ c2_2) (h : impl_LogSteps.f k a0 a1_0 a1_1 l1_2 a2_0 a2_1 l2_2 = some (r1, r2)) :
  Calls Try.prog 35 #[.string a0,.agg #[.int .i64 a1_0,.int .i64 a1_1,.slice A1_2 l1_2.length c1_2],.agg #[.int .i64 a2_0,.int .i64 a2_1,.slice A2_2 l2_2.length c2_2]] w fun e w' => ∃ v0_ : Value,e = .returned (.tuple #[v0_,.bool r2]) ∧ Kd.R k126 126 w' w.heap.size (fun _ => True) v0_ r1 ∧ Below w.heap.size w w':=by
 have hu24:=Try.underlying24;have hu69:=Try.underlying69;have hu126:=Try.underlying126;have HR1_2:=A_ hr1_2;have HC1_2:=A_ hc1_2;clear hr1_2 hc1_2;have HR2_2:=A_ hr2_2;have HC2_2:=A_ hc2_2;clear hr2_2 hc2_2;have HB:=A_ (Below.refl w.heap.size w);unfold impl_LogSteps.f at h;have H:=h;clear h;replace H:=ob_.mp H;obtain ⟨⟨t543,t544,t545,t548,t549⟩,A40,H⟩:=H;(try dsimp only at H);have A4:=A_ A40;clear A40;replace H:=ob_.mp H;obtain ⟨⟨t551,t552⟩,A50,H⟩:=H;(try dsimp only at H);have A5:=A_ A50;clear A50;have HC6:=A_ H;clear H;go_enter Try.func35,Try.ntmps35
 go_upto_region 3 with (first|((with_reducible refine gate_dst (N:=4) rfl ?_);(try (refine gate_guard (by rfl) ?_;dsimp only));refine bE_ 4 #[.int .i64 a1_0,.int .i64 a1_1,.slice A1_2 l1_2.length c1_2] 24 ?_;intro gb541 hg w7 hbox hb;have BK541:=A_ (hbox);have GW541:=gE_ hg HB;have GE541:=gE_ hg HB;replace HB:=bS_ HB hb;clear hb hbox hg)|((with_reducible refine gate_dst (N:=5) rfl ?_);(try (refine gate_guard (by rfl) ?_;dsimp only));refine bE_ 5 #[.int .i64 a2_0,.int .i64 a2_1,.slice A2_2 l2_2.length c2_2] 24 ?_;intro gb542 hg w8 hbox hb;have BK542:=A_ (hbox);have GW542:=gE_ hg HB;have GE542:=gE_ hg HB;replace HB:=bS_ HB hb;have NB541_542:=nB_ hg BK541;have NB542_541:=nC_ hg BK541;replace BK541:=kB_ BK541 hb;clear hb hbox hg)|(go_at_call 9;(with_reducible refine (impl_ReadLog.calls k a0 t543 t544 t545 t548 t549 _ A4.out).mono ?_);rintro e w9 ⟨v546,rfl,ho0,hb⟩;have HO547:=A_ (rw_ ho0 (bz_ (bq_ HB)));replace BK541:=kB_ BK541 hb;replace BK542:=kB_ BK542 hb;replace HB:=bS_ HB hb;(try clear hb);(try clear ho0))|((with_reducible refine gate_dst (N:=8) rfl ?_);(try (refine gate_guard (by rfl) ?_;dsimp only));refine bE_ 8 #[.int .i64 0,.int .i64 0,.slice none 0 0] 24 ?_;intro gb550 hg w10 hbox hb;replace HO547:=rB_ HO547 hb;have BK550:=A_ (hbox);have GW550:=gE_ hg HB;have GE550:=gE_ hg HB;replace HB:=bS_ HB hb;have NB541_550:=nB_ hg BK541;have NB550_541:=nC_ hg BK541;replace BK541:=kB_ BK541 hb;have NB542_550:=nB_ hg BK542;have NB550_542:=nC_ hg BK542;replace BK542:=kB_ BK542 hb;clear hb hbox hg;have hnb11:=NB550_541.out;have hnc11:=NB541_550.out;have hnb12:=NB550_542.out;have hnc12:=NB542_550.out;obtain ⟨hcz13_0,hcz13_1,hcz13_2,hfz13_0,hfz13_1,hfz13_2⟩:=k3f_ BK550;obtain ⟨Ao14,co14,eo14⟩:=Kd.R_slice HO547.out;subst eo14;have hnb15:=NB542_541.out;have hnc15:=NB541_542.out;obtain ⟨hcz16_0,hcz16_1,hcz16_2,hfz16_0,hfz16_1,hfz16_2⟩:=k3f_ BK542)|(go_at_call 91;(with_reducible refine (impl_LogFile.calls k a2_0 a2_1 _ _ l2_2 t551 t552 _ ?side1 ?side2 A5.out).mono ?_);(case side1 => exact Kd.C_below HR2_2.out (bq_ HB));(case side2 => exact HC2_2.out);rintro e w17 ⟨rfl,hb⟩;replace HO547:=A_ (rb_ (by exact (rm_ (rf_ (p:=⟨gb550,2,none⟩) (rf_ (p:=⟨gb550,1,none⟩) (rf_ (p:=⟨gb550,0,none⟩) (Kd.R_types HO547.out BK550.out (by decide)) (fun _ hk => hk.2) (.int .i64 t543)) (fun _ hk => hk.2) (.int .i64 t544)) (fun _ hk => hk.2) (.slice Ao14 t545.length co14)) (fun _ h_ => h_.1))) hb);replace BK541:=A_ (kb_ (g:=gb541) (o:=.cells #[.int .i64 a1_0,.int .i64 a1_1,.slice A1_2 l1_2.length c1_2] 24 (0,0)) (kz_ BK541) hb);replace BK542:=A_ (kb_ (g:=gb542) (o:=.cells #[.int .i64 a2_0,.int .i64 a2_1,.slice A2_2 l2_2.length c2_2] 24 (0,0)) (kz_ BK542) hb);replace BK550:=A_ (kb_ (g:=gb550) (o:=.cells #[.int .i64 t543,.int .i64 t544,.slice Ao14 t545.length co14] 24 (0,0)) (kz_ BK550) hb);replace HB:=bS_ HB hb;(try clear hb)))
 go_cut [48] (fun v48 wc => ∃ (kq : Nat) (x48_5 : Bool),v48 = .bool x48_5 ∧ Aside0 (impl_LogSteps.j0 kq a0 t551 x48_5 a1_0 a1_1 l1_2 a2_0 a2_1 l2_2 = some (r1,r2)) ∧ Aside0 (kq ≤ k) ∧ Aside0 (Kd.R k69 69 wc w.heap.size (fun _ => True) (.slice Ao14 t545.length co14) t545) ∧ Aside0 (wc.heap[gb541]? = some (.cells #[.int .i64 a1_0,.int .i64 a1_1,(.slice A1_2 l1_2.length c1_2)] 24 (0,0))) ∧ Aside0 (wc.heap[gb542]? = some (.cells #[.int .i64 a2_0,.int .i64 a2_1,(.slice A2_2 l2_2.length c2_2)] 24 (0,0))) ∧ Aside0 (wc.heap[gb550]? = some (.cells #[.int .i64 t543,.int .i64 t544,(.slice Ao14 t545.length co14)] 24 (0,0))) ∧ Aside0 (Below w.heap.size w wc))
 case first =>
  have H:=HC6.out;clear HC6;replace H:=ob_.mp H;obtain ⟨t553,A180,H⟩:=H;have A18:=A_ A180;clear A180
  by_cases c19 : t553 = true
  ·subst c19
   rw [if_pos rfl] at H
   by_cases c20 : t549 = true
   ·subst c20
    rw [if_pos rfl] at H
    by_cases c21 : t548 = (a0.size : Int)
    ·rw [if_pos c21] at H;have c21b0 : (t548 == (a0.size : Int)) = true:=beq_iff_eq.mpr c21;have c21b1 : (t548 != (a0.size : Int)) = false:=bne_eq_false_iff_eq.mpr c21;clear c21
     (skip)
     replace H:=ob_.mp H;obtain ⟨t554,A220,H⟩:=H;have A22:=A_ A220;clear A220
     by_cases c23 : t554 = true
     ·subst c23
      rw [if_pos rfl] at H;have H':=A_ H;clear H;have hnb24:=NB541_542.out;have hnc24:=NB542_541.out;have hnb25:=NB541_550.out;have hnc25:=NB550_541.out;obtain ⟨hcz26_0,hcz26_1,hcz26_2,hfz26_0,hfz26_1,hfz26_2⟩:=k3f_ BK541
      go_wp2_with (first|(go_at_call 48;(with_reducible refine (impl_LogOk.calls k a1_0 a1_1 _ _ l1_2 true _ ?side1 ?side2 A18.out).mono ?_);(case side1 => repeat (exact (Kd.C_below HR1_2.out HB.out)));(case side2 => exact HC1_2.out);rintro e w27 ⟨rfl,hb⟩;replace HO547:=rB_ HO547 hb;replace BK541:=kB_ BK541 hb;replace BK542:=kB_ BK542 hb;replace BK550:=kB_ BK550 hb;replace HB:=bS_ HB hb;(try clear hb);have hnb28:=NB550_542.out;have hnc28:=NB542_550.out;obtain ⟨hcz29_0,hcz29_1,hcz29_2,hfz29_0,hfz29_1,hfz29_2⟩:=k3f_ BK550;obtain ⟨hcz30_0,hcz30_1,hcz30_2,hfz30_0,hfz30_1,hfz30_2⟩:=k3f_ BK541)|(go_at_call 92;(with_reducible refine (impl_sameLog.calls k t543 t544 _ _ t545 a1_0 a1_1 _ _ l1_2 true _ ?side1 ?side2 ?side3 ?side4 A22.out).mono ?_);(case side1 => repeat (exact (Kd.R_reads' HO547.out).2.2));(case side2 => exact (Kd.R_reads' HO547.out).2.1);(case side3 => repeat (exact (Kd.C_below HR1_2.out HB.out)));(case side4 => exact HC1_2.out);rintro e w31 ⟨rfl,hb⟩;replace HO547:=rB_ HO547 hb;replace BK541:=kB_ BK541 hb;replace BK542:=kB_ BK542 hb;replace BK550:=kB_ BK550 hb;replace HB:=bS_ HB hb;(try clear hb)))
      go_meet
      case rel => exact ⟨_,(!t552),(by rfl),H',⟨by omega⟩,⟨HO547.out⟩,⟨kq_ BK541⟩,⟨kq_ BK542⟩,⟨kq_ BK550⟩,⟨bq_ HB⟩⟩
     ·replace c23:=Bool.eq_false_iff.mpr c23;subst c23
      have H1 : (impl_LogSteps.j0 k a0 t551 true a1_0 a1_1 l1_2 a2_0 a2_1 l2_2) = some (r1,r2):=by rw [if_neg (show ¬ (false = true) by decide)] at H;exact H
      clear H;have H:=H1;clear H1;have H':=A_ H;clear H;have hnb32:=NB541_542.out;have hnc32:=NB542_541.out;have hnb33:=NB541_550.out;have hnc33:=NB550_541.out;obtain ⟨hcz34_0,hcz34_1,hcz34_2,hfz34_0,hfz34_1,hfz34_2⟩:=k3f_ BK541
      go_wp2_with (first|(go_at_call 48;(with_reducible refine (impl_LogOk.calls k a1_0 a1_1 _ _ l1_2 true _ ?side1 ?side2 A18.out).mono ?_);(case side1 => repeat (exact (Kd.C_below HR1_2.out HB.out)));(case side2 => exact HC1_2.out);rintro e w35 ⟨rfl,hb⟩;replace HO547:=rB_ HO547 hb;replace BK541:=kB_ BK541 hb;replace BK542:=kB_ BK542 hb;replace BK550:=kB_ BK550 hb;replace HB:=bS_ HB hb;(try clear hb);have hnb36:=NB550_542.out;have hnc36:=NB542_550.out;obtain ⟨hcz37_0,hcz37_1,hcz37_2,hfz37_0,hfz37_1,hfz37_2⟩:=k3f_ BK550;obtain ⟨hcz38_0,hcz38_1,hcz38_2,hfz38_0,hfz38_1,hfz38_2⟩:=k3f_ BK541)|(go_at_call 92;(with_reducible refine (impl_sameLog.calls k t543 t544 _ _ t545 a1_0 a1_1 _ _ l1_2 false _ ?side1 ?side2 ?side3 ?side4 A22.out).mono ?_);(case side1 => repeat (exact (Kd.R_reads' HO547.out).2.2));(case side2 => exact (Kd.R_reads' HO547.out).2.1);(case side3 => repeat (exact (Kd.C_below HR1_2.out HB.out)));(case side4 => exact HC1_2.out);rintro e w39 ⟨rfl,hb⟩;replace HO547:=rB_ HO547 hb;replace BK541:=kB_ BK541 hb;replace BK542:=kB_ BK542 hb;replace BK550:=kB_ BK550 hb;replace HB:=bS_ HB hb;(try clear hb)))
      go_meet
      case rel => exact ⟨_,(true),(by rfl),H',⟨by omega⟩,⟨HO547.out⟩,⟨kq_ BK541⟩,⟨kq_ BK542⟩,⟨kq_ BK550⟩,⟨bq_ HB⟩⟩
    ·rw [if_neg c21] at H;have c21b0 : (t548 == (a0.size : Int)) = false:=beq_eq_false_iff_ne.mpr c21;have c21b1 : (t548 != (a0.size : Int)) = true:=bne_iff_ne.mpr c21
     (skip)
     have H':=A_ H;clear H;have hnb40:=NB541_542.out;have hnc40:=NB542_541.out;have hnb41:=NB541_550.out;have hnc41:=NB550_541.out;obtain ⟨hcz42_0,hcz42_1,hcz42_2,hfz42_0,hfz42_1,hfz42_2⟩:=k3f_ BK541
     go_wp2_with ((go_at_call 48;(with_reducible refine (impl_LogOk.calls k a1_0 a1_1 _ _ l1_2 true _ ?side1 ?side2 A18.out).mono ?_);(case side1 => repeat (exact (Kd.C_below HR1_2.out HB.out)));(case side2 => exact HC1_2.out);rintro e w43 ⟨rfl,hb⟩;replace HO547:=rB_ HO547 hb;replace BK541:=kB_ BK541 hb;replace BK542:=kB_ BK542 hb;replace BK550:=kB_ BK550 hb;replace HB:=bS_ HB hb;(try clear hb)))
     go_meet
     case rel => exact ⟨_,(true),(by rfl),H',⟨by omega⟩,⟨HO547.out⟩,⟨kq_ BK541⟩,⟨kq_ BK542⟩,⟨kq_ BK550⟩,⟨bq_ HB⟩⟩
   ·replace c20:=Bool.eq_false_iff.mpr c20;subst c20
    have H1 : (impl_LogSteps.j0 k a0 t551 true a1_0 a1_1 l1_2 a2_0 a2_1 l2_2) = some (r1,r2):=by rw [if_neg (show ¬ (false = true) by decide)] at H;exact H
    clear H;have H:=H1;clear H1;have H':=A_ H;clear H;have hnb44:=NB541_542.out;have hnc44:=NB542_541.out;have hnb45:=NB541_550.out;have hnc45:=NB550_541.out;obtain ⟨hcz46_0,hcz46_1,hcz46_2,hfz46_0,hfz46_1,hfz46_2⟩:=k3f_ BK541
    go_wp2_with ((go_at_call 48;(with_reducible refine (impl_LogOk.calls k a1_0 a1_1 _ _ l1_2 true _ ?side1 ?side2 A18.out).mono ?_);(case side1 => repeat (exact (Kd.C_below HR1_2.out HB.out)));(case side2 => exact HC1_2.out);rintro e w47 ⟨rfl,hb⟩;replace HO547:=rB_ HO547 hb;replace BK541:=kB_ BK541 hb;replace BK542:=kB_ BK542 hb;replace BK550:=kB_ BK550 hb;replace HB:=bS_ HB hb;(try clear hb)))
    go_meet
    case rel => exact ⟨_,(true),(by rfl),H',⟨by omega⟩,⟨HO547.out⟩,⟨kq_ BK541⟩,⟨kq_ BK542⟩,⟨kq_ BK550⟩,⟨bq_ HB⟩⟩
  ·replace c19:=Bool.eq_false_iff.mpr c19;subst c19
   have H1 : (impl_LogSteps.j0 k a0 t551 true a1_0 a1_1 l1_2 a2_0 a2_1 l2_2) = some (r1,r2):=by rw [if_neg (show ¬ (false = true) by decide)] at H;exact H
   clear H;have H:=H1;clear H1;have H':=A_ H;clear H;have hnb48:=NB541_542.out;have hnc48:=NB542_541.out;have hnb49:=NB541_550.out;have hnc49:=NB550_541.out;obtain ⟨hcz50_0,hcz50_1,hcz50_2,hfz50_0,hfz50_1,hfz50_2⟩:=k3f_ BK541
   go_wp2_with ((go_at_call 48;(with_reducible refine (impl_LogOk.calls k a1_0 a1_1 _ _ l1_2 false _ ?side1 ?side2 A18.out).mono ?_);(case side1 => repeat (exact (Kd.C_below HR1_2.out HB.out)));(case side2 => exact HC1_2.out);rintro e w51 ⟨rfl,hb⟩;replace HO547:=rB_ HO547 hb;replace BK541:=kB_ BK541 hb;replace BK542:=kB_ BK542 hb;replace BK550:=kB_ BK550 hb;replace HB:=bS_ HB hb;(try clear hb)))
   go_meet
   case rel => exact ⟨_,(true),(by rfl),H',⟨by omega⟩,⟨HO547.out⟩,⟨kq_ BK541⟩,⟨kq_ BK542⟩,⟨kq_ BK550⟩,⟨bq_ HB⟩⟩
 case rest =>
  clear HC6
  try clear c1
  try clear c2
  try clear p2
  try clear c3
  try clear c4
  try clear c11
  try clear c12
  try clear c15
  try clear c19
  try clear c20
  try clear c21
  try clear c21b0
  try clear c21b1
  try clear c23
  try clear c24
  try clear c25
  try clear c28
  try clear c32
  try clear c33
  try clear c35
  try clear c36
  try clear c40
  try clear c41
  try clear c44
  try clear c45
  try clear c48
  try clear c49
  try clear hcz13_0
  try clear hcz13_1
  try clear hcz13_2
  try clear hcz16_0
  try clear hcz16_1
  try clear hcz16_2
  try clear hcz26_0
  try clear hcz26_1
  try clear hcz26_2
  try clear hcz29_0
  try clear hcz29_1
  try clear hcz29_2
  try clear hcz30_0
  try clear hcz30_1
  try clear hcz30_2
  try clear hcz34_0
  try clear hcz34_1
  try clear hcz34_2
  try clear hcz37_0
  try clear hcz37_1
  try clear hcz37_2
  try clear hcz38_0
  try clear hcz38_1
  try clear hcz38_2
  try clear hcz42_0
  try clear hcz42_1
  try clear hcz42_2
  try clear hcz46_0
  try clear hcz46_1
  try clear hcz46_2
  try clear hcz50_0
  try clear hcz50_1
  try clear hcz50_2
  try clear hfz13_0
  try clear hfz13_1
  try clear hfz13_2
  try clear hfz16_0
  try clear hfz16_1
  try clear hfz16_2
  try clear hfz26_0
  try clear hfz26_1
  try clear hfz26_2
  try clear hfz29_0
  try clear hfz29_1
  try clear hfz29_2
  try clear hfz30_0
  try clear hfz30_1
  try clear hfz30_2
  try clear hfz34_0
  try clear hfz34_1
  try clear hfz34_2
  try clear hfz37_0
  try clear hfz37_1
  try clear hfz37_2
  try clear hfz38_0
  try clear hfz38_1
  try clear hfz38_2
  try clear hfz42_0
  try clear hfz42_1
  try clear hfz42_2
  try clear hfz46_0
  try clear hfz46_1
  try clear hfz46_2
  try clear hfz50_0
  try clear hfz50_1
  try clear hfz50_2
  obtain ⟨kq,x48_5,rfl,HA,HJ5,HO_551002,BK541,BK542,BK550,HB⟩:=hcut
  cases kq with
  | zero => exact absurd HA.out (by simp [impl_LogSteps.j0])
  | succ kj5 =>
   have H:=HA.out;clear HA;simp only [impl_LogSteps.j0] at H
   by_cases c52 : x48_5 = true
   ·subst c52
    rw [if_pos rfl] at H;simp only [Option.some.injEq,Prod.mk.injEq] at H;obtain ⟨rfl,rfl⟩:=H;go_wp2
    go_ret2;exact ⟨_,by rfl,by exact Kd.R_nil _ _ _ _ _,bq_ HB⟩
   ·replace c52:=Bool.eq_false_iff.mpr c52;subst c52
    have H1 : ((impl_sameLog.f kj5 a1_0 a1_1 l1_2 a2_0 a2_1 l2_2).bind fun t555 => (if t555 = true then (some (([] : List (S126)),true)) else (if a1_0 = a2_0 then (impl_LogSteps.j1 kj5 a0 t551 (a1_1 == a2_1) a1_0 a1_1 l1_2 a2_0 a2_1 l2_2) else (impl_LogSteps.j1 kj5 a0 t551 false a1_0 a1_1 l1_2 a2_0 a2_1 l2_2)))) = some (r1,r2):=by rw [if_neg (show ¬ (false = true) by decide)] at H;exact H
    clear H;have H:=H1;clear H1;replace H:=ob_.mp H;obtain ⟨t555,A530,H⟩:=H;have A53:=A_ A530;clear A530
    by_cases c54 : t555 = true
    ·subst c54
     rw [if_pos rfl] at H;simp only [Option.some.injEq,Prod.mk.injEq] at H;obtain ⟨rfl,rfl⟩:=H;have hnb55:=NB541_542.out;have hnc55:=NB542_541.out;have hnb56:=NB541_550.out;have hnc56:=NB550_541.out;obtain ⟨hcz57_0,hcz57_1,hcz57_2,hfz57_0,hfz57_1,hfz57_2⟩:=k3f_ BK541;have hnb58:=NB542_550.out;have hnc58:=NB550_542.out;obtain ⟨hcz59_0,hcz59_1,hcz59_2,hfz59_0,hfz59_1,hfz59_2⟩:=k3f_ BK542
     go_wp2_with ((go_at_call 92;(with_reducible refine (impl_sameLog.calls kj5 a1_0 a1_1 _ _ l1_2 a2_0 a2_1 _ _ l2_2 true _ ?side1 ?side2 ?side3 ?side4 A53.out).mono ?_);(case side1 => repeat (exact (Kd.C_below HR1_2.out HB.out)));(case side2 => exact HC1_2.out);(case side3 => repeat (exact (Kd.C_below HR2_2.out HB.out)));(case side4 => exact HC2_2.out);rintro e w60 ⟨rfl,hb⟩;replace HO_551002:=rB_ HO_551002 hb;replace BK541:=kB_ BK541 hb;replace BK542:=kB_ BK542 hb;replace BK550:=kB_ BK550 hb;replace HB:=bS_ HB hb;(try clear hb)))
     go_ret2;exact ⟨_,by rfl,by exact Kd.R_nil _ _ _ _ _,bq_ HB⟩
    ·replace c54:=Bool.eq_false_iff.mpr c54;subst c54
     have H1 : (if a1_0 = a2_0 then (impl_LogSteps.j1 kj5 a0 t551 (a1_1 == a2_1) a1_0 a1_1 l1_2 a2_0 a2_1 l2_2) else (impl_LogSteps.j1 kj5 a0 t551 false a1_0 a1_1 l1_2 a2_0 a2_1 l2_2)) = some (r1,r2):=by rw [if_neg (show ¬ (false = true) by decide)] at H;exact H
     clear H;have H:=H1;clear H1;have HC61:=A_ H;clear H;have hnb62:=NB541_542.out;have hnc62:=NB542_541.out;have hnb63:=NB541_550.out;have hnc63:=NB550_541.out;obtain ⟨hcz64_0,hcz64_1,hcz64_2,hfz64_0,hfz64_1,hfz64_2⟩:=k3f_ BK541;have hnb65:=NB542_550.out;have hnc65:=NB550_542.out;obtain ⟨hcz66_0,hcz66_1,hcz66_2,hfz66_0,hfz66_1,hfz66_2⟩:=k3f_ BK542
     go_upto_region 7 with ((go_at_call 92;(with_reducible refine (impl_sameLog.calls kj5 a1_0 a1_1 _ _ l1_2 a2_0 a2_1 _ _ l2_2 false _ ?side1 ?side2 ?side3 ?side4 A53.out).mono ?_);(case side1 => repeat (exact (Kd.C_below HR1_2.out HB.out)));(case side2 => exact HC1_2.out);(case side3 => repeat (exact (Kd.C_below HR2_2.out HB.out)));(case side4 => exact HC2_2.out);rintro e w67 ⟨rfl,hb⟩;replace HO_551002:=rB_ HO_551002 hb;replace BK541:=kB_ BK541 hb;replace BK542:=kB_ BK542 hb;replace BK550:=kB_ BK550 hb;replace HB:=bS_ HB hb;(try clear hb)))
     go_cut [63] (fun v63 wc => ∃ (kq : Nat) (x63_60 : Bool),v63 = .bool x63_60 ∧ Aside0 (impl_LogSteps.j1 kq a0 t551 x63_60 a1_0 a1_1 l1_2 a2_0 a2_1 l2_2 = some (r1,r2)) ∧ Aside0 (kq ≤ kj5) ∧ Aside0 (Kd.R k69 69 wc w.heap.size (fun _ => True) (.slice Ao14 t545.length co14) t545) ∧ Aside0 (wc.heap[gb541]? = some (.cells #[.int .i64 a1_0,.int .i64 a1_1,(.slice A1_2 l1_2.length c1_2)] 24 (0,0))) ∧ Aside0 (wc.heap[gb542]? = some (.cells #[.int .i64 a2_0,.int .i64 a2_1,(.slice A2_2 l2_2.length c2_2)] 24 (0,0))) ∧ Aside0 (wc.heap[gb550]? = some (.cells #[.int .i64 t543,.int .i64 t544,(.slice Ao14 t545.length co14)] 24 (0,0))) ∧ Aside0 (Below w.heap.size w wc))
     case first =>
      have H:=HC61.out;clear HC61
      by_cases c68 : a1_0 = a2_0
      ·rw [if_pos c68] at H;have c68b0 : (a1_0 == a2_0) = true:=beq_iff_eq.mpr c68;have c68b1 : (a1_0 != a2_0) = false:=bne_eq_false_iff_eq.mpr c68;clear c68
       (skip)
       have H':=A_ H;clear H;have hnb69:=NB541_542.out;have hnc69:=NB542_541.out;have hnb70:=NB541_550.out;have hnc70:=NB550_541.out;obtain ⟨hcz71_0,hcz71_1,hcz71_2,hfz71_0,hfz71_1,hfz71_2⟩:=k3f_ BK541;have hnb72:=NB542_550.out;have hnc72:=NB550_542.out;obtain ⟨hcz73_0,hcz73_1,hcz73_2,hfz73_0,hfz73_1,hfz73_2⟩:=k3f_ BK542;go_wp2
       go_meet
       case rel => exact ⟨_,((a1_1 == a2_1)),(by rfl),H',⟨by have:=HJ5.out;omega⟩,⟨HO_551002.out⟩,⟨kq_ BK541⟩,⟨kq_ BK542⟩,⟨kq_ BK550⟩,⟨bq_ HB⟩⟩
      ·rw [if_neg c68] at H;have c68b0 : (a1_0 == a2_0) = false:=beq_eq_false_iff_ne.mpr c68;have c68b1 : (a1_0 != a2_0) = true:=bne_iff_ne.mpr c68
       (skip)
       have H':=A_ H;clear H;have hnb74:=NB541_542.out;have hnc74:=NB542_541.out;have hnb75:=NB541_550.out;have hnc75:=NB550_541.out;obtain ⟨hcz76_0,hcz76_1,hcz76_2,hfz76_0,hfz76_1,hfz76_2⟩:=k3f_ BK541;have hnb77:=NB542_550.out;have hnc77:=NB550_542.out;obtain ⟨hcz78_0,hcz78_1,hcz78_2,hfz78_0,hfz78_1,hfz78_2⟩:=k3f_ BK542;go_wp2
       go_meet
       case rel => exact ⟨_,(false),(by rfl),H',⟨by have:=HJ5.out;omega⟩,⟨HO_551002.out⟩,⟨kq_ BK541⟩,⟨kq_ BK542⟩,⟨kq_ BK550⟩,⟨bq_ HB⟩⟩
     case rest =>
      clear HC61
      try clear c1
      try clear c2
      try clear p2
      try clear c3
      try clear c4
      try clear c5
      try clear c6
      try clear c7
      try clear c11
      try clear c12
      try clear c15
      try clear c19
      try clear c20
      try clear c21
      try clear c21b0
      try clear c21b1
      try clear c23
      try clear c24
      try clear c25
      try clear c28
      try clear c32
      try clear c33
      try clear c35
      try clear c36
      try clear c40
      try clear c41
      try clear c44
      try clear c45
      try clear c48
      try clear c49
      try clear c52
      try clear c54
      try clear c55
      try clear c56
      try clear c58
      try clear c62
      try clear c63
      try clear c65
      try clear c68
      try clear c68b0
      try clear c68b1
      try clear c69
      try clear c70
      try clear c72
      try clear c74
      try clear c75
      try clear c77
      try clear hcz13_0
      try clear hcz13_1
      try clear hcz13_2
      try clear hcz16_0
      try clear hcz16_1
      try clear hcz16_2
      try clear hcz26_0
      try clear hcz26_1
      try clear hcz26_2
      try clear hcz29_0
      try clear hcz29_1
      try clear hcz29_2
      try clear hcz30_0
      try clear hcz30_1
      try clear hcz30_2
      try clear hcz34_0
      try clear hcz34_1
      try clear hcz34_2
      try clear hcz37_0
      try clear hcz37_1
      try clear hcz37_2
      try clear hcz38_0
      try clear hcz38_1
      try clear hcz38_2
      try clear hcz42_0
      try clear hcz42_1
      try clear hcz42_2
      try clear hcz46_0
      try clear hcz46_1
      try clear hcz46_2
      try clear hcz50_0
      try clear hcz50_1
      try clear hcz50_2
      try clear hcz57_0
      try clear hcz57_1
      try clear hcz57_2
      try clear hcz59_0
      try clear hcz59_1
      try clear hcz59_2
      try clear hcz64_0
      try clear hcz64_1
      try clear hcz64_2
      try clear hcz66_0
      try clear hcz66_1
      try clear hcz66_2
      try clear hcz71_0
      try clear hcz71_1
      try clear hcz71_2
      try clear hcz73_0
      try clear hcz73_1
      try clear hcz73_2
      try clear hcz76_0
      try clear hcz76_1
      try clear hcz76_2
      try clear hcz78_0
      try clear hcz78_1
      try clear hcz78_2
      try clear hfz13_0
      try clear hfz13_1
      try clear hfz13_2
      try clear hfz16_0
      try clear hfz16_1
      try clear hfz16_2
      try clear hfz26_0
      try clear hfz26_1
      try clear hfz26_2
      try clear hfz29_0
      try clear hfz29_1
      try clear hfz29_2
      try clear hfz30_0
      try clear hfz30_1
      try clear hfz30_2
      try clear hfz34_0
      try clear hfz34_1
      try clear hfz34_2
      try clear hfz37_0
      try clear hfz37_1
      try clear hfz37_2
      try clear hfz38_0
      try clear hfz38_1
      try clear hfz38_2
      try clear hfz42_0
      try clear hfz42_1
      try clear hfz42_2
      try clear hfz46_0
      try clear hfz46_1
      try clear hfz46_2
      try clear hfz50_0
      try clear hfz50_1
      try clear hfz50_2
      try clear hfz57_0
      try clear hfz57_1
      try clear hfz57_2
      try clear hfz59_0
      try clear hfz59_1
      try clear hfz59_2
      try clear hfz64_0
      try clear hfz64_1
      try clear hfz64_2
      try clear hfz66_0
      try clear hfz66_1
      try clear hfz66_2
      try clear hfz71_0
      try clear hfz71_1
      try clear hfz71_2
      try clear hfz73_0
      try clear hfz73_1
      try clear hfz73_2
      try clear hfz76_0
      try clear hfz76_1
      try clear hfz76_2
      try clear hfz78_0
      try clear hfz78_1
      try clear hfz78_2
      try clear p2
      obtain ⟨kq,x63_60,rfl,HA,HJ60,HO_551002,BK541,BK542,BK550,HB⟩:=hcut
      cases kq with
      | zero => exact absurd HA.out (by simp [impl_LogSteps.j1])
      | succ kj60 =>
       have H:=HA.out;clear HA;simp only [impl_LogSteps.j1] at H
       by_cases c79 : x63_60 = true
       ·subst c79
        rw [if_pos rfl] at H;have H':=A_ H;clear H;go_wp2
        go_loopg [13] kj60 (fun kq v13 w' => ∃ (x13_3 : Int),v13 = .int .i64 x13_3 ∧ Aside0 (impl_LogSteps.l0 kq a0 t551 x13_3 a1_0 a1_1 l1_2 a2_0 a2_1 l2_2 = some (r1,r2)) ∧ Aside0 (kq ≤ kj60) ∧ Aside0 (Kd.R k69 69 w' w.heap.size (fun _ => True) (.slice Ao14 t545.length co14) t545) ∧ Aside0 (w'.heap[gb541]? = some (.cells #[.int .i64 a1_0,.int .i64 a1_1,(.slice A1_2 l1_2.length c1_2)] 24 (0,0))) ∧ Aside0 (w'.heap[gb542]? = some (.cells #[.int .i64 a2_0,.int .i64 a2_1,(.slice A2_2 l2_2.length c2_2)] 24 (0,0))) ∧ Aside0 (w'.heap[gb550]? = some (.cells #[.int .i64 t543,.int .i64 t544,(.slice Ao14 t545.length co14)] 24 (0,0))) ∧ Aside0 (Below w.heap.size w w'))
        case atStart => exact ⟨(0),(by rfl),H',⟨Nat.le_refl _⟩,⟨HO_551002.out⟩,⟨kq_ BK541⟩,⟨kq_ BK542⟩,⟨kq_ BK550⟩,⟨bq_ HB⟩⟩
        case round =>
         clear H'
         try clear c1
         try clear c2
         try clear p2
         try clear c3
         try clear c4
         try clear c5
         try clear c6
         try clear c7
         try clear c11
         try clear c12
         try clear c15
         try clear c19
         try clear c20
         try clear c21
         try clear c21b0
         try clear c21b1
         try clear c23
         try clear c24
         try clear c25
         try clear c28
         try clear c32
         try clear c33
         try clear c35
         try clear c36
         try clear c40
         try clear c41
         try clear c44
         try clear c45
         try clear c48
         try clear c49
         try clear c52
         try clear c54
         try clear c55
         try clear c56
         try clear c58
         try clear c62
         try clear c63
         try clear c65
         try clear c68
         try clear c68b0
         try clear c68b1
         try clear c69
         try clear c70
         try clear c72
         try clear c74
         try clear c75
         try clear c77
         try clear c79
         try clear hcz13_0
         try clear hcz13_1
         try clear hcz13_2
         try clear hcz16_0
         try clear hcz16_1
         try clear hcz16_2
         try clear hcz26_0
         try clear hcz26_1
         try clear hcz26_2
         try clear hcz29_0
         try clear hcz29_1
         try clear hcz29_2
         try clear hcz30_0
         try clear hcz30_1
         try clear hcz30_2
         try clear hcz34_0
         try clear hcz34_1
         try clear hcz34_2
         try clear hcz37_0
         try clear hcz37_1
         try clear hcz37_2
         try clear hcz38_0
         try clear hcz38_1
         try clear hcz38_2
         try clear hcz42_0
         try clear hcz42_1
         try clear hcz42_2
         try clear hcz46_0
         try clear hcz46_1
         try clear hcz46_2
         try clear hcz50_0
         try clear hcz50_1
         try clear hcz50_2
         try clear hcz57_0
         try clear hcz57_1
         try clear hcz57_2
         try clear hcz59_0
         try clear hcz59_1
         try clear hcz59_2
         try clear hcz64_0
         try clear hcz64_1
         try clear hcz64_2
         try clear hcz66_0
         try clear hcz66_1
         try clear hcz66_2
         try clear hcz71_0
         try clear hcz71_1
         try clear hcz71_2
         try clear hcz73_0
         try clear hcz73_1
         try clear hcz73_2
         try clear hcz76_0
         try clear hcz76_1
         try clear hcz76_2
         try clear hcz78_0
         try clear hcz78_1
         try clear hcz78_2
         try clear hfz13_0
         try clear hfz13_1
         try clear hfz13_2
         try clear hfz16_0
         try clear hfz16_1
         try clear hfz16_2
         try clear hfz26_0
         try clear hfz26_1
         try clear hfz26_2
         try clear hfz29_0
         try clear hfz29_1
         try clear hfz29_2
         try clear hfz30_0
         try clear hfz30_1
         try clear hfz30_2
         try clear hfz34_0
         try clear hfz34_1
         try clear hfz34_2
         try clear hfz37_0
         try clear hfz37_1
         try clear hfz37_2
         try clear hfz38_0
         try clear hfz38_1
         try clear hfz38_2
         try clear hfz42_0
         try clear hfz42_1
         try clear hfz42_2
         try clear hfz46_0
         try clear hfz46_1
         try clear hfz46_2
         try clear hfz50_0
         try clear hfz50_1
         try clear hfz50_2
         try clear hfz57_0
         try clear hfz57_1
         try clear hfz57_2
         try clear hfz59_0
         try clear hfz59_1
         try clear hfz59_2
         try clear hfz64_0
         try clear hfz64_1
         try clear hfz64_2
         try clear hfz66_0
         try clear hfz66_1
         try clear hfz66_2
         try clear hfz71_0
         try clear hfz71_1
         try clear hfz71_2
         try clear hfz73_0
         try clear hfz73_1
         try clear hfz73_2
         try clear hfz76_0
         try clear hfz76_1
         try clear hfz76_2
         try clear hfz78_0
         try clear hfz78_1
         try clear hfz78_2
         try clear p2
         obtain ⟨x13_3,rfl,HA,HK3,HO_551002,BK541,BK542,BK550,HB⟩:=hrel
         cases gk with
         | zero => exact absurd HA.out (by simp [impl_LogSteps.l0])
         | succ k3 =>
          have H:=HA.out;clear HA;simp only [impl_LogSteps.l0] at H;obtain ⟨ji80,hji80⟩ : ∃ j_ : Int,(mn (l1_2.length : Int) (l2_2.length : Int)) = j_:=⟨_,rfl⟩
          replace H : (if x13_3 < (ji80) then (if 0 ≤ x13_3 then (if x13_3 < (l1_2.length : Int) then (if x13_3 < (l2_2.length : Int) then (if (((rd_T69 l1_2 x13_3).f0) == ((rd_T69 l2_2 x13_3).f0) && (((rd_T69 l1_2 x13_3).f1) == ((rd_T69 l2_2 x13_3).f1) && ((((rd_T69 l1_2 x13_3).f2).toList) == (((rd_T69 l2_2 x13_3).f2).toList)))) = true then (impl_LogSteps.l0 k3 a0 t551 (wrap64 (x13_3 + 1)) a1_0 a1_1 l1_2 a2_0 a2_1 l2_2) else ((impl_entryFrames.f k3 a2_0 a2_1 l2_2 x13_3).bind fun t558 => (if t558.toList = ([] : List UInt8) then (some ((([(⟨1,(⟨#[108,111,103,43]⟩ : ByteArray),(⟨#[]⟩ : ByteArray),t551⟩ : S126),(⟨3,(⟨#[108,111,103,43]⟩ : ByteArray),(⟨#[108,111,103]⟩ : ByteArray),(⟨#[]⟩ : ByteArray)⟩ : S126)] : List (S126))),true)) else (if (wrap64 ((a0.size : Int) + (t558.size : Int))) ≤ 20000 then (some ((([(⟨2,(⟨#[108,111,103]⟩ : ByteArray),(⟨#[]⟩ : ByteArray),t558⟩ : S126)] : List (S126))),true)) else (some ((([(⟨1,(⟨#[108,111,103,43]⟩ : ByteArray),(⟨#[]⟩ : ByteArray),t551⟩ : S126),(⟨3,(⟨#[108,111,103,43]⟩ : ByteArray),(⟨#[108,111,103]⟩ : ByteArray),(⟨#[]⟩ : ByteArray)⟩ : S126)] : List (S126))),true)))))) else (none)) else (none)) else (none)) else ((impl_entryFrames.f k3 a2_0 a2_1 l2_2 x13_3).bind fun t568 => (if t568.toList = ([] : List UInt8) then (some ((([(⟨1,(⟨#[108,111,103,43]⟩ : ByteArray),(⟨#[]⟩ : ByteArray),t551⟩ : S126),(⟨3,(⟨#[108,111,103,43]⟩ : ByteArray),(⟨#[108,111,103]⟩ : ByteArray),(⟨#[]⟩ : ByteArray)⟩ : S126)] : List (S126))),true)) else (if (wrap64 ((a0.size : Int) + (t568.size : Int))) ≤ 20000 then (some ((([(⟨2,(⟨#[108,111,103]⟩ : ByteArray),(⟨#[]⟩ : ByteArray),t568⟩ : S126)] : List (S126))),true)) else (some ((([(⟨1,(⟨#[108,111,103,43]⟩ : ByteArray),(⟨#[]⟩ : ByteArray),t551⟩ : S126),(⟨3,(⟨#[108,111,103,43]⟩ : ByteArray),(⟨#[108,111,103]⟩ : ByteArray),(⟨#[]⟩ : ByteArray)⟩ : S126)] : List (S126))),true)))))) = some (r1,r2):=by (rw [hji80] at H;exact H)
          have hji80_ : (if (l2_2.length : Int) < (l1_2.length : Int) then (l2_2.length : Int) else (l1_2.length : Int)) = ji80:=hji80
          have hji80n : (if l2_2.length < l1_2.length then (l2_2.length : Int) else (l1_2.length : Int)) = ji80:=by rw [← hji80_];simp only [Int.ofNat_lt]
          by_cases c81 : x13_3 < (ji80)
          ·rw [if_pos c81] at H;have c81b0 : decide (x13_3 < (ji80)) = true:=de_ c81;clear c81
           by_cases c82 : 0 ≤ x13_3
           ·rw [if_pos c82] at H;have c82b0 : decide (0 ≤ x13_3) = true:=de_ c82;clear c82
            by_cases c83 : x13_3 < (l1_2.length : Int)
            ·rw [if_pos c83] at H;have c83b0 : decide (x13_3 < (l1_2.length : Int)) = true:=de_ c83;clear c83
             by_cases c84 : x13_3 < (l2_2.length : Int)
             ·rw [if_pos c84] at H;have c84b0 : decide (x13_3 < (l2_2.length : Int)) = true:=de_ c84;clear c84
              by_cases c85 : (((rd_T69 l1_2 x13_3).f0) == ((rd_T69 l2_2 x13_3).f0) && (((rd_T69 l1_2 x13_3).f1) == ((rd_T69 l2_2 x13_3).f1) && ((((rd_T69 l1_2 x13_3).f2).toList) == (((rd_T69 l2_2 x13_3).f2).toList)))) = true
              ·rw [if_pos c85] at H;have c85b0 : (((rd_T69 l1_2 x13_3).f0) == ((rd_T69 l2_2 x13_3).f0) && (((rd_T69 l1_2 x13_3).f1) == ((rd_T69 l2_2 x13_3).f1) && ((((rd_T69 l1_2 x13_3).f2).toList) == (((rd_T69 l2_2 x13_3).f2).toList)))) = true:=c85
               (try (have c85b1 : decide (((rd_T69 l1_2 x13_3).f0) = ((rd_T69 l2_2 x13_3).f0) && (((rd_T69 l1_2 x13_3).f1) == ((rd_T69 l2_2 x13_3).f1) && ((((rd_T69 l1_2 x13_3).f2).toList) == (((rd_T69 l2_2 x13_3).f2).toList)))) = true:=by simpa using c85))
               (try (have c85b2 : (((rd_T69 l1_2 x13_3).f0) == ((rd_T69 l2_2 x13_3).f0) && (((rd_T69 l1_2 x13_3).f1) == ((rd_T69 l2_2 x13_3).f1) && ((((rd_T69 l1_2 x13_3).f2).toList) == (((rd_T69 l2_2 x13_3).f2).toList)))) = true:=by simpa using c85))
               clear c85;have H':=A_ H;clear H;have hnb86:=NB541_542.out;have hnc86:=NB542_541.out;have hnb87:=NB541_550.out;have hnc87:=NB550_541.out;obtain ⟨hcz88_0,hcz88_1,hcz88_2,hfz88_0,hfz88_1,hfz88_2⟩:=k3f_ BK541;have hnb89:=NB542_550.out;have hnc89:=NB550_542.out;obtain ⟨hcz90_0,hcz90_1,hcz90_2,hfz90_0,hfz90_1,hfz90_2⟩:=k3f_ BK542;have p556 : 0 ≤ (x13_3 : Int):=oda_;have q556 : x13_3 < (l1_2.length : Int):=oda_;obtain ⟨ad556,e556,hx556_0,hx556_1,hx556_2⟩:=at_T69 HR1_2.out x13_3 p556 q556
               cases e556
               replace hx556_0:=(HB.out.cell (wb_ w _ hx556_0)).trans hx556_0;replace hx556_1:=(HB.out.cell (wb_ w _ hx556_1)).trans hx556_1;replace hx556_2:=(HB.out.cell (wb_ w _ hx556_2)).trans hx556_2;replace p556:=eq_true p556;replace q556:=eq_true q556;have p557 : 0 ≤ (x13_3 : Int):=oda_;have q557 : x13_3 < (l2_2.length : Int):=oda_;obtain ⟨ad557,e557,hx557_0,hx557_1,hx557_2⟩:=at_T69 HR2_2.out x13_3 p557 q557
               cases e557
               replace hx557_0:=(HB.out.cell (wb_ w _ hx557_0)).trans hx557_0;replace hx557_1:=(HB.out.cell (wb_ w _ hx557_1)).trans hx557_1;replace hx557_2:=(HB.out.cell (wb_ w _ hx557_2)).trans hx557_2;replace p557:=eq_true p557;replace q557:=eq_true q557;go_wp2
               repeat (go_quiet (fail);try go_wp2)
               go_roundg k3
               case measure => have:=HJ5.out;have:=HJ60.out;have:=HK3.out;omega
               case rel => exact ⟨(wrap64 (x13_3 + 1)),(by rfl),H',⟨by have:=HJ5.out;have:=HJ60.out;have:=HK3.out;omega⟩,⟨by (with_reducible repeat (apply rn_));exact HO_551002.out⟩,⟨kq_ BK541⟩,⟨kq_ BK542⟩,⟨kq_ BK550⟩,⟨bq_ HB⟩⟩
              ·rw [if_neg c85] at H
               have c85b0 : (((rd_T69 l1_2 x13_3).f0) == ((rd_T69 l2_2 x13_3).f0) && (((rd_T69 l1_2 x13_3).f1) == ((rd_T69 l2_2 x13_3).f1) && ((((rd_T69 l1_2 x13_3).f2).toList) == (((rd_T69 l2_2 x13_3).f2).toList)))) = false:=by simpa using c85
               (try (have c85b1 : decide (((rd_T69 l1_2 x13_3).f0) = ((rd_T69 l2_2 x13_3).f0) && (((rd_T69 l1_2 x13_3).f1) == ((rd_T69 l2_2 x13_3).f1) && ((((rd_T69 l1_2 x13_3).f2).toList) == (((rd_T69 l2_2 x13_3).f2).toList)))) = false:=by simpa using c85))
               (try (have c85b2 : (((rd_T69 l1_2 x13_3).f0) == ((rd_T69 l2_2 x13_3).f0) && (((rd_T69 l1_2 x13_3).f1) == ((rd_T69 l2_2 x13_3).f1) && ((((rd_T69 l1_2 x13_3).f2).toList) == (((rd_T69 l2_2 x13_3).f2).toList)))) = false:=by simpa using c85))
               (try (have c85b3 : ¬ (((rd_T69 l1_2 x13_3).f0) = ((rd_T69 l2_2 x13_3).f0) && (((rd_T69 l1_2 x13_3).f1) == ((rd_T69 l2_2 x13_3).f1) && ((((rd_T69 l1_2 x13_3).f2).toList) == (((rd_T69 l2_2 x13_3).f2).toList)))):=by simpa using c85))
               clear c85;replace H:=ob_.mp H;obtain ⟨t558,A910,H⟩:=H;have A91:=A_ A910;clear A910
               by_cases c92 : t558.toList = ([] : List UInt8)
               ·rw [if_pos c92] at H;have c92b0 : (t558.toList == ([] : List UInt8)) = true:=beq_iff_eq.mpr c92;have c92b1 : (t558.toList != ([] : List UInt8)) = false:=bne_eq_false_iff_eq.mpr c92;clear c92;obtain ⟨y559,hy559⟩ : ∃ y_ : List (S126),y_ = (([(⟨1,(⟨#[108,111,103,43]⟩ : ByteArray),(⟨#[]⟩ : ByteArray),t551⟩ : S126),(⟨3,(⟨#[108,111,103,43]⟩ : ByteArray),(⟨#[108,111,103]⟩ : ByteArray),(⟨#[]⟩ : ByteArray)⟩ : S126)] : List (S126))):=⟨_,rfl⟩
                replace H : (some (y559,true)) = some (r1,r2):=by (rw [hy559];with_reducible exact H)
                have Ny559:=A_ hy559;clear hy559;simp only [Option.some.injEq,Prod.mk.injEq] at H;obtain ⟨rfl,rfl⟩:=H;have hnb93:=NB541_542.out;have hnc93:=NB542_541.out;have hnb94:=NB541_550.out;have hnc94:=NB550_541.out;obtain ⟨hcz95_0,hcz95_1,hcz95_2,hfz95_0,hfz95_1,hfz95_2⟩:=k3f_ BK541;have hnb96:=NB542_550.out;have hnc96:=NB550_542.out;obtain ⟨hcz97_0,hcz97_1,hcz97_2,hfz97_0,hfz97_1,hfz97_2⟩:=k3f_ BK542;have p556 : 0 ≤ (x13_3 : Int):=oda_;have q556 : x13_3 < (l1_2.length : Int):=oda_;obtain ⟨ad556,e556,hx556_0,hx556_1,hx556_2⟩:=at_T69 HR1_2.out x13_3 p556 q556
                cases e556
                replace hx556_0:=(HB.out.cell (wb_ w _ hx556_0)).trans hx556_0;replace hx556_1:=(HB.out.cell (wb_ w _ hx556_1)).trans hx556_1;replace hx556_2:=(HB.out.cell (wb_ w _ hx556_2)).trans hx556_2;replace p556:=eq_true p556;replace q556:=eq_true q556;have p557 : 0 ≤ (x13_3 : Int):=oda_;have q557 : x13_3 < (l2_2.length : Int):=oda_;obtain ⟨ad557,e557,hx557_0,hx557_1,hx557_2⟩:=at_T69 HR2_2.out x13_3 p557 q557
                cases e557
                replace hx557_0:=(HB.out.cell (wb_ w _ hx557_0)).trans hx557_0;replace hx557_1:=(HB.out.cell (wb_ w _ hx557_1)).trans hx557_1;replace hx557_2:=(HB.out.cell (wb_ w _ hx557_2)).trans hx557_2;replace p557:=eq_true p557;replace q557:=eq_true q557
                go_wp2
                repeat (go_quiet (fail);try go_wp2_with (first|(go_at_call 93;(with_reducible refine (impl_entryFrames.calls k3 a2_0 a2_1 _ _ l2_2 x13_3 t558 _ ?side1 ?side2 A91.out).mono ?_);(case side1 => repeat (first|exact (Kd.C_below HR2_2.out HB.out)|(with_reducible refine Kd.C_drewN ?_ _)));(case side2 => exact HC2_2.out);rintro e w98 ⟨rfl,hb⟩;have n0_:=rB_ HO_551002 hb;have n1_:=kB_ BK541 hb;have n2_:=kB_ BK542 hb;have n3_:=kB_ BK550 hb;have n4_:=bS_ HB hb;clear HO_551002;clear BK541;clear BK542;clear BK550;clear HB;have HO_551002:=n0_;have BK541:=n1_;have BK542:=n2_;have BK550:=n3_;have HB:=n4_;clear n0_ n1_ n2_ n3_ n4_;(try clear hb))|((with_reducible refine gate_dst (N:=107) rfl ?_);(try (refine gate_guard (by rfl) ?_;dsimp only));refine rX_ (d:=k126) (e:=126) (xs:=([(⟨1,(⟨#[108,111,103,43]⟩ : ByteArray),(⟨#[]⟩ : ByteArray),t551⟩ : S126),(⟨3,(⟨#[108,111,103,43]⟩ : ByteArray),(⟨#[108,111,103]⟩ : ByteArray),(⟨#[]⟩ : ByteArray)⟩ : S126)] : List (S126))) (inner:=[.int .i64 1,.string (⟨#[108,111,103,43]⟩ : ByteArray),.string (⟨#[]⟩ : ByteArray),.string t551,.int .i64 3,.string (⟨#[108,111,103,43]⟩ : ByteArray),.string (⟨#[108,111,103]⟩ : ByteArray),.string (⟨#[]⟩ : ByteArray)]) (ok:=fun _ => True) (okp:=fun _ => True) 107 (Reps.c4 (show Kd.M k126 _ _ _ (⟨1,(⟨#[108,111,103,43]⟩ : ByteArray),(⟨#[]⟩ : ByteArray),t551⟩ : S126) [.int .i64 1,.string (⟨#[108,111,103,43]⟩ : ByteArray),.string (⟨#[]⟩ : ByteArray),.string t551] from (k126_mkM _ _ _ (⟨1,(⟨#[108,111,103,43]⟩ : ByteArray),(⟨#[]⟩ : ByteArray),t551⟩ : S126) )) (Reps.c4 (show Kd.M k126 _ _ _ (⟨3,(⟨#[108,111,103,43]⟩ : ByteArray),(⟨#[108,111,103]⟩ : ByteArray),(⟨#[]⟩ : ByteArray)⟩ : S126) [.int .i64 3,.string (⟨#[108,111,103,43]⟩ : ByteArray),.string (⟨#[108,111,103]⟩ : ByteArray),.string (⟨#[]⟩ : ByteArray)] from (k126_mkM _ _ _ (⟨3,(⟨#[108,111,103,43]⟩ : ByteArray),(⟨#[108,111,103]⟩ : ByteArray),(⟨#[]⟩ : ByteArray)⟩ : S126) )) (Reps.none _ _))) ?_;intro v560 w99 ho100 hb hg_ hnew_;clear hg_ hnew_;(rw [← Ny559.out] at ho100);have n0_:=rB_ HO_551002 hb;have n1_:=A_ (rw_ ho100 (bz_ (bq_ HB)));have n2_:=kB_ BK541 hb;have n3_:=kB_ BK542 hb;have n4_:=kB_ BK550 hb;have n5_:=bS_ HB hb;clear HO_551002;clear BK541;clear BK542;clear BK550;clear HB;have HO_551002:=n0_;have HO561:=n1_;have BK541:=n2_;have BK542:=n3_;have BK550:=n4_;have HB:=n5_;clear n0_ n1_ n2_ n3_ n4_ n5_;clear hb ho100)))
                go_ret2;exact ⟨_,by rfl,by exact HO561.out,bq_ HB⟩
               ·rw [if_neg c92] at H;have c92b0 : (t558.toList == ([] : List UInt8)) = false:=beq_eq_false_iff_ne.mpr c92;have c92b1 : (t558.toList != ([] : List UInt8)) = true:=bne_iff_ne.mpr c92
                by_cases c101 : (wrap64 ((a0.size : Int) + (t558.size : Int))) ≤ 20000
                ·rw [if_pos c101] at H;have c101b0 : decide ((wrap64 ((a0.size : Int) + (t558.size : Int))) ≤ 20000) = true:=de_ c101;clear c101;obtain ⟨y562,hy562⟩ : ∃ y_ : List (S126),y_ = (([(⟨2,(⟨#[108,111,103]⟩ : ByteArray),(⟨#[]⟩ : ByteArray),t558⟩ : S126)] : List (S126))):=⟨_,rfl⟩
                 replace H : (some (y562,true)) = some (r1,r2):=by (rw [hy562];with_reducible exact H)
                 have Ny562:=A_ hy562;clear hy562;simp only [Option.some.injEq,Prod.mk.injEq] at H;obtain ⟨rfl,rfl⟩:=H;have hnb102:=NB541_542.out;have hnc102:=NB542_541.out;have hnb103:=NB541_550.out;have hnc103:=NB550_541.out;obtain ⟨hcz104_0,hcz104_1,hcz104_2,hfz104_0,hfz104_1,hfz104_2⟩:=k3f_ BK541;have hnb105:=NB542_550.out;have hnc105:=NB550_542.out;obtain ⟨hcz106_0,hcz106_1,hcz106_2,hfz106_0,hfz106_1,hfz106_2⟩:=k3f_ BK542;have p556 : 0 ≤ (x13_3 : Int):=oda_;have q556 : x13_3 < (l1_2.length : Int):=oda_;obtain ⟨ad556,e556,hx556_0,hx556_1,hx556_2⟩:=at_T69 HR1_2.out x13_3 p556 q556
                 cases e556
                 replace hx556_0:=(HB.out.cell (wb_ w _ hx556_0)).trans hx556_0;replace hx556_1:=(HB.out.cell (wb_ w _ hx556_1)).trans hx556_1;replace hx556_2:=(HB.out.cell (wb_ w _ hx556_2)).trans hx556_2;replace p556:=eq_true p556;replace q556:=eq_true q556;have p557 : 0 ≤ (x13_3 : Int):=oda_;have q557 : x13_3 < (l2_2.length : Int):=oda_;obtain ⟨ad557,e557,hx557_0,hx557_1,hx557_2⟩:=at_T69 HR2_2.out x13_3 p557 q557
                 cases e557
                 replace hx557_0:=(HB.out.cell (wb_ w _ hx557_0)).trans hx557_0;replace hx557_1:=(HB.out.cell (wb_ w _ hx557_1)).trans hx557_1;replace hx557_2:=(HB.out.cell (wb_ w _ hx557_2)).trans hx557_2;replace p557:=eq_true p557;replace q557:=eq_true q557
                 go_wp2
                 repeat (go_quiet (fail);try go_wp2_with (first|(go_at_call 93;(with_reducible refine (impl_entryFrames.calls k3 a2_0 a2_1 _ _ l2_2 x13_3 t558 _ ?side1 ?side2 A91.out).mono ?_);(case side1 => repeat (first|exact (Kd.C_below HR2_2.out HB.out)|(with_reducible refine Kd.C_drewN ?_ _)));(case side2 => exact HC2_2.out);rintro e w107 ⟨rfl,hb⟩;have n0_:=rB_ HO_551002 hb;have n1_:=kB_ BK541 hb;have n2_:=kB_ BK542 hb;have n3_:=kB_ BK550 hb;have n4_:=bS_ HB hb;clear HO_551002;clear BK541;clear BK542;clear BK550;clear HB;have HO_551002:=n0_;have BK541:=n1_;have BK542:=n2_;have BK550:=n3_;have HB:=n4_;clear n0_ n1_ n2_ n3_ n4_;(try clear hb))|((with_reducible refine gate_dst (N:=103) rfl ?_);(try (refine gate_guard (by rfl) ?_;dsimp only));refine rX_ (d:=k126) (e:=126) (xs:=([(⟨2,(⟨#[108,111,103]⟩ : ByteArray),(⟨#[]⟩ : ByteArray),t558⟩ : S126)] : List (S126))) (inner:=[.int .i64 2,.string (⟨#[108,111,103]⟩ : ByteArray),.string (⟨#[]⟩ : ByteArray),.string t558]) (ok:=fun _ => True) (okp:=fun _ => True) 103 (Reps.c4 (show Kd.M k126 _ _ _ (⟨2,(⟨#[108,111,103]⟩ : ByteArray),(⟨#[]⟩ : ByteArray),t558⟩ : S126) [.int .i64 2,.string (⟨#[108,111,103]⟩ : ByteArray),.string (⟨#[]⟩ : ByteArray),.string t558] from (k126_mkM _ _ _ (⟨2,(⟨#[108,111,103]⟩ : ByteArray),(⟨#[]⟩ : ByteArray),t558⟩ : S126) )) (Reps.none _ _)) ?_;intro v563 w108 ho109 hb hg_ hnew_;clear hg_ hnew_;(rw [← Ny562.out] at ho109);have n0_:=rB_ HO_551002 hb;have n1_:=A_ (rw_ ho109 (bz_ (bq_ HB)));have n2_:=kB_ BK541 hb;have n3_:=kB_ BK542 hb;have n4_:=kB_ BK550 hb;have n5_:=bS_ HB hb;clear HO_551002;clear BK541;clear BK542;clear BK550;clear HB;have HO_551002:=n0_;have HO564:=n1_;have BK541:=n2_;have BK542:=n3_;have BK550:=n4_;have HB:=n5_;clear n0_ n1_ n2_ n3_ n4_ n5_;clear hb ho109)))
                 go_ret2;exact ⟨_,by rfl,by exact HO564.out,bq_ HB⟩
                ·rw [if_neg c101] at H;have c101b0 : decide ((wrap64 ((a0.size : Int) + (t558.size : Int))) ≤ 20000) = false:=decide_eq_false c101;clear c101;obtain ⟨y565,hy565⟩ : ∃ y_ : List (S126),y_ = (([(⟨1,(⟨#[108,111,103,43]⟩ : ByteArray),(⟨#[]⟩ : ByteArray),t551⟩ : S126),(⟨3,(⟨#[108,111,103,43]⟩ : ByteArray),(⟨#[108,111,103]⟩ : ByteArray),(⟨#[]⟩ : ByteArray)⟩ : S126)] : List (S126))):=⟨_,rfl⟩
                 replace H : (some (y565,true)) = some (r1,r2):=by (rw [hy565];with_reducible exact H)
                 have Ny565:=A_ hy565;clear hy565;simp only [Option.some.injEq,Prod.mk.injEq] at H;obtain ⟨rfl,rfl⟩:=H;have hnb110:=NB541_542.out;have hnc110:=NB542_541.out;have hnb111:=NB541_550.out;have hnc111:=NB550_541.out;obtain ⟨hcz112_0,hcz112_1,hcz112_2,hfz112_0,hfz112_1,hfz112_2⟩:=k3f_ BK541;have hnb113:=NB542_550.out;have hnc113:=NB550_542.out;obtain ⟨hcz114_0,hcz114_1,hcz114_2,hfz114_0,hfz114_1,hfz114_2⟩:=k3f_ BK542;have p556 : 0 ≤ (x13_3 : Int):=oda_;have q556 : x13_3 < (l1_2.length : Int):=oda_;obtain ⟨ad556,e556,hx556_0,hx556_1,hx556_2⟩:=at_T69 HR1_2.out x13_3 p556 q556
                 cases e556
                 replace hx556_0:=(HB.out.cell (wb_ w _ hx556_0)).trans hx556_0;replace hx556_1:=(HB.out.cell (wb_ w _ hx556_1)).trans hx556_1;replace hx556_2:=(HB.out.cell (wb_ w _ hx556_2)).trans hx556_2;replace p556:=eq_true p556;replace q556:=eq_true q556;have p557 : 0 ≤ (x13_3 : Int):=oda_;have q557 : x13_3 < (l2_2.length : Int):=oda_;obtain ⟨ad557,e557,hx557_0,hx557_1,hx557_2⟩:=at_T69 HR2_2.out x13_3 p557 q557
                 cases e557
                 replace hx557_0:=(HB.out.cell (wb_ w _ hx557_0)).trans hx557_0;replace hx557_1:=(HB.out.cell (wb_ w _ hx557_1)).trans hx557_1;replace hx557_2:=(HB.out.cell (wb_ w _ hx557_2)).trans hx557_2;replace p557:=eq_true p557;replace q557:=eq_true q557
                 go_wp2
                 repeat (go_quiet (fail);try go_wp2_with (first|(go_at_call 93;(with_reducible refine (impl_entryFrames.calls k3 a2_0 a2_1 _ _ l2_2 x13_3 t558 _ ?side1 ?side2 A91.out).mono ?_);(case side1 => repeat (first|exact (Kd.C_below HR2_2.out HB.out)|(with_reducible refine Kd.C_drewN ?_ _)));(case side2 => exact HC2_2.out);rintro e w115 ⟨rfl,hb⟩;have n0_:=rB_ HO_551002 hb;have n1_:=kB_ BK541 hb;have n2_:=kB_ BK542 hb;have n3_:=kB_ BK550 hb;have n4_:=bS_ HB hb;clear HO_551002;clear BK541;clear BK542;clear BK550;clear HB;have HO_551002:=n0_;have BK541:=n1_;have BK542:=n2_;have BK550:=n3_;have HB:=n4_;clear n0_ n1_ n2_ n3_ n4_;(try clear hb))|((with_reducible refine gate_dst (N:=107) rfl ?_);(try (refine gate_guard (by rfl) ?_;dsimp only));refine rX_ (d:=k126) (e:=126) (xs:=([(⟨1,(⟨#[108,111,103,43]⟩ : ByteArray),(⟨#[]⟩ : ByteArray),t551⟩ : S126),(⟨3,(⟨#[108,111,103,43]⟩ : ByteArray),(⟨#[108,111,103]⟩ : ByteArray),(⟨#[]⟩ : ByteArray)⟩ : S126)] : List (S126))) (inner:=[.int .i64 1,.string (⟨#[108,111,103,43]⟩ : ByteArray),.string (⟨#[]⟩ : ByteArray),.string t551,.int .i64 3,.string (⟨#[108,111,103,43]⟩ : ByteArray),.string (⟨#[108,111,103]⟩ : ByteArray),.string (⟨#[]⟩ : ByteArray)]) (ok:=fun _ => True) (okp:=fun _ => True) 107 (Reps.c4 (show Kd.M k126 _ _ _ (⟨1,(⟨#[108,111,103,43]⟩ : ByteArray),(⟨#[]⟩ : ByteArray),t551⟩ : S126) [.int .i64 1,.string (⟨#[108,111,103,43]⟩ : ByteArray),.string (⟨#[]⟩ : ByteArray),.string t551] from (k126_mkM _ _ _ (⟨1,(⟨#[108,111,103,43]⟩ : ByteArray),(⟨#[]⟩ : ByteArray),t551⟩ : S126) )) (Reps.c4 (show Kd.M k126 _ _ _ (⟨3,(⟨#[108,111,103,43]⟩ : ByteArray),(⟨#[108,111,103]⟩ : ByteArray),(⟨#[]⟩ : ByteArray)⟩ : S126) [.int .i64 3,.string (⟨#[108,111,103,43]⟩ : ByteArray),.string (⟨#[108,111,103]⟩ : ByteArray),.string (⟨#[]⟩ : ByteArray)] from (k126_mkM _ _ _ (⟨3,(⟨#[108,111,103,43]⟩ : ByteArray),(⟨#[108,111,103]⟩ : ByteArray),(⟨#[]⟩ : ByteArray)⟩ : S126) )) (Reps.none _ _))) ?_;intro v566 w116 ho117 hb hg_ hnew_;clear hg_ hnew_;(rw [← Ny565.out] at ho117);have n0_:=rB_ HO_551002 hb;have n1_:=A_ (rw_ ho117 (bz_ (bq_ HB)));have n2_:=kB_ BK541 hb;have n3_:=kB_ BK542 hb;have n4_:=kB_ BK550 hb;have n5_:=bS_ HB hb;clear HO_551002;clear BK541;clear BK542;clear BK550;clear HB;have HO_551002:=n0_;have HO567:=n1_;have BK541:=n2_;have BK542:=n3_;have BK550:=n4_;have HB:=n5_;clear n0_ n1_ n2_ n3_ n4_ n5_;clear hb ho117)))
                 go_ret2;exact ⟨_,by rfl,by exact HO567.out,bq_ HB⟩
             ·rw [if_neg c84] at H;exact absurd H (by simp)
            ·rw [if_neg c83] at H;exact absurd H (by simp)
           ·rw [if_neg c82] at H;exact absurd H (by simp)
          ·rw [if_neg c81] at H;have c81b0 : decide (x13_3 < (ji80)) = false:=decide_eq_false c81;clear c81;replace H:=ob_.mp H;obtain ⟨t568,A1180,H⟩:=H;have A118:=A_ A1180;clear A1180
           by_cases c119 : t568.toList = ([] : List UInt8)
           ·rw [if_pos c119] at H;have c119b0 : (t568.toList == ([] : List UInt8)) = true:=beq_iff_eq.mpr c119;have c119b1 : (t568.toList != ([] : List UInt8)) = false:=bne_eq_false_iff_eq.mpr c119;clear c119;obtain ⟨y569,hy569⟩ : ∃ y_ : List (S126),y_ = (([(⟨1,(⟨#[108,111,103,43]⟩ : ByteArray),(⟨#[]⟩ : ByteArray),t551⟩ : S126),(⟨3,(⟨#[108,111,103,43]⟩ : ByteArray),(⟨#[108,111,103]⟩ : ByteArray),(⟨#[]⟩ : ByteArray)⟩ : S126)] : List (S126))):=⟨_,rfl⟩
            replace H : (some (y569,true)) = some (r1,r2):=by (rw [hy569];with_reducible exact H)
            have Ny569:=A_ hy569;clear hy569;simp only [Option.some.injEq,Prod.mk.injEq] at H;obtain ⟨rfl,rfl⟩:=H;have hnb120:=NB541_542.out;have hnc120:=NB542_541.out;have hnb121:=NB541_550.out;have hnc121:=NB550_541.out;obtain ⟨hcz122_0,hcz122_1,hcz122_2,hfz122_0,hfz122_1,hfz122_2⟩:=k3f_ BK541;have hnb123:=NB542_550.out;have hnc123:=NB550_542.out;obtain ⟨hcz124_0,hcz124_1,hcz124_2,hfz124_0,hfz124_1,hfz124_2⟩:=k3f_ BK542
            go_wp2
            repeat (go_quiet (fail);try go_wp2_with (first|(go_at_call 93;(with_reducible refine (impl_entryFrames.calls k3 a2_0 a2_1 _ _ l2_2 x13_3 t568 _ ?side1 ?side2 A118.out).mono ?_);(case side1 => repeat (first|exact (Kd.C_below HR2_2.out HB.out)|(with_reducible refine Kd.C_drewN ?_ _)));(case side2 => exact HC2_2.out);rintro e w125 ⟨rfl,hb⟩;have n0_:=rB_ HO_551002 hb;have n1_:=kB_ BK541 hb;have n2_:=kB_ BK542 hb;have n3_:=kB_ BK550 hb;have n4_:=bS_ HB hb;clear HO_551002;clear BK541;clear BK542;clear BK550;clear HB;have HO_551002:=n0_;have BK541:=n1_;have BK542:=n2_;have BK550:=n3_;have HB:=n4_;clear n0_ n1_ n2_ n3_ n4_;(try clear hb))|((with_reducible refine gate_dst (N:=107) rfl ?_);(try (refine gate_guard (by rfl) ?_;dsimp only));refine rX_ (d:=k126) (e:=126) (xs:=([(⟨1,(⟨#[108,111,103,43]⟩ : ByteArray),(⟨#[]⟩ : ByteArray),t551⟩ : S126),(⟨3,(⟨#[108,111,103,43]⟩ : ByteArray),(⟨#[108,111,103]⟩ : ByteArray),(⟨#[]⟩ : ByteArray)⟩ : S126)] : List (S126))) (inner:=[.int .i64 1,.string (⟨#[108,111,103,43]⟩ : ByteArray),.string (⟨#[]⟩ : ByteArray),.string t551,.int .i64 3,.string (⟨#[108,111,103,43]⟩ : ByteArray),.string (⟨#[108,111,103]⟩ : ByteArray),.string (⟨#[]⟩ : ByteArray)]) (ok:=fun _ => True) (okp:=fun _ => True) 107 (Reps.c4 (show Kd.M k126 _ _ _ (⟨1,(⟨#[108,111,103,43]⟩ : ByteArray),(⟨#[]⟩ : ByteArray),t551⟩ : S126) [.int .i64 1,.string (⟨#[108,111,103,43]⟩ : ByteArray),.string (⟨#[]⟩ : ByteArray),.string t551] from (k126_mkM _ _ _ (⟨1,(⟨#[108,111,103,43]⟩ : ByteArray),(⟨#[]⟩ : ByteArray),t551⟩ : S126) )) (Reps.c4 (show Kd.M k126 _ _ _ (⟨3,(⟨#[108,111,103,43]⟩ : ByteArray),(⟨#[108,111,103]⟩ : ByteArray),(⟨#[]⟩ : ByteArray)⟩ : S126) [.int .i64 3,.string (⟨#[108,111,103,43]⟩ : ByteArray),.string (⟨#[108,111,103]⟩ : ByteArray),.string (⟨#[]⟩ : ByteArray)] from (k126_mkM _ _ _ (⟨3,(⟨#[108,111,103,43]⟩ : ByteArray),(⟨#[108,111,103]⟩ : ByteArray),(⟨#[]⟩ : ByteArray)⟩ : S126) )) (Reps.none _ _))) ?_;intro v570 w126 ho127 hb hg_ hnew_;clear hg_ hnew_;(rw [← Ny569.out] at ho127);have n0_:=rB_ HO_551002 hb;have n1_:=A_ (rw_ ho127 (bz_ (bq_ HB)));have n2_:=kB_ BK541 hb;have n3_:=kB_ BK542 hb;have n4_:=kB_ BK550 hb;have n5_:=bS_ HB hb;clear HO_551002;clear BK541;clear BK542;clear BK550;clear HB;have HO_551002:=n0_;have HO571:=n1_;have BK541:=n2_;have BK542:=n3_;have BK550:=n4_;have HB:=n5_;clear n0_ n1_ n2_ n3_ n4_ n5_;clear hb ho127)))
            go_ret2;exact ⟨_,by rfl,by exact HO571.out,bq_ HB⟩
           ·rw [if_neg c119] at H;have c119b0 : (t568.toList == ([] : List UInt8)) = false:=beq_eq_false_iff_ne.mpr c119;have c119b1 : (t568.toList != ([] : List UInt8)) = true:=bne_iff_ne.mpr c119
            by_cases c128 : (wrap64 ((a0.size : Int) + (t568.size : Int))) ≤ 20000
            ·rw [if_pos c128] at H;have c128b0 : decide ((wrap64 ((a0.size : Int) + (t568.size : Int))) ≤ 20000) = true:=de_ c128;clear c128;obtain ⟨y572,hy572⟩ : ∃ y_ : List (S126),y_ = (([(⟨2,(⟨#[108,111,103]⟩ : ByteArray),(⟨#[]⟩ : ByteArray),t568⟩ : S126)] : List (S126))):=⟨_,rfl⟩
             replace H : (some (y572,true)) = some (r1,r2):=by (rw [hy572];with_reducible exact H)
             have Ny572:=A_ hy572;clear hy572;simp only [Option.some.injEq,Prod.mk.injEq] at H;obtain ⟨rfl,rfl⟩:=H;have hnb129:=NB541_542.out;have hnc129:=NB542_541.out;have hnb130:=NB541_550.out;have hnc130:=NB550_541.out;obtain ⟨hcz131_0,hcz131_1,hcz131_2,hfz131_0,hfz131_1,hfz131_2⟩:=k3f_ BK541;have hnb132:=NB542_550.out;have hnc132:=NB550_542.out;obtain ⟨hcz133_0,hcz133_1,hcz133_2,hfz133_0,hfz133_1,hfz133_2⟩:=k3f_ BK542
             go_wp2
             repeat (go_quiet (fail);try go_wp2_with (first|(go_at_call 93;(with_reducible refine (impl_entryFrames.calls k3 a2_0 a2_1 _ _ l2_2 x13_3 t568 _ ?side1 ?side2 A118.out).mono ?_);(case side1 => repeat (first|exact (Kd.C_below HR2_2.out HB.out)|(with_reducible refine Kd.C_drewN ?_ _)));(case side2 => exact HC2_2.out);rintro e w134 ⟨rfl,hb⟩;have n0_:=rB_ HO_551002 hb;have n1_:=kB_ BK541 hb;have n2_:=kB_ BK542 hb;have n3_:=kB_ BK550 hb;have n4_:=bS_ HB hb;clear HO_551002;clear BK541;clear BK542;clear BK550;clear HB;have HO_551002:=n0_;have BK541:=n1_;have BK542:=n2_;have BK550:=n3_;have HB:=n4_;clear n0_ n1_ n2_ n3_ n4_;(try clear hb))|((with_reducible refine gate_dst (N:=103) rfl ?_);(try (refine gate_guard (by rfl) ?_;dsimp only));refine rX_ (d:=k126) (e:=126) (xs:=([(⟨2,(⟨#[108,111,103]⟩ : ByteArray),(⟨#[]⟩ : ByteArray),t568⟩ : S126)] : List (S126))) (inner:=[.int .i64 2,.string (⟨#[108,111,103]⟩ : ByteArray),.string (⟨#[]⟩ : ByteArray),.string t568]) (ok:=fun _ => True) (okp:=fun _ => True) 103 (Reps.c4 (show Kd.M k126 _ _ _ (⟨2,(⟨#[108,111,103]⟩ : ByteArray),(⟨#[]⟩ : ByteArray),t568⟩ : S126) [.int .i64 2,.string (⟨#[108,111,103]⟩ : ByteArray),.string (⟨#[]⟩ : ByteArray),.string t568] from (k126_mkM _ _ _ (⟨2,(⟨#[108,111,103]⟩ : ByteArray),(⟨#[]⟩ : ByteArray),t568⟩ : S126) )) (Reps.none _ _)) ?_;intro v573 w135 ho136 hb hg_ hnew_;clear hg_ hnew_;(rw [← Ny572.out] at ho136);have n0_:=rB_ HO_551002 hb;have n1_:=A_ (rw_ ho136 (bz_ (bq_ HB)));have n2_:=kB_ BK541 hb;have n3_:=kB_ BK542 hb;have n4_:=kB_ BK550 hb;have n5_:=bS_ HB hb;clear HO_551002;clear BK541;clear BK542;clear BK550;clear HB;have HO_551002:=n0_;have HO574:=n1_;have BK541:=n2_;have BK542:=n3_;have BK550:=n4_;have HB:=n5_;clear n0_ n1_ n2_ n3_ n4_ n5_;clear hb ho136)))
             go_ret2;exact ⟨_,by rfl,by exact HO574.out,bq_ HB⟩
            ·rw [if_neg c128] at H;have c128b0 : decide ((wrap64 ((a0.size : Int) + (t568.size : Int))) ≤ 20000) = false:=decide_eq_false c128;clear c128;obtain ⟨y575,hy575⟩ : ∃ y_ : List (S126),y_ = (([(⟨1,(⟨#[108,111,103,43]⟩ : ByteArray),(⟨#[]⟩ : ByteArray),t551⟩ : S126),(⟨3,(⟨#[108,111,103,43]⟩ : ByteArray),(⟨#[108,111,103]⟩ : ByteArray),(⟨#[]⟩ : ByteArray)⟩ : S126)] : List (S126))):=⟨_,rfl⟩
             replace H : (some (y575,true)) = some (r1,r2):=by (rw [hy575];with_reducible exact H)
             have Ny575:=A_ hy575;clear hy575;simp only [Option.some.injEq,Prod.mk.injEq] at H;obtain ⟨rfl,rfl⟩:=H;have hnb137:=NB541_542.out;have hnc137:=NB542_541.out;have hnb138:=NB541_550.out;have hnc138:=NB550_541.out;obtain ⟨hcz139_0,hcz139_1,hcz139_2,hfz139_0,hfz139_1,hfz139_2⟩:=k3f_ BK541;have hnb140:=NB542_550.out;have hnc140:=NB550_542.out;obtain ⟨hcz141_0,hcz141_1,hcz141_2,hfz141_0,hfz141_1,hfz141_2⟩:=k3f_ BK542
             go_wp2
             repeat (go_quiet (fail);try go_wp2_with (first|(go_at_call 93;(with_reducible refine (impl_entryFrames.calls k3 a2_0 a2_1 _ _ l2_2 x13_3 t568 _ ?side1 ?side2 A118.out).mono ?_);(case side1 => repeat (first|exact (Kd.C_below HR2_2.out HB.out)|(with_reducible refine Kd.C_drewN ?_ _)));(case side2 => exact HC2_2.out);rintro e w142 ⟨rfl,hb⟩;have n0_:=rB_ HO_551002 hb;have n1_:=kB_ BK541 hb;have n2_:=kB_ BK542 hb;have n3_:=kB_ BK550 hb;have n4_:=bS_ HB hb;clear HO_551002;clear BK541;clear BK542;clear BK550;clear HB;have HO_551002:=n0_;have BK541:=n1_;have BK542:=n2_;have BK550:=n3_;have HB:=n4_;clear n0_ n1_ n2_ n3_ n4_;(try clear hb))|((with_reducible refine gate_dst (N:=107) rfl ?_);(try (refine gate_guard (by rfl) ?_;dsimp only));refine rX_ (d:=k126) (e:=126) (xs:=([(⟨1,(⟨#[108,111,103,43]⟩ : ByteArray),(⟨#[]⟩ : ByteArray),t551⟩ : S126),(⟨3,(⟨#[108,111,103,43]⟩ : ByteArray),(⟨#[108,111,103]⟩ : ByteArray),(⟨#[]⟩ : ByteArray)⟩ : S126)] : List (S126))) (inner:=[.int .i64 1,.string (⟨#[108,111,103,43]⟩ : ByteArray),.string (⟨#[]⟩ : ByteArray),.string t551,.int .i64 3,.string (⟨#[108,111,103,43]⟩ : ByteArray),.string (⟨#[108,111,103]⟩ : ByteArray),.string (⟨#[]⟩ : ByteArray)]) (ok:=fun _ => True) (okp:=fun _ => True) 107 (Reps.c4 (show Kd.M k126 _ _ _ (⟨1,(⟨#[108,111,103,43]⟩ : ByteArray),(⟨#[]⟩ : ByteArray),t551⟩ : S126) [.int .i64 1,.string (⟨#[108,111,103,43]⟩ : ByteArray),.string (⟨#[]⟩ : ByteArray),.string t551] from (k126_mkM _ _ _ (⟨1,(⟨#[108,111,103,43]⟩ : ByteArray),(⟨#[]⟩ : ByteArray),t551⟩ : S126) )) (Reps.c4 (show Kd.M k126 _ _ _ (⟨3,(⟨#[108,111,103,43]⟩ : ByteArray),(⟨#[108,111,103]⟩ : ByteArray),(⟨#[]⟩ : ByteArray)⟩ : S126) [.int .i64 3,.string (⟨#[108,111,103,43]⟩ : ByteArray),.string (⟨#[108,111,103]⟩ : ByteArray),.string (⟨#[]⟩ : ByteArray)] from (k126_mkM _ _ _ (⟨3,(⟨#[108,111,103,43]⟩ : ByteArray),(⟨#[108,111,103]⟩ : ByteArray),(⟨#[]⟩ : ByteArray)⟩ : S126) )) (Reps.none _ _))) ?_;intro v576 w143 ho144 hb hg_ hnew_;clear hg_ hnew_;(rw [← Ny575.out] at ho144);have n0_:=rB_ HO_551002 hb;have n1_:=A_ (rw_ ho144 (bz_ (bq_ HB)));have n2_:=kB_ BK541 hb;have n3_:=kB_ BK542 hb;have n4_:=kB_ BK550 hb;have n5_:=bS_ HB hb;clear HO_551002;clear BK541;clear BK542;clear BK550;clear HB;have HO_551002:=n0_;have HO577:=n1_;have BK541:=n2_;have BK542:=n3_;have BK550:=n4_;have HB:=n5_;clear n0_ n1_ n2_ n3_ n4_ n5_;clear hb ho144)))
             go_ret2;exact ⟨_,by rfl,by exact HO577.out,bq_ HB⟩
       ·replace c79:=Bool.eq_false_iff.mpr c79;subst c79
        have H1 : (some ((([(⟨1,(⟨#[108,111,103,43]⟩ : ByteArray),(⟨#[]⟩ : ByteArray),t551⟩ : S126),(⟨3,(⟨#[108,111,103,43]⟩ : ByteArray),(⟨#[108,111,103]⟩ : ByteArray),(⟨#[]⟩ : ByteArray)⟩ : S126)] : List (S126))),true)) = some (r1,r2):=by rw [if_neg (show ¬ (false = true) by decide)] at H;exact H
        clear H;have H:=H1;clear H1;obtain ⟨y578,hy578⟩ : ∃ y_ : List (S126),y_ = (([(⟨1,(⟨#[108,111,103,43]⟩ : ByteArray),(⟨#[]⟩ : ByteArray),t551⟩ : S126),(⟨3,(⟨#[108,111,103,43]⟩ : ByteArray),(⟨#[108,111,103]⟩ : ByteArray),(⟨#[]⟩ : ByteArray)⟩ : S126)] : List (S126))):=⟨_,rfl⟩
        replace H : (some (y578,true)) = some (r1,r2):=by (rw [hy578];with_reducible exact H)
        have Ny578:=A_ hy578;clear hy578;simp only [Option.some.injEq,Prod.mk.injEq] at H;obtain ⟨rfl,rfl⟩:=H
        go_wp2_with (((with_reducible refine gate_dst (N:=107) rfl ?_);(try (refine gate_guard (by rfl) ?_;dsimp only));refine rX_ (d:=k126) (e:=126) (xs:=([(⟨1,(⟨#[108,111,103,43]⟩ : ByteArray),(⟨#[]⟩ : ByteArray),t551⟩ : S126),(⟨3,(⟨#[108,111,103,43]⟩ : ByteArray),(⟨#[108,111,103]⟩ : ByteArray),(⟨#[]⟩ : ByteArray)⟩ : S126)] : List (S126))) (inner:=[.int .i64 1,.string (⟨#[108,111,103,43]⟩ : ByteArray),.string (⟨#[]⟩ : ByteArray),.string t551,.int .i64 3,.string (⟨#[108,111,103,43]⟩ : ByteArray),.string (⟨#[108,111,103]⟩ : ByteArray),.string (⟨#[]⟩ : ByteArray)]) (ok:=fun _ => True) (okp:=fun _ => True) 107 (Reps.c4 (show Kd.M k126 _ _ _ (⟨1,(⟨#[108,111,103,43]⟩ : ByteArray),(⟨#[]⟩ : ByteArray),t551⟩ : S126) [.int .i64 1,.string (⟨#[108,111,103,43]⟩ : ByteArray),.string (⟨#[]⟩ : ByteArray),.string t551] from (k126_mkM _ _ _ (⟨1,(⟨#[108,111,103,43]⟩ : ByteArray),(⟨#[]⟩ : ByteArray),t551⟩ : S126) )) (Reps.c4 (show Kd.M k126 _ _ _ (⟨3,(⟨#[108,111,103,43]⟩ : ByteArray),(⟨#[108,111,103]⟩ : ByteArray),(⟨#[]⟩ : ByteArray)⟩ : S126) [.int .i64 3,.string (⟨#[108,111,103,43]⟩ : ByteArray),.string (⟨#[108,111,103]⟩ : ByteArray),.string (⟨#[]⟩ : ByteArray)] from (k126_mkM _ _ _ (⟨3,(⟨#[108,111,103,43]⟩ : ByteArray),(⟨#[108,111,103]⟩ : ByteArray),(⟨#[]⟩ : ByteArray)⟩ : S126) )) (Reps.none _ _))) ?_;intro v579 w145 ho146 hb hg_ hnew_;clear hg_ hnew_;(rw [← Ny578.out] at ho146);replace HO_551002:=rB_ HO_551002 hb;have HO580:=A_ (rw_ ho146 (bz_ (bq_ HB)));replace BK541:=kB_ BK541 hb;replace BK542:=kB_ BK542 hb;replace BK550:=kB_ BK550 hb;replace HB:=bS_ HB hb;clear hb ho146))
        go_ret2;exact ⟨_,by rfl,by exact HO580.out,bq_ HB⟩
end Go.Proofs.Ytbcgnncbiblibaa.PFnExactLogSteps
