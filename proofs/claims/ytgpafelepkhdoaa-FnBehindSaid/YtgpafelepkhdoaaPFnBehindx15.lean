/- The contracts of the Go functions that this law reaches: what each call returns, by a plain Lean function of its arguments. No conditions but those each contract names. By the kit's print.py, run by this session's wip/gen/pp.py with facts and hand proofs beside it: not to the letter what print.sh prints. -/
import Derived.Test.YtgpafelepkhdoaaPFnBehindx0
import Derived.Test.YtgpafelepkhdoaaPFnBehindx6
import Derived.Test.YtgpafelepkhdoaaPFnBehindx7
import Derived.Test.YtgpafelepkhdoaaPFnBehindx14
namespace Go.Proofs.Ytgpafelepkhdoaa.PFnBehind
open Go.RowKit Go.Proofs.YtgpafelepkhdoaaW.PrintWords Go.Proofs.YtgpafelepkhdoaaW.PrintLast Go.Proofs.YtgpafelepkhdoaaW.PrintMore
attribute [local go_sem] max2_int min2_int max_two min_two max_three min_three max_four min_four
set_option linter.unusedVariables false
set_option linter.unusedSimpArgs false
def spec_LogBehind.f (k : Nat) (a0_0 : Int) (a0_1 : Int) (l0_2 : List (S37)) (a1 : Int) (a2 : Int) : Option (Int × Int × (List (S37))) := (spec_LogOk.f k a0_0 a0_1 l0_2).bind fun t395 => (if t395 = true then ((spec_l12Last.f a0_0 a0_1 l0_2).bind fun t396 => ((spec_l01In.f a1 a0_0 t396).bind fun t397 => (if t397 = true then ((spec_LogTerm.f a0_0 a0_1 l0_2 a1).bind fun t398 => (if t398 = a2 then ((some (([] : List (S37)) : List (S37))).bind fun y399 => (if 0 ≤ (wrap64 (a1 - a0_0)) then (if (wrap64 (a1 - a0_0)) ≤ (l0_2.length : Int) then ((some (l0_2.drop ((wrap64 (a1 - a0_0)) : Int).toNat : List (S37))).bind fun y402 => (if y399.length + y402.length < 4398046511104 then (some (a1, a2, (y399 ++ y402))) else (none))) else (none)) else (none))) else (some (a1, a2, ([] : List (S37)))))) else (some (a1, a2, ([] : List (S37))))))) else (some (a1, a2, ([] : List (S37)))))
theorem spec_LogBehind.mono : ∀ a0 a1 a2 a3 a4 k, LeO (spec_LogBehind.f k a0 a1 a2 a3 a4) (spec_LogBehind.f (k + 1) a0 a1 a2 a3 a4) := by
 intro a0 a1 a2 a3 a4 k
 unfold spec_LogBehind.f
 repeat' first
   | (with_reducible exact spec_LogOk.mono _ _ _ _)
   | (with_reducible exact LeO.refl _)
   | (with_reducible exact LeO.none _)
   | (with_reducible refine LeO.ite ?_ ?_)
   | (with_reducible refine LeO.bind ?_ (fun _ => ?_))
def spec_LogBehind.T2 : Bool × List (List Nat × List Nat) := (true, [([], []), ([0], [0]), ([1, 1], [1]), ([2], [2]), ([2], [2]), ([4, 2], [2, 4]), ([2], [2]), ([6, 2, 2], [2, 6]), ([3, 5, 7, 7, 2], [2, 3, 5, 7]), ([2, 8], [2, 8]), ([9, 8], [9]), ([10], [10]), ([10], [10]), ([11, 12, 10, 10], [10, 11, 12]), ([10], [10]), ([13, 14, 10], [10, 13, 14]), ([10, 15], [10, 15])])
def spec_LogBehind.B2 : List Nat := [0, 1, 3, 7, 7, 23, 7, 71, 255, 511, 1023, 2047, 2047, 8191, 2047, 32767, 65535]
theorem spec_LogBehind.tab2 : rtab .any (opsOf Try.f36 2) = spec_LogBehind.T2 := by kernel_rfl
theorem spec_LogBehind.bits2 : waitsOk spec_LogBehind.T2.2 spec_LogBehind.B2 = true := by kernel_rfl
set_option maxHeartbeats 8000000 in
set_option maxRecDepth 100000 in
theorem spec_LogBehind.calls (k : Nat) (a0_0 : Int) (a0_1 : Int) (A0_2 : Option Addr) (c0_2 : Nat) (l0_2 : List (S37)) (a1 : Int) (a2 : Int) (r1 : Int) (r2 : Int) (r3 : List (S37)) (w : World) (hr0_2 : Kd.C k37 w A0_2 l0_2.length l0_2) (hc0_2 : l0_2.length ≤ c0_2) (h : spec_LogBehind.f k a0_0 a0_1 l0_2 a1 a2 = some (r1, r2, r3)) :
  Calls Try.prog 36 #[.agg #[.int .i64 a0_0,.int .i64 a0_1,.slice A0_2 l0_2.length c0_2],.int .i64 a1,.int .i64 a2] w fun e w' => ∃ v2_ : Value,e = .returned (.agg #[.int .i64 r1,.int .i64 r2,v2_]) ∧ Kd.R k37 37 w' w.heap.size (fun _ => True) v2_ r3 ∧ Below w.heap.size w w':=by
 have hu60:=Try.underlying60;have HR0_2:=A_ hr0_2;have HC0_2:=A_ hc0_2;clear hr0_2 hc0_2;have HB:=A_ (Below.refl w.heap.size w);have H : ((spec_LogOk.f k a0_0 a0_1 l0_2).bind fun t395 => (if t395 = true then ((spec_l12Last.f a0_0 a0_1 l0_2).bind fun t396 => ((spec_l01In.f a1 a0_0 t396).bind fun t397 => (if t397 = true then ((spec_LogTerm.f a0_0 a0_1 l0_2 a1).bind fun t398 => (if t398 = a2 then ((some (([] : List (S37)) : List (S37))).bind fun y399 => (if 0 ≤ (wrap64 (a1 - a0_0)) then (if (wrap64 (a1 - a0_0)) ≤ (l0_2.length : Int) then ((some (l0_2.drop ((wrap64 (a1 - a0_0)) : Int).toNat : List (S37))).bind fun y402 => (if y399.length + y402.length < 4398046511104 then (some (a1,a2,(y399 ++ y402))) else (none))) else (none)) else (none))) else (some (a1,a2,([] : List (S37)))))) else (some (a1,a2,([] : List (S37))))))) else (some (a1,a2,([] : List (S37)))))) = some (r1,r2,r3):=h;clear h;replace H:=ob_.mp H;obtain ⟨t395,A40,H⟩:=H;replace H : (if t395 = true then ((spec_l12Last.f a0_0 a0_1 l0_2).bind fun t396 => ((spec_l01In.f a1 a0_0 t396).bind fun t397 => (if t397 = true then ((spec_LogTerm.f a0_0 a0_1 l0_2 a1).bind fun t398 => (if t398 = a2 then ((some (([] : List (S37)) : List (S37))).bind fun y399 => (if 0 ≤ (wrap64 (a1 - a0_0)) then (if (wrap64 (a1 - a0_0)) ≤ (l0_2.length : Int) then ((some (l0_2.drop ((wrap64 (a1 - a0_0)) : Int).toNat : List (S37))).bind fun y402 => (if y399.length + y402.length < 4398046511104 then (some (a1,a2,(y399 ++ y402))) else (none))) else (none)) else (none))) else (some (a1,a2,([] : List (S37)))))) else (some (a1,a2,([] : List (S37))))))) else (some (a1,a2,([] : List (S37))))) = some (r1,r2,r3):=H;have A4:=A_ A40;clear A40
 by_cases c5 : t395 = true
 ·subst c5
  have H1 : ((spec_l12Last.f a0_0 a0_1 l0_2).bind fun t396 => ((spec_l01In.f a1 a0_0 t396).bind fun t397 => (if t397 = true then ((spec_LogTerm.f a0_0 a0_1 l0_2 a1).bind fun t398 => (if t398 = a2 then ((some (([] : List (S37)) : List (S37))).bind fun y399 => (if 0 ≤ (wrap64 (a1 - a0_0)) then (if (wrap64 (a1 - a0_0)) ≤ (l0_2.length : Int) then ((some (l0_2.drop ((wrap64 (a1 - a0_0)) : Int).toNat : List (S37))).bind fun y402 => (if y399.length + y402.length < 4398046511104 then (some (a1,a2,(y399 ++ y402))) else (none))) else (none)) else (none))) else (some (a1,a2,([] : List (S37)))))) else (some (a1,a2,([] : List (S37))))))) = some (r1,r2,r3):=by rw [if_pos rfl] at H;exact H
  clear H;have H:=H1;clear H1;replace H:=ob_.mp H;obtain ⟨t396,A60,H⟩:=H;replace H : ((spec_l01In.f a1 a0_0 t396).bind fun t397 => (if t397 = true then ((spec_LogTerm.f a0_0 a0_1 l0_2 a1).bind fun t398 => (if t398 = a2 then ((some (([] : List (S37)) : List (S37))).bind fun y399 => (if 0 ≤ (wrap64 (a1 - a0_0)) then (if (wrap64 (a1 - a0_0)) ≤ (l0_2.length : Int) then ((some (l0_2.drop ((wrap64 (a1 - a0_0)) : Int).toNat : List (S37))).bind fun y402 => (if y399.length + y402.length < 4398046511104 then (some (a1,a2,(y399 ++ y402))) else (none))) else (none)) else (none))) else (some (a1,a2,([] : List (S37)))))) else (some (a1,a2,([] : List (S37)))))) = some (r1,r2,r3):=H;have A6:=A_ A60;clear A60;replace H:=ob_.mp H;obtain ⟨t397,A70,H⟩:=H;replace H : (if t397 = true then ((spec_LogTerm.f a0_0 a0_1 l0_2 a1).bind fun t398 => (if t398 = a2 then ((some (([] : List (S37)) : List (S37))).bind fun y399 => (if 0 ≤ (wrap64 (a1 - a0_0)) then (if (wrap64 (a1 - a0_0)) ≤ (l0_2.length : Int) then ((some (l0_2.drop ((wrap64 (a1 - a0_0)) : Int).toNat : List (S37))).bind fun y402 => (if y399.length + y402.length < 4398046511104 then (some (a1,a2,(y399 ++ y402))) else (none))) else (none)) else (none))) else (some (a1,a2,([] : List (S37)))))) else (some (a1,a2,([] : List (S37))))) = some (r1,r2,r3):=H;have A7:=A_ A70;clear A70
  by_cases c8 : t397 = true
  ·subst c8
   have H1 : ((spec_LogTerm.f a0_0 a0_1 l0_2 a1).bind fun t398 => (if t398 = a2 then ((some (([] : List (S37)) : List (S37))).bind fun y399 => (if 0 ≤ (wrap64 (a1 - a0_0)) then (if (wrap64 (a1 - a0_0)) ≤ (l0_2.length : Int) then ((some (l0_2.drop ((wrap64 (a1 - a0_0)) : Int).toNat : List (S37))).bind fun y402 => (if y399.length + y402.length < 4398046511104 then (some (a1,a2,(y399 ++ y402))) else (none))) else (none)) else (none))) else (some (a1,a2,([] : List (S37)))))) = some (r1,r2,r3):=by rw [if_pos rfl] at H;exact H
   clear H;have H:=H1;clear H1;replace H:=ob_.mp H;obtain ⟨t398,A90,H⟩:=H;replace H : (if t398 = a2 then ((some (([] : List (S37)) : List (S37))).bind fun y399 => (if 0 ≤ (wrap64 (a1 - a0_0)) then (if (wrap64 (a1 - a0_0)) ≤ (l0_2.length : Int) then ((some (l0_2.drop ((wrap64 (a1 - a0_0)) : Int).toNat : List (S37))).bind fun y402 => (if y399.length + y402.length < 4398046511104 then (some (a1,a2,(y399 ++ y402))) else (none))) else (none)) else (none))) else (some (a1,a2,([] : List (S37))))) = some (r1,r2,r3):=H;have A9:=A_ A90;clear A90
   by_cases c10 : t398 = a2
   ·rw [if_pos c10] at H;have c10b0 : (t398 == a2) = true:=beq_iff_eq.mpr c10;have c10b1 : (t398 != a2) = false:=bne_eq_false_iff_eq.mpr c10;clear c10;obtain ⟨y399,hy399⟩ : ∃ y_ : List (S37),y_ = (([] : List (S37))):=⟨_,rfl⟩
    replace H : (if 0 ≤ (wrap64 (a1 - a0_0)) then (if (wrap64 (a1 - a0_0)) ≤ (l0_2.length : Int) then ((some (l0_2.drop ((wrap64 (a1 - a0_0)) : Int).toNat : List (S37))).bind fun y402 => (if y399.length + y402.length < 4398046511104 then (some (a1,a2,(y399 ++ y402))) else (none))) else (none)) else (none)) = some (r1,r2,r3):=by first|(rw [hy399];with_reducible exact H)|(have H2_:=(Option.bind_some _ _).symm.trans H;rw [hy399];with_reducible exact H2_)|(have H2_:=(Option.bind_some _ _).symm.trans H;with_reducible exact H2_)|with_reducible exact H|(rw [hy399];exact H)|exact H
    have Ny399:=A_ hy399;clear hy399;obtain ⟨ji11,hji11⟩ : ∃ j_ : Int,(wrap64 (a1 - a0_0)) = j_:=⟨_,rfl⟩
    replace H : (if 0 ≤ (ji11) then (if (ji11) ≤ (l0_2.length : Int) then ((some (l0_2.drop ((ji11) : Int).toNat : List (S37))).bind fun y402 => (if y399.length + y402.length < 4398046511104 then (some (a1,a2,(y399 ++ y402))) else (none))) else (none)) else (none)) = some (r1,r2,r3):=by first|(rw [hji11] at H;exact H)|(simp only [hji11] at H ⊢;exact H)
    (try rw [hji11] at A4)
    (try rw [hji11] at A6)
    (try rw [hji11] at A7)
    (try rw [hji11] at A9)
    have hji11w : (IntKind.i64.wrap (a1 - a0_0)) = ji11:=(i64_w _).trans hji11
    by_cases c12 : 0 ≤ (ji11)
    ·rw [if_pos c12] at H;have c12b0:=eq_true c12;have c12b1 : decide (0 ≤ (ji11)) = true:=de_ c12;clear c12
     by_cases c13 : (ji11) ≤ (l0_2.length : Int)
     ·rw [if_pos c13] at H;have c13b0:=eq_true c13;have c13b1 : decide ((ji11) ≤ (l0_2.length : Int)) = true:=de_ c13;clear c13;obtain ⟨y402,hy402⟩ : ∃ y_ : List (S37),y_ = (l0_2.drop ((ji11) : Int).toNat):=⟨_,rfl⟩
      replace H : (if y399.length + y402.length < 4398046511104 then (some (a1,a2,(y399 ++ y402))) else (none)) = some (r1,r2,r3):=by first|(rw [hy402];with_reducible exact H)|(have H2_:=(Option.bind_some _ _).symm.trans H;rw [hy402];with_reducible exact H2_)|(have H2_:=(Option.bind_some _ _).symm.trans H;with_reducible exact H2_)|with_reducible exact H|(rw [hy402];exact H)|exact H
      have Ny402:=A_ hy402;clear hy402
      by_cases c14 : y399.length + y402.length < 4398046511104
      ·rw [if_pos c14] at H;have LMc14:=A_ c14;clear c14;obtain ⟨y406,hy406⟩ : ∃ y_ : List (S37),y_ = (y399 ++ y402):=⟨_,rfl⟩
       replace H : (some (a1,a2,y406)) = some (r1,r2,r3):=by first|(rw [hy406];with_reducible exact H)|(have H2_:=(Option.bind_some _ _).symm.trans H;rw [hy406];with_reducible exact H2_)|(have H2_:=(Option.bind_some _ _).symm.trans H;with_reducible exact H2_)|with_reducible exact H|(rw [hy406];exact H)|exact H
       have Ny406:=A_ hy406;clear hy406;simp only [Option.some.injEq,Prod.mk.injEq] at H;obtain ⟨rfl,rfl,rfl⟩:=H;go_enter Try.func36,Try.ntmps36
       try go_wp2_with (first|((with_reducible refine gate_dst (N:=3) rfl ?_);refine box_event ?hg (N:=3) ?hd (cs:=#[.int .i64 a0_0,.int .i64 a0_1,.slice A0_2 l0_2.length c0_2]) (t:=60) ?hr ?_;(case hd => rfl);(case hg => rfl);(case hr => exact gx_);intro gb392 hg w15 hbox hb;have BK392:=A_ (hbox);have GW392:=A_ ((by rw [hg];exact (bz_ (bq_ HB)) : w.heap.size ≤ gb392));have GE392:=A_ ((by rw [hg];exact (bz_ (bq_ HB)) : w.heap.size ≤ gb392));replace HB:=A_ (bs_ (bq_ HB) hb);clear hb hbox hg)|((with_reducible refine gate_dst (N:=6) rfl ?_);refine box_event ?hg (N:=6) ?hd (cs:=#[.int .i64 0,.int .i64 0,.slice none 0 0]) (t:=60) ?hr ?_;(case hd => rfl);(case hg => rfl);(case hr => exact gx_);intro gb393 hg w16 hbox hb;have BK393:=A_ (hbox);have GW393:=A_ ((by rw [hg];exact (bz_ (bq_ HB)) : w.heap.size ≤ gb393));have GE393:=A_ ((by rw [hg];exact (bz_ (bq_ HB)) : w.heap.size ≤ gb393));replace HB:=A_ (bs_ (bq_ HB) hb);have NB392_393:=A_ ((by rw [hg];exact nl_ (kl_ (g:=gb392) (o:=.cells #[.int .i64 a0_0,.int .i64 a0_1,.slice A0_2 l0_2.length c0_2] 60 (0,0)) (kq_ BK392)) : gb392 ≠ gb393));have NB393_392:=A_ ((by rw [hg];exact ng_ (kl_ (g:=gb392) (o:=.cells #[.int .i64 a0_0,.int .i64 a0_1,.slice A0_2 l0_2.length c0_2] 60 (0,0)) (kq_ BK392)) : gb393 ≠ gb392));replace BK392:=A_ (kb_ (kq_ BK392) hb);clear hb hbox hg)|((with_reducible refine gate_dst (N:=7) rfl ?_);refine box_event ?hg (N:=7) ?hd (cs:=#[.int .i64 0,.int .i64 0,.slice none 0 0]) (t:=60) ?hr ?_;(case hd => rfl);(case hg => rfl);(case hr => exact gx_);intro gb394 hg w17 hbox hb;have BK394:=A_ (hbox);have GW394:=A_ ((by rw [hg];exact (bz_ (bq_ HB)) : w.heap.size ≤ gb394));have GE394:=A_ ((by rw [hg];exact (bz_ (bq_ HB)) : w.heap.size ≤ gb394));replace HB:=A_ (bs_ (bq_ HB) hb);have NB392_394:=A_ ((by rw [hg];exact nl_ (kl_ (g:=gb392) (o:=.cells #[.int .i64 a0_0,.int .i64 a0_1,.slice A0_2 l0_2.length c0_2] 60 (0,0)) (kq_ BK392)) : gb392 ≠ gb394));have NB394_392:=A_ ((by rw [hg];exact ng_ (kl_ (g:=gb392) (o:=.cells #[.int .i64 a0_0,.int .i64 a0_1,.slice A0_2 l0_2.length c0_2] 60 (0,0)) (kq_ BK392)) : gb394 ≠ gb392));replace BK392:=A_ (kb_ (kq_ BK392) hb);have NB393_394:=A_ ((by rw [hg];exact nl_ (kl_ (g:=gb393) (o:=.cells #[.int .i64 0,.int .i64 0,.slice none 0 0] 60 (0,0)) (kq_ BK393)) : gb393 ≠ gb394));have NB394_393:=A_ ((by rw [hg];exact ng_ (kl_ (g:=gb393) (o:=.cells #[.int .i64 0,.int .i64 0,.slice none 0 0] 60 (0,0)) (kq_ BK393)) : gb394 ≠ gb393));replace BK393:=A_ (kb_ (kq_ BK393) hb);clear hb hbox hg;have hnb18:=NB394_392.out;have hnc18:=NB392_394.out;have hnb19:=NB394_393.out;have hnc19:=NB393_394.out;have hcz20_0:=kC_ BK394 0;have hcz20_1:=kC_ BK394 1;have hcz20_2:=kC_ BK394 2;have hfz20_0:=kf_ BK394.out 0;have hfz20_1:=kf_ BK394.out 1;have hfz20_2:=kf_ BK394.out 2))
       have n0_ : Aside0 ((((w17.setCell ⟨gb394,0,none⟩ (.int .i64 a1)).setCell ⟨gb394,1,none⟩ (.int .i64 a2)).setCell ⟨gb394,2,none⟩ (.slice none 0 0)).heap[gb392]? = some (.cells #[.int .i64 a0_0,.int .i64 a0_1,.slice A0_2 l0_2.length c0_2] 60 (0,0))):=⟨by (with_reducible repeat (first|refine kn_ ?_ _|refine kd_ ?_|refine ka_ ?_ _));refine kr_ ?_ NB392_394.out _;(with_reducible repeat (first|refine kn_ ?_ _|refine kd_ ?_|refine ka_ ?_ _));refine kr_ ?_ NB392_394.out _;(with_reducible repeat (first|refine kn_ ?_ _|refine kd_ ?_|refine ka_ ?_ _));refine kr_ ?_ NB392_394.out _;(with_reducible repeat (first|refine kn_ ?_ _|refine kd_ ?_|refine ka_ ?_ _));exact BK392.out⟩;have n1_ : Aside0 ((((w17.setCell ⟨gb394,0,none⟩ (.int .i64 a1)).setCell ⟨gb394,1,none⟩ (.int .i64 a2)).setCell ⟨gb394,2,none⟩ (.slice none 0 0)).heap[gb393]? = some (.cells #[.int .i64 0,.int .i64 0,.slice none 0 0] 60 (0,0))):=⟨by (with_reducible repeat (first|refine kn_ ?_ _|refine kd_ ?_|refine ka_ ?_ _));refine kr_ ?_ NB393_394.out _;(with_reducible repeat (first|refine kn_ ?_ _|refine kd_ ?_|refine ka_ ?_ _));refine kr_ ?_ NB393_394.out _;(with_reducible repeat (first|refine kn_ ?_ _|refine kd_ ?_|refine ka_ ?_ _));refine kr_ ?_ NB393_394.out _;(with_reducible repeat (first|refine kn_ ?_ _|refine kd_ ?_|refine ka_ ?_ _));exact BK393.out⟩;have n2_ : Aside0 ((((w17.setCell ⟨gb394,0,none⟩ (.int .i64 a1)).setCell ⟨gb394,1,none⟩ (.int .i64 a2)).setCell ⟨gb394,2,none⟩ (.slice none 0 0)).heap[gb394]? = some (.cells #[.int .i64 a1,.int .i64 a2,.slice none 0 0] 60 (0,0))):=⟨by (with_reducible repeat (first|refine kn_ ?_ _|refine kd_ ?_|refine ka_ ?_ _));refine ku_ (cs:=#[.int .i64 a1,.int .i64 a2,.slice none 0 0]) ?_ 2 _ rfl;(with_reducible repeat (first|refine kn_ ?_ _|refine kd_ ?_|refine ka_ ?_ _));refine ku_ (cs:=#[.int .i64 a1,.int .i64 0,.slice none 0 0]) ?_ 1 _ rfl;(with_reducible repeat (first|refine kn_ ?_ _|refine kd_ ?_|refine ka_ ?_ _));refine ku_ (cs:=#[.int .i64 0,.int .i64 0,.slice none 0 0]) ?_ 0 _ rfl;(with_reducible repeat (first|refine kn_ ?_ _|refine kd_ ?_|refine ka_ ?_ _));exact BK394.out⟩;have n3_ : Aside0 (Below w.heap.size w (((w17.setCell ⟨gb394,0,none⟩ (.int .i64 a1)).setCell ⟨gb394,1,none⟩ (.int .i64 a2)).setCell ⟨gb394,2,none⟩ (.slice none 0 0))):=⟨bq_ HB⟩
       (try clear BK392)
       (try clear BK393)
       (try clear BK394)
       (try clear HB)
       generalize (((w17.setCell ⟨gb394,0,none⟩ (.int .i64 a1)).setCell ⟨gb394,1,none⟩ (.int .i64 a2)).setCell ⟨gb394,2,none⟩ (.slice none 0 0)) = w21 at n0_ n1_ n2_ n3_ ⊢;have BK392:=n0_;have BK393:=n1_;have BK394:=n2_;have HB:=n3_;clear n0_ n1_ n2_ n3_;replace BK392:=A_ (kd_ BK392.out);replace BK393:=A_ (kd_ BK393.out);replace BK394:=A_ (kd_ BK394.out);replace HB:=A_ (pd_ HB.out);refine start_ (n:=17) (S:=fun w' => w'.cell? ⟨gb392,0,none⟩ = some (.int .i64 a0_0) ∧ w'.cell? ⟨gb392,1,none⟩ = some (.int .i64 a0_1) ∧ w'.cell? ⟨gb392,2,none⟩ = some (.slice A0_2 l0_2.length c0_2)) (ds:=[]) #[false,false,false,false,false,false,false,false,false,false,false,false,false,false,false,false,false] (by kernel_rfl) rfl rfl ⟨kC_ BK392 0,kC_ BK392 1,kC_ BK392 2⟩ (fun hHeld => ?_);refine with_tabW spec_LogBehind.tab2 spec_LogBehind.bits2 (fun HT_ HW_ => ?_);generalize w21.drew = w22 at BK392 BK393 BK394 HB hHeld ⊢;refine take_ (i:=0) (N:=some 11) (v:=?_) (a':=?_) #[true,false,false,false,false,false,false,false,false,false,false,false,false,false,false,false,false] rfl rfl (take_ofW HT_.out HW_.out (by kernel_rfl)) (fun _ _ _ h => h) (Or.inl ⟨by rfl,?_⟩) hHeld ?_ ?_;rotate_left
       ·rintro w' ⟨s0,s1,s2⟩;go_simp;with_reducible rfl
       rotate_left
       ·exact ux_
       refine one_ (i:=1) (N:=some 12) #[true,true,false,false,false,false,false,false,false,false,false,false,false,false,false,false,false] rfl rfl (one_of HT_.out (by kernel_rfl)) (by decide) (fun K hK => ?_);refine goes_ Try.func101 (by kernel_rfl) rfl #[.agg #[.int .i64 a0_0,.int .i64 a0_1,.slice A0_2 l0_2.length c0_2]] (by rfl) rfl rfl aq_ ?_;with_reducible refine (spec_LogOk.calls k a0_0 a0_1 _ _ l0_2 true _ ?side1 ?side2 A4.out).mono ?_
       (case side1 => repeat (first|exact (Kd.C_below HR0_2.out HB.out)|(with_reducible refine Kd.C_alloc ?_ _)|(with_reducible refine Kd.C_drewN ?_ _)|(with_reducible refine Kd.C_drew ?_)))
       (case side2 => exact HC0_2.out)
       rintro e w23 ⟨rfl,hb⟩;refine ⟨_,rfl,?_⟩;replace BK392:=A_ (kb_ (kq_ BK392) hb);replace BK393:=A_ (kb_ (kq_ BK393) hb);replace BK394:=A_ (kb_ (kq_ BK394) hb);replace HB:=A_ (bs_ (bq_ HB) hb)
       (try clear hb)
       (try clear hb2)
       (try clear hk)
       (try clear hi)
       refine hK.out _ _ ⟨kC_ BK392 0,kC_ BK392 1,kC_ BK392 2⟩ (fun hHeld => ?_);clear hK K;refine norm_ (a':=?_) ?_ ?_;rotate_left
       ·show Act.put _ (some 12) _ = _;simp only [Act.put,s1_,s2_,s3_,i64_w,i32_w];rfl
       refine pure_ (i:=2) (N:=some 13) (v:=?_) (a':=?_) #[true,true,true,false,false,false,false,false,false,false,false,false,false,false,false,false,false] rfl rfl (any_of HT_.out (by kernel_rfl)) (fun _ _ _ h => h) (Or.inl ⟨by rfl,?_⟩) ?_ ?_;rotate_left
       ·intro w';go_simp;with_reducible rfl
       rotate_left
       ·exact ux_
       refine pure_ (i:=3) (N:=some 14) (v:=?_) (a':=?_) #[true,true,true,true,false,false,false,false,false,false,false,false,false,false,false,false,false] rfl rfl (any_of HT_.out (by kernel_rfl)) (fun _ _ _ h => h) (Or.inl ⟨by rfl,?_⟩) ?_ ?_;rotate_left
       ·intro w';go_simp;with_reducible rfl
       rotate_left
       ·exact ux_
       refine pure_ (i:=4) (N:=some 15) (v:=?_) (a':=?_) #[true,true,true,true,true,false,false,false,false,false,false,false,false,false,false,false,false] rfl rfl (any_of HT_.out (by kernel_rfl)) (fun _ _ _ h => h) (Or.inl ⟨by rfl,?_⟩) ?_ ?_;rotate_left
       ·intro w';go_simp;with_reducible rfl
       rotate_left
       ·exact ux_
       refine take_ (i:=5) (N:=some 16) (v:=?_) (a':=?_) #[true,true,true,true,true,true,false,false,false,false,false,false,false,false,false,false,false] rfl rfl (take_ofW HT_.out HW_.out (by kernel_rfl)) (fun _ _ _ h => h) (Or.inl ⟨by rfl,?_⟩) hHeld ?_ ?_;rotate_left
       ·rintro w' ⟨s0,s1,s2⟩;go_simp;with_reducible rfl
       rotate_left
       ·exact ux_
       refine take_ (i:=6) (N:=some 17) (v:=?_) (a':=?_) #[true,true,true,true,true,true,true,false,false,false,false,false,false,false,false,false,false] rfl rfl (take_ofW HT_.out HW_.out (by kernel_rfl)) (fun _ _ _ h => h) (Or.inl ⟨by rfl,?_⟩) hHeld ?_ ?_;rotate_left
       ·rintro w' ⟨s0,s1,s2⟩;go_simp;with_reducible rfl
       rotate_left
       ·exact ux_
       refine one_ (i:=7) (N:=some 18) #[true,true,true,true,true,true,true,true,false,false,false,false,false,false,false,false,false] rfl rfl (one_of HT_.out (by kernel_rfl)) (by decide) (fun K hK => ?_);refine goes_ Try.func102 (by kernel_rfl) rfl #[.agg #[.int .i64 a0_0,.int .i64 a0_1,.slice A0_2 l0_2.length c0_2]] (by rfl) rfl rfl aq_ ?_;with_reducible refine (spec_l12Last.calls a0_0 a0_1 _ _ l0_2 t396 _ ?side1 ?side2 A6.out).mono ?_
       (case side1 => repeat (first|exact (Kd.C_below HR0_2.out HB.out)|(with_reducible refine Kd.C_alloc ?_ _)|(with_reducible refine Kd.C_drewN ?_ _)|(with_reducible refine Kd.C_drew ?_)))
       (case side2 => exact HC0_2.out)
       rintro e w24 ⟨rfl,hb⟩;refine ⟨_,rfl,?_⟩;replace BK392:=A_ (kb_ (kq_ BK392) hb);replace BK393:=A_ (kb_ (kq_ BK393) hb);replace BK394:=A_ (kb_ (kq_ BK394) hb);replace HB:=A_ (bs_ (bq_ HB) hb)
       (try clear hb)
       (try clear hb2)
       (try clear hk)
       (try clear hi)
       refine hK.out _ _ ⟨kC_ BK392 0,kC_ BK392 1,kC_ BK392 2⟩ (fun hHeld => ?_);clear hK K;refine norm_ (a':=?_) ?_ ?_;rotate_left
       ·show Act.put _ (some 18) _ = _;simp only [Act.put,s1_,s2_,s3_,i64_w,i32_w];rfl
       refine one_ (i:=8) (N:=some 19) #[true,true,true,true,true,true,true,true,true,false,false,false,false,false,false,false,false] rfl rfl (one_of HT_.out (by kernel_rfl)) (by decide) (fun K hK => ?_);refine goes_ Try.func78 (by kernel_rfl) rfl #[.int .i64 a1,.int .i64 a0_0,.int .i64 t396] (by rfl) rfl rfl aq_ ?_;with_reducible refine (spec_l01In.calls a1 a0_0 t396 true _ A7.out).mono ?_;rintro e w' ⟨rfl,⟨nd,rfl⟩⟩;refine ⟨_,rfl,?_⟩;have BK392d_:=A_ (kn_ BK392.out nd);have HBd_:=A_ (pn_ HB.out nd);refine hK.out _ _ ⟨kC_ BK392d_ 0,kC_ BK392d_ 1,kC_ BK392d_ 2⟩ (fun hHeld => ?_);clear hK K;refine norm_ (a':=?_) ?_ ?_;rotate_left
       ·show Act.put _ (some 19) _ = _;simp only [Act.put,s1_,s2_,s3_,i64_w,i32_w];rfl
       refine pure_ (i:=9) (N:=some 20) (v:=?_) (a':=?_) #[true,true,true,true,true,true,true,true,true,true,false,false,false,false,false,false,false] rfl rfl (any_of HT_.out (by kernel_rfl)) (fun _ _ _ h => h) (Or.inl ⟨by rfl,?_⟩) ?_ ?_;rotate_left
       ·intro w';go_simp;with_reducible rfl
       rotate_left
       ·exact ux_
       refine pure_ (i:=10) (N:=some 21) (v:=?_) (a':=?_) #[true,true,true,true,true,true,true,true,true,true,true,false,false,false,false,false,false] rfl rfl (any_of HT_.out (by kernel_rfl)) (fun _ _ _ h => h) (Or.inl ⟨by rfl,?_⟩) ?_ ?_;rotate_left
       ·intro w';go_simp;with_reducible rfl
       rotate_left
       ·exact ux_
       refine pure_ (i:=12) (N:=some 23) (v:=?_) (a':=?_) #[true,true,true,true,true,true,true,true,true,true,true,false,true,false,false,false,false] rfl rfl (any_of HT_.out (by kernel_rfl)) (fun _ _ _ h => h) (Or.inl ⟨by rfl,?_⟩) ?_ ?_;rotate_left
       ·intro w';go_simp;with_reducible rfl
       rotate_left
       ·exact ux_
       refine pure_ (i:=14) (N:=some 25) (v:=?_) (a':=?_) #[true,true,true,true,true,true,true,true,true,true,true,false,true,false,true,false,false] rfl rfl (any_of HT_.out (by kernel_rfl)) (fun _ _ _ h => h) (Or.inl ⟨by rfl,?_⟩) ?_ ?_;rotate_left
       ·intro w';go_simp;with_reducible rfl
       rotate_left
       ·exact ux_
       refine take_ (i:=11) (N:=some 22) (v:=?_) (a':=?_) #[true,true,true,true,true,true,true,true,true,true,true,true,true,false,true,false,false] rfl rfl (take_ofW HT_.out HW_.out (by kernel_rfl)) (fun _ _ _ h => h) (Or.inl ⟨by rfl,?_⟩) hHeld ?_ ?_;rotate_left
       ·rintro w' ⟨s0,s1,s2⟩;go_simp;with_reducible rfl
       rotate_left
       ·exact ux_
       refine one_ (i:=13) (N:=some 24) #[true,true,true,true,true,true,true,true,true,true,true,true,true,true,true,false,false] rfl rfl (one_of HT_.out (by kernel_rfl)) (by decide) (fun K hK => ?_);refine goes_ Try.func103 (by kernel_rfl) rfl #[.agg #[.int .i64 a0_0,.int .i64 a0_1,.slice A0_2 l0_2.length c0_2],.int .i64 a1] (by rfl) rfl rfl aq_ ?_;with_reducible refine (spec_LogTerm.calls a0_0 a0_1 _ _ l0_2 a1 t398 _ ?side1 ?side2 A9.out).mono ?_
       (case side1 => repeat (first|exact (Kd.C_below HR0_2.out (bq_ HB))|(with_reducible refine Kd.C_alloc ?_ _)|(with_reducible refine Kd.C_drewN ?_ _)|(with_reducible refine Kd.C_drew ?_)))
       (case side2 => exact HC0_2.out)
       rintro e w25 ⟨rfl,hb⟩;refine ⟨_,rfl,?_⟩;replace BK392:=A_ (kb_ (kq_ BK392) hb);replace BK393:=A_ (kb_ (kq_ BK393) hb);replace BK394:=A_ (kb_ (kq_ BK394) hb);replace HB:=A_ (bs_ (bq_ HB) hb)
       (try clear hb)
       (try clear hb2)
       (try clear hk)
       (try clear hi)
       refine hK.out _ _ ⟨kC_ BK392 0,kC_ BK392 1,kC_ BK392 2⟩ (fun hHeld => ?_);clear hK K;refine norm_ (a':=?_) ?_ ?_;rotate_left
       ·show Act.put _ (some 24) _ = _;simp only [Act.put,s1_,s2_,s3_,i64_w,i32_w];rfl
       refine pure_ (i:=15) (N:=some 26) (v:=?_) (a':=?_) #[true,true,true,true,true,true,true,true,true,true,true,true,true,true,true,true,false] rfl rfl (any_of HT_.out (by kernel_rfl)) (fun _ _ _ h => h) (Or.inl ⟨by rfl,?_⟩) ?_ ?_;rotate_left
       ·intro w';go_simp;with_reducible rfl
       rotate_left
       ·exact ux_
       refine pure_ (i:=16) (N:=some 27) (v:=?_) (a':=?_) #[true,true,true,true,true,true,true,true,true,true,true,true,true,true,true,true,true] rfl rfl (any_of HT_.out (by kernel_rfl)) (fun _ _ _ h => h) (Or.inl ⟨by rfl,?_⟩) ?_ ?_;rotate_left
       ·intro w';go_simp;with_reducible rfl
       rotate_left
       ·exact ux_
       refine done_ (done_of HT_.out (by kernel_rfl)) ?_
       try go_wp2_with (first|((with_reducible refine gate_dst (N:=28) rfl ?_);refine Kd.R_lit k37 _ 37 ?hg (N:=28) ?hd (xs:=([] : List (S37))) (inner:=[]) (ok:=fun _ => True) (okp:=fun _ => True) ?hr ?hp (fun _ hk => hk) trivial (Below.refl _ _) (Nat.le_refl _) (by simp) ?_;(case hd => rfl);(case hg => rfl);(case hr => exact gx_);(case hp => exact (Reps.none _ _));intro v400 w26 ho27 hb hg_ hnew_;clear hg_ hnew_;(first|rw [← Ny399.out] at ho27|(simp only [Int.reduceToNat] at ho27;rw [← Ny399.out] at ho27));have HO401:=A_ (rw_ ho27 (bz_ (bq_ HB)));replace BK392:=A_ (kb_ (kq_ BK392) hb);replace BK393:=A_ (kb_ (kq_ BK393) hb);replace BK394:=A_ (kb_ (kq_ BK394) hb);replace HB:=A_ (bs_ (bq_ HB) hb);clear hb ho27;have hnb28:=NB392_393.out;have hnc28:=NB393_392.out;have hcz29_0:=kC_ BK392 0;have hcz29_1:=kC_ BK392 1;have hcz29_2:=kC_ BK392 2;have hfz29_0:=kf_ BK392.out 0;have hfz29_1:=kf_ BK392.out 1;have hfz29_2:=kf_ BK392.out 2;have q30 : ((ji11) : Int) ≤ ((l0_2.length : Int) : Int):=oda_;obtain ⟨i030,hi030,_,hsz30,_⟩:=info_parts info37;have hroom30 : l0_2.length ≤ c0_2:=HC0_2.out;have hC30 : Kd.C k37 _ A0_2 l0_2.length l0_2:=HR0_2.out;have q030 : (0 : Int) ≤ ((ji11) : Int):=oda_;have hcut30:=cut_from (P:=Try.prog) 50 37 .i64 Try.underlying50 hi030 3 hsz30 A0_2 l0_2.length c0_2 (ji11) q030 q30;have hr30:=Kd.C_drop (m:=((ji11) : Int).toNat) (c:=c0_2) hC30 (by omega) hroom30;obtain ⟨A30,hA30⟩ : ∃ A1,A1 = (if c0_2 = ((ji11) : Int).toNat then A0_2 else (A0_2 : Option Addr).map (·.add (((ji11) : Int).toNat * 3))):=⟨_,rfl⟩;obtain ⟨c30,hc30⟩ : ∃ c1,c1 = c0_2 - ((ji11) : Int).toNat:=⟨_,rfl⟩;have hy30 : y402.length = l0_2.length - ((ji11) : Int).toNat:=(by rw [Ny402.out,List.length_drop] <;> omega);rw [show (l0_2).drop ((ji11) : Int).toNat = y402 from Ny402.out.symm] at hr30;replace hr30 : Kd.C k37 _ A30 y402.length y402:=(by rw [hA30];exact hr30);rw [← hy30,← hA30,← hc30] at hcut30;have HR405:=A_ hr30;have HC405:=A_ (show y402.length ≤ c30 from by rw [hy30,hc30];exact Nat.sub_le_sub_right hroom30 _);clear hr30 hC30 hroom30 hi030 hsz30 hc30;have KY30:=A_ hy30;have KA30:=A_ hA30;clear hy30 hA30;replace q30:=eq_true q30)|((with_reducible refine gate_builtin (b:=.append) (xs:=#[.tmp 28,.tmp 35]) rfl ?_);at_builtin;refine Kd.R_append_rows k37 (w0:=w) w.heap.size rfl (.tmp 28) (.tmp 35) 50 37 (.agg #[(.int .i64 0),(.int .i64 0),(.string ⟨#[]⟩)]) 32 rfl Try.underlying50 info37 rfl (by decide) (by omega) v400 y399 y402 _ _ _ (fun _ => True) (fun _ => False) rfl rfl ?aO ?aR (fun _ _ h => h) (fun _ h => h.elim) ?aF ?aB ?aS ?aL ?_;(case aR => repeat (first|exact (Kd.C_below HR405.out HB.out)|(with_reducible refine Kd.C_alloc ?_ _)|(with_reducible refine Kd.C_drewN ?_ _)|(with_reducible refine Kd.C_drew ?_)));(case aB => exact (bq_ HB));(case aF => exact (fun _ _ => trivial));(case aO => exact (rq_ HO401));(case aS => exact (bz_ (bq_ HB)));(case aL => have:=LMc14.out;omega);intro v407 w31 ho hb hg hat;rw [← Ny406.out] at ho;replace BK392:=A_ (kg_ (kq_ BK392) hg (re_ HO401.out BK392.out (by decide)));replace BK393:=A_ (kg_ (kq_ BK393) hg (re_ HO401.out BK393.out (by decide)));replace BK394:=A_ (kg_ (kq_ BK394) hg (re_ HO401.out BK394.out (by decide)));replace HB:=A_ (hb);have HO408:=A_ (ho);clear HO401;clear ho hb hg hat;obtain ⟨Ao32,co32,eo32⟩:=Kd.R_slice HO408.out;subst eo32;have hcz33_0:=kC_ BK394 0;have hcz33_1:=kC_ BK394 1;have hcz33_2:=kC_ BK394 2;have hfz33_0:=kf_ BK394.out 0;have hfz33_1:=kf_ BK394.out 1;have hfz33_2:=kf_ BK394.out 2;have hcz34_0:=kC_ BK393 0;have hcz34_1:=kC_ BK393 1;have hcz34_2:=kC_ BK393 2;have hfz34_0:=kf_ BK393.out 0;have hfz34_1:=kf_ BK393.out 1;have hfz34_2:=kf_ BK393.out 2))
       refine bodyPost_ret (results_cell_row rfl _ _ gb393 60 #[.int .i64 a1,.int .i64 a2,.slice Ao32 y406.length co32] (0,0) _ rfl (by (with_reducible repeat (first|refine kn_ ?_ _|refine kd_ ?_|refine ka_ ?_ _));refine ku_ (cs:=#[.int .i64 a1,.int .i64 a2,.slice none 0 0]) ?_ 2 _ rfl;(with_reducible repeat (first|refine kn_ ?_ _|refine kd_ ?_|refine ka_ ?_ _));refine ku_ (cs:=#[.int .i64 a1,.int .i64 0,.slice none 0 0]) ?_ 1 _ rfl;(with_reducible repeat (first|refine kn_ ?_ _|refine kd_ ?_|refine ka_ ?_ _));refine ku_ (cs:=#[.int .i64 0,.int .i64 0,.slice none 0 0]) ?_ 0 _ rfl;(with_reducible repeat (first|refine kn_ ?_ _|refine kd_ ?_|refine ka_ ?_ _));refine kr_ ?_ NB393_394.out _;(with_reducible repeat (first|refine kn_ ?_ _|refine kd_ ?_|refine ka_ ?_ _));exact BK393.out) Try.underlying60 rfl (by kernel_rfl)) rfl ?_;exact ⟨_,by first|rfl|(simp [errW_none,errW_some] <;> rfl)|(simp only [← hji11];first|rfl|(simp [errW_none,errW_some] <;> rfl))|(simp [*,errW_none,errW_some] <;> rfl),by (with_reducible repeat (first|apply ra_|apply rn_|apply Rd_));exact rm_ (rf_ (p:=⟨gb393,2,none⟩) (rf_ (p:=⟨gb393,1,none⟩) (rf_ (p:=⟨gb393,0,none⟩) (rf_ (p:=⟨gb394,2,none⟩) (Kd.R_types (Kd.R_types HO408.out BK394.out (by decide)) BK393.out (by decide)) (fun _ hk => hk.1.2) (.slice Ao32 y406.length co32)) (fun _ hk => hk.2) (.int .i64 a1)) (fun _ hk => hk.2) (.int .i64 a2)) (fun _ hk => hk.2) (.slice Ao32 y406.length co32)) (fun _ hk => trivial),bq_ HB⟩
      ·rw [if_neg c14] at H;exact absurd H (by simp)
     ·rw [if_neg c13] at H;exact absurd H (by simp)
    ·rw [if_neg c12] at H;exact absurd H (by simp)
   ·rw [if_neg c10] at H;have c10b0 : (t398 == a2) = false:=beq_eq_false_iff_ne.mpr c10;have c10b1 : (t398 != a2) = true:=bne_iff_ne.mpr c10;simp only [Option.some.injEq,Prod.mk.injEq] at H;obtain ⟨rfl,rfl,rfl⟩:=H;go_enter Try.func36,Try.ntmps36
    try go_wp2_with (first|((with_reducible refine gate_dst (N:=3) rfl ?_);refine box_event ?hg (N:=3) ?hd (cs:=#[.int .i64 a0_0,.int .i64 a0_1,.slice A0_2 l0_2.length c0_2]) (t:=60) ?hr ?_;(case hd => rfl);(case hg => rfl);(case hr => exact gx_);intro gb392 hg w35 hbox hb;have BK392:=A_ (hbox);have GW392:=A_ ((by rw [hg];exact (bz_ (bq_ HB)) : w.heap.size ≤ gb392));have GE392:=A_ ((by rw [hg];exact (bz_ (bq_ HB)) : w.heap.size ≤ gb392));replace HB:=A_ (bs_ (bq_ HB) hb);clear hb hbox hg)|((with_reducible refine gate_dst (N:=6) rfl ?_);refine box_event ?hg (N:=6) ?hd (cs:=#[.int .i64 0,.int .i64 0,.slice none 0 0]) (t:=60) ?hr ?_;(case hd => rfl);(case hg => rfl);(case hr => exact gx_);intro gb393 hg w36 hbox hb;have BK393:=A_ (hbox);have GW393:=A_ ((by rw [hg];exact (bz_ (bq_ HB)) : w.heap.size ≤ gb393));have GE393:=A_ ((by rw [hg];exact (bz_ (bq_ HB)) : w.heap.size ≤ gb393));replace HB:=A_ (bs_ (bq_ HB) hb);have NB392_393:=A_ ((by rw [hg];exact nl_ (kl_ (g:=gb392) (o:=.cells #[.int .i64 a0_0,.int .i64 a0_1,.slice A0_2 l0_2.length c0_2] 60 (0,0)) (kq_ BK392)) : gb392 ≠ gb393));have NB393_392:=A_ ((by rw [hg];exact ng_ (kl_ (g:=gb392) (o:=.cells #[.int .i64 a0_0,.int .i64 a0_1,.slice A0_2 l0_2.length c0_2] 60 (0,0)) (kq_ BK392)) : gb393 ≠ gb392));replace BK392:=A_ (kb_ (kq_ BK392) hb);clear hb hbox hg)|((with_reducible refine gate_dst (N:=7) rfl ?_);refine box_event ?hg (N:=7) ?hd (cs:=#[.int .i64 0,.int .i64 0,.slice none 0 0]) (t:=60) ?hr ?_;(case hd => rfl);(case hg => rfl);(case hr => exact gx_);intro gb394 hg w37 hbox hb;have BK394:=A_ (hbox);have GW394:=A_ ((by rw [hg];exact (bz_ (bq_ HB)) : w.heap.size ≤ gb394));have GE394:=A_ ((by rw [hg];exact (bz_ (bq_ HB)) : w.heap.size ≤ gb394));replace HB:=A_ (bs_ (bq_ HB) hb);have NB392_394:=A_ ((by rw [hg];exact nl_ (kl_ (g:=gb392) (o:=.cells #[.int .i64 a0_0,.int .i64 a0_1,.slice A0_2 l0_2.length c0_2] 60 (0,0)) (kq_ BK392)) : gb392 ≠ gb394));have NB394_392:=A_ ((by rw [hg];exact ng_ (kl_ (g:=gb392) (o:=.cells #[.int .i64 a0_0,.int .i64 a0_1,.slice A0_2 l0_2.length c0_2] 60 (0,0)) (kq_ BK392)) : gb394 ≠ gb392));replace BK392:=A_ (kb_ (kq_ BK392) hb);have NB393_394:=A_ ((by rw [hg];exact nl_ (kl_ (g:=gb393) (o:=.cells #[.int .i64 0,.int .i64 0,.slice none 0 0] 60 (0,0)) (kq_ BK393)) : gb393 ≠ gb394));have NB394_393:=A_ ((by rw [hg];exact ng_ (kl_ (g:=gb393) (o:=.cells #[.int .i64 0,.int .i64 0,.slice none 0 0] 60 (0,0)) (kq_ BK393)) : gb394 ≠ gb393));replace BK393:=A_ (kb_ (kq_ BK393) hb);clear hb hbox hg;have hnb38:=NB394_392.out;have hnc38:=NB392_394.out;have hnb39:=NB394_393.out;have hnc39:=NB393_394.out;have hcz40_0:=kC_ BK394 0;have hcz40_1:=kC_ BK394 1;have hcz40_2:=kC_ BK394 2;have hfz40_0:=kf_ BK394.out 0;have hfz40_1:=kf_ BK394.out 1;have hfz40_2:=kf_ BK394.out 2))
    have n0_ : Aside0 ((((w37.setCell ⟨gb394,0,none⟩ (.int .i64 a1)).setCell ⟨gb394,1,none⟩ (.int .i64 a2)).setCell ⟨gb394,2,none⟩ (.slice none 0 0)).heap[gb392]? = some (.cells #[.int .i64 a0_0,.int .i64 a0_1,.slice A0_2 l0_2.length c0_2] 60 (0,0))):=⟨by (with_reducible repeat (first|refine kn_ ?_ _|refine kd_ ?_|refine ka_ ?_ _));refine kr_ ?_ NB392_394.out _;(with_reducible repeat (first|refine kn_ ?_ _|refine kd_ ?_|refine ka_ ?_ _));refine kr_ ?_ NB392_394.out _;(with_reducible repeat (first|refine kn_ ?_ _|refine kd_ ?_|refine ka_ ?_ _));refine kr_ ?_ NB392_394.out _;(with_reducible repeat (first|refine kn_ ?_ _|refine kd_ ?_|refine ka_ ?_ _));exact BK392.out⟩;have n1_ : Aside0 ((((w37.setCell ⟨gb394,0,none⟩ (.int .i64 a1)).setCell ⟨gb394,1,none⟩ (.int .i64 a2)).setCell ⟨gb394,2,none⟩ (.slice none 0 0)).heap[gb393]? = some (.cells #[.int .i64 0,.int .i64 0,.slice none 0 0] 60 (0,0))):=⟨by (with_reducible repeat (first|refine kn_ ?_ _|refine kd_ ?_|refine ka_ ?_ _));refine kr_ ?_ NB393_394.out _;(with_reducible repeat (first|refine kn_ ?_ _|refine kd_ ?_|refine ka_ ?_ _));refine kr_ ?_ NB393_394.out _;(with_reducible repeat (first|refine kn_ ?_ _|refine kd_ ?_|refine ka_ ?_ _));refine kr_ ?_ NB393_394.out _;(with_reducible repeat (first|refine kn_ ?_ _|refine kd_ ?_|refine ka_ ?_ _));exact BK393.out⟩;have n2_ : Aside0 ((((w37.setCell ⟨gb394,0,none⟩ (.int .i64 a1)).setCell ⟨gb394,1,none⟩ (.int .i64 a2)).setCell ⟨gb394,2,none⟩ (.slice none 0 0)).heap[gb394]? = some (.cells #[.int .i64 a1,.int .i64 a2,.slice none 0 0] 60 (0,0))):=⟨by (with_reducible repeat (first|refine kn_ ?_ _|refine kd_ ?_|refine ka_ ?_ _));refine ku_ (cs:=#[.int .i64 a1,.int .i64 a2,.slice none 0 0]) ?_ 2 _ rfl;(with_reducible repeat (first|refine kn_ ?_ _|refine kd_ ?_|refine ka_ ?_ _));refine ku_ (cs:=#[.int .i64 a1,.int .i64 0,.slice none 0 0]) ?_ 1 _ rfl;(with_reducible repeat (first|refine kn_ ?_ _|refine kd_ ?_|refine ka_ ?_ _));refine ku_ (cs:=#[.int .i64 0,.int .i64 0,.slice none 0 0]) ?_ 0 _ rfl;(with_reducible repeat (first|refine kn_ ?_ _|refine kd_ ?_|refine ka_ ?_ _));exact BK394.out⟩;have n3_ : Aside0 (Below w.heap.size w (((w37.setCell ⟨gb394,0,none⟩ (.int .i64 a1)).setCell ⟨gb394,1,none⟩ (.int .i64 a2)).setCell ⟨gb394,2,none⟩ (.slice none 0 0))):=⟨bq_ HB⟩
    (try clear BK392)
    (try clear BK393)
    (try clear BK394)
    (try clear HB)
    generalize (((w37.setCell ⟨gb394,0,none⟩ (.int .i64 a1)).setCell ⟨gb394,1,none⟩ (.int .i64 a2)).setCell ⟨gb394,2,none⟩ (.slice none 0 0)) = w41 at n0_ n1_ n2_ n3_ ⊢;have BK392:=n0_;have BK393:=n1_;have BK394:=n2_;have HB:=n3_;clear n0_ n1_ n2_ n3_;replace BK392:=A_ (kd_ BK392.out);replace BK393:=A_ (kd_ BK393.out);replace BK394:=A_ (kd_ BK394.out);replace HB:=A_ (pd_ HB.out);refine start_ (n:=17) (S:=fun w' => w'.cell? ⟨gb392,0,none⟩ = some (.int .i64 a0_0) ∧ w'.cell? ⟨gb392,1,none⟩ = some (.int .i64 a0_1) ∧ w'.cell? ⟨gb392,2,none⟩ = some (.slice A0_2 l0_2.length c0_2)) (ds:=[]) #[false,false,false,false,false,false,false,false,false,false,false,false,false,false,false,false,false] (by kernel_rfl) rfl rfl ⟨kC_ BK392 0,kC_ BK392 1,kC_ BK392 2⟩ (fun hHeld => ?_);refine with_tabW spec_LogBehind.tab2 spec_LogBehind.bits2 (fun HT_ HW_ => ?_);generalize w41.drew = w42 at BK392 BK393 BK394 HB hHeld ⊢;refine take_ (i:=0) (N:=some 11) (v:=?_) (a':=?_) #[true,false,false,false,false,false,false,false,false,false,false,false,false,false,false,false,false] rfl rfl (take_ofW HT_.out HW_.out (by kernel_rfl)) (fun _ _ _ h => h) (Or.inl ⟨by rfl,?_⟩) hHeld ?_ ?_;rotate_left
    ·rintro w' ⟨s0,s1,s2⟩;go_simp;with_reducible rfl
    rotate_left
    ·exact ux_
    refine one_ (i:=1) (N:=some 12) #[true,true,false,false,false,false,false,false,false,false,false,false,false,false,false,false,false] rfl rfl (one_of HT_.out (by kernel_rfl)) (by decide) (fun K hK => ?_);refine goes_ Try.func101 (by kernel_rfl) rfl #[.agg #[.int .i64 a0_0,.int .i64 a0_1,.slice A0_2 l0_2.length c0_2]] (by rfl) rfl rfl aq_ ?_;with_reducible refine (spec_LogOk.calls k a0_0 a0_1 _ _ l0_2 true _ ?side1 ?side2 A4.out).mono ?_
    (case side1 => repeat (first|exact (Kd.C_below HR0_2.out HB.out)|(with_reducible refine Kd.C_alloc ?_ _)|(with_reducible refine Kd.C_drewN ?_ _)|(with_reducible refine Kd.C_drew ?_)))
    (case side2 => exact HC0_2.out)
    rintro e w43 ⟨rfl,hb⟩;refine ⟨_,rfl,?_⟩;replace BK392:=A_ (kb_ (kq_ BK392) hb);replace BK393:=A_ (kb_ (kq_ BK393) hb);replace BK394:=A_ (kb_ (kq_ BK394) hb);replace HB:=A_ (bs_ (bq_ HB) hb)
    (try clear hb)
    (try clear hb2)
    (try clear hk)
    (try clear hi)
    refine hK.out _ _ ⟨kC_ BK392 0,kC_ BK392 1,kC_ BK392 2⟩ (fun hHeld => ?_);clear hK K;refine norm_ (a':=?_) ?_ ?_;rotate_left
    ·show Act.put _ (some 12) _ = _;simp only [Act.put,s1_,s2_,s3_,i64_w,i32_w];rfl
    refine pure_ (i:=2) (N:=some 13) (v:=?_) (a':=?_) #[true,true,true,false,false,false,false,false,false,false,false,false,false,false,false,false,false] rfl rfl (any_of HT_.out (by kernel_rfl)) (fun _ _ _ h => h) (Or.inl ⟨by rfl,?_⟩) ?_ ?_;rotate_left
    ·intro w';go_simp;with_reducible rfl
    rotate_left
    ·exact ux_
    refine pure_ (i:=3) (N:=some 14) (v:=?_) (a':=?_) #[true,true,true,true,false,false,false,false,false,false,false,false,false,false,false,false,false] rfl rfl (any_of HT_.out (by kernel_rfl)) (fun _ _ _ h => h) (Or.inl ⟨by rfl,?_⟩) ?_ ?_;rotate_left
    ·intro w';go_simp;with_reducible rfl
    rotate_left
    ·exact ux_
    refine pure_ (i:=4) (N:=some 15) (v:=?_) (a':=?_) #[true,true,true,true,true,false,false,false,false,false,false,false,false,false,false,false,false] rfl rfl (any_of HT_.out (by kernel_rfl)) (fun _ _ _ h => h) (Or.inl ⟨by rfl,?_⟩) ?_ ?_;rotate_left
    ·intro w';go_simp;with_reducible rfl
    rotate_left
    ·exact ux_
    refine take_ (i:=5) (N:=some 16) (v:=?_) (a':=?_) #[true,true,true,true,true,true,false,false,false,false,false,false,false,false,false,false,false] rfl rfl (take_ofW HT_.out HW_.out (by kernel_rfl)) (fun _ _ _ h => h) (Or.inl ⟨by rfl,?_⟩) hHeld ?_ ?_;rotate_left
    ·rintro w' ⟨s0,s1,s2⟩;go_simp;with_reducible rfl
    rotate_left
    ·exact ux_
    refine take_ (i:=6) (N:=some 17) (v:=?_) (a':=?_) #[true,true,true,true,true,true,true,false,false,false,false,false,false,false,false,false,false] rfl rfl (take_ofW HT_.out HW_.out (by kernel_rfl)) (fun _ _ _ h => h) (Or.inl ⟨by rfl,?_⟩) hHeld ?_ ?_;rotate_left
    ·rintro w' ⟨s0,s1,s2⟩;go_simp;with_reducible rfl
    rotate_left
    ·exact ux_
    refine one_ (i:=7) (N:=some 18) #[true,true,true,true,true,true,true,true,false,false,false,false,false,false,false,false,false] rfl rfl (one_of HT_.out (by kernel_rfl)) (by decide) (fun K hK => ?_);refine goes_ Try.func102 (by kernel_rfl) rfl #[.agg #[.int .i64 a0_0,.int .i64 a0_1,.slice A0_2 l0_2.length c0_2]] (by rfl) rfl rfl aq_ ?_;with_reducible refine (spec_l12Last.calls a0_0 a0_1 _ _ l0_2 t396 _ ?side1 ?side2 A6.out).mono ?_
    (case side1 => repeat (first|exact (Kd.C_below HR0_2.out HB.out)|(with_reducible refine Kd.C_alloc ?_ _)|(with_reducible refine Kd.C_drewN ?_ _)|(with_reducible refine Kd.C_drew ?_)))
    (case side2 => exact HC0_2.out)
    rintro e w44 ⟨rfl,hb⟩;refine ⟨_,rfl,?_⟩;replace BK392:=A_ (kb_ (kq_ BK392) hb);replace BK393:=A_ (kb_ (kq_ BK393) hb);replace BK394:=A_ (kb_ (kq_ BK394) hb);replace HB:=A_ (bs_ (bq_ HB) hb)
    (try clear hb)
    (try clear hb2)
    (try clear hk)
    (try clear hi)
    refine hK.out _ _ ⟨kC_ BK392 0,kC_ BK392 1,kC_ BK392 2⟩ (fun hHeld => ?_);clear hK K;refine norm_ (a':=?_) ?_ ?_;rotate_left
    ·show Act.put _ (some 18) _ = _;simp only [Act.put,s1_,s2_,s3_,i64_w,i32_w];rfl
    refine one_ (i:=8) (N:=some 19) #[true,true,true,true,true,true,true,true,true,false,false,false,false,false,false,false,false] rfl rfl (one_of HT_.out (by kernel_rfl)) (by decide) (fun K hK => ?_);refine goes_ Try.func78 (by kernel_rfl) rfl #[.int .i64 a1,.int .i64 a0_0,.int .i64 t396] (by rfl) rfl rfl aq_ ?_;with_reducible refine (spec_l01In.calls a1 a0_0 t396 true _ A7.out).mono ?_;rintro e w' ⟨rfl,⟨nd,rfl⟩⟩;refine ⟨_,rfl,?_⟩;have BK392d_:=A_ (kn_ BK392.out nd);have HBd_:=A_ (pn_ HB.out nd);refine hK.out _ _ ⟨kC_ BK392d_ 0,kC_ BK392d_ 1,kC_ BK392d_ 2⟩ (fun hHeld => ?_);clear hK K;refine norm_ (a':=?_) ?_ ?_;rotate_left
    ·show Act.put _ (some 19) _ = _;simp only [Act.put,s1_,s2_,s3_,i64_w,i32_w];rfl
    refine pure_ (i:=9) (N:=some 20) (v:=?_) (a':=?_) #[true,true,true,true,true,true,true,true,true,true,false,false,false,false,false,false,false] rfl rfl (any_of HT_.out (by kernel_rfl)) (fun _ _ _ h => h) (Or.inl ⟨by rfl,?_⟩) ?_ ?_;rotate_left
    ·intro w';go_simp;with_reducible rfl
    rotate_left
    ·exact ux_
    refine pure_ (i:=10) (N:=some 21) (v:=?_) (a':=?_) #[true,true,true,true,true,true,true,true,true,true,true,false,false,false,false,false,false] rfl rfl (any_of HT_.out (by kernel_rfl)) (fun _ _ _ h => h) (Or.inl ⟨by rfl,?_⟩) ?_ ?_;rotate_left
    ·intro w';go_simp;with_reducible rfl
    rotate_left
    ·exact ux_
    refine pure_ (i:=12) (N:=some 23) (v:=?_) (a':=?_) #[true,true,true,true,true,true,true,true,true,true,true,false,true,false,false,false,false] rfl rfl (any_of HT_.out (by kernel_rfl)) (fun _ _ _ h => h) (Or.inl ⟨by rfl,?_⟩) ?_ ?_;rotate_left
    ·intro w';go_simp;with_reducible rfl
    rotate_left
    ·exact ux_
    refine pure_ (i:=14) (N:=some 25) (v:=?_) (a':=?_) #[true,true,true,true,true,true,true,true,true,true,true,false,true,false,true,false,false] rfl rfl (any_of HT_.out (by kernel_rfl)) (fun _ _ _ h => h) (Or.inl ⟨by rfl,?_⟩) ?_ ?_;rotate_left
    ·intro w';go_simp;with_reducible rfl
    rotate_left
    ·exact ux_
    refine take_ (i:=11) (N:=some 22) (v:=?_) (a':=?_) #[true,true,true,true,true,true,true,true,true,true,true,true,true,false,true,false,false] rfl rfl (take_ofW HT_.out HW_.out (by kernel_rfl)) (fun _ _ _ h => h) (Or.inl ⟨by rfl,?_⟩) hHeld ?_ ?_;rotate_left
    ·rintro w' ⟨s0,s1,s2⟩;go_simp;with_reducible rfl
    rotate_left
    ·exact ux_
    refine one_ (i:=13) (N:=some 24) #[true,true,true,true,true,true,true,true,true,true,true,true,true,true,true,false,false] rfl rfl (one_of HT_.out (by kernel_rfl)) (by decide) (fun K hK => ?_);refine goes_ Try.func103 (by kernel_rfl) rfl #[.agg #[.int .i64 a0_0,.int .i64 a0_1,.slice A0_2 l0_2.length c0_2],.int .i64 a1] (by rfl) rfl rfl aq_ ?_;with_reducible refine (spec_LogTerm.calls a0_0 a0_1 _ _ l0_2 a1 t398 _ ?side1 ?side2 A9.out).mono ?_
    (case side1 => repeat (first|exact (Kd.C_below HR0_2.out (bq_ HB))|(with_reducible refine Kd.C_alloc ?_ _)|(with_reducible refine Kd.C_drewN ?_ _)|(with_reducible refine Kd.C_drew ?_)))
    (case side2 => exact HC0_2.out)
    rintro e w45 ⟨rfl,hb⟩;refine ⟨_,rfl,?_⟩;replace BK392:=A_ (kb_ (kq_ BK392) hb);replace BK393:=A_ (kb_ (kq_ BK393) hb);replace BK394:=A_ (kb_ (kq_ BK394) hb);replace HB:=A_ (bs_ (bq_ HB) hb)
    (try clear hb)
    (try clear hb2)
    (try clear hk)
    (try clear hi)
    refine hK.out _ _ ⟨kC_ BK392 0,kC_ BK392 1,kC_ BK392 2⟩ (fun hHeld => ?_);clear hK K;refine norm_ (a':=?_) ?_ ?_;rotate_left
    ·show Act.put _ (some 24) _ = _;simp only [Act.put,s1_,s2_,s3_,i64_w,i32_w];rfl
    refine pure_ (i:=15) (N:=some 26) (v:=?_) (a':=?_) #[true,true,true,true,true,true,true,true,true,true,true,true,true,true,true,true,false] rfl rfl (any_of HT_.out (by kernel_rfl)) (fun _ _ _ h => h) (Or.inl ⟨by rfl,?_⟩) ?_ ?_;rotate_left
    ·intro w';go_simp;with_reducible rfl
    rotate_left
    ·exact ux_
    refine pure_ (i:=16) (N:=some 27) (v:=?_) (a':=?_) #[true,true,true,true,true,true,true,true,true,true,true,true,true,true,true,true,true] rfl rfl (any_of HT_.out (by kernel_rfl)) (fun _ _ _ h => h) (Or.inl ⟨by rfl,?_⟩) ?_ ?_;rotate_left
    ·intro w';go_simp;with_reducible rfl
    rotate_left
    ·exact ux_
    refine done_ (done_of HT_.out (by kernel_rfl)) ?_;have hcz46_0:=kC_ BK394 0;have hcz46_1:=kC_ BK394 1;have hcz46_2:=kC_ BK394 2;have hfz46_0:=kf_ BK394.out 0;have hfz46_1:=kf_ BK394.out 1;have hfz46_2:=kf_ BK394.out 2;have hnb47:=NB393_392.out;have hnc47:=NB392_393.out;have hcz48_0:=kC_ BK393 0;have hcz48_1:=kC_ BK393 1;have hcz48_2:=kC_ BK393 2;have hfz48_0:=kf_ BK393.out 0;have hfz48_1:=kf_ BK393.out 1;have hfz48_2:=kf_ BK393.out 2
    try go_wp2
    refine bodyPost_ret (results_cell_row rfl _ _ gb393 60 #[.int .i64 a1,.int .i64 a2,.slice none 0 0] (0,0) _ rfl (by (with_reducible repeat (first|refine kn_ ?_ _|refine kd_ ?_|refine ka_ ?_ _));refine ku_ (cs:=#[.int .i64 a1,.int .i64 a2,.slice none 0 0]) ?_ 2 _ rfl;(with_reducible repeat (first|refine kn_ ?_ _|refine kd_ ?_|refine ka_ ?_ _));refine ku_ (cs:=#[.int .i64 a1,.int .i64 0,.slice none 0 0]) ?_ 1 _ rfl;(with_reducible repeat (first|refine kn_ ?_ _|refine kd_ ?_|refine ka_ ?_ _));refine ku_ (cs:=#[.int .i64 0,.int .i64 0,.slice none 0 0]) ?_ 0 _ rfl;(with_reducible repeat (first|refine kn_ ?_ _|refine kd_ ?_|refine ka_ ?_ _));exact BK393.out) Try.underlying60 rfl (by kernel_rfl)) rfl ?_;exact ⟨_,by first|rfl|(simp [*,errW_none,errW_some] <;> rfl),by first|exact Kd.R_nil _ _ _ _ _|exact Kd.N_nil _ _ _ _ _|exact Kd.V_nil _ _ _ _ _|exact Kd.Q_nil _ _ _ _ _|exact Kd.S_nil _ _ _ _ _,bq_ HB⟩
  ·replace c8:=Bool.eq_false_iff.mpr c8;subst c8
   have H1 : (some (a1,a2,([] : List (S37)))) = some (r1,r2,r3):=by rw [if_neg (show ¬ (false = true) by decide)] at H;exact H
   clear H;have H:=H1;clear H1;simp only [Option.some.injEq,Prod.mk.injEq] at H;obtain ⟨rfl,rfl,rfl⟩:=H;go_enter Try.func36,Try.ntmps36
   try go_wp2_with (first|((with_reducible refine gate_dst (N:=3) rfl ?_);refine box_event ?hg (N:=3) ?hd (cs:=#[.int .i64 a0_0,.int .i64 a0_1,.slice A0_2 l0_2.length c0_2]) (t:=60) ?hr ?_;(case hd => rfl);(case hg => rfl);(case hr => exact gx_);intro gb392 hg w49 hbox hb;have BK392:=A_ (hbox);have GW392:=A_ ((by rw [hg];exact (bz_ (bq_ HB)) : w.heap.size ≤ gb392));have GE392:=A_ ((by rw [hg];exact (bz_ (bq_ HB)) : w.heap.size ≤ gb392));replace HB:=A_ (bs_ (bq_ HB) hb);clear hb hbox hg)|((with_reducible refine gate_dst (N:=6) rfl ?_);refine box_event ?hg (N:=6) ?hd (cs:=#[.int .i64 0,.int .i64 0,.slice none 0 0]) (t:=60) ?hr ?_;(case hd => rfl);(case hg => rfl);(case hr => exact gx_);intro gb393 hg w50 hbox hb;have BK393:=A_ (hbox);have GW393:=A_ ((by rw [hg];exact (bz_ (bq_ HB)) : w.heap.size ≤ gb393));have GE393:=A_ ((by rw [hg];exact (bz_ (bq_ HB)) : w.heap.size ≤ gb393));replace HB:=A_ (bs_ (bq_ HB) hb);have NB392_393:=A_ ((by rw [hg];exact nl_ (kl_ (g:=gb392) (o:=.cells #[.int .i64 a0_0,.int .i64 a0_1,.slice A0_2 l0_2.length c0_2] 60 (0,0)) (kq_ BK392)) : gb392 ≠ gb393));have NB393_392:=A_ ((by rw [hg];exact ng_ (kl_ (g:=gb392) (o:=.cells #[.int .i64 a0_0,.int .i64 a0_1,.slice A0_2 l0_2.length c0_2] 60 (0,0)) (kq_ BK392)) : gb393 ≠ gb392));replace BK392:=A_ (kb_ (kq_ BK392) hb);clear hb hbox hg)|((with_reducible refine gate_dst (N:=7) rfl ?_);refine box_event ?hg (N:=7) ?hd (cs:=#[.int .i64 0,.int .i64 0,.slice none 0 0]) (t:=60) ?hr ?_;(case hd => rfl);(case hg => rfl);(case hr => exact gx_);intro gb394 hg w51 hbox hb;have BK394:=A_ (hbox);have GW394:=A_ ((by rw [hg];exact (bz_ (bq_ HB)) : w.heap.size ≤ gb394));have GE394:=A_ ((by rw [hg];exact (bz_ (bq_ HB)) : w.heap.size ≤ gb394));replace HB:=A_ (bs_ (bq_ HB) hb);have NB392_394:=A_ ((by rw [hg];exact nl_ (kl_ (g:=gb392) (o:=.cells #[.int .i64 a0_0,.int .i64 a0_1,.slice A0_2 l0_2.length c0_2] 60 (0,0)) (kq_ BK392)) : gb392 ≠ gb394));have NB394_392:=A_ ((by rw [hg];exact ng_ (kl_ (g:=gb392) (o:=.cells #[.int .i64 a0_0,.int .i64 a0_1,.slice A0_2 l0_2.length c0_2] 60 (0,0)) (kq_ BK392)) : gb394 ≠ gb392));replace BK392:=A_ (kb_ (kq_ BK392) hb);have NB393_394:=A_ ((by rw [hg];exact nl_ (kl_ (g:=gb393) (o:=.cells #[.int .i64 0,.int .i64 0,.slice none 0 0] 60 (0,0)) (kq_ BK393)) : gb393 ≠ gb394));have NB394_393:=A_ ((by rw [hg];exact ng_ (kl_ (g:=gb393) (o:=.cells #[.int .i64 0,.int .i64 0,.slice none 0 0] 60 (0,0)) (kq_ BK393)) : gb394 ≠ gb393));replace BK393:=A_ (kb_ (kq_ BK393) hb);clear hb hbox hg;have hnb52:=NB394_392.out;have hnc52:=NB392_394.out;have hnb53:=NB394_393.out;have hnc53:=NB393_394.out;have hcz54_0:=kC_ BK394 0;have hcz54_1:=kC_ BK394 1;have hcz54_2:=kC_ BK394 2;have hfz54_0:=kf_ BK394.out 0;have hfz54_1:=kf_ BK394.out 1;have hfz54_2:=kf_ BK394.out 2))
   have n0_ : Aside0 ((((w51.setCell ⟨gb394,0,none⟩ (.int .i64 a1)).setCell ⟨gb394,1,none⟩ (.int .i64 a2)).setCell ⟨gb394,2,none⟩ (.slice none 0 0)).heap[gb392]? = some (.cells #[.int .i64 a0_0,.int .i64 a0_1,.slice A0_2 l0_2.length c0_2] 60 (0,0))):=⟨by (with_reducible repeat (first|refine kn_ ?_ _|refine kd_ ?_|refine ka_ ?_ _));refine kr_ ?_ NB392_394.out _;(with_reducible repeat (first|refine kn_ ?_ _|refine kd_ ?_|refine ka_ ?_ _));refine kr_ ?_ NB392_394.out _;(with_reducible repeat (first|refine kn_ ?_ _|refine kd_ ?_|refine ka_ ?_ _));refine kr_ ?_ NB392_394.out _;(with_reducible repeat (first|refine kn_ ?_ _|refine kd_ ?_|refine ka_ ?_ _));exact BK392.out⟩;have n1_ : Aside0 ((((w51.setCell ⟨gb394,0,none⟩ (.int .i64 a1)).setCell ⟨gb394,1,none⟩ (.int .i64 a2)).setCell ⟨gb394,2,none⟩ (.slice none 0 0)).heap[gb393]? = some (.cells #[.int .i64 0,.int .i64 0,.slice none 0 0] 60 (0,0))):=⟨by (with_reducible repeat (first|refine kn_ ?_ _|refine kd_ ?_|refine ka_ ?_ _));refine kr_ ?_ NB393_394.out _;(with_reducible repeat (first|refine kn_ ?_ _|refine kd_ ?_|refine ka_ ?_ _));refine kr_ ?_ NB393_394.out _;(with_reducible repeat (first|refine kn_ ?_ _|refine kd_ ?_|refine ka_ ?_ _));refine kr_ ?_ NB393_394.out _;(with_reducible repeat (first|refine kn_ ?_ _|refine kd_ ?_|refine ka_ ?_ _));exact BK393.out⟩;have n2_ : Aside0 ((((w51.setCell ⟨gb394,0,none⟩ (.int .i64 a1)).setCell ⟨gb394,1,none⟩ (.int .i64 a2)).setCell ⟨gb394,2,none⟩ (.slice none 0 0)).heap[gb394]? = some (.cells #[.int .i64 a1,.int .i64 a2,.slice none 0 0] 60 (0,0))):=⟨by (with_reducible repeat (first|refine kn_ ?_ _|refine kd_ ?_|refine ka_ ?_ _));refine ku_ (cs:=#[.int .i64 a1,.int .i64 a2,.slice none 0 0]) ?_ 2 _ rfl;(with_reducible repeat (first|refine kn_ ?_ _|refine kd_ ?_|refine ka_ ?_ _));refine ku_ (cs:=#[.int .i64 a1,.int .i64 0,.slice none 0 0]) ?_ 1 _ rfl;(with_reducible repeat (first|refine kn_ ?_ _|refine kd_ ?_|refine ka_ ?_ _));refine ku_ (cs:=#[.int .i64 0,.int .i64 0,.slice none 0 0]) ?_ 0 _ rfl;(with_reducible repeat (first|refine kn_ ?_ _|refine kd_ ?_|refine ka_ ?_ _));exact BK394.out⟩;have n3_ : Aside0 (Below w.heap.size w (((w51.setCell ⟨gb394,0,none⟩ (.int .i64 a1)).setCell ⟨gb394,1,none⟩ (.int .i64 a2)).setCell ⟨gb394,2,none⟩ (.slice none 0 0))):=⟨bq_ HB⟩
   (try clear BK392)
   (try clear BK393)
   (try clear BK394)
   (try clear HB)
   generalize (((w51.setCell ⟨gb394,0,none⟩ (.int .i64 a1)).setCell ⟨gb394,1,none⟩ (.int .i64 a2)).setCell ⟨gb394,2,none⟩ (.slice none 0 0)) = w55 at n0_ n1_ n2_ n3_ ⊢;have BK392:=n0_;have BK393:=n1_;have BK394:=n2_;have HB:=n3_;clear n0_ n1_ n2_ n3_;replace BK392:=A_ (kd_ BK392.out);replace BK393:=A_ (kd_ BK393.out);replace BK394:=A_ (kd_ BK394.out);replace HB:=A_ (pd_ HB.out);refine start_ (n:=17) (S:=fun w' => w'.cell? ⟨gb392,0,none⟩ = some (.int .i64 a0_0) ∧ w'.cell? ⟨gb392,1,none⟩ = some (.int .i64 a0_1) ∧ w'.cell? ⟨gb392,2,none⟩ = some (.slice A0_2 l0_2.length c0_2)) (ds:=[]) #[false,false,false,false,false,false,false,false,false,false,false,false,false,false,false,false,false] (by kernel_rfl) rfl rfl ⟨kC_ BK392 0,kC_ BK392 1,kC_ BK392 2⟩ (fun hHeld => ?_);refine with_tabW spec_LogBehind.tab2 spec_LogBehind.bits2 (fun HT_ HW_ => ?_);generalize w55.drew = w56 at BK392 BK393 BK394 HB hHeld ⊢;refine take_ (i:=0) (N:=some 11) (v:=?_) (a':=?_) #[true,false,false,false,false,false,false,false,false,false,false,false,false,false,false,false,false] rfl rfl (take_ofW HT_.out HW_.out (by kernel_rfl)) (fun _ _ _ h => h) (Or.inl ⟨by rfl,?_⟩) hHeld ?_ ?_;rotate_left
   ·rintro w' ⟨s0,s1,s2⟩;go_simp;with_reducible rfl
   rotate_left
   ·exact ux_
   refine one_ (i:=1) (N:=some 12) #[true,true,false,false,false,false,false,false,false,false,false,false,false,false,false,false,false] rfl rfl (one_of HT_.out (by kernel_rfl)) (by decide) (fun K hK => ?_);refine goes_ Try.func101 (by kernel_rfl) rfl #[.agg #[.int .i64 a0_0,.int .i64 a0_1,.slice A0_2 l0_2.length c0_2]] (by rfl) rfl rfl aq_ ?_;with_reducible refine (spec_LogOk.calls k a0_0 a0_1 _ _ l0_2 true _ ?side1 ?side2 A4.out).mono ?_
   (case side1 => repeat (first|exact (Kd.C_below HR0_2.out HB.out)|(with_reducible refine Kd.C_alloc ?_ _)|(with_reducible refine Kd.C_drewN ?_ _)|(with_reducible refine Kd.C_drew ?_)))
   (case side2 => exact HC0_2.out)
   rintro e w57 ⟨rfl,hb⟩;refine ⟨_,rfl,?_⟩;replace BK392:=A_ (kb_ (kq_ BK392) hb);replace BK393:=A_ (kb_ (kq_ BK393) hb);replace BK394:=A_ (kb_ (kq_ BK394) hb);replace HB:=A_ (bs_ (bq_ HB) hb)
   (try clear hb)
   (try clear hb2)
   (try clear hk)
   (try clear hi)
   refine hK.out _ _ ⟨kC_ BK392 0,kC_ BK392 1,kC_ BK392 2⟩ (fun hHeld => ?_);clear hK K;refine norm_ (a':=?_) ?_ ?_;rotate_left
   ·show Act.put _ (some 12) _ = _;simp only [Act.put,s1_,s2_,s3_,i64_w,i32_w];rfl
   refine pure_ (i:=2) (N:=some 13) (v:=?_) (a':=?_) #[true,true,true,false,false,false,false,false,false,false,false,false,false,false,false,false,false] rfl rfl (any_of HT_.out (by kernel_rfl)) (fun _ _ _ h => h) (Or.inl ⟨by rfl,?_⟩) ?_ ?_;rotate_left
   ·intro w';go_simp;with_reducible rfl
   rotate_left
   ·exact ux_
   refine pure_ (i:=3) (N:=some 14) (v:=?_) (a':=?_) #[true,true,true,true,false,false,false,false,false,false,false,false,false,false,false,false,false] rfl rfl (any_of HT_.out (by kernel_rfl)) (fun _ _ _ h => h) (Or.inl ⟨by rfl,?_⟩) ?_ ?_;rotate_left
   ·intro w';go_simp;with_reducible rfl
   rotate_left
   ·exact ux_
   refine pure_ (i:=4) (N:=some 15) (v:=?_) (a':=?_) #[true,true,true,true,true,false,false,false,false,false,false,false,false,false,false,false,false] rfl rfl (any_of HT_.out (by kernel_rfl)) (fun _ _ _ h => h) (Or.inl ⟨by rfl,?_⟩) ?_ ?_;rotate_left
   ·intro w';go_simp;with_reducible rfl
   rotate_left
   ·exact ux_
   refine take_ (i:=5) (N:=some 16) (v:=?_) (a':=?_) #[true,true,true,true,true,true,false,false,false,false,false,false,false,false,false,false,false] rfl rfl (take_ofW HT_.out HW_.out (by kernel_rfl)) (fun _ _ _ h => h) (Or.inl ⟨by rfl,?_⟩) hHeld ?_ ?_;rotate_left
   ·rintro w' ⟨s0,s1,s2⟩;go_simp;with_reducible rfl
   rotate_left
   ·exact ux_
   refine take_ (i:=6) (N:=some 17) (v:=?_) (a':=?_) #[true,true,true,true,true,true,true,false,false,false,false,false,false,false,false,false,false] rfl rfl (take_ofW HT_.out HW_.out (by kernel_rfl)) (fun _ _ _ h => h) (Or.inl ⟨by rfl,?_⟩) hHeld ?_ ?_;rotate_left
   ·rintro w' ⟨s0,s1,s2⟩;go_simp;with_reducible rfl
   rotate_left
   ·exact ux_
   refine one_ (i:=7) (N:=some 18) #[true,true,true,true,true,true,true,true,false,false,false,false,false,false,false,false,false] rfl rfl (one_of HT_.out (by kernel_rfl)) (by decide) (fun K hK => ?_);refine goes_ Try.func102 (by kernel_rfl) rfl #[.agg #[.int .i64 a0_0,.int .i64 a0_1,.slice A0_2 l0_2.length c0_2]] (by rfl) rfl rfl aq_ ?_;with_reducible refine (spec_l12Last.calls a0_0 a0_1 _ _ l0_2 t396 _ ?side1 ?side2 A6.out).mono ?_
   (case side1 => repeat (first|exact (Kd.C_below HR0_2.out HB.out)|(with_reducible refine Kd.C_alloc ?_ _)|(with_reducible refine Kd.C_drewN ?_ _)|(with_reducible refine Kd.C_drew ?_)))
   (case side2 => exact HC0_2.out)
   rintro e w58 ⟨rfl,hb⟩;refine ⟨_,rfl,?_⟩;replace BK392:=A_ (kb_ (kq_ BK392) hb);replace BK393:=A_ (kb_ (kq_ BK393) hb);replace BK394:=A_ (kb_ (kq_ BK394) hb);replace HB:=A_ (bs_ (bq_ HB) hb)
   (try clear hb)
   (try clear hb2)
   (try clear hk)
   (try clear hi)
   refine hK.out _ _ ⟨kC_ BK392 0,kC_ BK392 1,kC_ BK392 2⟩ (fun hHeld => ?_);clear hK K;refine norm_ (a':=?_) ?_ ?_;rotate_left
   ·show Act.put _ (some 18) _ = _;simp only [Act.put,s1_,s2_,s3_,i64_w,i32_w];rfl
   refine one_ (i:=8) (N:=some 19) #[true,true,true,true,true,true,true,true,true,false,false,false,false,false,false,false,false] rfl rfl (one_of HT_.out (by kernel_rfl)) (by decide) (fun K hK => ?_);refine goes_ Try.func78 (by kernel_rfl) rfl #[.int .i64 a1,.int .i64 a0_0,.int .i64 t396] (by rfl) rfl rfl aq_ ?_;with_reducible refine (spec_l01In.calls a1 a0_0 t396 false _ A7.out).mono ?_;rintro e w' ⟨rfl,⟨nd,rfl⟩⟩;refine ⟨_,rfl,?_⟩;have BK392d_:=A_ (kn_ BK392.out nd);have HBd_:=A_ (pn_ HB.out nd);refine hK.out _ _ ⟨kC_ BK392d_ 0,kC_ BK392d_ 1,kC_ BK392d_ 2⟩ (fun hHeld => ?_);clear hK K;refine norm_ (a':=?_) ?_ ?_;rotate_left
   ·show Act.put _ (some 19) _ = _;simp only [Act.put,s1_,s2_,s3_,i64_w,i32_w];rfl
   refine pure_ (i:=9) (N:=some 20) (v:=?_) (a':=?_) #[true,true,true,true,true,true,true,true,true,true,false,false,false,false,false,false,false] rfl rfl (any_of HT_.out (by kernel_rfl)) (fun _ _ _ h => h) (Or.inl ⟨by rfl,?_⟩) ?_ ?_;rotate_left
   ·intro w';go_simp;with_reducible rfl
   rotate_left
   ·exact ux_
   refine pure_ (i:=10) (N:=some 21) (v:=?_) (a':=?_) #[true,true,true,true,true,true,true,true,true,true,true,false,false,false,false,false,false] rfl rfl (any_of HT_.out (by kernel_rfl)) (fun _ _ _ h => h) (Or.inl ⟨by rfl,?_⟩) ?_ ?_;rotate_left
   ·intro w';go_simp;with_reducible rfl
   rotate_left
   ·exact ux_
   refine pure_ (i:=11) (N:=some 22) (v:=undef) (a':=?_) #[true,true,true,true,true,true,true,true,true,true,true,true,false,false,false,false,false] rfl rfl (any_of HT_.out (by kernel_rfl)) (fun _ _ _ h => h) (Or.inr ⟨by rfl,rfl⟩) ?_ ?_;rotate_left
   ·exact ux_
   refine pure_ (i:=12) (N:=some 23) (v:=undef) (a':=?_) #[true,true,true,true,true,true,true,true,true,true,true,true,true,false,false,false,false] rfl rfl (any_of HT_.out (by kernel_rfl)) (fun _ _ _ h => h) (Or.inr ⟨by rfl,rfl⟩) ?_ ?_;rotate_left
   ·exact ux_
   refine pure_ (i:=13) (N:=some 24) (v:=undef) (a':=?_) #[true,true,true,true,true,true,true,true,true,true,true,true,true,true,false,false,false] rfl rfl (any_of HT_.out (by kernel_rfl)) (fun _ _ _ h => h) (Or.inr ⟨by rfl,rfl⟩) ?_ ?_;rotate_left
   ·exact ux_
   refine pure_ (i:=14) (N:=some 25) (v:=undef) (a':=?_) #[true,true,true,true,true,true,true,true,true,true,true,true,true,true,true,false,false] rfl rfl (any_of HT_.out (by kernel_rfl)) (fun _ _ _ h => h) (Or.inr ⟨by rfl,rfl⟩) ?_ ?_;rotate_left
   ·exact ux_
   refine pure_ (i:=15) (N:=some 26) (v:=undef) (a':=?_) #[true,true,true,true,true,true,true,true,true,true,true,true,true,true,true,true,false] rfl rfl (any_of HT_.out (by kernel_rfl)) (fun _ _ _ h => h) (Or.inr ⟨by rfl,rfl⟩) ?_ ?_;rotate_left
   ·exact ux_
   refine pure_ (i:=16) (N:=some 27) (v:=?_) (a':=?_) #[true,true,true,true,true,true,true,true,true,true,true,true,true,true,true,true,true] rfl rfl (any_of HT_.out (by kernel_rfl)) (fun _ _ _ h => h) (Or.inl ⟨by rfl,?_⟩) ?_ ?_;rotate_left
   ·intro w';go_simp;with_reducible rfl
   rotate_left
   ·exact ux_
   refine done_ (done_of HT_.out (by kernel_rfl)) ?_;have hcz59_0:=kC_ BK394 0;have hcz59_1:=kC_ BK394 1;have hcz59_2:=kC_ BK394 2;have hfz59_0:=kf_ BK394.out 0;have hfz59_1:=kf_ BK394.out 1;have hfz59_2:=kf_ BK394.out 2;have hnb60:=NB393_392.out;have hnc60:=NB392_393.out;have hcz61_0:=kC_ BK393 0;have hcz61_1:=kC_ BK393 1;have hcz61_2:=kC_ BK393 2;have hfz61_0:=kf_ BK393.out 0;have hfz61_1:=kf_ BK393.out 1;have hfz61_2:=kf_ BK393.out 2
   try go_wp2
   refine bodyPost_ret (results_cell_row rfl _ _ gb393 60 #[.int .i64 a1,.int .i64 a2,.slice none 0 0] (0,0) _ rfl (by (with_reducible repeat (first|refine kn_ ?_ _|refine kd_ ?_|refine ka_ ?_ _));refine ku_ (cs:=#[.int .i64 a1,.int .i64 a2,.slice none 0 0]) ?_ 2 _ rfl;(with_reducible repeat (first|refine kn_ ?_ _|refine kd_ ?_|refine ka_ ?_ _));refine ku_ (cs:=#[.int .i64 a1,.int .i64 0,.slice none 0 0]) ?_ 1 _ rfl;(with_reducible repeat (first|refine kn_ ?_ _|refine kd_ ?_|refine ka_ ?_ _));refine ku_ (cs:=#[.int .i64 0,.int .i64 0,.slice none 0 0]) ?_ 0 _ rfl;(with_reducible repeat (first|refine kn_ ?_ _|refine kd_ ?_|refine ka_ ?_ _));exact BK393.out) Try.underlying60 rfl (by kernel_rfl)) rfl ?_;exact ⟨_,by first|rfl|(simp [*,errW_none,errW_some] <;> rfl),by first|exact Kd.R_nil _ _ _ _ _|exact Kd.N_nil _ _ _ _ _|exact Kd.V_nil _ _ _ _ _|exact Kd.Q_nil _ _ _ _ _|exact Kd.S_nil _ _ _ _ _,bq_ HB⟩
 ·replace c5:=Bool.eq_false_iff.mpr c5;subst c5
  have H1 : (some (a1,a2,([] : List (S37)))) = some (r1,r2,r3):=by rw [if_neg (show ¬ (false = true) by decide)] at H;exact H
  clear H;have H:=H1;clear H1;simp only [Option.some.injEq,Prod.mk.injEq] at H;obtain ⟨rfl,rfl,rfl⟩:=H;go_enter Try.func36,Try.ntmps36
  try go_wp2_with (first|((with_reducible refine gate_dst (N:=3) rfl ?_);refine box_event ?hg (N:=3) ?hd (cs:=#[.int .i64 a0_0,.int .i64 a0_1,.slice A0_2 l0_2.length c0_2]) (t:=60) ?hr ?_;(case hd => rfl);(case hg => rfl);(case hr => exact gx_);intro gb392 hg w62 hbox hb;have BK392:=A_ (hbox);have GW392:=A_ ((by rw [hg];exact (bz_ (bq_ HB)) : w.heap.size ≤ gb392));have GE392:=A_ ((by rw [hg];exact (bz_ (bq_ HB)) : w.heap.size ≤ gb392));replace HB:=A_ (bs_ (bq_ HB) hb);clear hb hbox hg)|((with_reducible refine gate_dst (N:=6) rfl ?_);refine box_event ?hg (N:=6) ?hd (cs:=#[.int .i64 0,.int .i64 0,.slice none 0 0]) (t:=60) ?hr ?_;(case hd => rfl);(case hg => rfl);(case hr => exact gx_);intro gb393 hg w63 hbox hb;have BK393:=A_ (hbox);have GW393:=A_ ((by rw [hg];exact (bz_ (bq_ HB)) : w.heap.size ≤ gb393));have GE393:=A_ ((by rw [hg];exact (bz_ (bq_ HB)) : w.heap.size ≤ gb393));replace HB:=A_ (bs_ (bq_ HB) hb);have NB392_393:=A_ ((by rw [hg];exact nl_ (kl_ (g:=gb392) (o:=.cells #[.int .i64 a0_0,.int .i64 a0_1,.slice A0_2 l0_2.length c0_2] 60 (0,0)) (kq_ BK392)) : gb392 ≠ gb393));have NB393_392:=A_ ((by rw [hg];exact ng_ (kl_ (g:=gb392) (o:=.cells #[.int .i64 a0_0,.int .i64 a0_1,.slice A0_2 l0_2.length c0_2] 60 (0,0)) (kq_ BK392)) : gb393 ≠ gb392));replace BK392:=A_ (kb_ (kq_ BK392) hb);clear hb hbox hg)|((with_reducible refine gate_dst (N:=7) rfl ?_);refine box_event ?hg (N:=7) ?hd (cs:=#[.int .i64 0,.int .i64 0,.slice none 0 0]) (t:=60) ?hr ?_;(case hd => rfl);(case hg => rfl);(case hr => exact gx_);intro gb394 hg w64 hbox hb;have BK394:=A_ (hbox);have GW394:=A_ ((by rw [hg];exact (bz_ (bq_ HB)) : w.heap.size ≤ gb394));have GE394:=A_ ((by rw [hg];exact (bz_ (bq_ HB)) : w.heap.size ≤ gb394));replace HB:=A_ (bs_ (bq_ HB) hb);have NB392_394:=A_ ((by rw [hg];exact nl_ (kl_ (g:=gb392) (o:=.cells #[.int .i64 a0_0,.int .i64 a0_1,.slice A0_2 l0_2.length c0_2] 60 (0,0)) (kq_ BK392)) : gb392 ≠ gb394));have NB394_392:=A_ ((by rw [hg];exact ng_ (kl_ (g:=gb392) (o:=.cells #[.int .i64 a0_0,.int .i64 a0_1,.slice A0_2 l0_2.length c0_2] 60 (0,0)) (kq_ BK392)) : gb394 ≠ gb392));replace BK392:=A_ (kb_ (kq_ BK392) hb);have NB393_394:=A_ ((by rw [hg];exact nl_ (kl_ (g:=gb393) (o:=.cells #[.int .i64 0,.int .i64 0,.slice none 0 0] 60 (0,0)) (kq_ BK393)) : gb393 ≠ gb394));have NB394_393:=A_ ((by rw [hg];exact ng_ (kl_ (g:=gb393) (o:=.cells #[.int .i64 0,.int .i64 0,.slice none 0 0] 60 (0,0)) (kq_ BK393)) : gb394 ≠ gb393));replace BK393:=A_ (kb_ (kq_ BK393) hb);clear hb hbox hg;have hnb65:=NB394_392.out;have hnc65:=NB392_394.out;have hnb66:=NB394_393.out;have hnc66:=NB393_394.out;have hcz67_0:=kC_ BK394 0;have hcz67_1:=kC_ BK394 1;have hcz67_2:=kC_ BK394 2;have hfz67_0:=kf_ BK394.out 0;have hfz67_1:=kf_ BK394.out 1;have hfz67_2:=kf_ BK394.out 2))
  have n0_ : Aside0 ((((w64.setCell ⟨gb394,0,none⟩ (.int .i64 a1)).setCell ⟨gb394,1,none⟩ (.int .i64 a2)).setCell ⟨gb394,2,none⟩ (.slice none 0 0)).heap[gb392]? = some (.cells #[.int .i64 a0_0,.int .i64 a0_1,.slice A0_2 l0_2.length c0_2] 60 (0,0))):=⟨by (with_reducible repeat (first|refine kn_ ?_ _|refine kd_ ?_|refine ka_ ?_ _));refine kr_ ?_ NB392_394.out _;(with_reducible repeat (first|refine kn_ ?_ _|refine kd_ ?_|refine ka_ ?_ _));refine kr_ ?_ NB392_394.out _;(with_reducible repeat (first|refine kn_ ?_ _|refine kd_ ?_|refine ka_ ?_ _));refine kr_ ?_ NB392_394.out _;(with_reducible repeat (first|refine kn_ ?_ _|refine kd_ ?_|refine ka_ ?_ _));exact BK392.out⟩;have n1_ : Aside0 ((((w64.setCell ⟨gb394,0,none⟩ (.int .i64 a1)).setCell ⟨gb394,1,none⟩ (.int .i64 a2)).setCell ⟨gb394,2,none⟩ (.slice none 0 0)).heap[gb393]? = some (.cells #[.int .i64 0,.int .i64 0,.slice none 0 0] 60 (0,0))):=⟨by (with_reducible repeat (first|refine kn_ ?_ _|refine kd_ ?_|refine ka_ ?_ _));refine kr_ ?_ NB393_394.out _;(with_reducible repeat (first|refine kn_ ?_ _|refine kd_ ?_|refine ka_ ?_ _));refine kr_ ?_ NB393_394.out _;(with_reducible repeat (first|refine kn_ ?_ _|refine kd_ ?_|refine ka_ ?_ _));refine kr_ ?_ NB393_394.out _;(with_reducible repeat (first|refine kn_ ?_ _|refine kd_ ?_|refine ka_ ?_ _));exact BK393.out⟩;have n2_ : Aside0 ((((w64.setCell ⟨gb394,0,none⟩ (.int .i64 a1)).setCell ⟨gb394,1,none⟩ (.int .i64 a2)).setCell ⟨gb394,2,none⟩ (.slice none 0 0)).heap[gb394]? = some (.cells #[.int .i64 a1,.int .i64 a2,.slice none 0 0] 60 (0,0))):=⟨by (with_reducible repeat (first|refine kn_ ?_ _|refine kd_ ?_|refine ka_ ?_ _));refine ku_ (cs:=#[.int .i64 a1,.int .i64 a2,.slice none 0 0]) ?_ 2 _ rfl;(with_reducible repeat (first|refine kn_ ?_ _|refine kd_ ?_|refine ka_ ?_ _));refine ku_ (cs:=#[.int .i64 a1,.int .i64 0,.slice none 0 0]) ?_ 1 _ rfl;(with_reducible repeat (first|refine kn_ ?_ _|refine kd_ ?_|refine ka_ ?_ _));refine ku_ (cs:=#[.int .i64 0,.int .i64 0,.slice none 0 0]) ?_ 0 _ rfl;(with_reducible repeat (first|refine kn_ ?_ _|refine kd_ ?_|refine ka_ ?_ _));exact BK394.out⟩;have n3_ : Aside0 (Below w.heap.size w (((w64.setCell ⟨gb394,0,none⟩ (.int .i64 a1)).setCell ⟨gb394,1,none⟩ (.int .i64 a2)).setCell ⟨gb394,2,none⟩ (.slice none 0 0))):=⟨bq_ HB⟩
  (try clear BK392)
  (try clear BK393)
  (try clear BK394)
  (try clear HB)
  generalize (((w64.setCell ⟨gb394,0,none⟩ (.int .i64 a1)).setCell ⟨gb394,1,none⟩ (.int .i64 a2)).setCell ⟨gb394,2,none⟩ (.slice none 0 0)) = w68 at n0_ n1_ n2_ n3_ ⊢;have BK392:=n0_;have BK393:=n1_;have BK394:=n2_;have HB:=n3_;clear n0_ n1_ n2_ n3_;replace BK392:=A_ (kd_ BK392.out);replace BK393:=A_ (kd_ BK393.out);replace BK394:=A_ (kd_ BK394.out);replace HB:=A_ (pd_ HB.out);refine start_ (n:=17) (S:=fun w' => w'.cell? ⟨gb392,0,none⟩ = some (.int .i64 a0_0) ∧ w'.cell? ⟨gb392,1,none⟩ = some (.int .i64 a0_1) ∧ w'.cell? ⟨gb392,2,none⟩ = some (.slice A0_2 l0_2.length c0_2)) (ds:=[]) #[false,false,false,false,false,false,false,false,false,false,false,false,false,false,false,false,false] (by kernel_rfl) rfl rfl ⟨kC_ BK392 0,kC_ BK392 1,kC_ BK392 2⟩ (fun hHeld => ?_);refine with_tabW spec_LogBehind.tab2 spec_LogBehind.bits2 (fun HT_ HW_ => ?_);generalize w68.drew = w69 at BK392 BK393 BK394 HB hHeld ⊢;refine take_ (i:=0) (N:=some 11) (v:=?_) (a':=?_) #[true,false,false,false,false,false,false,false,false,false,false,false,false,false,false,false,false] rfl rfl (take_ofW HT_.out HW_.out (by kernel_rfl)) (fun _ _ _ h => h) (Or.inl ⟨by rfl,?_⟩) hHeld ?_ ?_;rotate_left
  ·rintro w' ⟨s0,s1,s2⟩;go_simp;with_reducible rfl
  rotate_left
  ·exact ux_
  refine one_ (i:=1) (N:=some 12) #[true,true,false,false,false,false,false,false,false,false,false,false,false,false,false,false,false] rfl rfl (one_of HT_.out (by kernel_rfl)) (by decide) (fun K hK => ?_);refine goes_ Try.func101 (by kernel_rfl) rfl #[.agg #[.int .i64 a0_0,.int .i64 a0_1,.slice A0_2 l0_2.length c0_2]] (by rfl) rfl rfl aq_ ?_;with_reducible refine (spec_LogOk.calls k a0_0 a0_1 _ _ l0_2 false _ ?side1 ?side2 A4.out).mono ?_
  (case side1 => repeat (first|exact (Kd.C_below HR0_2.out HB.out)|(with_reducible refine Kd.C_alloc ?_ _)|(with_reducible refine Kd.C_drewN ?_ _)|(with_reducible refine Kd.C_drew ?_)))
  (case side2 => exact HC0_2.out)
  rintro e w70 ⟨rfl,hb⟩;refine ⟨_,rfl,?_⟩;replace BK392:=A_ (kb_ (kq_ BK392) hb);replace BK393:=A_ (kb_ (kq_ BK393) hb);replace BK394:=A_ (kb_ (kq_ BK394) hb);replace HB:=A_ (bs_ (bq_ HB) hb)
  (try clear hb)
  (try clear hb2)
  (try clear hk)
  (try clear hi)
  refine hK.out _ _ ⟨kC_ BK392 0,kC_ BK392 1,kC_ BK392 2⟩ (fun hHeld => ?_);clear hK K;refine norm_ (a':=?_) ?_ ?_;rotate_left
  ·show Act.put _ (some 12) _ = _;simp only [Act.put,s1_,s2_,s3_,i64_w,i32_w];rfl
  refine pure_ (i:=2) (N:=some 13) (v:=?_) (a':=?_) #[true,true,true,false,false,false,false,false,false,false,false,false,false,false,false,false,false] rfl rfl (any_of HT_.out (by kernel_rfl)) (fun _ _ _ h => h) (Or.inl ⟨by rfl,?_⟩) ?_ ?_;rotate_left
  ·intro w';go_simp;with_reducible rfl
  rotate_left
  ·exact ux_
  refine pure_ (i:=3) (N:=some 14) (v:=undef) (a':=?_) #[true,true,true,true,false,false,false,false,false,false,false,false,false,false,false,false,false] rfl rfl (any_of HT_.out (by kernel_rfl)) (fun _ _ _ h => h) (Or.inr ⟨by rfl,rfl⟩) ?_ ?_;rotate_left
  ·exact ux_
  refine pure_ (i:=4) (N:=some 15) (v:=undef) (a':=?_) #[true,true,true,true,true,false,false,false,false,false,false,false,false,false,false,false,false] rfl rfl (any_of HT_.out (by kernel_rfl)) (fun _ _ _ h => h) (Or.inr ⟨by rfl,rfl⟩) ?_ ?_;rotate_left
  ·exact ux_
  refine pure_ (i:=5) (N:=some 16) (v:=undef) (a':=?_) #[true,true,true,true,true,true,false,false,false,false,false,false,false,false,false,false,false] rfl rfl (any_of HT_.out (by kernel_rfl)) (fun _ _ _ h => h) (Or.inr ⟨by rfl,rfl⟩) ?_ ?_;rotate_left
  ·exact ux_
  refine pure_ (i:=6) (N:=some 17) (v:=undef) (a':=?_) #[true,true,true,true,true,true,true,false,false,false,false,false,false,false,false,false,false] rfl rfl (any_of HT_.out (by kernel_rfl)) (fun _ _ _ h => h) (Or.inr ⟨by rfl,rfl⟩) ?_ ?_;rotate_left
  ·exact ux_
  refine pure_ (i:=7) (N:=some 18) (v:=undef) (a':=?_) #[true,true,true,true,true,true,true,true,false,false,false,false,false,false,false,false,false] rfl rfl (any_of HT_.out (by kernel_rfl)) (fun _ _ _ h => h) (Or.inr ⟨by rfl,rfl⟩) ?_ ?_;rotate_left
  ·exact ux_
  refine pure_ (i:=8) (N:=some 19) (v:=undef) (a':=?_) #[true,true,true,true,true,true,true,true,true,false,false,false,false,false,false,false,false] rfl rfl (any_of HT_.out (by kernel_rfl)) (fun _ _ _ h => h) (Or.inr ⟨by rfl,rfl⟩) ?_ ?_;rotate_left
  ·exact ux_
  refine pure_ (i:=9) (N:=some 20) (v:=?_) (a':=?_) #[true,true,true,true,true,true,true,true,true,true,false,false,false,false,false,false,false] rfl rfl (any_of HT_.out (by kernel_rfl)) (fun _ _ _ h => h) (Or.inl ⟨by rfl,?_⟩) ?_ ?_;rotate_left
  ·intro w';go_simp;with_reducible rfl
  rotate_left
  ·exact ux_
  refine pure_ (i:=10) (N:=some 21) (v:=?_) (a':=?_) #[true,true,true,true,true,true,true,true,true,true,true,false,false,false,false,false,false] rfl rfl (any_of HT_.out (by kernel_rfl)) (fun _ _ _ h => h) (Or.inl ⟨by rfl,?_⟩) ?_ ?_;rotate_left
  ·intro w';go_simp;with_reducible rfl
  rotate_left
  ·exact ux_
  refine pure_ (i:=11) (N:=some 22) (v:=undef) (a':=?_) #[true,true,true,true,true,true,true,true,true,true,true,true,false,false,false,false,false] rfl rfl (any_of HT_.out (by kernel_rfl)) (fun _ _ _ h => h) (Or.inr ⟨by rfl,rfl⟩) ?_ ?_;rotate_left
  ·exact ux_
  refine pure_ (i:=12) (N:=some 23) (v:=undef) (a':=?_) #[true,true,true,true,true,true,true,true,true,true,true,true,true,false,false,false,false] rfl rfl (any_of HT_.out (by kernel_rfl)) (fun _ _ _ h => h) (Or.inr ⟨by rfl,rfl⟩) ?_ ?_;rotate_left
  ·exact ux_
  refine pure_ (i:=13) (N:=some 24) (v:=undef) (a':=?_) #[true,true,true,true,true,true,true,true,true,true,true,true,true,true,false,false,false] rfl rfl (any_of HT_.out (by kernel_rfl)) (fun _ _ _ h => h) (Or.inr ⟨by rfl,rfl⟩) ?_ ?_;rotate_left
  ·exact ux_
  refine pure_ (i:=14) (N:=some 25) (v:=undef) (a':=?_) #[true,true,true,true,true,true,true,true,true,true,true,true,true,true,true,false,false] rfl rfl (any_of HT_.out (by kernel_rfl)) (fun _ _ _ h => h) (Or.inr ⟨by rfl,rfl⟩) ?_ ?_;rotate_left
  ·exact ux_
  refine pure_ (i:=15) (N:=some 26) (v:=undef) (a':=?_) #[true,true,true,true,true,true,true,true,true,true,true,true,true,true,true,true,false] rfl rfl (any_of HT_.out (by kernel_rfl)) (fun _ _ _ h => h) (Or.inr ⟨by rfl,rfl⟩) ?_ ?_;rotate_left
  ·exact ux_
  refine pure_ (i:=16) (N:=some 27) (v:=?_) (a':=?_) #[true,true,true,true,true,true,true,true,true,true,true,true,true,true,true,true,true] rfl rfl (any_of HT_.out (by kernel_rfl)) (fun _ _ _ h => h) (Or.inl ⟨by rfl,?_⟩) ?_ ?_;rotate_left
  ·intro w';go_simp;with_reducible rfl
  rotate_left
  ·exact ux_
  refine done_ (done_of HT_.out (by kernel_rfl)) ?_;have hcz71_0:=kC_ BK394 0;have hcz71_1:=kC_ BK394 1;have hcz71_2:=kC_ BK394 2;have hfz71_0:=kf_ BK394.out 0;have hfz71_1:=kf_ BK394.out 1;have hfz71_2:=kf_ BK394.out 2;have hnb72:=NB393_392.out;have hnc72:=NB392_393.out;have hcz73_0:=kC_ BK393 0;have hcz73_1:=kC_ BK393 1;have hcz73_2:=kC_ BK393 2;have hfz73_0:=kf_ BK393.out 0;have hfz73_1:=kf_ BK393.out 1;have hfz73_2:=kf_ BK393.out 2
  try go_wp2
  refine bodyPost_ret (results_cell_row rfl _ _ gb393 60 #[.int .i64 a1,.int .i64 a2,.slice none 0 0] (0,0) _ rfl (by (with_reducible repeat (first|refine kn_ ?_ _|refine kd_ ?_|refine ka_ ?_ _));refine ku_ (cs:=#[.int .i64 a1,.int .i64 a2,.slice none 0 0]) ?_ 2 _ rfl;(with_reducible repeat (first|refine kn_ ?_ _|refine kd_ ?_|refine ka_ ?_ _));refine ku_ (cs:=#[.int .i64 a1,.int .i64 0,.slice none 0 0]) ?_ 1 _ rfl;(with_reducible repeat (first|refine kn_ ?_ _|refine kd_ ?_|refine ka_ ?_ _));refine ku_ (cs:=#[.int .i64 0,.int .i64 0,.slice none 0 0]) ?_ 0 _ rfl;(with_reducible repeat (first|refine kn_ ?_ _|refine kd_ ?_|refine ka_ ?_ _));exact BK393.out) Try.underlying60 rfl (by kernel_rfl)) rfl ?_;exact ⟨_,by first|rfl|(simp [*,errW_none,errW_some] <;> rfl),by first|exact Kd.R_nil _ _ _ _ _|exact Kd.N_nil _ _ _ _ _|exact Kd.V_nil _ _ _ _ _|exact Kd.Q_nil _ _ _ _ _|exact Kd.S_nil _ _ _ _ _,bq_ HB⟩
end Go.Proofs.Ytgpafelepkhdoaa.PFnBehind
