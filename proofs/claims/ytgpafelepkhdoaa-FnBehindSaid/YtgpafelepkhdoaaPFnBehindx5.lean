/- The contracts of the Go functions that this law reaches: what each call returns, by a plain Lean function of its arguments. No conditions but those each contract names. By the kit's print.py, run by this session's wip/gen/pp.py with facts and hand proofs beside it: not to the letter what print.sh prints. -/
import Derived.Test.YtgpafelepkhdoaaPFnBehindx0
import Derived.Test.YtgpafelepkhdoaaPFnBehindx3
import Derived.Test.YtgpafelepkhdoaaPFnBehindx4
namespace Go.Proofs.Ytgpafelepkhdoaa.PFnBehind
open Go.RowKit Go.Proofs.YtgpafelepkhdoaaW.PrintWords Go.Proofs.YtgpafelepkhdoaaW.PrintLast Go.Proofs.YtgpafelepkhdoaaW.PrintMore
attribute [local go_sem] max2_int min2_int max_two min_two max_three min_three max_four min_four
set_option linter.unusedVariables false
set_option linter.unusedSimpArgs false
def impl_LogBehind.f (k : Nat) (a0_0 : Int) (a0_1 : Int) (l0_2 : List (S37)) (a1 : Int) (a2 : Int) : Option (Int × Int × (List (S37))) := (impl_LogOk.f k a0_0 a0_1 l0_2).bind fun t130 => (if t130 = true then ((impl_LogTerm.f a0_0 a0_1 l0_2 a1).bind fun t131 => (if t131 = a2 then ((impl_last.f a0_0 a0_1 l0_2).bind fun t132 => ((impl_within.f a1 a0_0 t132).bind fun t133 => (if t133 = true then (if 0 ≤ (wrap64 (a1 - a0_0)) then (if (wrap64 (a1 - a0_0)) ≤ (l0_2.length : Int) then ((some (l0_2.drop ((wrap64 (a1 - a0_0)) : Int).toNat : List (S37))).bind fun y134 => (if ([] : List (S37)).length + y134.length < 4398046511104 then (some (a1, a2, (([] : List (S37)) ++ y134))) else (none))) else (none)) else (none)) else (some (a1, a2, ([] : List (S37))))))) else (some (a1, a2, ([] : List (S37)))))) else (some (a1, a2, ([] : List (S37)))))
theorem impl_LogBehind.mono : ∀ a0 a1 a2 a3 a4 k, LeO (impl_LogBehind.f k a0 a1 a2 a3 a4) (impl_LogBehind.f (k + 1) a0 a1 a2 a3 a4) := by
 intro a0 a1 a2 a3 a4 k
 unfold impl_LogBehind.f
 repeat' first
   | (with_reducible exact impl_LogOk.mono _ _ _ _)
   | (with_reducible exact LeO.refl _)
   | (with_reducible exact LeO.none _)
   | (with_reducible refine LeO.ite ?_ ?_)
   | (with_reducible refine LeO.bind ?_ (fun _ => ?_))
def impl_LogBehind.T2 : Bool × List (List Nat × List Nat) := (true, [([], []), ([0], [0]), ([1, 1], [1]), ([2], [2]), ([2], [2]), ([3, 4, 2, 2], [2, 3, 4]), ([2], [2]), ([5, 6, 2], [2, 5, 6]), ([2, 7], [2, 7]), ([8, 5], [8]), ([9], [9]), ([9], [9]), ([11, 9], [9, 11]), ([9], [9]), ([13, 9, 9], [9, 13]), ([10, 12, 14, 14, 9], [9, 10, 12, 14]), ([9, 15], [9, 15])])
def impl_LogBehind.B2 : List Nat := [0, 1, 3, 7, 7, 31, 7, 127, 255, 511, 1023, 1023, 3071, 1023, 9215, 32767, 65535]
theorem impl_LogBehind.tab2 : rtab .any (opsOf Try.f38 2) = impl_LogBehind.T2 := by kernel_rfl
theorem impl_LogBehind.bits2 : waitsOk impl_LogBehind.T2.2 impl_LogBehind.B2 = true := by kernel_rfl
def impl_LogBehind.T3 : Bool × List (List Nat × List Nat) := (true, [([], []), ([0], [0]), ([], []), ([2], [2]), ([], []), ([], []), ([5], [5]), ([4, 6], [4, 6]), ([3, 7], [3, 7]), ([1, 8], [1, 8]), ([0, 1, 2, 3, 4, 5, 6, 7, 8, 9], []), ([10, 9, 9, 0, 1, 2, 3, 4, 5, 6, 7, 8, 9], [9, 10])])
def impl_LogBehind.B3 : List Nat := [0, 1, 0, 4, 0, 0, 32, 112, 252, 511, 1023, 2047]
theorem impl_LogBehind.tab3 : rtab .any (opsOf Try.f38 3) = impl_LogBehind.T3 := by kernel_rfl
theorem impl_LogBehind.bits3 : waitsOk impl_LogBehind.T3.2 impl_LogBehind.B3 = true := by kernel_rfl
set_option maxHeartbeats 8000000 in
set_option maxRecDepth 100000 in
theorem impl_LogBehind.calls (k : Nat) (a0_0 : Int) (a0_1 : Int) (A0_2 : Option Addr) (c0_2 : Nat) (l0_2 : List (S37)) (a1 : Int) (a2 : Int) (r1 : Int) (r2 : Int) (r3 : List (S37)) (w : World) (hr0_2 : Kd.C k37 w A0_2 l0_2.length l0_2) (hc0_2 : l0_2.length ≤ c0_2) (h : impl_LogBehind.f k a0_0 a0_1 l0_2 a1 a2 = some (r1, r2, r3)) :
  Calls Try.prog 38 #[.agg #[.int .i64 a0_0,.int .i64 a0_1,.slice A0_2 l0_2.length c0_2],.int .i64 a1,.int .i64 a2] w fun e w' => ∃ v2_ : Value,e = .returned (.agg #[.int .i64 r1,.int .i64 r2,v2_]) ∧ Kd.R k37 37 w' w.heap.size (fun _ => True) v2_ r3 ∧ Below w.heap.size w w':=by
 have hu60:=Try.underlying60;have HR0_2:=A_ hr0_2;have HC0_2:=A_ hc0_2;clear hr0_2 hc0_2;have HB:=A_ (Below.refl w.heap.size w);have H : ((impl_LogOk.f k a0_0 a0_1 l0_2).bind fun t130 => (if t130 = true then ((impl_LogTerm.f a0_0 a0_1 l0_2 a1).bind fun t131 => (if t131 = a2 then ((impl_last.f a0_0 a0_1 l0_2).bind fun t132 => ((impl_within.f a1 a0_0 t132).bind fun t133 => (if t133 = true then (if 0 ≤ (wrap64 (a1 - a0_0)) then (if (wrap64 (a1 - a0_0)) ≤ (l0_2.length : Int) then ((some (l0_2.drop ((wrap64 (a1 - a0_0)) : Int).toNat : List (S37))).bind fun y134 => (if ([] : List (S37)).length + y134.length < 4398046511104 then (some (a1,a2,(([] : List (S37)) ++ y134))) else (none))) else (none)) else (none)) else (some (a1,a2,([] : List (S37))))))) else (some (a1,a2,([] : List (S37)))))) else (some (a1,a2,([] : List (S37)))))) = some (r1,r2,r3):=h;clear h;replace H:=ob_.mp H;obtain ⟨t130,A40,H⟩:=H;replace H : (if t130 = true then ((impl_LogTerm.f a0_0 a0_1 l0_2 a1).bind fun t131 => (if t131 = a2 then ((impl_last.f a0_0 a0_1 l0_2).bind fun t132 => ((impl_within.f a1 a0_0 t132).bind fun t133 => (if t133 = true then (if 0 ≤ (wrap64 (a1 - a0_0)) then (if (wrap64 (a1 - a0_0)) ≤ (l0_2.length : Int) then ((some (l0_2.drop ((wrap64 (a1 - a0_0)) : Int).toNat : List (S37))).bind fun y134 => (if ([] : List (S37)).length + y134.length < 4398046511104 then (some (a1,a2,(([] : List (S37)) ++ y134))) else (none))) else (none)) else (none)) else (some (a1,a2,([] : List (S37))))))) else (some (a1,a2,([] : List (S37)))))) else (some (a1,a2,([] : List (S37))))) = some (r1,r2,r3):=H;have A4:=A_ A40;clear A40
 by_cases c5 : t130 = true
 ·subst c5
  have H1 : ((impl_LogTerm.f a0_0 a0_1 l0_2 a1).bind fun t131 => (if t131 = a2 then ((impl_last.f a0_0 a0_1 l0_2).bind fun t132 => ((impl_within.f a1 a0_0 t132).bind fun t133 => (if t133 = true then (if 0 ≤ (wrap64 (a1 - a0_0)) then (if (wrap64 (a1 - a0_0)) ≤ (l0_2.length : Int) then ((some (l0_2.drop ((wrap64 (a1 - a0_0)) : Int).toNat : List (S37))).bind fun y134 => (if ([] : List (S37)).length + y134.length < 4398046511104 then (some (a1,a2,(([] : List (S37)) ++ y134))) else (none))) else (none)) else (none)) else (some (a1,a2,([] : List (S37))))))) else (some (a1,a2,([] : List (S37)))))) = some (r1,r2,r3):=by rw [if_pos rfl] at H;exact H
  clear H;have H:=H1;clear H1;replace H:=ob_.mp H;obtain ⟨t131,A60,H⟩:=H;replace H : (if t131 = a2 then ((impl_last.f a0_0 a0_1 l0_2).bind fun t132 => ((impl_within.f a1 a0_0 t132).bind fun t133 => (if t133 = true then (if 0 ≤ (wrap64 (a1 - a0_0)) then (if (wrap64 (a1 - a0_0)) ≤ (l0_2.length : Int) then ((some (l0_2.drop ((wrap64 (a1 - a0_0)) : Int).toNat : List (S37))).bind fun y134 => (if ([] : List (S37)).length + y134.length < 4398046511104 then (some (a1,a2,(([] : List (S37)) ++ y134))) else (none))) else (none)) else (none)) else (some (a1,a2,([] : List (S37))))))) else (some (a1,a2,([] : List (S37))))) = some (r1,r2,r3):=H;have A6:=A_ A60;clear A60
  by_cases c7 : t131 = a2
  ·rw [if_pos c7] at H;have c7b0 : (t131 == a2) = true:=beq_iff_eq.mpr c7;have c7b1 : (t131 != a2) = false:=bne_eq_false_iff_eq.mpr c7;clear c7;replace H:=ob_.mp H;obtain ⟨t132,A80,H⟩:=H;replace H : ((impl_within.f a1 a0_0 t132).bind fun t133 => (if t133 = true then (if 0 ≤ (wrap64 (a1 - a0_0)) then (if (wrap64 (a1 - a0_0)) ≤ (l0_2.length : Int) then ((some (l0_2.drop ((wrap64 (a1 - a0_0)) : Int).toNat : List (S37))).bind fun y134 => (if ([] : List (S37)).length + y134.length < 4398046511104 then (some (a1,a2,(([] : List (S37)) ++ y134))) else (none))) else (none)) else (none)) else (some (a1,a2,([] : List (S37)))))) = some (r1,r2,r3):=H;have A8:=A_ A80;clear A80;replace H:=ob_.mp H;obtain ⟨t133,A90,H⟩:=H;replace H : (if t133 = true then (if 0 ≤ (wrap64 (a1 - a0_0)) then (if (wrap64 (a1 - a0_0)) ≤ (l0_2.length : Int) then ((some (l0_2.drop ((wrap64 (a1 - a0_0)) : Int).toNat : List (S37))).bind fun y134 => (if ([] : List (S37)).length + y134.length < 4398046511104 then (some (a1,a2,(([] : List (S37)) ++ y134))) else (none))) else (none)) else (none)) else (some (a1,a2,([] : List (S37))))) = some (r1,r2,r3):=H;have A9:=A_ A90;clear A90
   by_cases c10 : t133 = true
   ·subst c10
    have H1 : (if 0 ≤ (wrap64 (a1 - a0_0)) then (if (wrap64 (a1 - a0_0)) ≤ (l0_2.length : Int) then ((some (l0_2.drop ((wrap64 (a1 - a0_0)) : Int).toNat : List (S37))).bind fun y134 => (if ([] : List (S37)).length + y134.length < 4398046511104 then (some (a1,a2,(([] : List (S37)) ++ y134))) else (none))) else (none)) else (none)) = some (r1,r2,r3):=by rw [if_pos rfl] at H;exact H
    clear H;have H:=H1;clear H1;obtain ⟨ji11,hji11⟩ : ∃ j_ : Int,(wrap64 (a1 - a0_0)) = j_:=⟨_,rfl⟩
    replace H : (if 0 ≤ (ji11) then (if (ji11) ≤ (l0_2.length : Int) then ((some (l0_2.drop ((ji11) : Int).toNat : List (S37))).bind fun y134 => (if ([] : List (S37)).length + y134.length < 4398046511104 then (some (a1,a2,(([] : List (S37)) ++ y134))) else (none))) else (none)) else (none)) = some (r1,r2,r3):=by first|(rw [hji11] at H;exact H)|(simp only [hji11] at H ⊢;exact H)
    (try rw [hji11] at A4)
    (try rw [hji11] at A6)
    (try rw [hji11] at A8)
    (try rw [hji11] at A9)
    have hji11w : (IntKind.i64.wrap (a1 - a0_0)) = ji11:=(i64_w _).trans hji11
    by_cases c12 : 0 ≤ (ji11)
    ·rw [if_pos c12] at H;have c12b0:=eq_true c12;have c12b1 : decide (0 ≤ (ji11)) = true:=de_ c12;clear c12
     by_cases c13 : (ji11) ≤ (l0_2.length : Int)
     ·rw [if_pos c13] at H;have c13b0:=eq_true c13;have c13b1 : decide ((ji11) ≤ (l0_2.length : Int)) = true:=de_ c13;clear c13;obtain ⟨y134,hy134⟩ : ∃ y_ : List (S37),y_ = (l0_2.drop ((ji11) : Int).toNat):=⟨_,rfl⟩
      replace H : (if ([] : List (S37)).length + y134.length < 4398046511104 then (some (a1,a2,(([] : List (S37)) ++ y134))) else (none)) = some (r1,r2,r3):=by first|(rw [hy134];with_reducible exact H)|(have H2_:=(Option.bind_some _ _).symm.trans H;rw [hy134];with_reducible exact H2_)|(have H2_:=(Option.bind_some _ _).symm.trans H;with_reducible exact H2_)|with_reducible exact H|(rw [hy134];exact H)|exact H
      have Ny134:=A_ hy134;clear hy134
      by_cases c14 : ([] : List (S37)).length + y134.length < 4398046511104
      ·rw [if_pos c14] at H;have LMc14:=A_ c14;clear c14;obtain ⟨y138,hy138⟩ : ∃ y_ : List (S37),y_ = (([] : List (S37)) ++ y134):=⟨_,rfl⟩
       replace H : (some (a1,a2,y138)) = some (r1,r2,r3):=by first|(rw [hy138];with_reducible exact H)|(have H2_:=(Option.bind_some _ _).symm.trans H;rw [hy138];with_reducible exact H2_)|(have H2_:=(Option.bind_some _ _).symm.trans H;with_reducible exact H2_)|with_reducible exact H|(rw [hy138];exact H)|exact H
       have Ny138:=A_ hy138;clear hy138;simp only [Option.some.injEq,Prod.mk.injEq] at H;obtain ⟨rfl,rfl,rfl⟩:=H;go_enter Try.func38,Try.ntmps38
       try go_wp2_with (first|((with_reducible refine gate_dst (N:=3) rfl ?_);refine box_event ?hg (N:=3) ?hd (cs:=#[.int .i64 a0_0,.int .i64 a0_1,.slice A0_2 l0_2.length c0_2]) (t:=60) ?hr ?_;(case hd => rfl);(case hg => rfl);(case hr => exact gx_);intro gb127 hg w15 hbox hb;have BK127:=A_ (hbox);have GW127:=A_ ((by rw [hg];exact (bz_ (bq_ HB)) : w.heap.size ≤ gb127));have GE127:=A_ ((by rw [hg];exact (bz_ (bq_ HB)) : w.heap.size ≤ gb127));replace HB:=A_ (bs_ (bq_ HB) hb);clear hb hbox hg)|((with_reducible refine gate_dst (N:=6) rfl ?_);refine box_event ?hg (N:=6) ?hd (cs:=#[.int .i64 0,.int .i64 0,.slice none 0 0]) (t:=60) ?hr ?_;(case hd => rfl);(case hg => rfl);(case hr => exact gx_);intro gb128 hg w16 hbox hb;have BK128:=A_ (hbox);have GW128:=A_ ((by rw [hg];exact (bz_ (bq_ HB)) : w.heap.size ≤ gb128));have GE128:=A_ ((by rw [hg];exact (bz_ (bq_ HB)) : w.heap.size ≤ gb128));replace HB:=A_ (bs_ (bq_ HB) hb);have NB127_128:=A_ ((by rw [hg];exact nl_ (kl_ (g:=gb127) (o:=.cells #[.int .i64 a0_0,.int .i64 a0_1,.slice A0_2 l0_2.length c0_2] 60 (0,0)) (kq_ BK127)) : gb127 ≠ gb128));have NB128_127:=A_ ((by rw [hg];exact ng_ (kl_ (g:=gb127) (o:=.cells #[.int .i64 a0_0,.int .i64 a0_1,.slice A0_2 l0_2.length c0_2] 60 (0,0)) (kq_ BK127)) : gb128 ≠ gb127));replace BK127:=A_ (kb_ (kq_ BK127) hb);clear hb hbox hg)|((with_reducible refine gate_dst (N:=7) rfl ?_);refine box_event ?hg (N:=7) ?hd (cs:=#[.int .i64 0,.int .i64 0,.slice none 0 0]) (t:=60) ?hr ?_;(case hd => rfl);(case hg => rfl);(case hr => exact gx_);intro gb129 hg w17 hbox hb;have BK129:=A_ (hbox);have GW129:=A_ ((by rw [hg];exact (bz_ (bq_ HB)) : w.heap.size ≤ gb129));have GE129:=A_ ((by rw [hg];exact (bz_ (bq_ HB)) : w.heap.size ≤ gb129));replace HB:=A_ (bs_ (bq_ HB) hb);have NB127_129:=A_ ((by rw [hg];exact nl_ (kl_ (g:=gb127) (o:=.cells #[.int .i64 a0_0,.int .i64 a0_1,.slice A0_2 l0_2.length c0_2] 60 (0,0)) (kq_ BK127)) : gb127 ≠ gb129));have NB129_127:=A_ ((by rw [hg];exact ng_ (kl_ (g:=gb127) (o:=.cells #[.int .i64 a0_0,.int .i64 a0_1,.slice A0_2 l0_2.length c0_2] 60 (0,0)) (kq_ BK127)) : gb129 ≠ gb127));replace BK127:=A_ (kb_ (kq_ BK127) hb);have NB128_129:=A_ ((by rw [hg];exact nl_ (kl_ (g:=gb128) (o:=.cells #[.int .i64 0,.int .i64 0,.slice none 0 0] 60 (0,0)) (kq_ BK128)) : gb128 ≠ gb129));have NB129_128:=A_ ((by rw [hg];exact ng_ (kl_ (g:=gb128) (o:=.cells #[.int .i64 0,.int .i64 0,.slice none 0 0] 60 (0,0)) (kq_ BK128)) : gb129 ≠ gb128));replace BK128:=A_ (kb_ (kq_ BK128) hb);clear hb hbox hg;have hnb18:=NB129_127.out;have hnc18:=NB127_129.out;have hnb19:=NB129_128.out;have hnc19:=NB128_129.out;have hcz20_0:=kC_ BK129 0;have hcz20_1:=kC_ BK129 1;have hcz20_2:=kC_ BK129 2;have hfz20_0:=kf_ BK129.out 0;have hfz20_1:=kf_ BK129.out 1;have hfz20_2:=kf_ BK129.out 2))
       have n0_ : Aside0 ((((w17.setCell ⟨gb129,0,none⟩ (.int .i64 a1)).setCell ⟨gb129,1,none⟩ (.int .i64 a2)).setCell ⟨gb129,2,none⟩ (.slice none 0 0)).heap[gb127]? = some (.cells #[.int .i64 a0_0,.int .i64 a0_1,.slice A0_2 l0_2.length c0_2] 60 (0,0))):=⟨by (with_reducible repeat (first|refine kn_ ?_ _|refine kd_ ?_|refine ka_ ?_ _));refine kr_ ?_ NB127_129.out _;(with_reducible repeat (first|refine kn_ ?_ _|refine kd_ ?_|refine ka_ ?_ _));refine kr_ ?_ NB127_129.out _;(with_reducible repeat (first|refine kn_ ?_ _|refine kd_ ?_|refine ka_ ?_ _));refine kr_ ?_ NB127_129.out _;(with_reducible repeat (first|refine kn_ ?_ _|refine kd_ ?_|refine ka_ ?_ _));exact BK127.out⟩;have n1_ : Aside0 ((((w17.setCell ⟨gb129,0,none⟩ (.int .i64 a1)).setCell ⟨gb129,1,none⟩ (.int .i64 a2)).setCell ⟨gb129,2,none⟩ (.slice none 0 0)).heap[gb128]? = some (.cells #[.int .i64 0,.int .i64 0,.slice none 0 0] 60 (0,0))):=⟨by (with_reducible repeat (first|refine kn_ ?_ _|refine kd_ ?_|refine ka_ ?_ _));refine kr_ ?_ NB128_129.out _;(with_reducible repeat (first|refine kn_ ?_ _|refine kd_ ?_|refine ka_ ?_ _));refine kr_ ?_ NB128_129.out _;(with_reducible repeat (first|refine kn_ ?_ _|refine kd_ ?_|refine ka_ ?_ _));refine kr_ ?_ NB128_129.out _;(with_reducible repeat (first|refine kn_ ?_ _|refine kd_ ?_|refine ka_ ?_ _));exact BK128.out⟩;have n2_ : Aside0 ((((w17.setCell ⟨gb129,0,none⟩ (.int .i64 a1)).setCell ⟨gb129,1,none⟩ (.int .i64 a2)).setCell ⟨gb129,2,none⟩ (.slice none 0 0)).heap[gb129]? = some (.cells #[.int .i64 a1,.int .i64 a2,.slice none 0 0] 60 (0,0))):=⟨by (with_reducible repeat (first|refine kn_ ?_ _|refine kd_ ?_|refine ka_ ?_ _));refine ku_ (cs:=#[.int .i64 a1,.int .i64 a2,.slice none 0 0]) ?_ 2 _ rfl;(with_reducible repeat (first|refine kn_ ?_ _|refine kd_ ?_|refine ka_ ?_ _));refine ku_ (cs:=#[.int .i64 a1,.int .i64 0,.slice none 0 0]) ?_ 1 _ rfl;(with_reducible repeat (first|refine kn_ ?_ _|refine kd_ ?_|refine ka_ ?_ _));refine ku_ (cs:=#[.int .i64 0,.int .i64 0,.slice none 0 0]) ?_ 0 _ rfl;(with_reducible repeat (first|refine kn_ ?_ _|refine kd_ ?_|refine ka_ ?_ _));exact BK129.out⟩;have n3_ : Aside0 (Below w.heap.size w (((w17.setCell ⟨gb129,0,none⟩ (.int .i64 a1)).setCell ⟨gb129,1,none⟩ (.int .i64 a2)).setCell ⟨gb129,2,none⟩ (.slice none 0 0))):=⟨bq_ HB⟩
       (try clear BK127)
       (try clear BK128)
       (try clear BK129)
       (try clear HB)
       generalize (((w17.setCell ⟨gb129,0,none⟩ (.int .i64 a1)).setCell ⟨gb129,1,none⟩ (.int .i64 a2)).setCell ⟨gb129,2,none⟩ (.slice none 0 0)) = w21 at n0_ n1_ n2_ n3_ ⊢;have BK127:=n0_;have BK128:=n1_;have BK129:=n2_;have HB:=n3_;clear n0_ n1_ n2_ n3_;replace BK127:=A_ (kd_ BK127.out);replace BK128:=A_ (kd_ BK128.out);replace BK129:=A_ (kd_ BK129.out);replace HB:=A_ (pd_ HB.out);refine start_ (n:=17) (S:=fun w' => w'.cell? ⟨gb127,0,none⟩ = some (.int .i64 a0_0) ∧ w'.cell? ⟨gb127,1,none⟩ = some (.int .i64 a0_1) ∧ w'.cell? ⟨gb127,2,none⟩ = some (.slice A0_2 l0_2.length c0_2)) (ds:=[]) #[false,false,false,false,false,false,false,false,false,false,false,false,false,false,false,false,false] (by kernel_rfl) rfl rfl ⟨kC_ BK127 0,kC_ BK127 1,kC_ BK127 2⟩ (fun hHeld => ?_);refine with_tabW impl_LogBehind.tab2 impl_LogBehind.bits2 (fun HT_ HW_ => ?_);generalize w21.drew = w22 at BK127 BK128 BK129 HB hHeld ⊢;refine take_ (i:=0) (N:=some 11) (v:=?_) (a':=?_) #[true,false,false,false,false,false,false,false,false,false,false,false,false,false,false,false,false] rfl rfl (take_ofW HT_.out HW_.out (by kernel_rfl)) (fun _ _ _ h => h) (Or.inl ⟨by rfl,?_⟩) hHeld ?_ ?_;rotate_left
       ·rintro w' ⟨s0,s1,s2⟩;go_simp;with_reducible rfl
       rotate_left
       ·exact ux_
       refine one_ (i:=1) (N:=some 12) #[true,true,false,false,false,false,false,false,false,false,false,false,false,false,false,false,false] rfl rfl (one_of HT_.out (by kernel_rfl)) (by decide) (fun K hK => ?_);refine goes_ Try.func66 (by kernel_rfl) rfl #[.agg #[.int .i64 a0_0,.int .i64 a0_1,.slice A0_2 l0_2.length c0_2]] (by rfl) rfl rfl aq_ ?_;with_reducible refine (impl_LogOk.calls k a0_0 a0_1 _ _ l0_2 true _ ?side1 ?side2 A4.out).mono ?_
       (case side1 => repeat (first|exact (Kd.C_below HR0_2.out HB.out)|(with_reducible refine Kd.C_alloc ?_ _)|(with_reducible refine Kd.C_drewN ?_ _)|(with_reducible refine Kd.C_drew ?_)))
       (case side2 => exact HC0_2.out)
       rintro e w23 ⟨rfl,hb⟩;refine ⟨_,rfl,?_⟩;replace BK127:=A_ (kb_ (kq_ BK127) hb);replace BK128:=A_ (kb_ (kq_ BK128) hb);replace BK129:=A_ (kb_ (kq_ BK129) hb);replace HB:=A_ (bs_ (bq_ HB) hb)
       (try clear hb)
       (try clear hb2)
       (try clear hk)
       (try clear hi)
       refine hK.out _ _ ⟨kC_ BK127 0,kC_ BK127 1,kC_ BK127 2⟩ (fun hHeld => ?_);clear hK K;refine norm_ (a':=?_) ?_ ?_;rotate_left
       ·show Act.put _ (some 12) _ = _;simp only [Act.put,s1_,s2_,s3_,i64_w,i32_w];rfl
       refine pure_ (i:=2) (N:=some 13) (v:=?_) (a':=?_) #[true,true,true,false,false,false,false,false,false,false,false,false,false,false,false,false,false] rfl rfl (any_of HT_.out (by kernel_rfl)) (fun _ _ _ h => h) (Or.inl ⟨by rfl,?_⟩) ?_ ?_;rotate_left
       ·intro w';go_simp;with_reducible rfl
       rotate_left
       ·exact ux_
       refine pure_ (i:=4) (N:=some 15) (v:=?_) (a':=?_) #[true,true,true,false,true,false,false,false,false,false,false,false,false,false,false,false,false] rfl rfl (any_of HT_.out (by kernel_rfl)) (fun _ _ _ h => h) (Or.inl ⟨by rfl,?_⟩) ?_ ?_;rotate_left
       ·intro w';go_simp;with_reducible rfl
       rotate_left
       ·exact ux_
       refine pure_ (i:=6) (N:=some 17) (v:=?_) (a':=?_) #[true,true,true,false,true,false,true,false,false,false,false,false,false,false,false,false,false] rfl rfl (any_of HT_.out (by kernel_rfl)) (fun _ _ _ h => h) (Or.inl ⟨by rfl,?_⟩) ?_ ?_;rotate_left
       ·intro w';go_simp;with_reducible rfl
       rotate_left
       ·exact ux_
       refine take_ (i:=3) (N:=some 14) (v:=?_) (a':=?_) #[true,true,true,true,true,false,true,false,false,false,false,false,false,false,false,false,false] rfl rfl (take_ofW HT_.out HW_.out (by kernel_rfl)) (fun _ _ _ h => h) (Or.inl ⟨by rfl,?_⟩) hHeld ?_ ?_;rotate_left
       ·rintro w' ⟨s0,s1,s2⟩;go_simp;with_reducible rfl
       rotate_left
       ·exact ux_
       refine one_ (i:=5) (N:=some 16) #[true,true,true,true,true,true,true,false,false,false,false,false,false,false,false,false,false] rfl rfl (one_of HT_.out (by kernel_rfl)) (by decide) (fun K hK => ?_);refine goes_ Try.func64 (by kernel_rfl) rfl #[.agg #[.int .i64 a0_0,.int .i64 a0_1,.slice A0_2 l0_2.length c0_2],.int .i64 a1] (by rfl) rfl rfl aq_ ?_;with_reducible refine (impl_LogTerm.calls a0_0 a0_1 _ _ l0_2 a1 t131 _ ?side1 ?side2 A6.out).mono ?_
       (case side1 => repeat (first|exact (Kd.C_below HR0_2.out HB.out)|(with_reducible refine Kd.C_alloc ?_ _)|(with_reducible refine Kd.C_drewN ?_ _)|(with_reducible refine Kd.C_drew ?_)))
       (case side2 => exact HC0_2.out)
       rintro e w24 ⟨rfl,hb⟩;refine ⟨_,rfl,?_⟩;replace BK127:=A_ (kb_ (kq_ BK127) hb);replace BK128:=A_ (kb_ (kq_ BK128) hb);replace BK129:=A_ (kb_ (kq_ BK129) hb);replace HB:=A_ (bs_ (bq_ HB) hb)
       (try clear hb)
       (try clear hb2)
       (try clear hk)
       (try clear hi)
       refine hK.out _ _ ⟨kC_ BK127 0,kC_ BK127 1,kC_ BK127 2⟩ (fun hHeld => ?_);clear hK K;refine norm_ (a':=?_) ?_ ?_;rotate_left
       ·show Act.put _ (some 16) _ = _;simp only [Act.put,s1_,s2_,s3_,i64_w,i32_w];rfl
       refine pure_ (i:=7) (N:=some 18) (v:=?_) (a':=?_) #[true,true,true,true,true,true,true,true,false,false,false,false,false,false,false,false,false] rfl rfl (any_of HT_.out (by kernel_rfl)) (fun _ _ _ h => h) (Or.inl ⟨by rfl,?_⟩) ?_ ?_;rotate_left
       ·intro w';go_simp;with_reducible rfl
       rotate_left
       ·exact ux_
       refine pure_ (i:=8) (N:=some 19) (v:=?_) (a':=?_) #[true,true,true,true,true,true,true,true,true,false,false,false,false,false,false,false,false] rfl rfl (any_of HT_.out (by kernel_rfl)) (fun _ _ _ h => h) (Or.inl ⟨by rfl,?_⟩) ?_ ?_;rotate_left
       ·intro w';go_simp;with_reducible rfl
       rotate_left
       ·exact ux_
       refine pure_ (i:=9) (N:=some 20) (v:=?_) (a':=?_) #[true,true,true,true,true,true,true,true,true,true,false,false,false,false,false,false,false] rfl rfl (any_of HT_.out (by kernel_rfl)) (fun _ _ _ h => h) (Or.inl ⟨by rfl,?_⟩) ?_ ?_;rotate_left
       ·intro w';go_simp;with_reducible rfl
       rotate_left
       ·exact ux_
       refine pure_ (i:=10) (N:=some 21) (v:=?_) (a':=?_) #[true,true,true,true,true,true,true,true,true,true,true,false,false,false,false,false,false] rfl rfl (any_of HT_.out (by kernel_rfl)) (fun _ _ _ h => h) (Or.inl ⟨by rfl,?_⟩) ?_ ?_;rotate_left
       ·intro w';go_simp;with_reducible rfl
       rotate_left
       ·exact ux_
       refine pure_ (i:=11) (N:=some 22) (v:=?_) (a':=?_) #[true,true,true,true,true,true,true,true,true,true,true,true,false,false,false,false,false] rfl rfl (any_of HT_.out (by kernel_rfl)) (fun _ _ _ h => h) (Or.inl ⟨by rfl,?_⟩) ?_ ?_;rotate_left
       ·intro w';go_simp;with_reducible rfl
       rotate_left
       ·exact ux_
       refine take_ (i:=12) (N:=some 23) (v:=?_) (a':=?_) #[true,true,true,true,true,true,true,true,true,true,true,true,true,false,false,false,false] rfl rfl (take_ofW HT_.out HW_.out (by kernel_rfl)) (fun _ _ _ h => h) (Or.inl ⟨by rfl,?_⟩) hHeld ?_ ?_;rotate_left
       ·rintro w' ⟨s0,s1,s2⟩;go_simp;with_reducible rfl
       rotate_left
       ·exact ux_
       refine take_ (i:=13) (N:=some 24) (v:=?_) (a':=?_) #[true,true,true,true,true,true,true,true,true,true,true,true,true,true,false,false,false] rfl rfl (take_ofW HT_.out HW_.out (by kernel_rfl)) (fun _ _ _ h => h) (Or.inl ⟨by rfl,?_⟩) hHeld ?_ ?_;rotate_left
       ·rintro w' ⟨s0,s1,s2⟩;go_simp;with_reducible rfl
       rotate_left
       ·exact ux_
       refine one_ (i:=14) (N:=some 25) #[true,true,true,true,true,true,true,true,true,true,true,true,true,true,true,false,false] rfl rfl (one_of HT_.out (by kernel_rfl)) (by decide) (fun K hK => ?_);refine goes_ Try.func104 (by kernel_rfl) rfl #[.agg #[.int .i64 a0_0,.int .i64 a0_1,.slice A0_2 l0_2.length c0_2]] (by rfl) rfl rfl aq_ ?_;with_reducible refine (impl_last.calls a0_0 a0_1 _ _ l0_2 t132 _ ?side1 ?side2 A8.out).mono ?_
       (case side1 => repeat (first|exact (Kd.C_below HR0_2.out HB.out)|(with_reducible refine Kd.C_alloc ?_ _)|(with_reducible refine Kd.C_drewN ?_ _)|(with_reducible refine Kd.C_drew ?_)))
       (case side2 => exact HC0_2.out)
       rintro e w25 ⟨rfl,hb⟩;refine ⟨_,rfl,?_⟩;replace BK127:=A_ (kb_ (kq_ BK127) hb);replace BK128:=A_ (kb_ (kq_ BK128) hb);replace BK129:=A_ (kb_ (kq_ BK129) hb);replace HB:=A_ (bs_ (bq_ HB) hb)
       (try clear hb)
       (try clear hb2)
       (try clear hk)
       (try clear hi)
       refine hK.out _ _ ⟨kC_ BK127 0,kC_ BK127 1,kC_ BK127 2⟩ (fun hHeld => ?_);clear hK K;refine norm_ (a':=?_) ?_ ?_;rotate_left
       ·show Act.put _ (some 25) _ = _;simp only [Act.put,s1_,s2_,s3_,i64_w,i32_w];rfl
       refine one_ (i:=15) (N:=some 26) #[true,true,true,true,true,true,true,true,true,true,true,true,true,true,true,true,false] rfl rfl (one_of HT_.out (by kernel_rfl)) (by decide) (fun K hK => ?_);refine goes_ Try.func75 (by kernel_rfl) rfl #[.int .i64 a1,.int .i64 a0_0,.int .i64 t132] (by rfl) rfl rfl aq_ ?_;with_reducible refine (impl_within.calls a1 a0_0 t132 true _ A9.out).mono ?_;rintro e w' ⟨rfl,⟨nd,rfl⟩⟩;refine ⟨_,rfl,?_⟩;have BK127d_:=A_ (kn_ BK127.out nd);have HBd_:=A_ (pn_ HB.out nd);refine hK.out _ _ ⟨kC_ BK127d_ 0,kC_ BK127d_ 1,kC_ BK127d_ 2⟩ (fun hHeld => ?_);clear hK K;refine norm_ (a':=?_) ?_ ?_;rotate_left
       ·show Act.put _ (some 26) _ = _;simp only [Act.put,s1_,s2_,s3_,i64_w,i32_w];rfl
       refine pure_ (i:=16) (N:=some 27) (v:=?_) (a':=?_) #[true,true,true,true,true,true,true,true,true,true,true,true,true,true,true,true,true] rfl rfl (any_of HT_.out (by kernel_rfl)) (fun _ _ _ h => h) (Or.inl ⟨by rfl,?_⟩) ?_ ?_;rotate_left
       ·intro w';go_simp;with_reducible rfl
       rotate_left
       ·exact ux_
       refine done_ (done_of HT_.out (by kernel_rfl)) ?_
       try go_wp2
       (try (rw [drewN_self w25];generalize hq_ : World.drewN w25 _ = w25;have n0_ : Aside0 (w25.heap[gb127]? = some (.cells #[.int .i64 a0_0,.int .i64 a0_1,.slice A0_2 l0_2.length c0_2] 60 (0,0))):=⟨by rw [← hq_];exact (kq_ BK127)⟩;have n1_ : Aside0 (w25.heap[gb128]? = some (.cells #[.int .i64 0,.int .i64 0,.slice none 0 0] 60 (0,0))):=⟨by rw [← hq_];exact (kq_ BK128)⟩;have n2_ : Aside0 (w25.heap[gb129]? = some (.cells #[.int .i64 a1,.int .i64 a2,.slice none 0 0] 60 (0,0))):=⟨by rw [← hq_];exact (kq_ BK129)⟩;have n3_ : Aside0 (Below w.heap.size w w25):=⟨by rw [← hq_];exact (bq_ HB)⟩;clear BK127 BK128 BK129 HB hq_;have BK127:=n0_;have BK128:=n1_;have BK129:=n2_;have HB:=n3_;clear n0_ n1_ n2_ n3_))
       replace BK127:=A_ (kd_ BK127.out);replace BK128:=A_ (kd_ BK128.out);replace BK129:=A_ (kd_ BK129.out);replace HB:=A_ (pd_ HB.out);have q27 : ((ji11) : Int) ≤ ((l0_2.length : Int) : Int):=oda_;obtain ⟨i027,hi027,_,hsz27,_⟩:=info_parts info37;have hroom27 : l0_2.length ≤ c0_2:=HC0_2.out;have hC27 : Kd.C k37 _ A0_2 l0_2.length l0_2:=HR0_2.out;have q027 : (0 : Int) ≤ ((ji11) : Int):=oda_;have hcut27:=cut_from (P:=Try.prog) 50 37 .i64 Try.underlying50 hi027 3 hsz27 A0_2 l0_2.length c0_2 (ji11) q027 q27;have hr27:=Kd.C_drop (m:=((ji11) : Int).toNat) (c:=c0_2) hC27 (by omega) hroom27;obtain ⟨A27,hA27⟩ : ∃ A1,A1 = (if c0_2 = ((ji11) : Int).toNat then A0_2 else (A0_2 : Option Addr).map (·.add (((ji11) : Int).toNat * 3))):=⟨_,rfl⟩;obtain ⟨c27,hc27⟩ : ∃ c1,c1 = c0_2 - ((ji11) : Int).toNat:=⟨_,rfl⟩;have hy27 : y134.length = l0_2.length - ((ji11) : Int).toNat:=(by rw [Ny134.out,List.length_drop] <;> omega);rw [show (l0_2).drop ((ji11) : Int).toNat = y134 from Ny134.out.symm] at hr27;replace hr27 : Kd.C k37 _ A27 y134.length y134:=(by rw [hA27];exact hr27);rw [← hy27,← hA27,← hc27] at hcut27;have HR137:=A_ hr27;have HC137:=A_ (show y134.length ≤ c27 from by rw [hy27,hc27];exact Nat.sub_le_sub_right hroom27 _);clear hr27 hC27 hroom27 hi027 hsz27 hc27;have KY27:=A_ hy27;have KA27:=A_ hA27;clear hy27 hA27;replace q27:=eq_true q27;refine start_ (n:=12) (S:=fun w' => w'.cell? ⟨gb129,0,none⟩ = some (.int .i64 a1) ∧ w'.cell? ⟨gb129,1,none⟩ = some (.int .i64 a2) ∧ w'.cell? ⟨gb129,2,none⟩ = some (.slice none 0 0) ∧ w'.cell? ⟨gb127,0,none⟩ = some (.int .i64 a0_0) ∧ w'.cell? ⟨gb127,1,none⟩ = some (.int .i64 a0_1) ∧ w'.cell? ⟨gb127,2,none⟩ = some (.slice A0_2 l0_2.length c0_2)) (ds:=[11]) #[false,false,false,false,false,false,false,false,false,false,false,false] (by kernel_rfl) rfl rfl ⟨kC_ BK129 0,kC_ BK129 1,kC_ BK129 2,kC_ BK127 0,kC_ BK127 1,kC_ BK127 2⟩ (fun hHeld => ?_);refine with_tabW impl_LogBehind.tab3 impl_LogBehind.bits3 (fun HT_ HW_ => ?_);generalize w25.drew = w26 at BK127 BK128 BK129 HB HR137 hHeld ⊢;refine pure_ (i:=0) (N:=some 28) (v:=?_) (a':=?_) #[true,false,false,false,false,false,false,false,false,false,false,false] rfl rfl (any_of HT_.out (by kernel_rfl)) (fun _ _ _ h => h) (Or.inl ⟨by rfl,?_⟩) ?_ ?_;rotate_left
       ·intro w';go_simp;with_reducible rfl
       rotate_left
       ·exact ux_
       refine pure_ (i:=2) (N:=some 30) (v:=?_) (a':=?_) #[true,false,true,false,false,false,false,false,false,false,false,false] rfl rfl (any_of HT_.out (by kernel_rfl)) (fun _ _ _ h => h) (Or.inl ⟨by rfl,?_⟩) ?_ ?_;rotate_left
       ·intro w';go_simp;with_reducible rfl
       rotate_left
       ·exact ux_
       refine pure_ (i:=4) (N:=some 32) (v:=?_) (a':=?_) #[true,false,true,false,true,false,false,false,false,false,false,false] rfl rfl (any_of HT_.out (by kernel_rfl)) (fun _ _ _ h => h) (Or.inl ⟨by rfl,?_⟩) ?_ ?_;rotate_left
       ·intro w';go_simp;with_reducible rfl
       rotate_left
       ·exact ux_
       refine pure_ (i:=5) (N:=some 33) (v:=?_) (a':=?_) #[true,false,true,false,true,true,false,false,false,false,false,false] rfl rfl (any_of HT_.out (by kernel_rfl)) (fun _ _ _ h => h) (Or.inl ⟨by rfl,?_⟩) ?_ ?_;rotate_left
       ·intro w';go_simp;with_reducible rfl
       rotate_left
       ·exact ux_
       refine take_ (i:=1) (N:=some 29) (v:=?_) (a':=?_) #[true,true,true,false,true,true,false,false,false,false,false,false] rfl rfl (take_ofW HT_.out HW_.out (by kernel_rfl)) (fun _ _ _ h => h) (Or.inl ⟨by rfl,?_⟩) hHeld ?_ ?_;rotate_left
       ·rintro w' ⟨s0,s1,s2,s3,s4,s5⟩;go_simp;with_reducible rfl
       rotate_left
       ·exact ux_
       refine take_ (i:=3) (N:=some 31) (v:=?_) (a':=?_) #[true,true,true,true,true,true,false,false,false,false,false,false] rfl rfl (take_ofW HT_.out HW_.out (by kernel_rfl)) (fun _ _ _ h => h) (Or.inl ⟨by rfl,?_⟩) hHeld ?_ ?_;rotate_left
       ·rintro w' ⟨s0,s1,s2,s3,s4,s5⟩;go_simp;with_reducible rfl
       rotate_left
       ·exact ux_
       refine take_ (i:=6) (N:=some 34) (v:=?_) (a':=?_) #[true,true,true,true,true,true,true,false,false,false,false,false] rfl rfl (take_ofW HT_.out HW_.out (by kernel_rfl)) (fun _ _ _ h => h) (Or.inl ⟨by rfl,?_⟩) hHeld ?_ ?_;rotate_left
       ·rintro w' ⟨s0,s1,s2,s3,s4,s5⟩;go_simp;with_reducible rfl
       rotate_left
       ·exact ux_
       refine pure_ (i:=7) (N:=some 35) (v:=?_) (a':=?_) #[true,true,true,true,true,true,true,true,false,false,false,false] rfl rfl (any_of HT_.out (by kernel_rfl)) (fun _ _ _ h => h) (Or.inl ⟨by rfl,?_⟩) ?_ ?_;rotate_left
       ·intro w';go_simp;with_reducible rfl
       rotate_left
       ·exact ux_
       refine pure_ (i:=8) (N:=some 36) (v:=?_) (a':=?_) #[true,true,true,true,true,true,true,true,true,false,false,false] rfl rfl (any_of HT_.out (by kernel_rfl)) (fun _ _ _ h => h) (Or.inl ⟨by rfl,?_⟩) ?_ ?_;rotate_left
       ·intro w';go_simp;with_reducible rfl
       rotate_left
       ·exact ux_
       refine one_ (i:=9) (N:=some 37) #[true,true,true,true,true,true,true,true,true,true,false,false] rfl rfl (one_of HT_.out (by kernel_rfl)) (by decide) (fun K hK => ?_);refine Kd.R_append_rows_step k37 (w0:=w) w.heap.size (by rfl) (.tmp 29) (.tmp 36) 50 37 (.agg #[(.int .i64 0),(.int .i64 0),(.string ⟨#[]⟩)]) 32 rfl Try.underlying50 info37 rfl (by decide) (by omega) (.slice none 0 0) ([] : List (S37)) y134 _ _ _ (fun _ => True) (fun _ => False) rfl rfl ?aO ?aR (fun _ _ h => h) (fun _ h => h.elim) ?aF ?aB ?aS ?aL ?_
       (case aR => repeat (first|exact (Kd.C_below HR137.out HB.out)|(with_reducible refine Kd.C_alloc ?_ _)|(with_reducible refine Kd.C_drewN ?_ _)|(with_reducible refine Kd.C_drew ?_)))
       (case aB => exact (bq_ HB))
       (case aF => exact (fun _ _ => trivial))
       (case aO => exact ((Kd.R_nil _ _ _ _ (fun _ => True))))
       (case aS => exact (bz_ (bq_ HB)))
       (case aL => have:=LMc14.out;omega)
       intro v139 w28 ho hb hg hat;rw [← Ny138.out] at ho;replace BK127:=A_ (kg_ (kq_ BK127) hg (by simp [Value.ownBlock]));replace BK128:=A_ (kg_ (kq_ BK128) hg (by simp [Value.ownBlock]));replace BK129:=A_ (kg_ (kq_ BK129) hg (by simp [Value.ownBlock]));replace HB:=A_ (hb);have HO140:=A_ (ho);clear ho hb hg hat;obtain ⟨Ao29,co29,eo29⟩:=Kd.R_slice HO140.out
       (first|subst eo29|(injection eo29 with f1_ f2_ f3_;have f4_:=f1_.symm;have f5_:=f3_.symm;clear f1_ f2_ f3_;subst f4_;subst f5_))
       refine hK.out _ _ ⟨kC_ BK129 0,kC_ BK129 1,kC_ BK129 2,kC_ BK127 0,kC_ BK127 1,kC_ BK127 2⟩ (fun hHeld => ?_);clear hK K;refine norm_ (a':=?_) ?_ ?_;rotate_left
       ·show Act.put _ (some 37) _ = _;simp only [Act.put,s1_,s2_,s3_,i64_w,i32_w];rfl
       refine pure_ (i:=10) (N:=some 38) (v:=?_) (a':=?_) #[true,true,true,true,true,true,true,true,true,true,true,false] rfl rfl (any_of HT_.out (by kernel_rfl)) (fun _ _ _ h => h) (Or.inl ⟨by rfl,?_⟩) ?_ ?_;rotate_left
       ·intro w';go_simp;with_reducible rfl
       rotate_left
       ·exact ux_
       refine last_ (i:=11) (N:=none) #[true,true,true,true,true,true,true,true,true,true,true,true] rfl rfl (one_of HT_.out (by kernel_rfl)) (by decide) (fun K hK => ?_);have hs30 : w28.cell? ⟨gb129,2,none⟩ = some (.slice none 0 0):=(kc_ BK129.out 2).trans rfl;have hfs30:=kf_ BK129.out 2;have hns30_0:=NB127_129.out;have hns30_1:=NB128_129.out;have hms30_0:=NB129_127.out;have hms30_1:=NB129_128.out;refine skip_ (w1:=?_) (by rfl) rfl ?_ ?_;rotate_left
       ·go_simp;rfl
       refine hK.out _ _ ?_;clear hK K;refine done_ (done_of HT_.out (by kernel_rfl)) ?_;have hcz31_0:=kC_ BK129 0;have hcz31_1:=kC_ BK129 1;have hcz31_2:=kC_ BK129 2;have hfz31_0:=kf_ BK129.out 0;have hfz31_1:=kf_ BK129.out 1;have hfz31_2:=kf_ BK129.out 2;have hnb32:=NB128_127.out;have hnc32:=NB127_128.out;have hcz33_0:=kC_ BK128 0;have hcz33_1:=kC_ BK128 1;have hcz33_2:=kC_ BK128 2;have hfz33_0:=kf_ BK128.out 0;have hfz33_1:=kf_ BK128.out 1;have hfz33_2:=kf_ BK128.out 2
       try go_wp2
       refine bodyPost_ret (results_cell_row rfl _ _ gb128 60 #[.int .i64 a1,.int .i64 a2,.slice Ao29 y138.length co29] (0,0) _ rfl (by (with_reducible repeat (first|refine kn_ ?_ _|refine kd_ ?_|refine ka_ ?_ _));refine ku_ (cs:=#[.int .i64 a1,.int .i64 a2,.slice none 0 0]) ?_ 2 _ rfl;(with_reducible repeat (first|refine kn_ ?_ _|refine kd_ ?_|refine ka_ ?_ _));refine ku_ (cs:=#[.int .i64 a1,.int .i64 0,.slice none 0 0]) ?_ 1 _ rfl;(with_reducible repeat (first|refine kn_ ?_ _|refine kd_ ?_|refine ka_ ?_ _));refine ku_ (cs:=#[.int .i64 0,.int .i64 0,.slice none 0 0]) ?_ 0 _ rfl;(with_reducible repeat (first|refine kn_ ?_ _|refine kd_ ?_|refine ka_ ?_ _));refine kr_ ?_ NB128_129.out _;(with_reducible repeat (first|refine kn_ ?_ _|refine kd_ ?_|refine ka_ ?_ _));exact BK128.out) Try.underlying60 rfl (by kernel_rfl)) rfl ?_;exact ⟨_,by first|rfl|(simp [errW_none,errW_some] <;> rfl)|(simp only [← hji11];first|rfl|(simp [errW_none,errW_some] <;> rfl))|(simp [*,errW_none,errW_some] <;> rfl),by (with_reducible repeat (first|apply ra_|apply rn_|apply Rd_));exact rm_ (rf_ (p:=⟨gb128,2,none⟩) (rf_ (p:=⟨gb128,1,none⟩) (rf_ (p:=⟨gb128,0,none⟩) (rf_ (p:=⟨gb129,2,none⟩) (Kd.R_types (Kd.R_types HO140.out BK129.out (by decide)) BK128.out (by decide)) (fun _ hk => hk.1.2) (.slice Ao29 y138.length co29)) (fun _ hk => hk.2) (.int .i64 a1)) (fun _ hk => hk.2) (.int .i64 a2)) (fun _ hk => hk.2) (.slice Ao29 y138.length co29)) (fun _ hk => trivial),bq_ HB⟩
      ·rw [if_neg c14] at H;exact absurd H (by simp)
     ·rw [if_neg c13] at H;exact absurd H (by simp)
    ·rw [if_neg c12] at H;exact absurd H (by simp)
   ·replace c10:=Bool.eq_false_iff.mpr c10;subst c10
    have H1 : (some (a1,a2,([] : List (S37)))) = some (r1,r2,r3):=by rw [if_neg (show ¬ (false = true) by decide)] at H;exact H
    clear H;have H:=H1;clear H1;simp only [Option.some.injEq,Prod.mk.injEq] at H;obtain ⟨rfl,rfl,rfl⟩:=H;go_enter Try.func38,Try.ntmps38
    try go_wp2_with (first|((with_reducible refine gate_dst (N:=3) rfl ?_);refine box_event ?hg (N:=3) ?hd (cs:=#[.int .i64 a0_0,.int .i64 a0_1,.slice A0_2 l0_2.length c0_2]) (t:=60) ?hr ?_;(case hd => rfl);(case hg => rfl);(case hr => exact gx_);intro gb127 hg w34 hbox hb;have BK127:=A_ (hbox);have GW127:=A_ ((by rw [hg];exact (bz_ (bq_ HB)) : w.heap.size ≤ gb127));have GE127:=A_ ((by rw [hg];exact (bz_ (bq_ HB)) : w.heap.size ≤ gb127));replace HB:=A_ (bs_ (bq_ HB) hb);clear hb hbox hg)|((with_reducible refine gate_dst (N:=6) rfl ?_);refine box_event ?hg (N:=6) ?hd (cs:=#[.int .i64 0,.int .i64 0,.slice none 0 0]) (t:=60) ?hr ?_;(case hd => rfl);(case hg => rfl);(case hr => exact gx_);intro gb128 hg w35 hbox hb;have BK128:=A_ (hbox);have GW128:=A_ ((by rw [hg];exact (bz_ (bq_ HB)) : w.heap.size ≤ gb128));have GE128:=A_ ((by rw [hg];exact (bz_ (bq_ HB)) : w.heap.size ≤ gb128));replace HB:=A_ (bs_ (bq_ HB) hb);have NB127_128:=A_ ((by rw [hg];exact nl_ (kl_ (g:=gb127) (o:=.cells #[.int .i64 a0_0,.int .i64 a0_1,.slice A0_2 l0_2.length c0_2] 60 (0,0)) (kq_ BK127)) : gb127 ≠ gb128));have NB128_127:=A_ ((by rw [hg];exact ng_ (kl_ (g:=gb127) (o:=.cells #[.int .i64 a0_0,.int .i64 a0_1,.slice A0_2 l0_2.length c0_2] 60 (0,0)) (kq_ BK127)) : gb128 ≠ gb127));replace BK127:=A_ (kb_ (kq_ BK127) hb);clear hb hbox hg)|((with_reducible refine gate_dst (N:=7) rfl ?_);refine box_event ?hg (N:=7) ?hd (cs:=#[.int .i64 0,.int .i64 0,.slice none 0 0]) (t:=60) ?hr ?_;(case hd => rfl);(case hg => rfl);(case hr => exact gx_);intro gb129 hg w36 hbox hb;have BK129:=A_ (hbox);have GW129:=A_ ((by rw [hg];exact (bz_ (bq_ HB)) : w.heap.size ≤ gb129));have GE129:=A_ ((by rw [hg];exact (bz_ (bq_ HB)) : w.heap.size ≤ gb129));replace HB:=A_ (bs_ (bq_ HB) hb);have NB127_129:=A_ ((by rw [hg];exact nl_ (kl_ (g:=gb127) (o:=.cells #[.int .i64 a0_0,.int .i64 a0_1,.slice A0_2 l0_2.length c0_2] 60 (0,0)) (kq_ BK127)) : gb127 ≠ gb129));have NB129_127:=A_ ((by rw [hg];exact ng_ (kl_ (g:=gb127) (o:=.cells #[.int .i64 a0_0,.int .i64 a0_1,.slice A0_2 l0_2.length c0_2] 60 (0,0)) (kq_ BK127)) : gb129 ≠ gb127));replace BK127:=A_ (kb_ (kq_ BK127) hb);have NB128_129:=A_ ((by rw [hg];exact nl_ (kl_ (g:=gb128) (o:=.cells #[.int .i64 0,.int .i64 0,.slice none 0 0] 60 (0,0)) (kq_ BK128)) : gb128 ≠ gb129));have NB129_128:=A_ ((by rw [hg];exact ng_ (kl_ (g:=gb128) (o:=.cells #[.int .i64 0,.int .i64 0,.slice none 0 0] 60 (0,0)) (kq_ BK128)) : gb129 ≠ gb128));replace BK128:=A_ (kb_ (kq_ BK128) hb);clear hb hbox hg;have hnb37:=NB129_127.out;have hnc37:=NB127_129.out;have hnb38:=NB129_128.out;have hnc38:=NB128_129.out;have hcz39_0:=kC_ BK129 0;have hcz39_1:=kC_ BK129 1;have hcz39_2:=kC_ BK129 2;have hfz39_0:=kf_ BK129.out 0;have hfz39_1:=kf_ BK129.out 1;have hfz39_2:=kf_ BK129.out 2))
    have n0_ : Aside0 ((((w36.setCell ⟨gb129,0,none⟩ (.int .i64 a1)).setCell ⟨gb129,1,none⟩ (.int .i64 a2)).setCell ⟨gb129,2,none⟩ (.slice none 0 0)).heap[gb127]? = some (.cells #[.int .i64 a0_0,.int .i64 a0_1,.slice A0_2 l0_2.length c0_2] 60 (0,0))):=⟨by (with_reducible repeat (first|refine kn_ ?_ _|refine kd_ ?_|refine ka_ ?_ _));refine kr_ ?_ NB127_129.out _;(with_reducible repeat (first|refine kn_ ?_ _|refine kd_ ?_|refine ka_ ?_ _));refine kr_ ?_ NB127_129.out _;(with_reducible repeat (first|refine kn_ ?_ _|refine kd_ ?_|refine ka_ ?_ _));refine kr_ ?_ NB127_129.out _;(with_reducible repeat (first|refine kn_ ?_ _|refine kd_ ?_|refine ka_ ?_ _));exact BK127.out⟩;have n1_ : Aside0 ((((w36.setCell ⟨gb129,0,none⟩ (.int .i64 a1)).setCell ⟨gb129,1,none⟩ (.int .i64 a2)).setCell ⟨gb129,2,none⟩ (.slice none 0 0)).heap[gb128]? = some (.cells #[.int .i64 0,.int .i64 0,.slice none 0 0] 60 (0,0))):=⟨by (with_reducible repeat (first|refine kn_ ?_ _|refine kd_ ?_|refine ka_ ?_ _));refine kr_ ?_ NB128_129.out _;(with_reducible repeat (first|refine kn_ ?_ _|refine kd_ ?_|refine ka_ ?_ _));refine kr_ ?_ NB128_129.out _;(with_reducible repeat (first|refine kn_ ?_ _|refine kd_ ?_|refine ka_ ?_ _));refine kr_ ?_ NB128_129.out _;(with_reducible repeat (first|refine kn_ ?_ _|refine kd_ ?_|refine ka_ ?_ _));exact BK128.out⟩;have n2_ : Aside0 ((((w36.setCell ⟨gb129,0,none⟩ (.int .i64 a1)).setCell ⟨gb129,1,none⟩ (.int .i64 a2)).setCell ⟨gb129,2,none⟩ (.slice none 0 0)).heap[gb129]? = some (.cells #[.int .i64 a1,.int .i64 a2,.slice none 0 0] 60 (0,0))):=⟨by (with_reducible repeat (first|refine kn_ ?_ _|refine kd_ ?_|refine ka_ ?_ _));refine ku_ (cs:=#[.int .i64 a1,.int .i64 a2,.slice none 0 0]) ?_ 2 _ rfl;(with_reducible repeat (first|refine kn_ ?_ _|refine kd_ ?_|refine ka_ ?_ _));refine ku_ (cs:=#[.int .i64 a1,.int .i64 0,.slice none 0 0]) ?_ 1 _ rfl;(with_reducible repeat (first|refine kn_ ?_ _|refine kd_ ?_|refine ka_ ?_ _));refine ku_ (cs:=#[.int .i64 0,.int .i64 0,.slice none 0 0]) ?_ 0 _ rfl;(with_reducible repeat (first|refine kn_ ?_ _|refine kd_ ?_|refine ka_ ?_ _));exact BK129.out⟩;have n3_ : Aside0 (Below w.heap.size w (((w36.setCell ⟨gb129,0,none⟩ (.int .i64 a1)).setCell ⟨gb129,1,none⟩ (.int .i64 a2)).setCell ⟨gb129,2,none⟩ (.slice none 0 0))):=⟨bq_ HB⟩
    (try clear BK127)
    (try clear BK128)
    (try clear BK129)
    (try clear HB)
    generalize (((w36.setCell ⟨gb129,0,none⟩ (.int .i64 a1)).setCell ⟨gb129,1,none⟩ (.int .i64 a2)).setCell ⟨gb129,2,none⟩ (.slice none 0 0)) = w40 at n0_ n1_ n2_ n3_ ⊢;have BK127:=n0_;have BK128:=n1_;have BK129:=n2_;have HB:=n3_;clear n0_ n1_ n2_ n3_;replace BK127:=A_ (kd_ BK127.out);replace BK128:=A_ (kd_ BK128.out);replace BK129:=A_ (kd_ BK129.out);replace HB:=A_ (pd_ HB.out);refine start_ (n:=17) (S:=fun w' => w'.cell? ⟨gb127,0,none⟩ = some (.int .i64 a0_0) ∧ w'.cell? ⟨gb127,1,none⟩ = some (.int .i64 a0_1) ∧ w'.cell? ⟨gb127,2,none⟩ = some (.slice A0_2 l0_2.length c0_2)) (ds:=[]) #[false,false,false,false,false,false,false,false,false,false,false,false,false,false,false,false,false] (by kernel_rfl) rfl rfl ⟨kC_ BK127 0,kC_ BK127 1,kC_ BK127 2⟩ (fun hHeld => ?_);refine with_tabW impl_LogBehind.tab2 impl_LogBehind.bits2 (fun HT_ HW_ => ?_);generalize w40.drew = w41 at BK127 BK128 BK129 HB hHeld ⊢;refine take_ (i:=0) (N:=some 11) (v:=?_) (a':=?_) #[true,false,false,false,false,false,false,false,false,false,false,false,false,false,false,false,false] rfl rfl (take_ofW HT_.out HW_.out (by kernel_rfl)) (fun _ _ _ h => h) (Or.inl ⟨by rfl,?_⟩) hHeld ?_ ?_;rotate_left
    ·rintro w' ⟨s0,s1,s2⟩;go_simp;with_reducible rfl
    rotate_left
    ·exact ux_
    refine one_ (i:=1) (N:=some 12) #[true,true,false,false,false,false,false,false,false,false,false,false,false,false,false,false,false] rfl rfl (one_of HT_.out (by kernel_rfl)) (by decide) (fun K hK => ?_);refine goes_ Try.func66 (by kernel_rfl) rfl #[.agg #[.int .i64 a0_0,.int .i64 a0_1,.slice A0_2 l0_2.length c0_2]] (by rfl) rfl rfl aq_ ?_;with_reducible refine (impl_LogOk.calls k a0_0 a0_1 _ _ l0_2 true _ ?side1 ?side2 A4.out).mono ?_
    (case side1 => repeat (first|exact (Kd.C_below HR0_2.out HB.out)|(with_reducible refine Kd.C_alloc ?_ _)|(with_reducible refine Kd.C_drewN ?_ _)|(with_reducible refine Kd.C_drew ?_)))
    (case side2 => exact HC0_2.out)
    rintro e w42 ⟨rfl,hb⟩;refine ⟨_,rfl,?_⟩;replace BK127:=A_ (kb_ (kq_ BK127) hb);replace BK128:=A_ (kb_ (kq_ BK128) hb);replace BK129:=A_ (kb_ (kq_ BK129) hb);replace HB:=A_ (bs_ (bq_ HB) hb)
    (try clear hb)
    (try clear hb2)
    (try clear hk)
    (try clear hi)
    refine hK.out _ _ ⟨kC_ BK127 0,kC_ BK127 1,kC_ BK127 2⟩ (fun hHeld => ?_);clear hK K;refine norm_ (a':=?_) ?_ ?_;rotate_left
    ·show Act.put _ (some 12) _ = _;simp only [Act.put,s1_,s2_,s3_,i64_w,i32_w];rfl
    refine pure_ (i:=2) (N:=some 13) (v:=?_) (a':=?_) #[true,true,true,false,false,false,false,false,false,false,false,false,false,false,false,false,false] rfl rfl (any_of HT_.out (by kernel_rfl)) (fun _ _ _ h => h) (Or.inl ⟨by rfl,?_⟩) ?_ ?_;rotate_left
    ·intro w';go_simp;with_reducible rfl
    rotate_left
    ·exact ux_
    refine pure_ (i:=4) (N:=some 15) (v:=?_) (a':=?_) #[true,true,true,false,true,false,false,false,false,false,false,false,false,false,false,false,false] rfl rfl (any_of HT_.out (by kernel_rfl)) (fun _ _ _ h => h) (Or.inl ⟨by rfl,?_⟩) ?_ ?_;rotate_left
    ·intro w';go_simp;with_reducible rfl
    rotate_left
    ·exact ux_
    refine pure_ (i:=6) (N:=some 17) (v:=?_) (a':=?_) #[true,true,true,false,true,false,true,false,false,false,false,false,false,false,false,false,false] rfl rfl (any_of HT_.out (by kernel_rfl)) (fun _ _ _ h => h) (Or.inl ⟨by rfl,?_⟩) ?_ ?_;rotate_left
    ·intro w';go_simp;with_reducible rfl
    rotate_left
    ·exact ux_
    refine take_ (i:=3) (N:=some 14) (v:=?_) (a':=?_) #[true,true,true,true,true,false,true,false,false,false,false,false,false,false,false,false,false] rfl rfl (take_ofW HT_.out HW_.out (by kernel_rfl)) (fun _ _ _ h => h) (Or.inl ⟨by rfl,?_⟩) hHeld ?_ ?_;rotate_left
    ·rintro w' ⟨s0,s1,s2⟩;go_simp;with_reducible rfl
    rotate_left
    ·exact ux_
    refine one_ (i:=5) (N:=some 16) #[true,true,true,true,true,true,true,false,false,false,false,false,false,false,false,false,false] rfl rfl (one_of HT_.out (by kernel_rfl)) (by decide) (fun K hK => ?_);refine goes_ Try.func64 (by kernel_rfl) rfl #[.agg #[.int .i64 a0_0,.int .i64 a0_1,.slice A0_2 l0_2.length c0_2],.int .i64 a1] (by rfl) rfl rfl aq_ ?_;with_reducible refine (impl_LogTerm.calls a0_0 a0_1 _ _ l0_2 a1 t131 _ ?side1 ?side2 A6.out).mono ?_
    (case side1 => repeat (first|exact (Kd.C_below HR0_2.out HB.out)|(with_reducible refine Kd.C_alloc ?_ _)|(with_reducible refine Kd.C_drewN ?_ _)|(with_reducible refine Kd.C_drew ?_)))
    (case side2 => exact HC0_2.out)
    rintro e w43 ⟨rfl,hb⟩;refine ⟨_,rfl,?_⟩;replace BK127:=A_ (kb_ (kq_ BK127) hb);replace BK128:=A_ (kb_ (kq_ BK128) hb);replace BK129:=A_ (kb_ (kq_ BK129) hb);replace HB:=A_ (bs_ (bq_ HB) hb)
    (try clear hb)
    (try clear hb2)
    (try clear hk)
    (try clear hi)
    refine hK.out _ _ ⟨kC_ BK127 0,kC_ BK127 1,kC_ BK127 2⟩ (fun hHeld => ?_);clear hK K;refine norm_ (a':=?_) ?_ ?_;rotate_left
    ·show Act.put _ (some 16) _ = _;simp only [Act.put,s1_,s2_,s3_,i64_w,i32_w];rfl
    refine pure_ (i:=7) (N:=some 18) (v:=?_) (a':=?_) #[true,true,true,true,true,true,true,true,false,false,false,false,false,false,false,false,false] rfl rfl (any_of HT_.out (by kernel_rfl)) (fun _ _ _ h => h) (Or.inl ⟨by rfl,?_⟩) ?_ ?_;rotate_left
    ·intro w';go_simp;with_reducible rfl
    rotate_left
    ·exact ux_
    refine pure_ (i:=8) (N:=some 19) (v:=?_) (a':=?_) #[true,true,true,true,true,true,true,true,true,false,false,false,false,false,false,false,false] rfl rfl (any_of HT_.out (by kernel_rfl)) (fun _ _ _ h => h) (Or.inl ⟨by rfl,?_⟩) ?_ ?_;rotate_left
    ·intro w';go_simp;with_reducible rfl
    rotate_left
    ·exact ux_
    refine pure_ (i:=9) (N:=some 20) (v:=?_) (a':=?_) #[true,true,true,true,true,true,true,true,true,true,false,false,false,false,false,false,false] rfl rfl (any_of HT_.out (by kernel_rfl)) (fun _ _ _ h => h) (Or.inl ⟨by rfl,?_⟩) ?_ ?_;rotate_left
    ·intro w';go_simp;with_reducible rfl
    rotate_left
    ·exact ux_
    refine pure_ (i:=10) (N:=some 21) (v:=?_) (a':=?_) #[true,true,true,true,true,true,true,true,true,true,true,false,false,false,false,false,false] rfl rfl (any_of HT_.out (by kernel_rfl)) (fun _ _ _ h => h) (Or.inl ⟨by rfl,?_⟩) ?_ ?_;rotate_left
    ·intro w';go_simp;with_reducible rfl
    rotate_left
    ·exact ux_
    refine pure_ (i:=11) (N:=some 22) (v:=?_) (a':=?_) #[true,true,true,true,true,true,true,true,true,true,true,true,false,false,false,false,false] rfl rfl (any_of HT_.out (by kernel_rfl)) (fun _ _ _ h => h) (Or.inl ⟨by rfl,?_⟩) ?_ ?_;rotate_left
    ·intro w';go_simp;with_reducible rfl
    rotate_left
    ·exact ux_
    refine take_ (i:=12) (N:=some 23) (v:=?_) (a':=?_) #[true,true,true,true,true,true,true,true,true,true,true,true,true,false,false,false,false] rfl rfl (take_ofW HT_.out HW_.out (by kernel_rfl)) (fun _ _ _ h => h) (Or.inl ⟨by rfl,?_⟩) hHeld ?_ ?_;rotate_left
    ·rintro w' ⟨s0,s1,s2⟩;go_simp;with_reducible rfl
    rotate_left
    ·exact ux_
    refine take_ (i:=13) (N:=some 24) (v:=?_) (a':=?_) #[true,true,true,true,true,true,true,true,true,true,true,true,true,true,false,false,false] rfl rfl (take_ofW HT_.out HW_.out (by kernel_rfl)) (fun _ _ _ h => h) (Or.inl ⟨by rfl,?_⟩) hHeld ?_ ?_;rotate_left
    ·rintro w' ⟨s0,s1,s2⟩;go_simp;with_reducible rfl
    rotate_left
    ·exact ux_
    refine one_ (i:=14) (N:=some 25) #[true,true,true,true,true,true,true,true,true,true,true,true,true,true,true,false,false] rfl rfl (one_of HT_.out (by kernel_rfl)) (by decide) (fun K hK => ?_);refine goes_ Try.func104 (by kernel_rfl) rfl #[.agg #[.int .i64 a0_0,.int .i64 a0_1,.slice A0_2 l0_2.length c0_2]] (by rfl) rfl rfl aq_ ?_;with_reducible refine (impl_last.calls a0_0 a0_1 _ _ l0_2 t132 _ ?side1 ?side2 A8.out).mono ?_
    (case side1 => repeat (first|exact (Kd.C_below HR0_2.out HB.out)|(with_reducible refine Kd.C_alloc ?_ _)|(with_reducible refine Kd.C_drewN ?_ _)|(with_reducible refine Kd.C_drew ?_)))
    (case side2 => exact HC0_2.out)
    rintro e w44 ⟨rfl,hb⟩;refine ⟨_,rfl,?_⟩;replace BK127:=A_ (kb_ (kq_ BK127) hb);replace BK128:=A_ (kb_ (kq_ BK128) hb);replace BK129:=A_ (kb_ (kq_ BK129) hb);replace HB:=A_ (bs_ (bq_ HB) hb)
    (try clear hb)
    (try clear hb2)
    (try clear hk)
    (try clear hi)
    refine hK.out _ _ ⟨kC_ BK127 0,kC_ BK127 1,kC_ BK127 2⟩ (fun hHeld => ?_);clear hK K;refine norm_ (a':=?_) ?_ ?_;rotate_left
    ·show Act.put _ (some 25) _ = _;simp only [Act.put,s1_,s2_,s3_,i64_w,i32_w];rfl
    refine one_ (i:=15) (N:=some 26) #[true,true,true,true,true,true,true,true,true,true,true,true,true,true,true,true,false] rfl rfl (one_of HT_.out (by kernel_rfl)) (by decide) (fun K hK => ?_);refine goes_ Try.func75 (by kernel_rfl) rfl #[.int .i64 a1,.int .i64 a0_0,.int .i64 t132] (by rfl) rfl rfl aq_ ?_;with_reducible refine (impl_within.calls a1 a0_0 t132 false _ A9.out).mono ?_;rintro e w' ⟨rfl,⟨nd,rfl⟩⟩;refine ⟨_,rfl,?_⟩;have BK127d_:=A_ (kn_ BK127.out nd);have HBd_:=A_ (pn_ HB.out nd);refine hK.out _ _ ⟨kC_ BK127d_ 0,kC_ BK127d_ 1,kC_ BK127d_ 2⟩ (fun hHeld => ?_);clear hK K;refine norm_ (a':=?_) ?_ ?_;rotate_left
    ·show Act.put _ (some 26) _ = _;simp only [Act.put,s1_,s2_,s3_,i64_w,i32_w];rfl
    refine pure_ (i:=16) (N:=some 27) (v:=?_) (a':=?_) #[true,true,true,true,true,true,true,true,true,true,true,true,true,true,true,true,true] rfl rfl (any_of HT_.out (by kernel_rfl)) (fun _ _ _ h => h) (Or.inl ⟨by rfl,?_⟩) ?_ ?_;rotate_left
    ·intro w';go_simp;with_reducible rfl
    rotate_left
    ·exact ux_
    refine done_ (done_of HT_.out (by kernel_rfl)) ?_;have hcz45_0:=kC_ BK129 0;have hcz45_1:=kC_ BK129 1;have hcz45_2:=kC_ BK129 2;have hfz45_0:=kf_ BK129.out 0;have hfz45_1:=kf_ BK129.out 1;have hfz45_2:=kf_ BK129.out 2;have hnb46:=NB128_127.out;have hnc46:=NB127_128.out;have hcz47_0:=kC_ BK128 0;have hcz47_1:=kC_ BK128 1;have hcz47_2:=kC_ BK128 2;have hfz47_0:=kf_ BK128.out 0;have hfz47_1:=kf_ BK128.out 1;have hfz47_2:=kf_ BK128.out 2
    try go_wp2
    refine bodyPost_ret (results_cell_row rfl _ _ gb128 60 #[.int .i64 a1,.int .i64 a2,.slice none 0 0] (0,0) _ rfl (by (with_reducible repeat (first|refine kn_ ?_ _|refine kd_ ?_|refine ka_ ?_ _));refine ku_ (cs:=#[.int .i64 a1,.int .i64 a2,.slice none 0 0]) ?_ 2 _ rfl;(with_reducible repeat (first|refine kn_ ?_ _|refine kd_ ?_|refine ka_ ?_ _));refine ku_ (cs:=#[.int .i64 a1,.int .i64 0,.slice none 0 0]) ?_ 1 _ rfl;(with_reducible repeat (first|refine kn_ ?_ _|refine kd_ ?_|refine ka_ ?_ _));refine ku_ (cs:=#[.int .i64 0,.int .i64 0,.slice none 0 0]) ?_ 0 _ rfl;(with_reducible repeat (first|refine kn_ ?_ _|refine kd_ ?_|refine ka_ ?_ _));exact BK128.out) Try.underlying60 rfl (by kernel_rfl)) rfl ?_;exact ⟨_,by first|rfl|(simp [*,errW_none,errW_some] <;> rfl),by first|exact Kd.R_nil _ _ _ _ _|exact Kd.N_nil _ _ _ _ _|exact Kd.V_nil _ _ _ _ _|exact Kd.Q_nil _ _ _ _ _|exact Kd.S_nil _ _ _ _ _,bq_ HB⟩
  ·rw [if_neg c7] at H;have c7b0 : (t131 == a2) = false:=beq_eq_false_iff_ne.mpr c7;have c7b1 : (t131 != a2) = true:=bne_iff_ne.mpr c7;simp only [Option.some.injEq,Prod.mk.injEq] at H;obtain ⟨rfl,rfl,rfl⟩:=H;go_enter Try.func38,Try.ntmps38
   try go_wp2_with (first|((with_reducible refine gate_dst (N:=3) rfl ?_);refine box_event ?hg (N:=3) ?hd (cs:=#[.int .i64 a0_0,.int .i64 a0_1,.slice A0_2 l0_2.length c0_2]) (t:=60) ?hr ?_;(case hd => rfl);(case hg => rfl);(case hr => exact gx_);intro gb127 hg w48 hbox hb;have BK127:=A_ (hbox);have GW127:=A_ ((by rw [hg];exact (bz_ (bq_ HB)) : w.heap.size ≤ gb127));have GE127:=A_ ((by rw [hg];exact (bz_ (bq_ HB)) : w.heap.size ≤ gb127));replace HB:=A_ (bs_ (bq_ HB) hb);clear hb hbox hg)|((with_reducible refine gate_dst (N:=6) rfl ?_);refine box_event ?hg (N:=6) ?hd (cs:=#[.int .i64 0,.int .i64 0,.slice none 0 0]) (t:=60) ?hr ?_;(case hd => rfl);(case hg => rfl);(case hr => exact gx_);intro gb128 hg w49 hbox hb;have BK128:=A_ (hbox);have GW128:=A_ ((by rw [hg];exact (bz_ (bq_ HB)) : w.heap.size ≤ gb128));have GE128:=A_ ((by rw [hg];exact (bz_ (bq_ HB)) : w.heap.size ≤ gb128));replace HB:=A_ (bs_ (bq_ HB) hb);have NB127_128:=A_ ((by rw [hg];exact nl_ (kl_ (g:=gb127) (o:=.cells #[.int .i64 a0_0,.int .i64 a0_1,.slice A0_2 l0_2.length c0_2] 60 (0,0)) (kq_ BK127)) : gb127 ≠ gb128));have NB128_127:=A_ ((by rw [hg];exact ng_ (kl_ (g:=gb127) (o:=.cells #[.int .i64 a0_0,.int .i64 a0_1,.slice A0_2 l0_2.length c0_2] 60 (0,0)) (kq_ BK127)) : gb128 ≠ gb127));replace BK127:=A_ (kb_ (kq_ BK127) hb);clear hb hbox hg)|((with_reducible refine gate_dst (N:=7) rfl ?_);refine box_event ?hg (N:=7) ?hd (cs:=#[.int .i64 0,.int .i64 0,.slice none 0 0]) (t:=60) ?hr ?_;(case hd => rfl);(case hg => rfl);(case hr => exact gx_);intro gb129 hg w50 hbox hb;have BK129:=A_ (hbox);have GW129:=A_ ((by rw [hg];exact (bz_ (bq_ HB)) : w.heap.size ≤ gb129));have GE129:=A_ ((by rw [hg];exact (bz_ (bq_ HB)) : w.heap.size ≤ gb129));replace HB:=A_ (bs_ (bq_ HB) hb);have NB127_129:=A_ ((by rw [hg];exact nl_ (kl_ (g:=gb127) (o:=.cells #[.int .i64 a0_0,.int .i64 a0_1,.slice A0_2 l0_2.length c0_2] 60 (0,0)) (kq_ BK127)) : gb127 ≠ gb129));have NB129_127:=A_ ((by rw [hg];exact ng_ (kl_ (g:=gb127) (o:=.cells #[.int .i64 a0_0,.int .i64 a0_1,.slice A0_2 l0_2.length c0_2] 60 (0,0)) (kq_ BK127)) : gb129 ≠ gb127));replace BK127:=A_ (kb_ (kq_ BK127) hb);have NB128_129:=A_ ((by rw [hg];exact nl_ (kl_ (g:=gb128) (o:=.cells #[.int .i64 0,.int .i64 0,.slice none 0 0] 60 (0,0)) (kq_ BK128)) : gb128 ≠ gb129));have NB129_128:=A_ ((by rw [hg];exact ng_ (kl_ (g:=gb128) (o:=.cells #[.int .i64 0,.int .i64 0,.slice none 0 0] 60 (0,0)) (kq_ BK128)) : gb129 ≠ gb128));replace BK128:=A_ (kb_ (kq_ BK128) hb);clear hb hbox hg;have hnb51:=NB129_127.out;have hnc51:=NB127_129.out;have hnb52:=NB129_128.out;have hnc52:=NB128_129.out;have hcz53_0:=kC_ BK129 0;have hcz53_1:=kC_ BK129 1;have hcz53_2:=kC_ BK129 2;have hfz53_0:=kf_ BK129.out 0;have hfz53_1:=kf_ BK129.out 1;have hfz53_2:=kf_ BK129.out 2))
   have n0_ : Aside0 ((((w50.setCell ⟨gb129,0,none⟩ (.int .i64 a1)).setCell ⟨gb129,1,none⟩ (.int .i64 a2)).setCell ⟨gb129,2,none⟩ (.slice none 0 0)).heap[gb127]? = some (.cells #[.int .i64 a0_0,.int .i64 a0_1,.slice A0_2 l0_2.length c0_2] 60 (0,0))):=⟨by (with_reducible repeat (first|refine kn_ ?_ _|refine kd_ ?_|refine ka_ ?_ _));refine kr_ ?_ NB127_129.out _;(with_reducible repeat (first|refine kn_ ?_ _|refine kd_ ?_|refine ka_ ?_ _));refine kr_ ?_ NB127_129.out _;(with_reducible repeat (first|refine kn_ ?_ _|refine kd_ ?_|refine ka_ ?_ _));refine kr_ ?_ NB127_129.out _;(with_reducible repeat (first|refine kn_ ?_ _|refine kd_ ?_|refine ka_ ?_ _));exact BK127.out⟩;have n1_ : Aside0 ((((w50.setCell ⟨gb129,0,none⟩ (.int .i64 a1)).setCell ⟨gb129,1,none⟩ (.int .i64 a2)).setCell ⟨gb129,2,none⟩ (.slice none 0 0)).heap[gb128]? = some (.cells #[.int .i64 0,.int .i64 0,.slice none 0 0] 60 (0,0))):=⟨by (with_reducible repeat (first|refine kn_ ?_ _|refine kd_ ?_|refine ka_ ?_ _));refine kr_ ?_ NB128_129.out _;(with_reducible repeat (first|refine kn_ ?_ _|refine kd_ ?_|refine ka_ ?_ _));refine kr_ ?_ NB128_129.out _;(with_reducible repeat (first|refine kn_ ?_ _|refine kd_ ?_|refine ka_ ?_ _));refine kr_ ?_ NB128_129.out _;(with_reducible repeat (first|refine kn_ ?_ _|refine kd_ ?_|refine ka_ ?_ _));exact BK128.out⟩;have n2_ : Aside0 ((((w50.setCell ⟨gb129,0,none⟩ (.int .i64 a1)).setCell ⟨gb129,1,none⟩ (.int .i64 a2)).setCell ⟨gb129,2,none⟩ (.slice none 0 0)).heap[gb129]? = some (.cells #[.int .i64 a1,.int .i64 a2,.slice none 0 0] 60 (0,0))):=⟨by (with_reducible repeat (first|refine kn_ ?_ _|refine kd_ ?_|refine ka_ ?_ _));refine ku_ (cs:=#[.int .i64 a1,.int .i64 a2,.slice none 0 0]) ?_ 2 _ rfl;(with_reducible repeat (first|refine kn_ ?_ _|refine kd_ ?_|refine ka_ ?_ _));refine ku_ (cs:=#[.int .i64 a1,.int .i64 0,.slice none 0 0]) ?_ 1 _ rfl;(with_reducible repeat (first|refine kn_ ?_ _|refine kd_ ?_|refine ka_ ?_ _));refine ku_ (cs:=#[.int .i64 0,.int .i64 0,.slice none 0 0]) ?_ 0 _ rfl;(with_reducible repeat (first|refine kn_ ?_ _|refine kd_ ?_|refine ka_ ?_ _));exact BK129.out⟩;have n3_ : Aside0 (Below w.heap.size w (((w50.setCell ⟨gb129,0,none⟩ (.int .i64 a1)).setCell ⟨gb129,1,none⟩ (.int .i64 a2)).setCell ⟨gb129,2,none⟩ (.slice none 0 0))):=⟨bq_ HB⟩
   (try clear BK127)
   (try clear BK128)
   (try clear BK129)
   (try clear HB)
   generalize (((w50.setCell ⟨gb129,0,none⟩ (.int .i64 a1)).setCell ⟨gb129,1,none⟩ (.int .i64 a2)).setCell ⟨gb129,2,none⟩ (.slice none 0 0)) = w54 at n0_ n1_ n2_ n3_ ⊢;have BK127:=n0_;have BK128:=n1_;have BK129:=n2_;have HB:=n3_;clear n0_ n1_ n2_ n3_;replace BK127:=A_ (kd_ BK127.out);replace BK128:=A_ (kd_ BK128.out);replace BK129:=A_ (kd_ BK129.out);replace HB:=A_ (pd_ HB.out);refine start_ (n:=17) (S:=fun w' => w'.cell? ⟨gb127,0,none⟩ = some (.int .i64 a0_0) ∧ w'.cell? ⟨gb127,1,none⟩ = some (.int .i64 a0_1) ∧ w'.cell? ⟨gb127,2,none⟩ = some (.slice A0_2 l0_2.length c0_2)) (ds:=[]) #[false,false,false,false,false,false,false,false,false,false,false,false,false,false,false,false,false] (by kernel_rfl) rfl rfl ⟨kC_ BK127 0,kC_ BK127 1,kC_ BK127 2⟩ (fun hHeld => ?_);refine with_tabW impl_LogBehind.tab2 impl_LogBehind.bits2 (fun HT_ HW_ => ?_);generalize w54.drew = w55 at BK127 BK128 BK129 HB hHeld ⊢;refine take_ (i:=0) (N:=some 11) (v:=?_) (a':=?_) #[true,false,false,false,false,false,false,false,false,false,false,false,false,false,false,false,false] rfl rfl (take_ofW HT_.out HW_.out (by kernel_rfl)) (fun _ _ _ h => h) (Or.inl ⟨by rfl,?_⟩) hHeld ?_ ?_;rotate_left
   ·rintro w' ⟨s0,s1,s2⟩;go_simp;with_reducible rfl
   rotate_left
   ·exact ux_
   refine one_ (i:=1) (N:=some 12) #[true,true,false,false,false,false,false,false,false,false,false,false,false,false,false,false,false] rfl rfl (one_of HT_.out (by kernel_rfl)) (by decide) (fun K hK => ?_);refine goes_ Try.func66 (by kernel_rfl) rfl #[.agg #[.int .i64 a0_0,.int .i64 a0_1,.slice A0_2 l0_2.length c0_2]] (by rfl) rfl rfl aq_ ?_;with_reducible refine (impl_LogOk.calls k a0_0 a0_1 _ _ l0_2 true _ ?side1 ?side2 A4.out).mono ?_
   (case side1 => repeat (first|exact (Kd.C_below HR0_2.out HB.out)|(with_reducible refine Kd.C_alloc ?_ _)|(with_reducible refine Kd.C_drewN ?_ _)|(with_reducible refine Kd.C_drew ?_)))
   (case side2 => exact HC0_2.out)
   rintro e w56 ⟨rfl,hb⟩;refine ⟨_,rfl,?_⟩;replace BK127:=A_ (kb_ (kq_ BK127) hb);replace BK128:=A_ (kb_ (kq_ BK128) hb);replace BK129:=A_ (kb_ (kq_ BK129) hb);replace HB:=A_ (bs_ (bq_ HB) hb)
   (try clear hb)
   (try clear hb2)
   (try clear hk)
   (try clear hi)
   refine hK.out _ _ ⟨kC_ BK127 0,kC_ BK127 1,kC_ BK127 2⟩ (fun hHeld => ?_);clear hK K;refine norm_ (a':=?_) ?_ ?_;rotate_left
   ·show Act.put _ (some 12) _ = _;simp only [Act.put,s1_,s2_,s3_,i64_w,i32_w];rfl
   refine pure_ (i:=2) (N:=some 13) (v:=?_) (a':=?_) #[true,true,true,false,false,false,false,false,false,false,false,false,false,false,false,false,false] rfl rfl (any_of HT_.out (by kernel_rfl)) (fun _ _ _ h => h) (Or.inl ⟨by rfl,?_⟩) ?_ ?_;rotate_left
   ·intro w';go_simp;with_reducible rfl
   rotate_left
   ·exact ux_
   refine pure_ (i:=4) (N:=some 15) (v:=?_) (a':=?_) #[true,true,true,false,true,false,false,false,false,false,false,false,false,false,false,false,false] rfl rfl (any_of HT_.out (by kernel_rfl)) (fun _ _ _ h => h) (Or.inl ⟨by rfl,?_⟩) ?_ ?_;rotate_left
   ·intro w';go_simp;with_reducible rfl
   rotate_left
   ·exact ux_
   refine pure_ (i:=6) (N:=some 17) (v:=?_) (a':=?_) #[true,true,true,false,true,false,true,false,false,false,false,false,false,false,false,false,false] rfl rfl (any_of HT_.out (by kernel_rfl)) (fun _ _ _ h => h) (Or.inl ⟨by rfl,?_⟩) ?_ ?_;rotate_left
   ·intro w';go_simp;with_reducible rfl
   rotate_left
   ·exact ux_
   refine take_ (i:=3) (N:=some 14) (v:=?_) (a':=?_) #[true,true,true,true,true,false,true,false,false,false,false,false,false,false,false,false,false] rfl rfl (take_ofW HT_.out HW_.out (by kernel_rfl)) (fun _ _ _ h => h) (Or.inl ⟨by rfl,?_⟩) hHeld ?_ ?_;rotate_left
   ·rintro w' ⟨s0,s1,s2⟩;go_simp;with_reducible rfl
   rotate_left
   ·exact ux_
   refine one_ (i:=5) (N:=some 16) #[true,true,true,true,true,true,true,false,false,false,false,false,false,false,false,false,false] rfl rfl (one_of HT_.out (by kernel_rfl)) (by decide) (fun K hK => ?_);refine goes_ Try.func64 (by kernel_rfl) rfl #[.agg #[.int .i64 a0_0,.int .i64 a0_1,.slice A0_2 l0_2.length c0_2],.int .i64 a1] (by rfl) rfl rfl aq_ ?_;with_reducible refine (impl_LogTerm.calls a0_0 a0_1 _ _ l0_2 a1 t131 _ ?side1 ?side2 A6.out).mono ?_
   (case side1 => repeat (first|exact (Kd.C_below HR0_2.out HB.out)|(with_reducible refine Kd.C_alloc ?_ _)|(with_reducible refine Kd.C_drewN ?_ _)|(with_reducible refine Kd.C_drew ?_)))
   (case side2 => exact HC0_2.out)
   rintro e w57 ⟨rfl,hb⟩;refine ⟨_,rfl,?_⟩;replace BK127:=A_ (kb_ (kq_ BK127) hb);replace BK128:=A_ (kb_ (kq_ BK128) hb);replace BK129:=A_ (kb_ (kq_ BK129) hb);replace HB:=A_ (bs_ (bq_ HB) hb)
   (try clear hb)
   (try clear hb2)
   (try clear hk)
   (try clear hi)
   refine hK.out _ _ ⟨kC_ BK127 0,kC_ BK127 1,kC_ BK127 2⟩ (fun hHeld => ?_);clear hK K;refine norm_ (a':=?_) ?_ ?_;rotate_left
   ·show Act.put _ (some 16) _ = _;simp only [Act.put,s1_,s2_,s3_,i64_w,i32_w];rfl
   refine pure_ (i:=7) (N:=some 18) (v:=?_) (a':=?_) #[true,true,true,true,true,true,true,true,false,false,false,false,false,false,false,false,false] rfl rfl (any_of HT_.out (by kernel_rfl)) (fun _ _ _ h => h) (Or.inl ⟨by rfl,?_⟩) ?_ ?_;rotate_left
   ·intro w';go_simp;with_reducible rfl
   rotate_left
   ·exact ux_
   refine pure_ (i:=8) (N:=some 19) (v:=?_) (a':=?_) #[true,true,true,true,true,true,true,true,true,false,false,false,false,false,false,false,false] rfl rfl (any_of HT_.out (by kernel_rfl)) (fun _ _ _ h => h) (Or.inl ⟨by rfl,?_⟩) ?_ ?_;rotate_left
   ·intro w';go_simp;with_reducible rfl
   rotate_left
   ·exact ux_
   refine pure_ (i:=9) (N:=some 20) (v:=?_) (a':=?_) #[true,true,true,true,true,true,true,true,true,true,false,false,false,false,false,false,false] rfl rfl (any_of HT_.out (by kernel_rfl)) (fun _ _ _ h => h) (Or.inl ⟨by rfl,?_⟩) ?_ ?_;rotate_left
   ·intro w';go_simp;with_reducible rfl
   rotate_left
   ·exact ux_
   refine pure_ (i:=10) (N:=some 21) (v:=undef) (a':=?_) #[true,true,true,true,true,true,true,true,true,true,true,false,false,false,false,false,false] rfl rfl (any_of HT_.out (by kernel_rfl)) (fun _ _ _ h => h) (Or.inr ⟨by rfl,rfl⟩) ?_ ?_;rotate_left
   ·exact ux_
   refine pure_ (i:=11) (N:=some 22) (v:=undef) (a':=?_) #[true,true,true,true,true,true,true,true,true,true,true,true,false,false,false,false,false] rfl rfl (any_of HT_.out (by kernel_rfl)) (fun _ _ _ h => h) (Or.inr ⟨by rfl,rfl⟩) ?_ ?_;rotate_left
   ·exact ux_
   refine pure_ (i:=12) (N:=some 23) (v:=undef) (a':=?_) #[true,true,true,true,true,true,true,true,true,true,true,true,true,false,false,false,false] rfl rfl (any_of HT_.out (by kernel_rfl)) (fun _ _ _ h => h) (Or.inr ⟨by rfl,rfl⟩) ?_ ?_;rotate_left
   ·exact ux_
   refine pure_ (i:=13) (N:=some 24) (v:=undef) (a':=?_) #[true,true,true,true,true,true,true,true,true,true,true,true,true,true,false,false,false] rfl rfl (any_of HT_.out (by kernel_rfl)) (fun _ _ _ h => h) (Or.inr ⟨by rfl,rfl⟩) ?_ ?_;rotate_left
   ·exact ux_
   refine pure_ (i:=14) (N:=some 25) (v:=undef) (a':=?_) #[true,true,true,true,true,true,true,true,true,true,true,true,true,true,true,false,false] rfl rfl (any_of HT_.out (by kernel_rfl)) (fun _ _ _ h => h) (Or.inr ⟨by rfl,rfl⟩) ?_ ?_;rotate_left
   ·exact ux_
   refine pure_ (i:=15) (N:=some 26) (v:=undef) (a':=?_) #[true,true,true,true,true,true,true,true,true,true,true,true,true,true,true,true,false] rfl rfl (any_of HT_.out (by kernel_rfl)) (fun _ _ _ h => h) (Or.inr ⟨by rfl,rfl⟩) ?_ ?_;rotate_left
   ·exact ux_
   refine pure_ (i:=16) (N:=some 27) (v:=?_) (a':=?_) #[true,true,true,true,true,true,true,true,true,true,true,true,true,true,true,true,true] rfl rfl (any_of HT_.out (by kernel_rfl)) (fun _ _ _ h => h) (Or.inl ⟨by rfl,?_⟩) ?_ ?_;rotate_left
   ·intro w';go_simp;with_reducible rfl
   rotate_left
   ·exact ux_
   refine done_ (done_of HT_.out (by kernel_rfl)) ?_;have hcz58_0:=kC_ BK129 0;have hcz58_1:=kC_ BK129 1;have hcz58_2:=kC_ BK129 2;have hfz58_0:=kf_ BK129.out 0;have hfz58_1:=kf_ BK129.out 1;have hfz58_2:=kf_ BK129.out 2;have hnb59:=NB128_127.out;have hnc59:=NB127_128.out;have hcz60_0:=kC_ BK128 0;have hcz60_1:=kC_ BK128 1;have hcz60_2:=kC_ BK128 2;have hfz60_0:=kf_ BK128.out 0;have hfz60_1:=kf_ BK128.out 1;have hfz60_2:=kf_ BK128.out 2
   try go_wp2
   refine bodyPost_ret (results_cell_row rfl _ _ gb128 60 #[.int .i64 a1,.int .i64 a2,.slice none 0 0] (0,0) _ rfl (by (with_reducible repeat (first|refine kn_ ?_ _|refine kd_ ?_|refine ka_ ?_ _));refine ku_ (cs:=#[.int .i64 a1,.int .i64 a2,.slice none 0 0]) ?_ 2 _ rfl;(with_reducible repeat (first|refine kn_ ?_ _|refine kd_ ?_|refine ka_ ?_ _));refine ku_ (cs:=#[.int .i64 a1,.int .i64 0,.slice none 0 0]) ?_ 1 _ rfl;(with_reducible repeat (first|refine kn_ ?_ _|refine kd_ ?_|refine ka_ ?_ _));refine ku_ (cs:=#[.int .i64 0,.int .i64 0,.slice none 0 0]) ?_ 0 _ rfl;(with_reducible repeat (first|refine kn_ ?_ _|refine kd_ ?_|refine ka_ ?_ _));exact BK128.out) Try.underlying60 rfl (by kernel_rfl)) rfl ?_;exact ⟨_,by first|rfl|(simp [*,errW_none,errW_some] <;> rfl),by first|exact Kd.R_nil _ _ _ _ _|exact Kd.N_nil _ _ _ _ _|exact Kd.V_nil _ _ _ _ _|exact Kd.Q_nil _ _ _ _ _|exact Kd.S_nil _ _ _ _ _,bq_ HB⟩
 ·replace c5:=Bool.eq_false_iff.mpr c5;subst c5
  have H1 : (some (a1,a2,([] : List (S37)))) = some (r1,r2,r3):=by rw [if_neg (show ¬ (false = true) by decide)] at H;exact H
  clear H;have H:=H1;clear H1;simp only [Option.some.injEq,Prod.mk.injEq] at H;obtain ⟨rfl,rfl,rfl⟩:=H;go_enter Try.func38,Try.ntmps38
  try go_wp2_with (first|((with_reducible refine gate_dst (N:=3) rfl ?_);refine box_event ?hg (N:=3) ?hd (cs:=#[.int .i64 a0_0,.int .i64 a0_1,.slice A0_2 l0_2.length c0_2]) (t:=60) ?hr ?_;(case hd => rfl);(case hg => rfl);(case hr => exact gx_);intro gb127 hg w61 hbox hb;have BK127:=A_ (hbox);have GW127:=A_ ((by rw [hg];exact (bz_ (bq_ HB)) : w.heap.size ≤ gb127));have GE127:=A_ ((by rw [hg];exact (bz_ (bq_ HB)) : w.heap.size ≤ gb127));replace HB:=A_ (bs_ (bq_ HB) hb);clear hb hbox hg)|((with_reducible refine gate_dst (N:=6) rfl ?_);refine box_event ?hg (N:=6) ?hd (cs:=#[.int .i64 0,.int .i64 0,.slice none 0 0]) (t:=60) ?hr ?_;(case hd => rfl);(case hg => rfl);(case hr => exact gx_);intro gb128 hg w62 hbox hb;have BK128:=A_ (hbox);have GW128:=A_ ((by rw [hg];exact (bz_ (bq_ HB)) : w.heap.size ≤ gb128));have GE128:=A_ ((by rw [hg];exact (bz_ (bq_ HB)) : w.heap.size ≤ gb128));replace HB:=A_ (bs_ (bq_ HB) hb);have NB127_128:=A_ ((by rw [hg];exact nl_ (kl_ (g:=gb127) (o:=.cells #[.int .i64 a0_0,.int .i64 a0_1,.slice A0_2 l0_2.length c0_2] 60 (0,0)) (kq_ BK127)) : gb127 ≠ gb128));have NB128_127:=A_ ((by rw [hg];exact ng_ (kl_ (g:=gb127) (o:=.cells #[.int .i64 a0_0,.int .i64 a0_1,.slice A0_2 l0_2.length c0_2] 60 (0,0)) (kq_ BK127)) : gb128 ≠ gb127));replace BK127:=A_ (kb_ (kq_ BK127) hb);clear hb hbox hg)|((with_reducible refine gate_dst (N:=7) rfl ?_);refine box_event ?hg (N:=7) ?hd (cs:=#[.int .i64 0,.int .i64 0,.slice none 0 0]) (t:=60) ?hr ?_;(case hd => rfl);(case hg => rfl);(case hr => exact gx_);intro gb129 hg w63 hbox hb;have BK129:=A_ (hbox);have GW129:=A_ ((by rw [hg];exact (bz_ (bq_ HB)) : w.heap.size ≤ gb129));have GE129:=A_ ((by rw [hg];exact (bz_ (bq_ HB)) : w.heap.size ≤ gb129));replace HB:=A_ (bs_ (bq_ HB) hb);have NB127_129:=A_ ((by rw [hg];exact nl_ (kl_ (g:=gb127) (o:=.cells #[.int .i64 a0_0,.int .i64 a0_1,.slice A0_2 l0_2.length c0_2] 60 (0,0)) (kq_ BK127)) : gb127 ≠ gb129));have NB129_127:=A_ ((by rw [hg];exact ng_ (kl_ (g:=gb127) (o:=.cells #[.int .i64 a0_0,.int .i64 a0_1,.slice A0_2 l0_2.length c0_2] 60 (0,0)) (kq_ BK127)) : gb129 ≠ gb127));replace BK127:=A_ (kb_ (kq_ BK127) hb);have NB128_129:=A_ ((by rw [hg];exact nl_ (kl_ (g:=gb128) (o:=.cells #[.int .i64 0,.int .i64 0,.slice none 0 0] 60 (0,0)) (kq_ BK128)) : gb128 ≠ gb129));have NB129_128:=A_ ((by rw [hg];exact ng_ (kl_ (g:=gb128) (o:=.cells #[.int .i64 0,.int .i64 0,.slice none 0 0] 60 (0,0)) (kq_ BK128)) : gb129 ≠ gb128));replace BK128:=A_ (kb_ (kq_ BK128) hb);clear hb hbox hg;have hnb64:=NB129_127.out;have hnc64:=NB127_129.out;have hnb65:=NB129_128.out;have hnc65:=NB128_129.out;have hcz66_0:=kC_ BK129 0;have hcz66_1:=kC_ BK129 1;have hcz66_2:=kC_ BK129 2;have hfz66_0:=kf_ BK129.out 0;have hfz66_1:=kf_ BK129.out 1;have hfz66_2:=kf_ BK129.out 2))
  have n0_ : Aside0 ((((w63.setCell ⟨gb129,0,none⟩ (.int .i64 a1)).setCell ⟨gb129,1,none⟩ (.int .i64 a2)).setCell ⟨gb129,2,none⟩ (.slice none 0 0)).heap[gb127]? = some (.cells #[.int .i64 a0_0,.int .i64 a0_1,.slice A0_2 l0_2.length c0_2] 60 (0,0))):=⟨by (with_reducible repeat (first|refine kn_ ?_ _|refine kd_ ?_|refine ka_ ?_ _));refine kr_ ?_ NB127_129.out _;(with_reducible repeat (first|refine kn_ ?_ _|refine kd_ ?_|refine ka_ ?_ _));refine kr_ ?_ NB127_129.out _;(with_reducible repeat (first|refine kn_ ?_ _|refine kd_ ?_|refine ka_ ?_ _));refine kr_ ?_ NB127_129.out _;(with_reducible repeat (first|refine kn_ ?_ _|refine kd_ ?_|refine ka_ ?_ _));exact BK127.out⟩;have n1_ : Aside0 ((((w63.setCell ⟨gb129,0,none⟩ (.int .i64 a1)).setCell ⟨gb129,1,none⟩ (.int .i64 a2)).setCell ⟨gb129,2,none⟩ (.slice none 0 0)).heap[gb128]? = some (.cells #[.int .i64 0,.int .i64 0,.slice none 0 0] 60 (0,0))):=⟨by (with_reducible repeat (first|refine kn_ ?_ _|refine kd_ ?_|refine ka_ ?_ _));refine kr_ ?_ NB128_129.out _;(with_reducible repeat (first|refine kn_ ?_ _|refine kd_ ?_|refine ka_ ?_ _));refine kr_ ?_ NB128_129.out _;(with_reducible repeat (first|refine kn_ ?_ _|refine kd_ ?_|refine ka_ ?_ _));refine kr_ ?_ NB128_129.out _;(with_reducible repeat (first|refine kn_ ?_ _|refine kd_ ?_|refine ka_ ?_ _));exact BK128.out⟩;have n2_ : Aside0 ((((w63.setCell ⟨gb129,0,none⟩ (.int .i64 a1)).setCell ⟨gb129,1,none⟩ (.int .i64 a2)).setCell ⟨gb129,2,none⟩ (.slice none 0 0)).heap[gb129]? = some (.cells #[.int .i64 a1,.int .i64 a2,.slice none 0 0] 60 (0,0))):=⟨by (with_reducible repeat (first|refine kn_ ?_ _|refine kd_ ?_|refine ka_ ?_ _));refine ku_ (cs:=#[.int .i64 a1,.int .i64 a2,.slice none 0 0]) ?_ 2 _ rfl;(with_reducible repeat (first|refine kn_ ?_ _|refine kd_ ?_|refine ka_ ?_ _));refine ku_ (cs:=#[.int .i64 a1,.int .i64 0,.slice none 0 0]) ?_ 1 _ rfl;(with_reducible repeat (first|refine kn_ ?_ _|refine kd_ ?_|refine ka_ ?_ _));refine ku_ (cs:=#[.int .i64 0,.int .i64 0,.slice none 0 0]) ?_ 0 _ rfl;(with_reducible repeat (first|refine kn_ ?_ _|refine kd_ ?_|refine ka_ ?_ _));exact BK129.out⟩;have n3_ : Aside0 (Below w.heap.size w (((w63.setCell ⟨gb129,0,none⟩ (.int .i64 a1)).setCell ⟨gb129,1,none⟩ (.int .i64 a2)).setCell ⟨gb129,2,none⟩ (.slice none 0 0))):=⟨bq_ HB⟩
  (try clear BK127)
  (try clear BK128)
  (try clear BK129)
  (try clear HB)
  generalize (((w63.setCell ⟨gb129,0,none⟩ (.int .i64 a1)).setCell ⟨gb129,1,none⟩ (.int .i64 a2)).setCell ⟨gb129,2,none⟩ (.slice none 0 0)) = w67 at n0_ n1_ n2_ n3_ ⊢;have BK127:=n0_;have BK128:=n1_;have BK129:=n2_;have HB:=n3_;clear n0_ n1_ n2_ n3_;replace BK127:=A_ (kd_ BK127.out);replace BK128:=A_ (kd_ BK128.out);replace BK129:=A_ (kd_ BK129.out);replace HB:=A_ (pd_ HB.out);refine start_ (n:=17) (S:=fun w' => w'.cell? ⟨gb127,0,none⟩ = some (.int .i64 a0_0) ∧ w'.cell? ⟨gb127,1,none⟩ = some (.int .i64 a0_1) ∧ w'.cell? ⟨gb127,2,none⟩ = some (.slice A0_2 l0_2.length c0_2)) (ds:=[]) #[false,false,false,false,false,false,false,false,false,false,false,false,false,false,false,false,false] (by kernel_rfl) rfl rfl ⟨kC_ BK127 0,kC_ BK127 1,kC_ BK127 2⟩ (fun hHeld => ?_);refine with_tabW impl_LogBehind.tab2 impl_LogBehind.bits2 (fun HT_ HW_ => ?_);generalize w67.drew = w68 at BK127 BK128 BK129 HB hHeld ⊢;refine take_ (i:=0) (N:=some 11) (v:=?_) (a':=?_) #[true,false,false,false,false,false,false,false,false,false,false,false,false,false,false,false,false] rfl rfl (take_ofW HT_.out HW_.out (by kernel_rfl)) (fun _ _ _ h => h) (Or.inl ⟨by rfl,?_⟩) hHeld ?_ ?_;rotate_left
  ·rintro w' ⟨s0,s1,s2⟩;go_simp;with_reducible rfl
  rotate_left
  ·exact ux_
  refine one_ (i:=1) (N:=some 12) #[true,true,false,false,false,false,false,false,false,false,false,false,false,false,false,false,false] rfl rfl (one_of HT_.out (by kernel_rfl)) (by decide) (fun K hK => ?_);refine goes_ Try.func66 (by kernel_rfl) rfl #[.agg #[.int .i64 a0_0,.int .i64 a0_1,.slice A0_2 l0_2.length c0_2]] (by rfl) rfl rfl aq_ ?_;with_reducible refine (impl_LogOk.calls k a0_0 a0_1 _ _ l0_2 false _ ?side1 ?side2 A4.out).mono ?_
  (case side1 => repeat (first|exact (Kd.C_below HR0_2.out HB.out)|(with_reducible refine Kd.C_alloc ?_ _)|(with_reducible refine Kd.C_drewN ?_ _)|(with_reducible refine Kd.C_drew ?_)))
  (case side2 => exact HC0_2.out)
  rintro e w69 ⟨rfl,hb⟩;refine ⟨_,rfl,?_⟩;replace BK127:=A_ (kb_ (kq_ BK127) hb);replace BK128:=A_ (kb_ (kq_ BK128) hb);replace BK129:=A_ (kb_ (kq_ BK129) hb);replace HB:=A_ (bs_ (bq_ HB) hb)
  (try clear hb)
  (try clear hb2)
  (try clear hk)
  (try clear hi)
  refine hK.out _ _ ⟨kC_ BK127 0,kC_ BK127 1,kC_ BK127 2⟩ (fun hHeld => ?_);clear hK K;refine norm_ (a':=?_) ?_ ?_;rotate_left
  ·show Act.put _ (some 12) _ = _;simp only [Act.put,s1_,s2_,s3_,i64_w,i32_w];rfl
  refine pure_ (i:=2) (N:=some 13) (v:=?_) (a':=?_) #[true,true,true,false,false,false,false,false,false,false,false,false,false,false,false,false,false] rfl rfl (any_of HT_.out (by kernel_rfl)) (fun _ _ _ h => h) (Or.inl ⟨by rfl,?_⟩) ?_ ?_;rotate_left
  ·intro w';go_simp;with_reducible rfl
  rotate_left
  ·exact ux_
  refine pure_ (i:=3) (N:=some 14) (v:=undef) (a':=?_) #[true,true,true,true,false,false,false,false,false,false,false,false,false,false,false,false,false] rfl rfl (any_of HT_.out (by kernel_rfl)) (fun _ _ _ h => h) (Or.inr ⟨by rfl,rfl⟩) ?_ ?_;rotate_left
  ·exact ux_
  refine pure_ (i:=4) (N:=some 15) (v:=undef) (a':=?_) #[true,true,true,true,true,false,false,false,false,false,false,false,false,false,false,false,false] rfl rfl (any_of HT_.out (by kernel_rfl)) (fun _ _ _ h => h) (Or.inr ⟨by rfl,rfl⟩) ?_ ?_;rotate_left
  ·exact ux_
  refine pure_ (i:=5) (N:=some 16) (v:=undef) (a':=?_) #[true,true,true,true,true,true,false,false,false,false,false,false,false,false,false,false,false] rfl rfl (any_of HT_.out (by kernel_rfl)) (fun _ _ _ h => h) (Or.inr ⟨by rfl,rfl⟩) ?_ ?_;rotate_left
  ·exact ux_
  refine pure_ (i:=6) (N:=some 17) (v:=undef) (a':=?_) #[true,true,true,true,true,true,true,false,false,false,false,false,false,false,false,false,false] rfl rfl (any_of HT_.out (by kernel_rfl)) (fun _ _ _ h => h) (Or.inr ⟨by rfl,rfl⟩) ?_ ?_;rotate_left
  ·exact ux_
  refine pure_ (i:=7) (N:=some 18) (v:=undef) (a':=?_) #[true,true,true,true,true,true,true,true,false,false,false,false,false,false,false,false,false] rfl rfl (any_of HT_.out (by kernel_rfl)) (fun _ _ _ h => h) (Or.inr ⟨by rfl,rfl⟩) ?_ ?_;rotate_left
  ·exact ux_
  refine pure_ (i:=8) (N:=some 19) (v:=?_) (a':=?_) #[true,true,true,true,true,true,true,true,true,false,false,false,false,false,false,false,false] rfl rfl (any_of HT_.out (by kernel_rfl)) (fun _ _ _ h => h) (Or.inl ⟨by rfl,?_⟩) ?_ ?_;rotate_left
  ·intro w';go_simp;with_reducible rfl
  rotate_left
  ·exact ux_
  refine pure_ (i:=9) (N:=some 20) (v:=?_) (a':=?_) #[true,true,true,true,true,true,true,true,true,true,false,false,false,false,false,false,false] rfl rfl (any_of HT_.out (by kernel_rfl)) (fun _ _ _ h => h) (Or.inl ⟨by rfl,?_⟩) ?_ ?_;rotate_left
  ·intro w';go_simp;with_reducible rfl
  rotate_left
  ·exact ux_
  refine pure_ (i:=10) (N:=some 21) (v:=undef) (a':=?_) #[true,true,true,true,true,true,true,true,true,true,true,false,false,false,false,false,false] rfl rfl (any_of HT_.out (by kernel_rfl)) (fun _ _ _ h => h) (Or.inr ⟨by rfl,rfl⟩) ?_ ?_;rotate_left
  ·exact ux_
  refine pure_ (i:=11) (N:=some 22) (v:=undef) (a':=?_) #[true,true,true,true,true,true,true,true,true,true,true,true,false,false,false,false,false] rfl rfl (any_of HT_.out (by kernel_rfl)) (fun _ _ _ h => h) (Or.inr ⟨by rfl,rfl⟩) ?_ ?_;rotate_left
  ·exact ux_
  refine pure_ (i:=12) (N:=some 23) (v:=undef) (a':=?_) #[true,true,true,true,true,true,true,true,true,true,true,true,true,false,false,false,false] rfl rfl (any_of HT_.out (by kernel_rfl)) (fun _ _ _ h => h) (Or.inr ⟨by rfl,rfl⟩) ?_ ?_;rotate_left
  ·exact ux_
  refine pure_ (i:=13) (N:=some 24) (v:=undef) (a':=?_) #[true,true,true,true,true,true,true,true,true,true,true,true,true,true,false,false,false] rfl rfl (any_of HT_.out (by kernel_rfl)) (fun _ _ _ h => h) (Or.inr ⟨by rfl,rfl⟩) ?_ ?_;rotate_left
  ·exact ux_
  refine pure_ (i:=14) (N:=some 25) (v:=undef) (a':=?_) #[true,true,true,true,true,true,true,true,true,true,true,true,true,true,true,false,false] rfl rfl (any_of HT_.out (by kernel_rfl)) (fun _ _ _ h => h) (Or.inr ⟨by rfl,rfl⟩) ?_ ?_;rotate_left
  ·exact ux_
  refine pure_ (i:=15) (N:=some 26) (v:=undef) (a':=?_) #[true,true,true,true,true,true,true,true,true,true,true,true,true,true,true,true,false] rfl rfl (any_of HT_.out (by kernel_rfl)) (fun _ _ _ h => h) (Or.inr ⟨by rfl,rfl⟩) ?_ ?_;rotate_left
  ·exact ux_
  refine pure_ (i:=16) (N:=some 27) (v:=?_) (a':=?_) #[true,true,true,true,true,true,true,true,true,true,true,true,true,true,true,true,true] rfl rfl (any_of HT_.out (by kernel_rfl)) (fun _ _ _ h => h) (Or.inl ⟨by rfl,?_⟩) ?_ ?_;rotate_left
  ·intro w';go_simp;with_reducible rfl
  rotate_left
  ·exact ux_
  refine done_ (done_of HT_.out (by kernel_rfl)) ?_;have hcz70_0:=kC_ BK129 0;have hcz70_1:=kC_ BK129 1;have hcz70_2:=kC_ BK129 2;have hfz70_0:=kf_ BK129.out 0;have hfz70_1:=kf_ BK129.out 1;have hfz70_2:=kf_ BK129.out 2;have hnb71:=NB128_127.out;have hnc71:=NB127_128.out;have hcz72_0:=kC_ BK128 0;have hcz72_1:=kC_ BK128 1;have hcz72_2:=kC_ BK128 2;have hfz72_0:=kf_ BK128.out 0;have hfz72_1:=kf_ BK128.out 1;have hfz72_2:=kf_ BK128.out 2
  try go_wp2
  refine bodyPost_ret (results_cell_row rfl _ _ gb128 60 #[.int .i64 a1,.int .i64 a2,.slice none 0 0] (0,0) _ rfl (by (with_reducible repeat (first|refine kn_ ?_ _|refine kd_ ?_|refine ka_ ?_ _));refine ku_ (cs:=#[.int .i64 a1,.int .i64 a2,.slice none 0 0]) ?_ 2 _ rfl;(with_reducible repeat (first|refine kn_ ?_ _|refine kd_ ?_|refine ka_ ?_ _));refine ku_ (cs:=#[.int .i64 a1,.int .i64 0,.slice none 0 0]) ?_ 1 _ rfl;(with_reducible repeat (first|refine kn_ ?_ _|refine kd_ ?_|refine ka_ ?_ _));refine ku_ (cs:=#[.int .i64 0,.int .i64 0,.slice none 0 0]) ?_ 0 _ rfl;(with_reducible repeat (first|refine kn_ ?_ _|refine kd_ ?_|refine ka_ ?_ _));exact BK128.out) Try.underlying60 rfl (by kernel_rfl)) rfl ?_;exact ⟨_,by first|rfl|(simp [*,errW_none,errW_some] <;> rfl),by first|exact Kd.R_nil _ _ _ _ _|exact Kd.N_nil _ _ _ _ _|exact Kd.V_nil _ _ _ _ _|exact Kd.Q_nil _ _ _ _ _|exact Kd.S_nil _ _ _ _ _,bq_ HB⟩
end Go.Proofs.Ytgpafelepkhdoaa.PFnBehind
