/- The contracts of the Go functions that this law reaches: what each call returns, by a plain Lean function of its arguments. No conditions but those each contract names. By the kit's print.py, run by this session's wip/gen/pp.py with facts and hand proofs beside it: not to the letter what print.sh prints. -/
import Derived.Test.YtgpafelepkhdoaaPFnExactReadHintx0
import Derived.Test.YtgpafelepkhdoaaPFnExactReadHintx6
import Derived.Test.YtgpafelepkhdoaaPFnExactReadHintx11
import Derived.Test.YtgpafelepkhdoaaPFnExactReadHintx12
namespace Go.Proofs.Ytgpafelepkhdoaa.PFnExactReadHint
open Go.RowKit Go.Proofs.YtgpafelepkhdoaaW.PrintWords Go.Proofs.YtgpafelepkhdoaaW.PrintLast Go.Proofs.YtgpafelepkhdoaaW.PrintMore
attribute [local go_sem] max2_int min2_int max_two min_two max_three min_three max_four min_four
set_option linter.unusedVariables false
set_option linter.unusedSimpArgs false
mutual
def laws_FnExactReadHint.j0 : Nat → ByteArray → List (S127) → Bool → List (S127) → Bool → Option (Bool)
 | 0,_,_,_,_,_ => none
 | k + 1,x0,x3,x4,x5,x32 => if x32 = true then (some false) else ((laws_markSpotS.f k x5 1).bind fun bt257 => ((laws_heldSpotS.f k bt257.2 1).bind fun t259 => (if t259 < 0 then (some false) else (if t259 = bt257.1 then ((impl_ReadHint.f k x0).bind fun bt260 => ((laws_eqSpotS.f k bt260.1 x3).bind fun t264 => (if t264 = true then (laws_FnExactReadHint.j1 k bt257.2 bt257.1 (bt260.2 != x4)) else (laws_FnExactReadHint.j1 k bt257.2 bt257.1 true)))) else (some false)))))
def laws_FnExactReadHint.j1 : Nat → List (S127) → Int → Bool → Option (Bool)
 | 0,_,_,_ => none
 | k + 1,x5,x7,x57 => if x57 = true then (some false) else ((laws_heldSpotS.f k x5 1).bind fun t265 => (if t265 < 0 then (some false) else (if t265 = x7 then (some true) else (some false))))
end
def laws_FnExactReadHint.f (k : Nat) (a0 : ByteArray) : Option (Bool) := if (a0.size : Int) > 1048576 then (some true) else ((spec_ReadHint.f k a0).bind fun bt248 => ((impl_ReadHint.f k a0).bind fun bt252 => ((laws_eqSpotS.f k bt252.1 bt248.1).bind fun t256 => (if t256 = true then (laws_FnExactReadHint.j0 k a0 bt248.1 bt248.2 bt252.1 (bt252.2 != bt248.2)) else (laws_FnExactReadHint.j0 k a0 bt248.1 bt248.2 bt252.1 true)))))
theorem laws_FnExactReadHint.mono_l : ∀ k, (∀ y0 y1 y2 y3 y4, LeO (laws_FnExactReadHint.j0 k y0 y1 y2 y3 y4) (laws_FnExactReadHint.j0 (k + 1) y0 y1 y2 y3 y4)) ∧ (∀ y0 y1 y2, LeO (laws_FnExactReadHint.j1 k y0 y1 y2) (laws_FnExactReadHint.j1 (k + 1) y0 y1 y2))
 | 0 => ⟨fun _ _ _ _ _ r h => by simp [laws_FnExactReadHint.j0] at h,fun _ _ _ r h => by simp [laws_FnExactReadHint.j1] at h⟩
 | k + 1 => by
  obtain ⟨ih0,ih1⟩:=laws_FnExactReadHint.mono_l k;refine ⟨?_,?_⟩
  ·intro y0 y1 y2 y3 y4
   unfold laws_FnExactReadHint.j0
   repeat' first
   | (with_reducible exact ih0 _ _ _ _ _)
   | (with_reducible exact ih1 _ _ _)
   | (with_reducible exact impl_ReadHint.mono _ _)
   | (with_reducible exact laws_eqSpotS.mono _ _ _)
   | (with_reducible exact laws_heldSpotS.mono _ _ _)
   | (with_reducible exact laws_markSpotS.mono _ _ _)
   | (with_reducible exact spec_ReadHint.mono _ _)
   | (with_reducible exact LeO.refl _)
   | (with_reducible exact LeO.none _)
   | (with_reducible refine LeO.ite ?_ ?_)
   | (with_reducible refine LeO.bind ?_ (fun _ => ?_))
  ·intro y0 y1 y2
   unfold laws_FnExactReadHint.j1
   repeat' first
   | (with_reducible exact ih0 _ _ _ _ _)
   | (with_reducible exact ih1 _ _ _)
   | (with_reducible exact impl_ReadHint.mono _ _)
   | (with_reducible exact laws_eqSpotS.mono _ _ _)
   | (with_reducible exact laws_heldSpotS.mono _ _ _)
   | (with_reducible exact laws_markSpotS.mono _ _ _)
   | (with_reducible exact spec_ReadHint.mono _ _)
   | (with_reducible exact LeO.refl _)
   | (with_reducible exact LeO.none _)
   | (with_reducible refine LeO.ite ?_ ?_)
   | (with_reducible refine LeO.bind ?_ (fun _ => ?_))
theorem laws_FnExactReadHint.mono : ∀ a0 k, LeO (laws_FnExactReadHint.f k a0) (laws_FnExactReadHint.f (k + 1) a0) := by
 intro a0 k;obtain ⟨ih0,ih1⟩:=laws_FnExactReadHint.mono_l k
 unfold laws_FnExactReadHint.f
 repeat' first
   | (with_reducible exact ih0 _ _ _ _ _)
   | (with_reducible exact ih1 _ _ _)
   | (with_reducible exact impl_ReadHint.mono _ _)
   | (with_reducible exact laws_eqSpotS.mono _ _ _)
   | (with_reducible exact laws_heldSpotS.mono _ _ _)
   | (with_reducible exact laws_markSpotS.mono _ _ _)
   | (with_reducible exact spec_ReadHint.mono _ _)
   | (with_reducible exact LeO.refl _)
   | (with_reducible exact LeO.none _)
   | (with_reducible refine LeO.ite ?_ ?_)
   | (with_reducible refine LeO.bind ?_ (fun _ => ?_))
set_option maxHeartbeats 8000000 in
set_option maxRecDepth 100000 in
theorem laws_FnExactReadHint.calls (k : Nat) (a0 : ByteArray) (r : Bool) (w : World) (h : laws_FnExactReadHint.f k a0 = some r) (hr1_ : r = true) :
  Calls Try.prog 9 #[.string a0] w fun e w' => e = .returned (.bool r) ∧ Below w.heap.size w w':=by
 have HB:=A_ (Below.refl w.heap.size w);unfold laws_FnExactReadHint.f at h;have H:=h;clear h
 by_cases c2 : (a0.size : Int) > 1048576
 ·rw [if_pos c2] at H;have c2b0 : decide (1048576 < (a0.size : Int)) = true:=de_ c2;have c2b1 : decide (1048576 < a0.size) = true:=de_ (by omega);clear c2;obtain rfl:=Option.some.inj H;go_enter Try.func9,Try.ntmps9;go_wp2;go_ret;exact ⟨ex_,bq_ HB⟩
 ·rw [if_neg c2] at H;have c2b0 : decide (1048576 < (a0.size : Int)) = false:=decide_eq_false c2;have c2b1 : decide (1048576 < a0.size) = false:=decide_eq_false (by omega);clear c2;replace H:=ob_.mp H;obtain ⟨⟨t248,t249⟩,A30,H⟩:=H;(try dsimp only at H);have A3:=A_ A30;clear A30;replace H:=ob_.mp H;obtain ⟨⟨t252,t253⟩,A40,H⟩:=H;(try dsimp only at H);have A4:=A_ A40;clear A40;have HC5:=A_ H;clear H;go_enter Try.func9,Try.ntmps9
  go_upto_region 5 with (first|((with_reducible refine gate_callee (f:=42) rfl ?_);refine gL_ (some 16) Try.func42 #[.string a0] ?_;(with_reducible refine (spec_ReadHint.calls k a0 t248 t249 _ A3.out).mono ?_);rintro e w6 ⟨v250,rfl,ho0,hb⟩;refine ⟨_,rfl,?_⟩;have HO251:=A_ (rw_ ho0 (bz_ (bq_ HB)));replace HB:=bS_ HB hb;(try clear hb);(try clear ho0))|((with_reducible refine gate_callee (f:=43) rfl ?_);refine gL_ (some 21) Try.func43 #[.string a0] ?_;(with_reducible refine (impl_ReadHint.calls k a0 t252 t253 _ A4.out).mono ?_);rintro e w7 ⟨v254,rfl,ho0,hb⟩;refine ⟨_,rfl,?_⟩;have HO255:=A_ (rw_ (Kd.R_new' ho0 (Kd.R_lt (rq_ HO251))) (bz_ (bq_ HB)));replace HO251:=A_ (Kd.R_elder' (rq_ HO251) (Kd.R_base ho0) hb);replace HB:=bS_ HB hb;(try clear hb);(try clear ho0)))
  (try simp only [Act.put,s1_,s2_,s3_])
  go_cut [32] (fun v32 wc => ∃ (kq : Nat) (x32_4 : Bool),v32 = .bool x32_4 ∧ Aside0 (laws_FnExactReadHint.j0 kq a0 t248 t249 t252 x32_4 = some r) ∧ Aside0 (kq ≤ k) ∧ Aside0 (Kd.R k127 127 wc w.heap.size (fun k_ => some k_ ≠ (v254 : Value).ownBlock) v250 t248) ∧ Aside0 (Kd.R k127 127 wc w.heap.size (fun k_ => some k_ ≠ (v250 : Value).ownBlock) v254 t252) ∧ Aside0 (Below w.heap.size w wc))
  case first =>
   have H:=HC5.out;clear HC5;replace H:=ob_.mp H;obtain ⟨t256,A80,H⟩:=H;(try dsimp only at H);have A8:=A_ A80;clear A80
   by_cases c9 : t256 = true
   ·subst c9
    rw [if_pos rfl] at H;have H':=A_ H;clear H;obtain ⟨Ao10,co10,eo10⟩:=Kd.R_slice HO255.out;subst eo10;obtain ⟨Ao11,co11,eo11⟩:=Kd.R_slice HO251.out;subst eo11
    go_wp2_with (first|((with_reducible refine gate_callee (f:=44) rfl ?_);refine gL_ (some 26) Try.func44 #[.slice Ao10 t252.length co10,.slice Ao11 t248.length co11] ?_;(with_reducible refine (laws_eqSpotS.calls k _ _ t252 _ _ t248 true _ ?side1 ?side2 ?side3 ?side4 A8.out).mono ?_);(case side1 => repeat (first|exact (Kd.R_reads' HO255.out).2.2|(with_reducible refine Kd.C_alloc ?_ _)|(with_reducible refine Kd.C_drewN ?_ _)|(with_reducible refine Kd.C_drew ?_)));(case side2 => exact (Kd.R_reads' HO255.out).2.1);(case side3 => repeat (first|exact (Kd.R_reads' HO251.out).2.2|(with_reducible refine Kd.C_alloc ?_ _)|(with_reducible refine Kd.C_drewN ?_ _)|(with_reducible refine Kd.C_drew ?_)));(case side4 => exact (Kd.R_reads' HO251.out).2.1);rintro e w12 ⟨rfl,hb⟩;refine ⟨_,rfl,?_⟩;replace HO251:=rB_ HO251 hb;replace HO255:=rB_ HO255 hb;replace HB:=bS_ HB hb;(try clear hb)))
    go_meet
    case rel => exact ⟨_,((t253 != t249)),(by first|rfl|(simp;done)|(simp [*];done)),H',⟨by first|omega|exact Nat.le_refl _⟩,⟨by (with_reducible repeat (first|apply ra_|apply rn_|apply Rd_));exact rm_ HO251.out (fun _ hk => hk.2)⟩,⟨by (with_reducible repeat (first|apply ra_|apply rn_|apply Rd_));exact rm_ HO255.out (fun _ hk => hk.2)⟩,⟨bq_ HB⟩⟩
   ·replace c9:=Bool.eq_false_iff.mpr c9;subst c9
    have H1 : (laws_FnExactReadHint.j0 k a0 t248 t249 t252 true) = some r:=by rw [if_neg (show ¬ (false = true) by decide)] at H;exact H
    clear H;have H:=H1;clear H1;have H':=A_ H;clear H;obtain ⟨Ao13,co13,eo13⟩:=Kd.R_slice HO255.out;subst eo13;obtain ⟨Ao14,co14,eo14⟩:=Kd.R_slice HO251.out;subst eo14
    go_wp2_with (first|((with_reducible refine gate_callee (f:=44) rfl ?_);refine gL_ (some 26) Try.func44 #[.slice Ao13 t252.length co13,.slice Ao14 t248.length co14] ?_;(with_reducible refine (laws_eqSpotS.calls k _ _ t252 _ _ t248 false _ ?side1 ?side2 ?side3 ?side4 A8.out).mono ?_);(case side1 => repeat (first|exact (Kd.R_reads' HO255.out).2.2|(with_reducible refine Kd.C_alloc ?_ _)|(with_reducible refine Kd.C_drewN ?_ _)|(with_reducible refine Kd.C_drew ?_)));(case side2 => exact (Kd.R_reads' HO255.out).2.1);(case side3 => repeat (first|exact (Kd.R_reads' HO251.out).2.2|(with_reducible refine Kd.C_alloc ?_ _)|(with_reducible refine Kd.C_drewN ?_ _)|(with_reducible refine Kd.C_drew ?_)));(case side4 => exact (Kd.R_reads' HO251.out).2.1);rintro e w15 ⟨rfl,hb⟩;refine ⟨_,rfl,?_⟩;replace HO251:=rB_ HO251 hb;replace HO255:=rB_ HO255 hb;replace HB:=bS_ HB hb;(try clear hb)))
    go_meet
    case rel => exact ⟨_,(true),(by first|rfl|(simp;done)|(simp [*];done)),H',⟨by first|omega|exact Nat.le_refl _⟩,⟨by (with_reducible repeat (first|apply ra_|apply rn_|apply Rd_));exact rm_ HO251.out (fun _ hk => hk.2)⟩,⟨by (with_reducible repeat (first|apply ra_|apply rn_|apply Rd_));exact rm_ HO255.out (fun _ hk => hk.2)⟩,⟨bq_ HB⟩⟩
  case rest =>
   clear HC5
   try clear c2
   try clear c2b0
   try clear c2b1
   try clear p2
   try clear c4
   try clear c9
   obtain ⟨kq,x32_4,rfl,HA,HJ4,HO_3,HO_5,HB⟩:=hcut
   cases kq with
   | zero => exact absurd HA.out (by simp [laws_FnExactReadHint.j0])
   | succ kj4 =>
    have H:=HA.out;clear HA;simp only [laws_FnExactReadHint.j0] at H
    by_cases c16 : x32_4 = true
    ·subst c16
     rw [if_pos rfl] at H;obtain rfl:=Option.some.inj H
     cases hr1_
    ·replace c16:=Bool.eq_false_iff.mpr c16;subst c16
     have H1 : ((laws_markSpotS.f kj4 t252 1).bind fun bt257 => ((laws_heldSpotS.f kj4 bt257.2 1).bind fun t259 => (if t259 < 0 then (some false) else (if t259 = bt257.1 then ((impl_ReadHint.f kj4 a0).bind fun bt260 => ((laws_eqSpotS.f kj4 bt260.1 t248).bind fun t264 => (if t264 = true then (laws_FnExactReadHint.j1 kj4 bt257.2 bt257.1 (bt260.2 != t249)) else (laws_FnExactReadHint.j1 kj4 bt257.2 bt257.1 true)))) else (some false))))) = some r:=by rw [if_neg (show ¬ (false = true) by decide)] at H;exact H
     clear H;have H:=H1;clear H1;replace H:=ob_.mp H;obtain ⟨⟨t257,t258⟩,A170,H⟩:=H;(try dsimp only at H);have A17:=A_ A170;clear A170;replace H:=ob_.mp H;obtain ⟨t259,A180,H⟩:=H;(try dsimp only at H);have A18:=A_ A180;clear A180
     by_cases c19 : t259 < 0
     ·rw [if_pos c19] at H;have c19b0 : decide (t259 < 0) = true:=de_ c19;clear c19;obtain rfl:=Option.some.inj H
      cases hr1_
     ·rw [if_neg c19] at H;have c19b0 : decide (t259 < 0) = false:=decide_eq_false c19;clear c19
      by_cases c23 : t259 = t257
      ·rw [if_pos c23] at H;have c23b0 : (t259 == t257) = true:=beq_iff_eq.mpr c23;have c23b1 : (t259 != t257) = false:=bne_eq_false_iff_eq.mpr c23;clear c23;replace H:=ob_.mp H;obtain ⟨⟨t260,t261⟩,A240,H⟩:=H;(try dsimp only at H);have A24:=A_ A240;clear A240;have HC25:=A_ H;clear H;obtain ⟨Ao26,co26,eo26⟩:=Kd.R_slice HO_5.out;subst eo26
       go_upto_region 16 with (first|((with_reducible refine gate_callee (f:=45) rfl ?_);refine gL_ (some 35) Try.func45 #[.slice Ao26 t252.length co26,.int .i64 1] ?_;(with_reducible refine (laws_markSpotS.calls kj4 (fun k_ => some k_ = (.slice Ao26 t252.length co26 : Value).ownBlock) (.slice Ao26 t252.length co26) t252 1 t257 t258 w _ ?side1 ?side2 A17.out).mono ?_);(case side1 => exact bq_ HB);(case side2 => exact Kd.R_tight rfl HO_5.out);rintro e w27 ⟨rfl,hy0,hb,hkp⟩;refine ⟨_,rfl,?_⟩;replace HO_3:=A_ (rm_ (ok':=fun k_ => some k_ ≠ (.slice Ao26 t252.length co26 : Value).ownBlock) (Kd.R_keptB (HO_3.out) hkp (fun k_ hk_ hs_ => (hk_) hs_)) (fun k_ hk_ => hk_.1));replace HO_5:=A_ (Kd.R_reok rfl hy0 (fun k_ e_ => HO_5.out.1 k_ e_));replace HB:=A_ (hb);(try clear hb);(try clear hkp);(try clear hy0))|((with_reducible refine gate_callee (f:=46) rfl ?_);refine goesL_ (some 38) rfl rfl Try.func46 (by kernel_rfl) rfl #[.slice Ao26 t258.length co26,.int .i64 1] rfl (by (try simp only [s4_,s5_,s6_]);first|done|(rw [show t258.length = t252.length from (Kd.R_reads' HO_5.out).1.symm] <;> rfl)|rfl|(simp only [List.length_drop,List.length_take];rfl)) ?_;(with_reducible refine (laws_heldSpotS.calls kj4 _ _ t258 1 t259 _ ?side1 ?side2 A18.out).mono ?_);(case side1 => repeat (first|exact (Kd.R_reads' HO_5.out).2.2|(with_reducible refine Kd.C_alloc ?_ _)|(with_reducible refine Kd.C_drewN ?_ _)|(with_reducible refine Kd.C_drew ?_)));(case side2 => rw [show t258.length = t252.length from (Kd.R_reads' HO_5.out).1.symm];exact (Kd.R_reads' HO_5.out).2.1);rintro e w28 ⟨rfl,hb⟩;refine ⟨_,rfl,?_⟩;replace HO_3:=rB_ HO_3 hb;replace HO_5:=rB_ HO_5 hb;replace HB:=bS_ HB hb;(try clear hb))|((with_reducible refine gate_callee (f:=43) rfl ?_);refine gL_ (some 46) Try.func43 #[.string a0] ?_;(with_reducible refine (impl_ReadHint.calls kj4 a0 t260 t261 _ A24.out).mono ?_);rintro e w29 ⟨v262,rfl,ho0,hb⟩;refine ⟨_,rfl,?_⟩;have HO263:=A_ (rw_ (Kd.R_new' (Kd.R_new' ho0 (Kd.R_lt (rq_ HO_3))) (Kd.R_lt (rq_ HO_5))) (bz_ (bq_ HB)));replace HO_3:=A_ (Kd.R_elder' (rq_ HO_3) (Kd.R_base ho0) hb);replace HO_5:=A_ (Kd.R_elder' (rq_ HO_5) (Kd.R_base ho0) hb);replace HB:=bS_ HB hb;(try clear hb);(try clear ho0)))
       (try simp only [Act.put,s1_,s2_,s3_])
       go_cut [57] (fun v57 wc => ∃ (kq : Nat) (x57_24 : Bool),v57 = .bool x57_24 ∧ Aside0 (laws_FnExactReadHint.j1 kq t258 t257 x57_24 = some r) ∧ Aside0 (kq ≤ kj4) ∧ Aside0 (Kd.R k127 127 wc w.heap.size (fun _ => True) (.slice Ao26 t252.length co26) t258) ∧ Aside0 (Below w.heap.size w wc))
       case first =>
        have H:=HC25.out;clear HC25;replace H:=ob_.mp H;obtain ⟨t264,A300,H⟩:=H;(try dsimp only at H);have A30:=A_ A300;clear A300
        by_cases c31 : t264 = true
        ·subst c31
         rw [if_pos rfl] at H;have H':=A_ H;clear H;obtain ⟨Ao32,co32,eo32⟩:=Kd.R_slice HO263.out;subst eo32;obtain ⟨Ao33,co33,eo33⟩:=Kd.R_slice HO_3.out;subst eo33
         go_wp2_with (first|((with_reducible refine gate_callee (f:=44) rfl ?_);refine gL_ (some 51) Try.func44 #[.slice Ao32 t260.length co32,.slice Ao33 t248.length co33] ?_;(with_reducible refine (laws_eqSpotS.calls kj4 _ _ t260 _ _ t248 true _ ?side1 ?side2 ?side3 ?side4 A30.out).mono ?_);(case side1 => repeat (first|exact (Kd.R_reads' HO263.out).2.2|(with_reducible refine Kd.C_alloc ?_ _)|(with_reducible refine Kd.C_drewN ?_ _)|(with_reducible refine Kd.C_drew ?_)));(case side2 => exact (Kd.R_reads' HO263.out).2.1);(case side3 => repeat (first|exact (Kd.R_reads' HO_3.out).2.2|(with_reducible refine Kd.C_alloc ?_ _)|(with_reducible refine Kd.C_drewN ?_ _)|(with_reducible refine Kd.C_drew ?_)));(case side4 => exact (Kd.R_reads' HO_3.out).2.1);rintro e w34 ⟨rfl,hb⟩;refine ⟨_,rfl,?_⟩;replace HO_3:=rB_ HO_3 hb;replace HO_5:=rB_ HO_5 hb;replace HO263:=rB_ HO263 hb;replace HB:=bS_ HB hb;(try clear hb)))
         go_meet
         case rel => exact ⟨_,((t261 != t249)),(by first|rfl|(simp;done)|(simp [*];done)),H',⟨by have:=HJ4.out;first|omega|exact Nat.le_refl _⟩,⟨by (with_reducible repeat (first|apply ra_|apply rn_|apply Rd_));exact rm_ HO_5.out (fun _ hk => trivial)⟩,⟨bq_ HB⟩⟩
        ·replace c31:=Bool.eq_false_iff.mpr c31;subst c31
         have H1 : (laws_FnExactReadHint.j1 kj4 t258 t257 true) = some r:=by rw [if_neg (show ¬ (false = true) by decide)] at H;exact H
         clear H;have H:=H1;clear H1;have H':=A_ H;clear H;obtain ⟨Ao35,co35,eo35⟩:=Kd.R_slice HO263.out;subst eo35;obtain ⟨Ao36,co36,eo36⟩:=Kd.R_slice HO_3.out;subst eo36
         go_wp2_with (first|((with_reducible refine gate_callee (f:=44) rfl ?_);refine gL_ (some 51) Try.func44 #[.slice Ao35 t260.length co35,.slice Ao36 t248.length co36] ?_;(with_reducible refine (laws_eqSpotS.calls kj4 _ _ t260 _ _ t248 false _ ?side1 ?side2 ?side3 ?side4 A30.out).mono ?_);(case side1 => repeat (first|exact (Kd.R_reads' HO263.out).2.2|(with_reducible refine Kd.C_alloc ?_ _)|(with_reducible refine Kd.C_drewN ?_ _)|(with_reducible refine Kd.C_drew ?_)));(case side2 => exact (Kd.R_reads' HO263.out).2.1);(case side3 => repeat (first|exact (Kd.R_reads' HO_3.out).2.2|(with_reducible refine Kd.C_alloc ?_ _)|(with_reducible refine Kd.C_drewN ?_ _)|(with_reducible refine Kd.C_drew ?_)));(case side4 => exact (Kd.R_reads' HO_3.out).2.1);rintro e w37 ⟨rfl,hb⟩;refine ⟨_,rfl,?_⟩;replace HO_3:=rB_ HO_3 hb;replace HO_5:=rB_ HO_5 hb;replace HO263:=rB_ HO263 hb;replace HB:=bS_ HB hb;(try clear hb)))
         go_meet
         case rel => exact ⟨_,(true),(by first|rfl|(simp;done)|(simp [*];done)),H',⟨by have:=HJ4.out;first|omega|exact Nat.le_refl _⟩,⟨by (with_reducible repeat (first|apply ra_|apply rn_|apply Rd_));exact rm_ HO_5.out (fun _ hk => trivial)⟩,⟨bq_ HB⟩⟩
       case rest =>
        clear HC25
        try clear c1
        try clear c2
        try clear c2b0
        try clear c2b1
        try clear p2
        try clear c3
        try clear c4
        try clear c9
        try clear c16
        try clear c19
        try clear c19b0
        try clear c23
        try clear c23b0
        try clear c23b1
        try clear c31
        try clear p2
        obtain ⟨kq,x57_24,rfl,HA,HJ24,HO_5,HB⟩:=hcut;have hl5_24:=(Kd.R_reads' HO_5.out).1;rw [hl5_24] at HO_5
        (try simp only [hl5_24])
        cases kq with
        | zero => exact absurd HA.out (by simp [laws_FnExactReadHint.j1])
        | succ kj24 =>
         have H:=HA.out;clear HA;simp only [laws_FnExactReadHint.j1] at H
         by_cases c38 : x57_24 = true
         ·subst c38
          rw [if_pos rfl] at H;obtain rfl:=Option.some.inj H
          cases hr1_
         ·replace c38:=Bool.eq_false_iff.mpr c38;subst c38
          have H1 : ((laws_heldSpotS.f kj24 t258 1).bind fun t265 => (if t265 < 0 then (some false) else (if t265 = t257 then (some true) else (some false)))) = some r:=by rw [if_neg (show ¬ (false = true) by decide)] at H;exact H
          clear H;have H:=H1;clear H1;replace H:=ob_.mp H;obtain ⟨t265,A390,H⟩:=H;(try dsimp only at H);have A39:=A_ A390;clear A390
          by_cases c40 : t265 < 0
          ·rw [if_pos c40] at H;have c40b0 : decide (t265 < 0) = true:=de_ c40;clear c40;obtain rfl:=Option.some.inj H
           cases hr1_
          ·rw [if_neg c40] at H;have c40b0 : decide (t265 < 0) = false:=decide_eq_false c40;clear c40
           by_cases c42 : t265 = t257
           ·rw [if_pos c42] at H;have c42b0 : (t265 == t257) = true:=beq_iff_eq.mpr c42;have c42b1 : (t265 != t257) = false:=bne_eq_false_iff_eq.mpr c42;clear c42;obtain rfl:=Option.some.inj H
            go_wp2_with (first|((with_reducible refine gate_callee (f:=46) rfl ?_);refine gL_ (some 60) Try.func46 #[.slice Ao26 t258.length co26,.int .i64 1] ?_;(with_reducible refine (laws_heldSpotS.calls kj24 _ _ t258 1 t265 _ ?side1 ?side2 A39.out).mono ?_);(case side1 => repeat (first|exact (Kd.R_reads' HO_5.out).2.2|(with_reducible refine Kd.C_alloc ?_ _)|(with_reducible refine Kd.C_drewN ?_ _)|(with_reducible refine Kd.C_drew ?_)));(case side2 => exact (Kd.R_reads' HO_5.out).2.1);rintro e w43 ⟨rfl,hb⟩;refine ⟨_,rfl,?_⟩;replace HO_5:=rB_ HO_5 hb;replace HB:=bS_ HB hb;(try clear hb)))
            go_ret;exact ⟨ex_,bq_ HB⟩
           ·rw [if_neg c42] at H;have c42b0 : (t265 == t257) = false:=beq_eq_false_iff_ne.mpr c42;have c42b1 : (t265 != t257) = true:=bne_iff_ne.mpr c42;obtain rfl:=Option.some.inj H
            cases hr1_
      ·rw [if_neg c23] at H;have c23b0 : (t259 == t257) = false:=beq_eq_false_iff_ne.mpr c23;have c23b1 : (t259 != t257) = true:=bne_iff_ne.mpr c23;obtain rfl:=Option.some.inj H
       cases hr1_
def laws_FnExactReadHint.Pure : Prop := ∀ (a0 : ByteArray), a0.size ≤ 140737488351232 → ∃ k, laws_FnExactReadHint.f k a0 = some true
theorem laws_FnExactReadHint.walk (P : laws_FnExactReadHint.Pure) (a0 : ByteArray) (w : World) (w0 : a0.size ≤ 140737488351232) :
  Calls Try.prog 9 #[.string a0] w fun e w' => e = .returned (.bool true) ∧ Below w.heap.size w w':=by
 obtain ⟨k,h⟩:=P a0 w0;refine (laws_FnExactReadHint.calls k a0 true w h rfl).mono ?_;rintro e w' ⟨rfl,hd⟩;exact ⟨rfl,hd⟩
end Go.Proofs.Ytgpafelepkhdoaa.PFnExactReadHint
