/- The contracts of the Go functions that this law reaches: what each call returns, by a plain Lean function of its arguments. No conditions but those each contract names. By the kit's print.py, run by this session's wip/gen/pp.py with facts and hand proofs beside it: not to the letter what print.sh prints. -/
import Derived.Test.YtbcgnncbiblibaaPFnExactDecodex0
namespace Go.Proofs.Ytbcgnncbiblibaa.PFnExactDecode
open Go.RowKit Go.Proofs.YtbcgnncbiblibaaW.PrintWords Go.Proofs.YtbcgnncbiblibaaW.PrintLast Go.Proofs.YtbcgnncbiblibaaW.PrintMore
attribute [local go_sem] max2_int min2_int max_two min_two max_three min_three max_four min_four
set_option linter.unusedVariables false
set_option linter.unusedSimpArgs false
def laws_eqEntry.f (a0_0 : Int) (a0_1 : Int) (a0_2 : ByteArray) (a1_0 : Int) (a1_1 : Int) (a1_2 : ByteArray) : Option (Bool) := if a0_0 = a1_0 then (if a0_1 = a1_1 then (if a0_2.toList = a1_2.toList then (some true) else (some false)) else (some false)) else (some false)
set_option maxHeartbeats 8000000 in
set_option maxRecDepth 100000 in
theorem laws_eqEntry.calls (a0_0 : Int) (a0_1 : Int) (a0_2 : ByteArray) (a1_0 : Int) (a1_1 : Int) (a1_2 : ByteArray) (r : Bool) (w : World) (h : laws_eqEntry.f a0_0 a0_1 a0_2 a1_0 a1_1 a1_2 = some r) :
  Calls Try.prog 101 #[.agg #[.int .i64 a0_0,.int .i64 a0_1,.string a0_2],.agg #[.int .i64 a1_0,.int .i64 a1_1,.string a1_2]] w fun e w' => e = .returned (.bool r) ∧ Below w.heap.size w w':=by
 have hu69:=Try.underlying69;have HB:=A_ (Below.refl w.heap.size w);unfold laws_eqEntry.f at h;have H:=h;clear h
 by_cases c3 : a0_0 = a1_0
 ·rw [if_pos c3] at H;have c3b0 : (a0_0 == a1_0) = true:=beq_iff_eq.mpr c3;have c3b1 : (a0_0 != a1_0) = false:=bne_eq_false_iff_eq.mpr c3;clear c3
  by_cases c4 : a0_1 = a1_1
  ·rw [if_pos c4] at H;have c4b0 : (a0_1 == a1_1) = true:=beq_iff_eq.mpr c4;have c4b1 : (a0_1 != a1_1) = false:=bne_eq_false_iff_eq.mpr c4;clear c4
   by_cases c5 : a0_2.toList = a1_2.toList
   ·rw [if_pos c5] at H;have c5b0 : (a0_2.toList == a1_2.toList) = true:=beq_iff_eq.mpr c5;have c5b1 : (a0_2.toList != a1_2.toList) = false:=bne_eq_false_iff_eq.mpr c5;clear c5;obtain rfl:=Option.some.inj H;go_enter Try.func101,Try.ntmps101
    go_wp2_with (first|((with_reducible refine gate_dst (N:=2) rfl ?_);refine bE_ 2 #[.int .i64 a0_0,.int .i64 a0_1,.string a0_2] 69 ?_;intro gb403 hg w6 hbox hb;have BK403:=A_ (hbox);have GW403:=gE_ hg HB;have GE403:=gE_ hg HB;replace HB:=bS_ HB hb;clear hb hbox hg)|((with_reducible refine gate_dst (N:=3) rfl ?_);refine bE_ 3 #[.int .i64 a1_0,.int .i64 a1_1,.string a1_2] 69 ?_;intro gb404 hg w7 hbox hb;have BK404:=A_ (hbox);have GW404:=gE_ hg HB;have GE404:=gE_ hg HB;replace HB:=bS_ HB hb;have NB403_404:=nB_ hg BK403;have NB404_403:=nC_ hg BK403;replace BK403:=kB_ BK403 hb;clear hb hbox hg;have hnb8:=NB403_404.out;have hnc8:=NB404_403.out;obtain ⟨hcz9_0,hcz9_1,hcz9_2,hfz9_0,hfz9_1,hfz9_2⟩:=k3f_ BK403;obtain ⟨hcz10_0,hcz10_1,hcz10_2,hfz10_0,hfz10_1,hfz10_2⟩:=k3f_ BK404))
    go_ret;exact ⟨ex_,bq_ HB⟩
   ·rw [if_neg c5] at H;have c5b0 : (a0_2.toList == a1_2.toList) = false:=beq_eq_false_iff_ne.mpr c5;have c5b1 : (a0_2.toList != a1_2.toList) = true:=bne_iff_ne.mpr c5;obtain rfl:=Option.some.inj H;go_enter Try.func101,Try.ntmps101
    go_wp2_with (first|((with_reducible refine gate_dst (N:=2) rfl ?_);refine bE_ 2 #[.int .i64 a0_0,.int .i64 a0_1,.string a0_2] 69 ?_;intro gb403 hg w11 hbox hb;have BK403:=A_ (hbox);have GW403:=gE_ hg HB;have GE403:=gE_ hg HB;replace HB:=bS_ HB hb;clear hb hbox hg)|((with_reducible refine gate_dst (N:=3) rfl ?_);refine bE_ 3 #[.int .i64 a1_0,.int .i64 a1_1,.string a1_2] 69 ?_;intro gb404 hg w12 hbox hb;have BK404:=A_ (hbox);have GW404:=gE_ hg HB;have GE404:=gE_ hg HB;replace HB:=bS_ HB hb;have NB403_404:=nB_ hg BK403;have NB404_403:=nC_ hg BK403;replace BK403:=kB_ BK403 hb;clear hb hbox hg;have hnb13:=NB403_404.out;have hnc13:=NB404_403.out;obtain ⟨hcz14_0,hcz14_1,hcz14_2,hfz14_0,hfz14_1,hfz14_2⟩:=k3f_ BK403;obtain ⟨hcz15_0,hcz15_1,hcz15_2,hfz15_0,hfz15_1,hfz15_2⟩:=k3f_ BK404))
    go_ret;exact ⟨ex_,bq_ HB⟩
  ·rw [if_neg c4] at H;have c4b0 : (a0_1 == a1_1) = false:=beq_eq_false_iff_ne.mpr c4;have c4b1 : (a0_1 != a1_1) = true:=bne_iff_ne.mpr c4;obtain rfl:=Option.some.inj H;go_enter Try.func101,Try.ntmps101
   go_wp2_with (first|((with_reducible refine gate_dst (N:=2) rfl ?_);refine bE_ 2 #[.int .i64 a0_0,.int .i64 a0_1,.string a0_2] 69 ?_;intro gb403 hg w16 hbox hb;have BK403:=A_ (hbox);have GW403:=gE_ hg HB;have GE403:=gE_ hg HB;replace HB:=bS_ HB hb;clear hb hbox hg)|((with_reducible refine gate_dst (N:=3) rfl ?_);refine bE_ 3 #[.int .i64 a1_0,.int .i64 a1_1,.string a1_2] 69 ?_;intro gb404 hg w17 hbox hb;have BK404:=A_ (hbox);have GW404:=gE_ hg HB;have GE404:=gE_ hg HB;replace HB:=bS_ HB hb;have NB403_404:=nB_ hg BK403;have NB404_403:=nC_ hg BK403;replace BK403:=kB_ BK403 hb;clear hb hbox hg;have hnb18:=NB403_404.out;have hnc18:=NB404_403.out;obtain ⟨hcz19_0,hcz19_1,hcz19_2,hfz19_0,hfz19_1,hfz19_2⟩:=k3f_ BK403;obtain ⟨hcz20_0,hcz20_1,hcz20_2,hfz20_0,hfz20_1,hfz20_2⟩:=k3f_ BK404))
   go_ret;exact ⟨ex_,bq_ HB⟩
 ·rw [if_neg c3] at H;have c3b0 : (a0_0 == a1_0) = false:=beq_eq_false_iff_ne.mpr c3;have c3b1 : (a0_0 != a1_0) = true:=bne_iff_ne.mpr c3;obtain rfl:=Option.some.inj H;go_enter Try.func101,Try.ntmps101
  go_wp2_with (first|((with_reducible refine gate_dst (N:=2) rfl ?_);refine bE_ 2 #[.int .i64 a0_0,.int .i64 a0_1,.string a0_2] 69 ?_;intro gb403 hg w21 hbox hb;have BK403:=A_ (hbox);have GW403:=gE_ hg HB;have GE403:=gE_ hg HB;replace HB:=bS_ HB hb;clear hb hbox hg)|((with_reducible refine gate_dst (N:=3) rfl ?_);refine bE_ 3 #[.int .i64 a1_0,.int .i64 a1_1,.string a1_2] 69 ?_;intro gb404 hg w22 hbox hb;have BK404:=A_ (hbox);have GW404:=gE_ hg HB;have GE404:=gE_ hg HB;replace HB:=bS_ HB hb;have NB403_404:=nB_ hg BK403;have NB404_403:=nC_ hg BK403;replace BK403:=kB_ BK403 hb;clear hb hbox hg;have hnb23:=NB403_404.out;have hnc23:=NB404_403.out;obtain ⟨hcz24_0,hcz24_1,hcz24_2,hfz24_0,hfz24_1,hfz24_2⟩:=k3f_ BK403;obtain ⟨hcz25_0,hcz25_1,hcz25_2,hfz25_0,hfz25_1,hfz25_2⟩:=k3f_ BK404))
  go_ret;exact ⟨ex_,bq_ HB⟩
def laws_eqEntryS.l0 : Nat → List (S69) → List (S69) → Int → Option (Bool)
 | 0,_,_,_ => none
 | k + 1,x0,x1,x5 => if x5 < (x0.length : Int) then (if 0 ≤ x5 then (if x5 < (x1.length : Int) then ((laws_eqEntry.f ((rd_T69 x0 x5).f0) ((rd_T69 x0 x5).f1) ((rd_T69 x0 x5).f2) ((rd_T69 x1 x5).f0) ((rd_T69 x1 x5).f1) ((rd_T69 x1 x5).f2)).bind fun t407 => (if t407 = true then (laws_eqEntryS.l0 k x0 x1 (wrap64 (x5 + 1))) else (some false))) else (none)) else (none)) else (some true)
def laws_eqEntryS.f (k : Nat) (l0 : List (S69)) (l1 : List (S69)) : Option (Bool) := if (l0.length : Int) = (l1.length : Int) then (laws_eqEntryS.l0 k l0 l1 0) else (some false)
theorem laws_eqEntryS.mono_l : ∀ k, (∀ y0 y1 y2, LeO (laws_eqEntryS.l0 k y0 y1 y2) (laws_eqEntryS.l0 (k + 1) y0 y1 y2))
 | 0 => fun _ _ _ r h => by simp [laws_eqEntryS.l0] at h
 | k + 1 => by
  have ih0:=laws_eqEntryS.mono_l k
  ·intro y0 y1 y2
   unfold laws_eqEntryS.l0
   repeat' first
   | (with_reducible exact ih0 _ _ _)
   | (with_reducible exact LeO.refl _)
   | (with_reducible exact LeO.none _)
   | (with_reducible refine LeO.ite ?_ ?_)
   | (with_reducible refine LeO.bind ?_ (fun _ => ?_))
theorem laws_eqEntryS.mono : ∀ a0 a1 k, LeO (laws_eqEntryS.f k a0 a1) (laws_eqEntryS.f (k + 1) a0 a1) := by
 intro a0 a1 k;have ih0:=laws_eqEntryS.mono_l k
 unfold laws_eqEntryS.f
 repeat' first
   | (with_reducible exact ih0 _ _ _)
   | (with_reducible exact LeO.refl _)
   | (with_reducible exact LeO.none _)
   | (with_reducible refine LeO.ite ?_ ?_)
   | (with_reducible refine LeO.bind ?_ (fun _ => ?_))
def laws_eqEntryS.T6 : Bool × List (List Nat × List Nat) := (true, [([], []), ([], []), ([0, 1], [0, 1]), ([2], [2]), ([], []), ([], []), ([4, 5], [4, 5]), ([6], [6]), ([3, 7], [3, 7]), ([8], [8])])
def laws_eqEntryS.B6 : List Nat := [0, 0, 3, 7, 0, 0, 48, 112, 255, 511]
theorem laws_eqEntryS.tab6 : rtab .any (opsOf Try.f49 6) = laws_eqEntryS.T6 := by kernel_rfl
theorem laws_eqEntryS.bits6 : waitsOk laws_eqEntryS.T6.2 laws_eqEntryS.B6 = true := by kernel_rfl
set_option maxHeartbeats 8000000 in
set_option maxRecDepth 100000 in
theorem laws_eqEntryS.calls (k : Nat) (A0 : Option Addr) (c0 : Nat) (l0 : List (S69)) (A1 : Option Addr) (c1 : Nat) (l1 : List (S69)) (r : Bool) (w : World) (hr0 : Kd.C k69 w A0 l0.length l0) (hc0 : l0.length ≤ c0) (hr1 : Kd.C k69 w A1 l1.length l1) (hc1 : l1.length ≤ c1) (h : laws_eqEntryS.f k l0 l1 = some r) :
  Calls Try.prog 49 #[.slice A0 l0.length c0,.slice A1 l1.length c1] w fun e w' => e = .returned (.bool r) ∧ Below w.heap.size w w':=by
 have hu69:=Try.underlying69;have HR0:=A_ hr0;have HC0:=A_ hc0;clear hr0 hc0;have HR1:=A_ hr1;have HC1:=A_ hc1;clear hr1 hc1;have HB:=A_ (Below.refl w.heap.size w);unfold laws_eqEntryS.f at h;have H:=h;clear h
 by_cases c3 : (l0.length : Int) = (l1.length : Int)
 ·rw [if_pos c3] at H;have c3b0 : ((l0.length : Int) == (l1.length : Int)) = true:=beq_iff_eq.mpr c3;have c3b1 : ((l0.length : Int) != (l1.length : Int)) = false:=bne_eq_false_iff_eq.mpr c3
  have c3b2 : (l0.length == l1.length) = true:=by first|simpa using c3|(simp at c3 ⊢;omega)
  clear c3;have H':=A_ H;clear H;go_enter Try.func49,Try.ntmps49;go_wp2
  go_loopg [5] k (fun kq v5 w' => ∃ (x5_1 : Int),v5 = .int .i64 x5_1 ∧ Aside0 (laws_eqEntryS.l0 kq l0 l1 x5_1 = some r) ∧ Aside0 (kq ≤ k) ∧ Aside0 (Below w.heap.size w w'))
  case atStart => exact ⟨(0),(by first|rfl|(simp;done)|(simp [*];done)),H',⟨Nat.le_refl _⟩,⟨bq_ HB⟩⟩
  case round =>
   clear H'
   try clear c1
   try clear p2
   try clear c3
   try clear c3b0
   try clear c3b1
   try clear c3b2
   obtain ⟨x5_1,rfl,HA,HK1,HB⟩:=hrel
   cases gk with
   | zero => exact absurd HA.out (by simp [laws_eqEntryS.l0])
   | succ k1 =>
    have H:=HA.out;clear HA;simp only [laws_eqEntryS.l0] at H
    by_cases c4 : x5_1 < (l0.length : Int)
    ·rw [if_pos c4] at H;have c4b0 : decide (x5_1 < (l0.length : Int)) = true:=de_ c4;clear c4
     by_cases c5 : 0 ≤ x5_1
     ·rw [if_pos c5] at H;have c5b0 : decide (0 ≤ x5_1) = true:=de_ c5;clear c5
      by_cases c6 : x5_1 < (l1.length : Int)
      ·rw [if_pos c6] at H;have c6b0 : decide (x5_1 < (l1.length : Int)) = true:=de_ c6;clear c6;replace H:=ob_.mp H;obtain ⟨t407,A70,H⟩:=H;(try dsimp only at H);have A7:=A_ A70;clear A70
       by_cases c8 : t407 = true
       ·subst c8
        rw [if_pos rfl] at H;have H':=A_ H;clear H
        try go_wp2
        replace HB:=A_ (pd_ HB.out);have p405 : 0 ≤ (x5_1 : Int):=oda_;have q405 : x5_1 < (l0.length : Int):=oda_;obtain ⟨ad405,e405,hx405_0,hx405_1,hx405_2⟩:=at_T69 HR0.out x5_1 p405 q405;have hw405_2:=hx405_2;have hw405_1:=hx405_1;have hw405_0:=hx405_0
        cases e405
        replace hx405_0:=(HB.out.cell (wb_ w _ hx405_0)).trans hx405_0;replace hx405_1:=(HB.out.cell (wb_ w _ hx405_1)).trans hx405_1;replace hx405_2:=(HB.out.cell (wb_ w _ hx405_2)).trans hx405_2;replace p405:=eq_true p405;replace q405:=eq_true q405;have p406 : 0 ≤ (x5_1 : Int):=oda_;have q406 : x5_1 < (l1.length : Int):=oda_;obtain ⟨ad406,e406,hx406_0,hx406_1,hx406_2⟩:=at_T69 HR1.out x5_1 p406 q406;have hw406_2:=hx406_2;have hw406_1:=hx406_1;have hw406_0:=hx406_0
        cases e406
        replace hx406_0:=(HB.out.cell (wb_ w _ hx406_0)).trans hx406_0;replace hx406_1:=(HB.out.cell (wb_ w _ hx406_1)).trans hx406_1;replace hx406_2:=(HB.out.cell (wb_ w _ hx406_2)).trans hx406_2;replace p406:=eq_true p406;replace q406:=eq_true q406;refine start_ (n:=10) (S:=fun w' => w'.cell? (ad405.add ((x5_1).toNat * 3)) = some (.int .i64 ((rd_T69 l0 x5_1).f0)) ∧ w'.cell? ⟨(ad405.add ((x5_1).toNat * 3)).block,(ad405.add ((x5_1).toNat * 3)).off + 1,none⟩ = some (.int .i64 ((rd_T69 l0 x5_1).f1)) ∧ w'.cell? ⟨(ad405.add ((x5_1).toNat * 3)).block,(ad405.add ((x5_1).toNat * 3)).off + 2,none⟩ = some (.string ((rd_T69 l0 x5_1).f2)) ∧ w'.cell? (ad406.add ((x5_1).toNat * 3)) = some (.int .i64 ((rd_T69 l1 x5_1).f0)) ∧ w'.cell? ⟨(ad406.add ((x5_1).toNat * 3)).block,(ad406.add ((x5_1).toNat * 3)).off + 1,none⟩ = some (.int .i64 ((rd_T69 l1 x5_1).f1)) ∧ w'.cell? ⟨(ad406.add ((x5_1).toNat * 3)).block,(ad406.add ((x5_1).toNat * 3)).off + 2,none⟩ = some (.string ((rd_T69 l1 x5_1).f2))) (ds:=[]) #[false,false,false,false,false,false,false,false,false,false] (by kernel_rfl) rfl rfl ⟨((HB.out.cell (wb_ w _ hw405_0)).trans hw405_0),((HB.out.cell (wb_ w _ hw405_1)).trans hw405_1),((HB.out.cell (wb_ w _ hw405_2)).trans hw405_2),((HB.out.cell (wb_ w _ hw406_0)).trans hw406_0),((HB.out.cell (wb_ w _ hw406_1)).trans hw406_1),((HB.out.cell (wb_ w _ hw406_2)).trans hw406_2)⟩ (fun hHeld => ?_);refine with_tabW laws_eqEntryS.tab6 laws_eqEntryS.bits6 (fun HT_ HW_ => ?_);generalize wr.drew = w9 at HB hx405_0 hx405_1 hx405_2 hx406_0 hx406_1 hx406_2 hHeld ⊢;refine pU_ 0 (some 17) ?_
        refine pU_ 1 (some 18) ?_
        refine pU_ 2 (some 19) ?_
        refine pU_ 4 (some 21) ?_
        refine pU_ 5 (some 22) ?_
        refine pU_ 6 (some 23) ?_
        refine tK_ 3 (some 20) hHeld ?_
        refine tK_ 7 (some 24) hHeld ?_
        refine oN_ 8 (some 25) (fun K hK => ?_);refine gs_ Try.func101 #[.agg #[.int .i64 ((rd_T69 l0 x5_1).f0),.int .i64 ((rd_T69 l0 x5_1).f1),.string ((rd_T69 l0 x5_1).f2)],.agg #[.int .i64 ((rd_T69 l1 x5_1).f0),.int .i64 ((rd_T69 l1 x5_1).f1),.string ((rd_T69 l1 x5_1).f2)]] ?_;with_reducible refine (laws_eqEntry.calls ((rd_T69 l0 x5_1).f0) ((rd_T69 l0 x5_1).f1) ((rd_T69 l0 x5_1).f2) ((rd_T69 l1 x5_1).f0) ((rd_T69 l1 x5_1).f1) ((rd_T69 l1 x5_1).f2) true _ A7.out).mono ?_;rintro e w10 ⟨rfl,hb⟩;refine ⟨_,rfl,?_⟩;replace HB:=bS_ HB hb
        (try clear hb)
        refine hK.out _ _ ⟨((HB.out.cell (wb_ w _ hw405_0)).trans hw405_0),((HB.out.cell (wb_ w _ hw405_1)).trans hw405_1),((HB.out.cell (wb_ w _ hw405_2)).trans hw405_2),((HB.out.cell (wb_ w _ hw406_0)).trans hw406_0),((HB.out.cell (wb_ w _ hw406_1)).trans hw406_1),((HB.out.cell (wb_ w _ hw406_2)).trans hw406_2)⟩ (fun hHeld => ?_);clear hK K;refine nX_ (some 25) ?_
        refine pU_ 9 (some 26) ?_
        refine done_ (done_of HT_.out (by kernel_rfl)) ?_
        try go_wp2
        go_roundg k1
        case measure => have:=HK1.out;omega
        case rel => exact ⟨(wrap64 (x5_1 + 1)),(by first|rfl|(simp;done)|(simp [*];done)),H',⟨by have:=HK1.out;omega⟩,⟨bq_ HB⟩⟩
       ·replace c8:=Bool.eq_false_iff.mpr c8;subst c8
        have H1 : (some false) = some r:=by rw [if_neg (show ¬ (false = true) by decide)] at H;exact H
        clear H;have H:=H1;clear H1;obtain rfl:=Option.some.inj H
        try go_wp2
        replace HB:=A_ (pd_ HB.out);have p405 : 0 ≤ (x5_1 : Int):=oda_;have q405 : x5_1 < (l0.length : Int):=oda_;obtain ⟨ad405,e405,hx405_0,hx405_1,hx405_2⟩:=at_T69 HR0.out x5_1 p405 q405;have hw405_2:=hx405_2;have hw405_1:=hx405_1;have hw405_0:=hx405_0
        cases e405
        replace hx405_0:=(HB.out.cell (wb_ w _ hx405_0)).trans hx405_0;replace hx405_1:=(HB.out.cell (wb_ w _ hx405_1)).trans hx405_1;replace hx405_2:=(HB.out.cell (wb_ w _ hx405_2)).trans hx405_2;replace p405:=eq_true p405;replace q405:=eq_true q405;have p406 : 0 ≤ (x5_1 : Int):=oda_;have q406 : x5_1 < (l1.length : Int):=oda_;obtain ⟨ad406,e406,hx406_0,hx406_1,hx406_2⟩:=at_T69 HR1.out x5_1 p406 q406;have hw406_2:=hx406_2;have hw406_1:=hx406_1;have hw406_0:=hx406_0
        cases e406
        replace hx406_0:=(HB.out.cell (wb_ w _ hx406_0)).trans hx406_0;replace hx406_1:=(HB.out.cell (wb_ w _ hx406_1)).trans hx406_1;replace hx406_2:=(HB.out.cell (wb_ w _ hx406_2)).trans hx406_2;replace p406:=eq_true p406;replace q406:=eq_true q406;refine start_ (n:=10) (S:=fun w' => w'.cell? (ad405.add ((x5_1).toNat * 3)) = some (.int .i64 ((rd_T69 l0 x5_1).f0)) ∧ w'.cell? ⟨(ad405.add ((x5_1).toNat * 3)).block,(ad405.add ((x5_1).toNat * 3)).off + 1,none⟩ = some (.int .i64 ((rd_T69 l0 x5_1).f1)) ∧ w'.cell? ⟨(ad405.add ((x5_1).toNat * 3)).block,(ad405.add ((x5_1).toNat * 3)).off + 2,none⟩ = some (.string ((rd_T69 l0 x5_1).f2)) ∧ w'.cell? (ad406.add ((x5_1).toNat * 3)) = some (.int .i64 ((rd_T69 l1 x5_1).f0)) ∧ w'.cell? ⟨(ad406.add ((x5_1).toNat * 3)).block,(ad406.add ((x5_1).toNat * 3)).off + 1,none⟩ = some (.int .i64 ((rd_T69 l1 x5_1).f1)) ∧ w'.cell? ⟨(ad406.add ((x5_1).toNat * 3)).block,(ad406.add ((x5_1).toNat * 3)).off + 2,none⟩ = some (.string ((rd_T69 l1 x5_1).f2))) (ds:=[]) #[false,false,false,false,false,false,false,false,false,false] (by kernel_rfl) rfl rfl ⟨((HB.out.cell (wb_ w _ hw405_0)).trans hw405_0),((HB.out.cell (wb_ w _ hw405_1)).trans hw405_1),((HB.out.cell (wb_ w _ hw405_2)).trans hw405_2),((HB.out.cell (wb_ w _ hw406_0)).trans hw406_0),((HB.out.cell (wb_ w _ hw406_1)).trans hw406_1),((HB.out.cell (wb_ w _ hw406_2)).trans hw406_2)⟩ (fun hHeld => ?_);refine with_tabW laws_eqEntryS.tab6 laws_eqEntryS.bits6 (fun HT_ HW_ => ?_);generalize wr.drew = w11 at HB hx405_0 hx405_1 hx405_2 hx406_0 hx406_1 hx406_2 hHeld ⊢;refine pU_ 0 (some 17) ?_
        refine pU_ 1 (some 18) ?_
        refine pU_ 2 (some 19) ?_
        refine pU_ 4 (some 21) ?_
        refine pU_ 5 (some 22) ?_
        refine pU_ 6 (some 23) ?_
        refine tK_ 3 (some 20) hHeld ?_
        refine tK_ 7 (some 24) hHeld ?_
        refine oN_ 8 (some 25) (fun K hK => ?_);refine gs_ Try.func101 #[.agg #[.int .i64 ((rd_T69 l0 x5_1).f0),.int .i64 ((rd_T69 l0 x5_1).f1),.string ((rd_T69 l0 x5_1).f2)],.agg #[.int .i64 ((rd_T69 l1 x5_1).f0),.int .i64 ((rd_T69 l1 x5_1).f1),.string ((rd_T69 l1 x5_1).f2)]] ?_;with_reducible refine (laws_eqEntry.calls ((rd_T69 l0 x5_1).f0) ((rd_T69 l0 x5_1).f1) ((rd_T69 l0 x5_1).f2) ((rd_T69 l1 x5_1).f0) ((rd_T69 l1 x5_1).f1) ((rd_T69 l1 x5_1).f2) false _ A7.out).mono ?_;rintro e w12 ⟨rfl,hb⟩;refine ⟨_,rfl,?_⟩;replace HB:=bS_ HB hb
        (try clear hb)
        refine hK.out _ _ ⟨((HB.out.cell (wb_ w _ hw405_0)).trans hw405_0),((HB.out.cell (wb_ w _ hw405_1)).trans hw405_1),((HB.out.cell (wb_ w _ hw405_2)).trans hw405_2),((HB.out.cell (wb_ w _ hw406_0)).trans hw406_0),((HB.out.cell (wb_ w _ hw406_1)).trans hw406_1),((HB.out.cell (wb_ w _ hw406_2)).trans hw406_2)⟩ (fun hHeld => ?_);clear hK K;refine nX_ (some 25) ?_
        refine pU_ 9 (some 26) ?_
        refine done_ (done_of HT_.out (by kernel_rfl)) ?_
        try go_wp2
        go_ret;exact ⟨ex_,bq_ HB⟩
      ·rw [if_neg c6] at H;exact absurd H (by simp)
     ·rw [if_neg c5] at H;exact absurd H (by simp)
    ·rw [if_neg c4] at H;have c4b0 : decide (x5_1 < (l0.length : Int)) = false:=decide_eq_false c4;clear c4;obtain rfl:=Option.some.inj H;go_wp2;go_ret;exact ⟨ex_,bq_ HB⟩
 ·rw [if_neg c3] at H;have c3b0 : ((l0.length : Int) == (l1.length : Int)) = false:=beq_eq_false_iff_ne.mpr c3;have c3b1 : ((l0.length : Int) != (l1.length : Int)) = true:=bne_iff_ne.mpr c3
  have c3b2 : (l0.length == l1.length) = false:=by first|simpa using c3|(simp at c3 ⊢;omega)
  obtain rfl:=Option.some.inj H;go_enter Try.func49,Try.ntmps49;go_wp2;go_ret;exact ⟨ex_,bq_ HB⟩
def laws_eqIntS.l0 : Nat → List Int → List Int → Int → Option (Bool)
 | 0,_,_,_ => none
 | k + 1,x0,x1,x5 => if x5 < (x0.length : Int) then (if 0 ≤ x5 then (if x5 < (x1.length : Int) then (if (rd x0 x5) = (rd x1 x5) then (laws_eqIntS.l0 k x0 x1 (wrap64 (x5 + 1))) else (some false)) else (none)) else (none)) else (some true)
def laws_eqIntS.f (k : Nat) (l0 : List Int) (l1 : List Int) : Option (Bool) := if (l0.length : Int) = (l1.length : Int) then (laws_eqIntS.l0 k l0 l1 0) else (some false)
theorem laws_eqIntS.mono_l : ∀ k, (∀ y0 y1 y2, LeO (laws_eqIntS.l0 k y0 y1 y2) (laws_eqIntS.l0 (k + 1) y0 y1 y2))
 | 0 => fun _ _ _ r h => by simp [laws_eqIntS.l0] at h
 | k + 1 => by
  have ih0:=laws_eqIntS.mono_l k
  ·intro y0 y1 y2
   unfold laws_eqIntS.l0
   repeat' first
   | (with_reducible exact ih0 _ _ _)
   | (with_reducible exact LeO.refl _)
   | (with_reducible exact LeO.none _)
   | (with_reducible refine LeO.ite ?_ ?_)
   | (with_reducible refine LeO.bind ?_ (fun _ => ?_))
theorem laws_eqIntS.mono : ∀ a0 a1 k, LeO (laws_eqIntS.f k a0 a1) (laws_eqIntS.f (k + 1) a0 a1) := by
 intro a0 a1 k;have ih0:=laws_eqIntS.mono_l k
 unfold laws_eqIntS.f
 repeat' first
   | (with_reducible exact ih0 _ _ _)
   | (with_reducible exact LeO.refl _)
   | (with_reducible exact LeO.none _)
   | (with_reducible refine LeO.ite ?_ ?_)
   | (with_reducible refine LeO.bind ?_ (fun _ => ?_))
set_option maxHeartbeats 8000000 in
set_option maxRecDepth 100000 in
theorem laws_eqIntS.calls (k : Nat) (A0 : Option Addr) (c0 : Nat) (l0 : List Int) (A1 : Option Addr) (c1 : Nat) (l1 : List Int) (r : Bool) (w : World) (hr0 : Kd.C (Kd.int .i64) w A0 l0.length l0) (hc0 : l0.length ≤ c0) (hr1 : Kd.C (Kd.int .i64) w A1 l1.length l1) (hc1 : l1.length ≤ c1) (h : laws_eqIntS.f k l0 l1 = some r) :
  Calls Try.prog 70 #[.slice A0 l0.length c0,.slice A1 l1.length c1] w fun e w' => e = .returned (.bool r) ∧ Drawn0 w w':=by
 have HR0:=A_ hr0;have HC0:=A_ hc0;clear hr0 hc0;have HR1:=A_ hr1;have HC1:=A_ hc1;clear hr1 hc1;unfold laws_eqIntS.f at h;have H:=h;clear h
 by_cases c3 : (l0.length : Int) = (l1.length : Int)
 ·rw [if_pos c3] at H;have c3b0 : ((l0.length : Int) == (l1.length : Int)) = true:=beq_iff_eq.mpr c3;have c3b1 : ((l0.length : Int) != (l1.length : Int)) = false:=bne_eq_false_iff_eq.mpr c3
  have c3b2 : (l0.length == l1.length) = true:=by first|simpa using c3|(simp at c3 ⊢;omega)
  clear c3;have H':=A_ H;clear H;go_enter Try.func70,Try.ntmps70;go_wp2
  repeat (go_quiet (fail);try go_wp2)
  go_loopg [5] k (fun kq v5 w' => ∃ (x5_1 : Int),v5 = .int .i64 x5_1 ∧ Aside0 (laws_eqIntS.l0 kq l0 l1 x5_1 = some r) ∧ Aside0 (kq ≤ k) ∧ Drawn0 w w')
  case atStart => exact ⟨(0),(by first|rfl|(simp;done)|(simp [*];done)),H',⟨Nat.le_refl _⟩,by repeat (first|exact Drawn0.refl _|apply Drawn0.step)⟩
  case round =>
   clear H'
   try clear c1
   try clear p2
   try clear c3
   try clear c3b0
   try clear c3b1
   try clear c3b2
   obtain ⟨x5_1,rfl,HA,HK1,⟨m1,rfl⟩⟩:=hrel
   cases gk with
   | zero => exact absurd HA.out (by simp [laws_eqIntS.l0])
   | succ k1 =>
    have H:=HA.out;clear HA;simp only [laws_eqIntS.l0] at H
    by_cases c4 : x5_1 < (l0.length : Int)
    ·rw [if_pos c4] at H;have c4b0 : decide (x5_1 < (l0.length : Int)) = true:=de_ c4;clear c4
     by_cases c5 : 0 ≤ x5_1
     ·rw [if_pos c5] at H;have c5b0 : decide (0 ≤ x5_1) = true:=de_ c5;clear c5
      by_cases c6 : x5_1 < (l1.length : Int)
      ·rw [if_pos c6] at H;have c6b0 : decide (x5_1 < (l1.length : Int)) = true:=de_ c6;clear c6
       by_cases c7 : (rd l0 x5_1) = (rd l1 x5_1)
       ·rw [if_pos c7] at H;have c7b0 : ((rd l0 x5_1) == (rd l1 x5_1)) = true:=beq_iff_eq.mpr c7;have c7b1 : ((rd l0 x5_1) != (rd l1 x5_1)) = false:=bne_eq_false_iff_eq.mpr c7;clear c7;have H':=A_ H;clear H;have p408 : 0 ≤ (x5_1 : Int):=oda_;have q408 : x5_1 < (l0.length : Int):=oda_;obtain ⟨ad408,e408,hx408_0⟩:=Kd.at_int HR0.out x5_1 p408 q408
        cases e408
        replace p408:=eq_true p408;replace q408:=eq_true q408;have p409 : 0 ≤ (x5_1 : Int):=oda_;have q409 : x5_1 < (l1.length : Int):=oda_;obtain ⟨ad409,e409,hx409_0⟩:=Kd.at_int HR1.out x5_1 p409 q409
        cases e409
        replace p409:=eq_true p409;replace q409:=eq_true q409;go_wp2
        repeat (go_quiet (fail);try go_wp2)
        go_roundg k1
        case measure => have:=HK1.out;omega
        case rel => exact ⟨(wrap64 (x5_1 + 1)),(by first|rfl|(simp;done)|(simp [*];done)),H',⟨by have:=HK1.out;omega⟩,by repeat (first|exact Drawn0.refl _|apply Drawn0.step)⟩
       ·rw [if_neg c7] at H;have c7b0 : ((rd l0 x5_1) == (rd l1 x5_1)) = false:=beq_eq_false_iff_ne.mpr c7;have c7b1 : ((rd l0 x5_1) != (rd l1 x5_1)) = true:=bne_iff_ne.mpr c7;obtain rfl:=Option.some.inj H;have p408 : 0 ≤ (x5_1 : Int):=oda_;have q408 : x5_1 < (l0.length : Int):=oda_;obtain ⟨ad408,e408,hx408_0⟩:=Kd.at_int HR0.out x5_1 p408 q408
        cases e408
        replace p408:=eq_true p408;replace q408:=eq_true q408;have p409 : 0 ≤ (x5_1 : Int):=oda_;have q409 : x5_1 < (l1.length : Int):=oda_;obtain ⟨ad409,e409,hx409_0⟩:=Kd.at_int HR1.out x5_1 p409 q409
        cases e409
        replace p409:=eq_true p409;replace q409:=eq_true q409;go_wp2
        repeat (go_quiet (fail);try go_wp2)
        go_ret;exact ⟨by first|rfl|(simp;done)|(simp [*];done),by repeat (first|exact Drawn0.refl _|apply Drawn0.step)⟩
      ·rw [if_neg c6] at H;exact absurd H (by simp)
     ·rw [if_neg c5] at H;exact absurd H (by simp)
    ·rw [if_neg c4] at H;have c4b0 : decide (x5_1 < (l0.length : Int)) = false:=decide_eq_false c4;clear c4;obtain rfl:=Option.some.inj H;go_wp2
     repeat (go_quiet (fail);try go_wp2)
     go_ret;exact ⟨by first|rfl|(simp;done)|(simp [*];done),by repeat (first|exact Drawn0.refl _|apply Drawn0.step)⟩
 ·rw [if_neg c3] at H;have c3b0 : ((l0.length : Int) == (l1.length : Int)) = false:=beq_eq_false_iff_ne.mpr c3;have c3b1 : ((l0.length : Int) != (l1.length : Int)) = true:=bne_iff_ne.mpr c3
  have c3b2 : (l0.length == l1.length) = false:=by first|simpa using c3|(simp at c3 ⊢;omega)
  obtain rfl:=Option.some.inj H;go_enter Try.func70,Try.ntmps70;go_wp2
  repeat (go_quiet (fail);try go_wp2)
  go_ret;exact ⟨by first|rfl|(simp;done)|(simp [*];done),by repeat (first|exact Drawn0.refl _|apply Drawn0.step)⟩
def laws_eqMessage.f (k : Nat) (a0_0 : Int) (a0_1 : Int) (a0_2 : Int) (a0_3 : Int) (a0_4 : Int) (a0_5 : Int) (a0_6 : Int) (a0_7 : Bool) (l0_8 : List (S69)) (l0_9 : List Int) (a0_10 : ByteArray) (a0_11 : Bool) (a1_0 : Int) (a1_1 : Int) (a1_2 : Int) (a1_3 : Int) (a1_4 : Int) (a1_5 : Int) (a1_6 : Int) (a1_7 : Bool) (l1_8 : List (S69)) (l1_9 : List Int) (a1_10 : ByteArray) (a1_11 : Bool) : Option (Bool) := if a0_0 = a1_0 then (if a0_1 = a1_1 then (if a0_2 = a1_2 then (if a0_3 = a1_3 then (if a0_4 = a1_4 then (if a0_5 = a1_5 then (if a0_6 = a1_6 then (if (a0_7 != a1_7) = true then (some false) else ((laws_eqEntryS.f k l0_8 l1_8).bind fun t412 => (if t412 = true then ((laws_eqIntS.f k l0_9 l1_9).bind fun t413 => (if t413 = true then (if a0_10.toList = a1_10.toList then (if (a0_11 != a1_11) = true then (some false) else (some true)) else (some false)) else (some false))) else (some false)))) else (some false)) else (some false)) else (some false)) else (some false)) else (some false)) else (some false)) else (some false)
theorem laws_eqMessage.mono : ∀ a0 a1 a2 a3 a4 a5 a6 a7 a8 a9 a10 a11 a12 a13 a14 a15 a16 a17 a18 a19 a20 a21 a22 a23 k, LeO (laws_eqMessage.f k a0 a1 a2 a3 a4 a5 a6 a7 a8 a9 a10 a11 a12 a13 a14 a15 a16 a17 a18 a19 a20 a21 a22 a23) (laws_eqMessage.f (k + 1) a0 a1 a2 a3 a4 a5 a6 a7 a8 a9 a10 a11 a12 a13 a14 a15 a16 a17 a18 a19 a20 a21 a22 a23) := by
 intro a0 a1 a2 a3 a4 a5 a6 a7 a8 a9 a10 a11 a12 a13 a14 a15 a16 a17 a18 a19 a20 a21 a22 a23 k
 unfold laws_eqMessage.f
 repeat' first
   | (with_reducible exact laws_eqEntryS.mono _ _ _)
   | (with_reducible exact laws_eqIntS.mono _ _ _)
   | (with_reducible exact LeO.refl _)
   | (with_reducible exact LeO.none _)
   | (with_reducible refine LeO.ite ?_ ?_)
   | (with_reducible refine LeO.bind ?_ (fun _ => ?_))
set_option maxHeartbeats 8000000 in
set_option maxRecDepth 100000 in
theorem laws_eqMessage.calls (k : Nat) (a0_0 : Int) (a0_1 : Int) (a0_2 : Int) (a0_3 : Int) (a0_4 : Int) (a0_5 : Int) (a0_6 : Int) (a0_7 : Bool) (A0_8 : Option Addr) (c0_8 : Nat) (l0_8 : List (S69)) (A0_9 : Option Addr) (c0_9 : Nat) (l0_9 : List Int) (a0_10 : ByteArray) (a0_11 : Bool) (a1_0 : Int) (a1_1 : Int) (a1_2 : Int) (a1_3 : Int) (a1_4 : Int) (a1_5 : Int) (a1_6 : Int) (a1_7 : Bool) (A1_8 : Option Addr) (c1_8 : Nat) (l1_8 : List (S69)) (A1_9 : Option Addr) (c1_9 : Nat) (l1_9 : List Int) (a1_10 : ByteArray) (a1_11 : Bool) (r : Bool) (w : World) (hr0_8 : Kd.C k69 w A0_8 l0_8.length l0_8) (hc0_8 : l0_8.length ≤ c0_8) (hr0_9 : Kd.C (Kd.int .i64) w A0_9 l0_9.length l0_9) (hc0_9 : l0_9.length ≤ c0_9) (hr1_8 : Kd.C k69 w A1_8 l1_8.length l1_8) (hc1_8 : l1_8.length ≤ c1_8) (hr1_9 : Kd.C (Kd.int .i64) w A1_9 l1_9.length l1_9) (hc1_9 : l1_9.length ≤ c1_9) (h : laws_eqMessage.f k a0_0 a0_1 a0_2 a0_3 a0_4 a0_5 a0_6 a0_7 l0_8 l0_9 a0_10 a0_11 a1_0 a1_1 a1_2 a1_3 a1_4 a1_5 a1_6 a1_7 l1_8 l1_9 a1_10 a1_11 = some r) :
  Calls Try.prog 23 #[.agg #[.int .i64 a0_0,.int .i64 a0_1,.int .i64 a0_2,.int .i64 a0_3,.int .i64 a0_4,.int .i64 a0_5,.int .i64 a0_6,.bool a0_7,.slice A0_8 l0_8.length c0_8,.slice A0_9 l0_9.length c0_9,.string a0_10,.bool a0_11],.agg #[.int .i64 a1_0,.int .i64 a1_1,.int .i64 a1_2,.int .i64 a1_3,.int .i64 a1_4,.int .i64 a1_5,.int .i64 a1_6,.bool a1_7,.slice A1_8 l1_8.length c1_8,.slice A1_9 l1_9.length c1_9,.string a1_10,.bool a1_11]] w fun e w' => e = .returned (.bool r) ∧ Below w.heap.size w w':=by
 have hu41:=Try.underlying41;have HR0_8:=A_ hr0_8;have HC0_8:=A_ hc0_8;clear hr0_8 hc0_8;have HR0_9:=A_ hr0_9;have HC0_9:=A_ hc0_9;clear hr0_9 hc0_9;have HR1_8:=A_ hr1_8;have HC1_8:=A_ hc1_8;clear hr1_8 hc1_8;have HR1_9:=A_ hr1_9;have HC1_9:=A_ hc1_9;clear hr1_9 hc1_9;have HB:=A_ (Below.refl w.heap.size w);unfold laws_eqMessage.f at h;have H:=h;clear h
 by_cases c3 : a0_0 = a1_0
 ·rw [if_pos c3] at H;have c3b0 : (a0_0 == a1_0) = true:=beq_iff_eq.mpr c3;have c3b1 : (a0_0 != a1_0) = false:=bne_eq_false_iff_eq.mpr c3;clear c3
  by_cases c4 : a0_1 = a1_1
  ·rw [if_pos c4] at H;have c4b0 : (a0_1 == a1_1) = true:=beq_iff_eq.mpr c4;have c4b1 : (a0_1 != a1_1) = false:=bne_eq_false_iff_eq.mpr c4;clear c4
   by_cases c5 : a0_2 = a1_2
   ·rw [if_pos c5] at H;have c5b0 : (a0_2 == a1_2) = true:=beq_iff_eq.mpr c5;have c5b1 : (a0_2 != a1_2) = false:=bne_eq_false_iff_eq.mpr c5;clear c5
    by_cases c6 : a0_3 = a1_3
    ·rw [if_pos c6] at H;have c6b0 : (a0_3 == a1_3) = true:=beq_iff_eq.mpr c6;have c6b1 : (a0_3 != a1_3) = false:=bne_eq_false_iff_eq.mpr c6;clear c6
     by_cases c7 : a0_4 = a1_4
     ·rw [if_pos c7] at H;have c7b0 : (a0_4 == a1_4) = true:=beq_iff_eq.mpr c7;have c7b1 : (a0_4 != a1_4) = false:=bne_eq_false_iff_eq.mpr c7;clear c7
      by_cases c8 : a0_5 = a1_5
      ·rw [if_pos c8] at H;have c8b0 : (a0_5 == a1_5) = true:=beq_iff_eq.mpr c8;have c8b1 : (a0_5 != a1_5) = false:=bne_eq_false_iff_eq.mpr c8;clear c8
       by_cases c9 : a0_6 = a1_6
       ·rw [if_pos c9] at H;have c9b0 : (a0_6 == a1_6) = true:=beq_iff_eq.mpr c9;have c9b1 : (a0_6 != a1_6) = false:=bne_eq_false_iff_eq.mpr c9;clear c9
        by_cases c10 : (a0_7 != a1_7) = true
        ·rw [if_pos c10] at H;have c10b0 : (a0_7 != a1_7) = true:=c10
         (try (have c10b1 : decide (a0_7 = a1_7) = false:=by simpa using c10))
         (try (have c10b2 : (a0_7 == a1_7) = false:=by simpa using c10))
         (try (have c10b3 : ¬ (a0_7 = a1_7):=by simpa using c10))
         clear c10;obtain rfl:=Option.some.inj H;go_enter Try.func23,Try.ntmps23
         go_wp2_with (first|((with_reducible refine gate_dst (N:=2) rfl ?_);refine bE_ 2 #[.int .i64 a0_0,.int .i64 a0_1,.int .i64 a0_2,.int .i64 a0_3,.int .i64 a0_4,.int .i64 a0_5,.int .i64 a0_6,.bool a0_7,.slice A0_8 l0_8.length c0_8,.slice A0_9 l0_9.length c0_9,.string a0_10,.bool a0_11] 41 ?_;intro gb410 hg w11 hbox hb;have BK410:=A_ (hbox);have GW410:=gE_ hg HB;have GE410:=gE_ hg HB;replace HB:=bS_ HB hb;clear hb hbox hg)|((with_reducible refine gate_dst (N:=3) rfl ?_);refine bE_ 3 #[.int .i64 a1_0,.int .i64 a1_1,.int .i64 a1_2,.int .i64 a1_3,.int .i64 a1_4,.int .i64 a1_5,.int .i64 a1_6,.bool a1_7,.slice A1_8 l1_8.length c1_8,.slice A1_9 l1_9.length c1_9,.string a1_10,.bool a1_11] 41 ?_;intro gb411 hg w12 hbox hb;have BK411:=A_ (hbox);have GW411:=gE_ hg HB;have GE411:=gE_ hg HB;replace HB:=bS_ HB hb;have NB410_411:=nB_ hg BK410;have NB411_410:=nC_ hg BK410;replace BK410:=kB_ BK410 hb;clear hb hbox hg;have hnb13:=NB410_411.out;have hnc13:=NB411_410.out;obtain ⟨hcz14_0,hcz14_1,hcz14_2,hcz14_3,hcz14_4,hcz14_5,hcz14_6,hcz14_7,hcz14_8,hcz14_9,hcz14_10,hcz14_11,hfz14_0,hfz14_1,hfz14_2,hfz14_3,hfz14_4,hfz14_5,hfz14_6,hfz14_7,hfz14_8,hfz14_9,hfz14_10,hfz14_11⟩:=k12f_ BK410;obtain ⟨hcz15_0,hcz15_1,hcz15_2,hcz15_3,hcz15_4,hcz15_5,hcz15_6,hcz15_7,hcz15_8,hcz15_9,hcz15_10,hcz15_11,hfz15_0,hfz15_1,hfz15_2,hfz15_3,hfz15_4,hfz15_5,hfz15_6,hfz15_7,hfz15_8,hfz15_9,hfz15_10,hfz15_11⟩:=k12f_ BK411))
         go_ret;exact ⟨ex_,bq_ HB⟩
        ·rw [if_neg c10] at H
         have c10b0 : (a0_7 != a1_7) = false:=by simpa using c10
         (try (have c10b1 : decide (a0_7 = a1_7) = true:=by simpa using c10))
         (try (have c10b2 : (a0_7 == a1_7) = true:=by simpa using c10))
         clear c10;replace H:=ob_.mp H;obtain ⟨t412,A160,H⟩:=H;(try dsimp only at H);have A16:=A_ A160;clear A160
         by_cases c17 : t412 = true
         ·subst c17
          rw [if_pos rfl] at H;replace H:=ob_.mp H;obtain ⟨t413,A180,H⟩:=H;(try dsimp only at H);have A18:=A_ A180;clear A180
          by_cases c19 : t413 = true
          ·subst c19
           rw [if_pos rfl] at H
           by_cases c20 : a0_10.toList = a1_10.toList
           ·rw [if_pos c20] at H;have c20b0 : (a0_10.toList == a1_10.toList) = true:=beq_iff_eq.mpr c20;have c20b1 : (a0_10.toList != a1_10.toList) = false:=bne_eq_false_iff_eq.mpr c20;clear c20
            by_cases c21 : (a0_11 != a1_11) = true
            ·rw [if_pos c21] at H;have c21b0 : (a0_11 != a1_11) = true:=c21
             (try (have c21b1 : decide (a0_11 = a1_11) = false:=by simpa using c21))
             (try (have c21b2 : (a0_11 == a1_11) = false:=by simpa using c21))
             (try (have c21b3 : ¬ (a0_11 = a1_11):=by simpa using c21))
             clear c21;obtain rfl:=Option.some.inj H;go_enter Try.func23,Try.ntmps23
             go_wp2_with (first|((with_reducible refine gate_dst (N:=2) rfl ?_);refine bE_ 2 #[.int .i64 a0_0,.int .i64 a0_1,.int .i64 a0_2,.int .i64 a0_3,.int .i64 a0_4,.int .i64 a0_5,.int .i64 a0_6,.bool a0_7,.slice A0_8 l0_8.length c0_8,.slice A0_9 l0_9.length c0_9,.string a0_10,.bool a0_11] 41 ?_;intro gb410 hg w22 hbox hb;have BK410:=A_ (hbox);have GW410:=gE_ hg HB;have GE410:=gE_ hg HB;replace HB:=bS_ HB hb;clear hb hbox hg)|((with_reducible refine gate_dst (N:=3) rfl ?_);refine bE_ 3 #[.int .i64 a1_0,.int .i64 a1_1,.int .i64 a1_2,.int .i64 a1_3,.int .i64 a1_4,.int .i64 a1_5,.int .i64 a1_6,.bool a1_7,.slice A1_8 l1_8.length c1_8,.slice A1_9 l1_9.length c1_9,.string a1_10,.bool a1_11] 41 ?_;intro gb411 hg w23 hbox hb;have BK411:=A_ (hbox);have GW411:=gE_ hg HB;have GE411:=gE_ hg HB;replace HB:=bS_ HB hb;have NB410_411:=nB_ hg BK410;have NB411_410:=nC_ hg BK410;replace BK410:=kB_ BK410 hb;clear hb hbox hg;have hnb24:=NB410_411.out;have hnc24:=NB411_410.out;obtain ⟨hcz25_0,hcz25_1,hcz25_2,hcz25_3,hcz25_4,hcz25_5,hcz25_6,hcz25_7,hcz25_8,hcz25_9,hcz25_10,hcz25_11,hfz25_0,hfz25_1,hfz25_2,hfz25_3,hfz25_4,hfz25_5,hfz25_6,hfz25_7,hfz25_8,hfz25_9,hfz25_10,hfz25_11⟩:=k12f_ BK410;obtain ⟨hcz26_0,hcz26_1,hcz26_2,hcz26_3,hcz26_4,hcz26_5,hcz26_6,hcz26_7,hcz26_8,hcz26_9,hcz26_10,hcz26_11,hfz26_0,hfz26_1,hfz26_2,hfz26_3,hfz26_4,hfz26_5,hfz26_6,hfz26_7,hfz26_8,hfz26_9,hfz26_10,hfz26_11⟩:=k12f_ BK411)|((with_reducible refine gate_callee (f:=49) rfl ?_);refine gL_ (some 49) Try.func49 #[.slice A0_8 l0_8.length c0_8,.slice A1_8 l1_8.length c1_8] ?_;(with_reducible refine (laws_eqEntryS.calls k _ _ l0_8 _ _ l1_8 true _ ?side1 ?side2 ?side3 ?side4 A16.out).mono ?_);(case side1 => repeat (first|exact (Kd.C_below HR0_8.out HB.out)|(with_reducible refine Kd.C_alloc ?_ _)|(with_reducible refine Kd.C_drewN ?_ _)|(with_reducible refine Kd.C_drew ?_)));(case side2 => exact HC0_8.out);(case side3 => repeat (first|exact (Kd.C_below HR1_8.out HB.out)|(with_reducible refine Kd.C_alloc ?_ _)|(with_reducible refine Kd.C_drewN ?_ _)|(with_reducible refine Kd.C_drew ?_)));(case side4 => exact HC1_8.out);rintro e w27 ⟨rfl,hb⟩;refine ⟨_,rfl,?_⟩;replace BK410:=kB_ BK410 hb;replace BK411:=kB_ BK411 hb;replace HB:=bS_ HB hb;(try clear hb);obtain ⟨hcz28_0,hcz28_1,hcz28_2,hcz28_3,hcz28_4,hcz28_5,hcz28_6,hcz28_7,hcz28_8,hcz28_9,hcz28_10,hcz28_11,hfz28_0,hfz28_1,hfz28_2,hfz28_3,hfz28_4,hfz28_5,hfz28_6,hfz28_7,hfz28_8,hfz28_9,hfz28_10,hfz28_11⟩:=k12f_ BK410;obtain ⟨hcz29_0,hcz29_1,hcz29_2,hcz29_3,hcz29_4,hcz29_5,hcz29_6,hcz29_7,hcz29_8,hcz29_9,hcz29_10,hcz29_11,hfz29_0,hfz29_1,hfz29_2,hfz29_3,hfz29_4,hfz29_5,hfz29_6,hfz29_7,hfz29_8,hfz29_9,hfz29_10,hfz29_11⟩:=k12f_ BK411)|((with_reducible refine gate_callee (f:=70) rfl ?_);refine gL_ (some 55) Try.func70 #[.slice A0_9 l0_9.length c0_9,.slice A1_9 l1_9.length c1_9] ?_;(with_reducible refine (laws_eqIntS.calls k _ _ l0_9 _ _ l1_9 true _ ?side1 ?side2 ?side3 ?side4 A18.out).mono ?_);(case side1 => repeat (first|exact (Kd.C_below HR0_9.out HB.out)|(with_reducible refine Kd.C_alloc ?_ _)|(with_reducible refine Kd.C_drewN ?_ _)|(with_reducible refine Kd.C_drew ?_)));(case side2 => exact HC0_9.out);(case side3 => repeat (first|exact (Kd.C_below HR1_9.out HB.out)|(with_reducible refine Kd.C_alloc ?_ _)|(with_reducible refine Kd.C_drewN ?_ _)|(with_reducible refine Kd.C_drew ?_)));(case side4 => exact HC1_9.out);rintro e w' ⟨rfl,⟨nd,rfl⟩⟩;refine ⟨_,rfl,?_⟩))
             go_ret;exact ⟨ex_,bq_ HB⟩
            ·rw [if_neg c21] at H
             have c21b0 : (a0_11 != a1_11) = false:=by simpa using c21
             (try (have c21b1 : decide (a0_11 = a1_11) = true:=by simpa using c21))
             (try (have c21b2 : (a0_11 == a1_11) = true:=by simpa using c21))
             clear c21;obtain rfl:=Option.some.inj H;go_enter Try.func23,Try.ntmps23
             go_wp2_with (first|((with_reducible refine gate_dst (N:=2) rfl ?_);refine bE_ 2 #[.int .i64 a0_0,.int .i64 a0_1,.int .i64 a0_2,.int .i64 a0_3,.int .i64 a0_4,.int .i64 a0_5,.int .i64 a0_6,.bool a0_7,.slice A0_8 l0_8.length c0_8,.slice A0_9 l0_9.length c0_9,.string a0_10,.bool a0_11] 41 ?_;intro gb410 hg w30 hbox hb;have BK410:=A_ (hbox);have GW410:=gE_ hg HB;have GE410:=gE_ hg HB;replace HB:=bS_ HB hb;clear hb hbox hg)|((with_reducible refine gate_dst (N:=3) rfl ?_);refine bE_ 3 #[.int .i64 a1_0,.int .i64 a1_1,.int .i64 a1_2,.int .i64 a1_3,.int .i64 a1_4,.int .i64 a1_5,.int .i64 a1_6,.bool a1_7,.slice A1_8 l1_8.length c1_8,.slice A1_9 l1_9.length c1_9,.string a1_10,.bool a1_11] 41 ?_;intro gb411 hg w31 hbox hb;have BK411:=A_ (hbox);have GW411:=gE_ hg HB;have GE411:=gE_ hg HB;replace HB:=bS_ HB hb;have NB410_411:=nB_ hg BK410;have NB411_410:=nC_ hg BK410;replace BK410:=kB_ BK410 hb;clear hb hbox hg;have hnb32:=NB410_411.out;have hnc32:=NB411_410.out;obtain ⟨hcz33_0,hcz33_1,hcz33_2,hcz33_3,hcz33_4,hcz33_5,hcz33_6,hcz33_7,hcz33_8,hcz33_9,hcz33_10,hcz33_11,hfz33_0,hfz33_1,hfz33_2,hfz33_3,hfz33_4,hfz33_5,hfz33_6,hfz33_7,hfz33_8,hfz33_9,hfz33_10,hfz33_11⟩:=k12f_ BK410;obtain ⟨hcz34_0,hcz34_1,hcz34_2,hcz34_3,hcz34_4,hcz34_5,hcz34_6,hcz34_7,hcz34_8,hcz34_9,hcz34_10,hcz34_11,hfz34_0,hfz34_1,hfz34_2,hfz34_3,hfz34_4,hfz34_5,hfz34_6,hfz34_7,hfz34_8,hfz34_9,hfz34_10,hfz34_11⟩:=k12f_ BK411)|((with_reducible refine gate_callee (f:=49) rfl ?_);refine gL_ (some 49) Try.func49 #[.slice A0_8 l0_8.length c0_8,.slice A1_8 l1_8.length c1_8] ?_;(with_reducible refine (laws_eqEntryS.calls k _ _ l0_8 _ _ l1_8 true _ ?side1 ?side2 ?side3 ?side4 A16.out).mono ?_);(case side1 => repeat (first|exact (Kd.C_below HR0_8.out HB.out)|(with_reducible refine Kd.C_alloc ?_ _)|(with_reducible refine Kd.C_drewN ?_ _)|(with_reducible refine Kd.C_drew ?_)));(case side2 => exact HC0_8.out);(case side3 => repeat (first|exact (Kd.C_below HR1_8.out HB.out)|(with_reducible refine Kd.C_alloc ?_ _)|(with_reducible refine Kd.C_drewN ?_ _)|(with_reducible refine Kd.C_drew ?_)));(case side4 => exact HC1_8.out);rintro e w35 ⟨rfl,hb⟩;refine ⟨_,rfl,?_⟩;replace BK410:=kB_ BK410 hb;replace BK411:=kB_ BK411 hb;replace HB:=bS_ HB hb;(try clear hb);obtain ⟨hcz36_0,hcz36_1,hcz36_2,hcz36_3,hcz36_4,hcz36_5,hcz36_6,hcz36_7,hcz36_8,hcz36_9,hcz36_10,hcz36_11,hfz36_0,hfz36_1,hfz36_2,hfz36_3,hfz36_4,hfz36_5,hfz36_6,hfz36_7,hfz36_8,hfz36_9,hfz36_10,hfz36_11⟩:=k12f_ BK410;obtain ⟨hcz37_0,hcz37_1,hcz37_2,hcz37_3,hcz37_4,hcz37_5,hcz37_6,hcz37_7,hcz37_8,hcz37_9,hcz37_10,hcz37_11,hfz37_0,hfz37_1,hfz37_2,hfz37_3,hfz37_4,hfz37_5,hfz37_6,hfz37_7,hfz37_8,hfz37_9,hfz37_10,hfz37_11⟩:=k12f_ BK411)|((with_reducible refine gate_callee (f:=70) rfl ?_);refine gL_ (some 55) Try.func70 #[.slice A0_9 l0_9.length c0_9,.slice A1_9 l1_9.length c1_9] ?_;(with_reducible refine (laws_eqIntS.calls k _ _ l0_9 _ _ l1_9 true _ ?side1 ?side2 ?side3 ?side4 A18.out).mono ?_);(case side1 => repeat (first|exact (Kd.C_below HR0_9.out HB.out)|(with_reducible refine Kd.C_alloc ?_ _)|(with_reducible refine Kd.C_drewN ?_ _)|(with_reducible refine Kd.C_drew ?_)));(case side2 => exact HC0_9.out);(case side3 => repeat (first|exact (Kd.C_below HR1_9.out HB.out)|(with_reducible refine Kd.C_alloc ?_ _)|(with_reducible refine Kd.C_drewN ?_ _)|(with_reducible refine Kd.C_drew ?_)));(case side4 => exact HC1_9.out);rintro e w' ⟨rfl,⟨nd,rfl⟩⟩;refine ⟨_,rfl,?_⟩))
             go_ret;exact ⟨ex_,bq_ HB⟩
           ·rw [if_neg c20] at H;have c20b0 : (a0_10.toList == a1_10.toList) = false:=beq_eq_false_iff_ne.mpr c20;have c20b1 : (a0_10.toList != a1_10.toList) = true:=bne_iff_ne.mpr c20;obtain rfl:=Option.some.inj H;go_enter Try.func23,Try.ntmps23
            go_wp2_with (first|((with_reducible refine gate_dst (N:=2) rfl ?_);refine bE_ 2 #[.int .i64 a0_0,.int .i64 a0_1,.int .i64 a0_2,.int .i64 a0_3,.int .i64 a0_4,.int .i64 a0_5,.int .i64 a0_6,.bool a0_7,.slice A0_8 l0_8.length c0_8,.slice A0_9 l0_9.length c0_9,.string a0_10,.bool a0_11] 41 ?_;intro gb410 hg w38 hbox hb;have BK410:=A_ (hbox);have GW410:=gE_ hg HB;have GE410:=gE_ hg HB;replace HB:=bS_ HB hb;clear hb hbox hg)|((with_reducible refine gate_dst (N:=3) rfl ?_);refine bE_ 3 #[.int .i64 a1_0,.int .i64 a1_1,.int .i64 a1_2,.int .i64 a1_3,.int .i64 a1_4,.int .i64 a1_5,.int .i64 a1_6,.bool a1_7,.slice A1_8 l1_8.length c1_8,.slice A1_9 l1_9.length c1_9,.string a1_10,.bool a1_11] 41 ?_;intro gb411 hg w39 hbox hb;have BK411:=A_ (hbox);have GW411:=gE_ hg HB;have GE411:=gE_ hg HB;replace HB:=bS_ HB hb;have NB410_411:=nB_ hg BK410;have NB411_410:=nC_ hg BK410;replace BK410:=kB_ BK410 hb;clear hb hbox hg;have hnb40:=NB410_411.out;have hnc40:=NB411_410.out;obtain ⟨hcz41_0,hcz41_1,hcz41_2,hcz41_3,hcz41_4,hcz41_5,hcz41_6,hcz41_7,hcz41_8,hcz41_9,hcz41_10,hcz41_11,hfz41_0,hfz41_1,hfz41_2,hfz41_3,hfz41_4,hfz41_5,hfz41_6,hfz41_7,hfz41_8,hfz41_9,hfz41_10,hfz41_11⟩:=k12f_ BK410;obtain ⟨hcz42_0,hcz42_1,hcz42_2,hcz42_3,hcz42_4,hcz42_5,hcz42_6,hcz42_7,hcz42_8,hcz42_9,hcz42_10,hcz42_11,hfz42_0,hfz42_1,hfz42_2,hfz42_3,hfz42_4,hfz42_5,hfz42_6,hfz42_7,hfz42_8,hfz42_9,hfz42_10,hfz42_11⟩:=k12f_ BK411)|((with_reducible refine gate_callee (f:=49) rfl ?_);refine gL_ (some 49) Try.func49 #[.slice A0_8 l0_8.length c0_8,.slice A1_8 l1_8.length c1_8] ?_;(with_reducible refine (laws_eqEntryS.calls k _ _ l0_8 _ _ l1_8 true _ ?side1 ?side2 ?side3 ?side4 A16.out).mono ?_);(case side1 => repeat (first|exact (Kd.C_below HR0_8.out HB.out)|(with_reducible refine Kd.C_alloc ?_ _)|(with_reducible refine Kd.C_drewN ?_ _)|(with_reducible refine Kd.C_drew ?_)));(case side2 => exact HC0_8.out);(case side3 => repeat (first|exact (Kd.C_below HR1_8.out HB.out)|(with_reducible refine Kd.C_alloc ?_ _)|(with_reducible refine Kd.C_drewN ?_ _)|(with_reducible refine Kd.C_drew ?_)));(case side4 => exact HC1_8.out);rintro e w43 ⟨rfl,hb⟩;refine ⟨_,rfl,?_⟩;replace BK410:=kB_ BK410 hb;replace BK411:=kB_ BK411 hb;replace HB:=bS_ HB hb;(try clear hb);obtain ⟨hcz44_0,hcz44_1,hcz44_2,hcz44_3,hcz44_4,hcz44_5,hcz44_6,hcz44_7,hcz44_8,hcz44_9,hcz44_10,hcz44_11,hfz44_0,hfz44_1,hfz44_2,hfz44_3,hfz44_4,hfz44_5,hfz44_6,hfz44_7,hfz44_8,hfz44_9,hfz44_10,hfz44_11⟩:=k12f_ BK410;obtain ⟨hcz45_0,hcz45_1,hcz45_2,hcz45_3,hcz45_4,hcz45_5,hcz45_6,hcz45_7,hcz45_8,hcz45_9,hcz45_10,hcz45_11,hfz45_0,hfz45_1,hfz45_2,hfz45_3,hfz45_4,hfz45_5,hfz45_6,hfz45_7,hfz45_8,hfz45_9,hfz45_10,hfz45_11⟩:=k12f_ BK411)|((with_reducible refine gate_callee (f:=70) rfl ?_);refine gL_ (some 55) Try.func70 #[.slice A0_9 l0_9.length c0_9,.slice A1_9 l1_9.length c1_9] ?_;(with_reducible refine (laws_eqIntS.calls k _ _ l0_9 _ _ l1_9 true _ ?side1 ?side2 ?side3 ?side4 A18.out).mono ?_);(case side1 => repeat (first|exact (Kd.C_below HR0_9.out HB.out)|(with_reducible refine Kd.C_alloc ?_ _)|(with_reducible refine Kd.C_drewN ?_ _)|(with_reducible refine Kd.C_drew ?_)));(case side2 => exact HC0_9.out);(case side3 => repeat (first|exact (Kd.C_below HR1_9.out HB.out)|(with_reducible refine Kd.C_alloc ?_ _)|(with_reducible refine Kd.C_drewN ?_ _)|(with_reducible refine Kd.C_drew ?_)));(case side4 => exact HC1_9.out);rintro e w' ⟨rfl,⟨nd,rfl⟩⟩;refine ⟨_,rfl,?_⟩))
            go_ret;exact ⟨ex_,bq_ HB⟩
          ·replace c19:=Bool.eq_false_iff.mpr c19;subst c19
           have H1 : (some false) = some r:=by rw [if_neg (show ¬ (false = true) by decide)] at H;exact H
           clear H;have H:=H1;clear H1;obtain rfl:=Option.some.inj H;go_enter Try.func23,Try.ntmps23
           go_wp2_with (first|((with_reducible refine gate_dst (N:=2) rfl ?_);refine bE_ 2 #[.int .i64 a0_0,.int .i64 a0_1,.int .i64 a0_2,.int .i64 a0_3,.int .i64 a0_4,.int .i64 a0_5,.int .i64 a0_6,.bool a0_7,.slice A0_8 l0_8.length c0_8,.slice A0_9 l0_9.length c0_9,.string a0_10,.bool a0_11] 41 ?_;intro gb410 hg w46 hbox hb;have BK410:=A_ (hbox);have GW410:=gE_ hg HB;have GE410:=gE_ hg HB;replace HB:=bS_ HB hb;clear hb hbox hg)|((with_reducible refine gate_dst (N:=3) rfl ?_);refine bE_ 3 #[.int .i64 a1_0,.int .i64 a1_1,.int .i64 a1_2,.int .i64 a1_3,.int .i64 a1_4,.int .i64 a1_5,.int .i64 a1_6,.bool a1_7,.slice A1_8 l1_8.length c1_8,.slice A1_9 l1_9.length c1_9,.string a1_10,.bool a1_11] 41 ?_;intro gb411 hg w47 hbox hb;have BK411:=A_ (hbox);have GW411:=gE_ hg HB;have GE411:=gE_ hg HB;replace HB:=bS_ HB hb;have NB410_411:=nB_ hg BK410;have NB411_410:=nC_ hg BK410;replace BK410:=kB_ BK410 hb;clear hb hbox hg;have hnb48:=NB410_411.out;have hnc48:=NB411_410.out;obtain ⟨hcz49_0,hcz49_1,hcz49_2,hcz49_3,hcz49_4,hcz49_5,hcz49_6,hcz49_7,hcz49_8,hcz49_9,hcz49_10,hcz49_11,hfz49_0,hfz49_1,hfz49_2,hfz49_3,hfz49_4,hfz49_5,hfz49_6,hfz49_7,hfz49_8,hfz49_9,hfz49_10,hfz49_11⟩:=k12f_ BK410;obtain ⟨hcz50_0,hcz50_1,hcz50_2,hcz50_3,hcz50_4,hcz50_5,hcz50_6,hcz50_7,hcz50_8,hcz50_9,hcz50_10,hcz50_11,hfz50_0,hfz50_1,hfz50_2,hfz50_3,hfz50_4,hfz50_5,hfz50_6,hfz50_7,hfz50_8,hfz50_9,hfz50_10,hfz50_11⟩:=k12f_ BK411)|((with_reducible refine gate_callee (f:=49) rfl ?_);refine gL_ (some 49) Try.func49 #[.slice A0_8 l0_8.length c0_8,.slice A1_8 l1_8.length c1_8] ?_;(with_reducible refine (laws_eqEntryS.calls k _ _ l0_8 _ _ l1_8 true _ ?side1 ?side2 ?side3 ?side4 A16.out).mono ?_);(case side1 => repeat (first|exact (Kd.C_below HR0_8.out HB.out)|(with_reducible refine Kd.C_alloc ?_ _)|(with_reducible refine Kd.C_drewN ?_ _)|(with_reducible refine Kd.C_drew ?_)));(case side2 => exact HC0_8.out);(case side3 => repeat (first|exact (Kd.C_below HR1_8.out HB.out)|(with_reducible refine Kd.C_alloc ?_ _)|(with_reducible refine Kd.C_drewN ?_ _)|(with_reducible refine Kd.C_drew ?_)));(case side4 => exact HC1_8.out);rintro e w51 ⟨rfl,hb⟩;refine ⟨_,rfl,?_⟩;replace BK410:=kB_ BK410 hb;replace BK411:=kB_ BK411 hb;replace HB:=bS_ HB hb;(try clear hb);obtain ⟨hcz52_0,hcz52_1,hcz52_2,hcz52_3,hcz52_4,hcz52_5,hcz52_6,hcz52_7,hcz52_8,hcz52_9,hcz52_10,hcz52_11,hfz52_0,hfz52_1,hfz52_2,hfz52_3,hfz52_4,hfz52_5,hfz52_6,hfz52_7,hfz52_8,hfz52_9,hfz52_10,hfz52_11⟩:=k12f_ BK410;obtain ⟨hcz53_0,hcz53_1,hcz53_2,hcz53_3,hcz53_4,hcz53_5,hcz53_6,hcz53_7,hcz53_8,hcz53_9,hcz53_10,hcz53_11,hfz53_0,hfz53_1,hfz53_2,hfz53_3,hfz53_4,hfz53_5,hfz53_6,hfz53_7,hfz53_8,hfz53_9,hfz53_10,hfz53_11⟩:=k12f_ BK411)|((with_reducible refine gate_callee (f:=70) rfl ?_);refine gL_ (some 55) Try.func70 #[.slice A0_9 l0_9.length c0_9,.slice A1_9 l1_9.length c1_9] ?_;(with_reducible refine (laws_eqIntS.calls k _ _ l0_9 _ _ l1_9 false _ ?side1 ?side2 ?side3 ?side4 A18.out).mono ?_);(case side1 => repeat (first|exact (Kd.C_below HR0_9.out HB.out)|(with_reducible refine Kd.C_alloc ?_ _)|(with_reducible refine Kd.C_drewN ?_ _)|(with_reducible refine Kd.C_drew ?_)));(case side2 => exact HC0_9.out);(case side3 => repeat (first|exact (Kd.C_below HR1_9.out HB.out)|(with_reducible refine Kd.C_alloc ?_ _)|(with_reducible refine Kd.C_drewN ?_ _)|(with_reducible refine Kd.C_drew ?_)));(case side4 => exact HC1_9.out);rintro e w' ⟨rfl,⟨nd,rfl⟩⟩;refine ⟨_,rfl,?_⟩))
           go_ret;exact ⟨ex_,bq_ HB⟩
         ·replace c17:=Bool.eq_false_iff.mpr c17;subst c17
          have H1 : (some false) = some r:=by rw [if_neg (show ¬ (false = true) by decide)] at H;exact H
          clear H;have H:=H1;clear H1;obtain rfl:=Option.some.inj H;go_enter Try.func23,Try.ntmps23
          go_wp2_with (first|((with_reducible refine gate_dst (N:=2) rfl ?_);refine bE_ 2 #[.int .i64 a0_0,.int .i64 a0_1,.int .i64 a0_2,.int .i64 a0_3,.int .i64 a0_4,.int .i64 a0_5,.int .i64 a0_6,.bool a0_7,.slice A0_8 l0_8.length c0_8,.slice A0_9 l0_9.length c0_9,.string a0_10,.bool a0_11] 41 ?_;intro gb410 hg w54 hbox hb;have BK410:=A_ (hbox);have GW410:=gE_ hg HB;have GE410:=gE_ hg HB;replace HB:=bS_ HB hb;clear hb hbox hg)|((with_reducible refine gate_dst (N:=3) rfl ?_);refine bE_ 3 #[.int .i64 a1_0,.int .i64 a1_1,.int .i64 a1_2,.int .i64 a1_3,.int .i64 a1_4,.int .i64 a1_5,.int .i64 a1_6,.bool a1_7,.slice A1_8 l1_8.length c1_8,.slice A1_9 l1_9.length c1_9,.string a1_10,.bool a1_11] 41 ?_;intro gb411 hg w55 hbox hb;have BK411:=A_ (hbox);have GW411:=gE_ hg HB;have GE411:=gE_ hg HB;replace HB:=bS_ HB hb;have NB410_411:=nB_ hg BK410;have NB411_410:=nC_ hg BK410;replace BK410:=kB_ BK410 hb;clear hb hbox hg;have hnb56:=NB410_411.out;have hnc56:=NB411_410.out;obtain ⟨hcz57_0,hcz57_1,hcz57_2,hcz57_3,hcz57_4,hcz57_5,hcz57_6,hcz57_7,hcz57_8,hcz57_9,hcz57_10,hcz57_11,hfz57_0,hfz57_1,hfz57_2,hfz57_3,hfz57_4,hfz57_5,hfz57_6,hfz57_7,hfz57_8,hfz57_9,hfz57_10,hfz57_11⟩:=k12f_ BK410;obtain ⟨hcz58_0,hcz58_1,hcz58_2,hcz58_3,hcz58_4,hcz58_5,hcz58_6,hcz58_7,hcz58_8,hcz58_9,hcz58_10,hcz58_11,hfz58_0,hfz58_1,hfz58_2,hfz58_3,hfz58_4,hfz58_5,hfz58_6,hfz58_7,hfz58_8,hfz58_9,hfz58_10,hfz58_11⟩:=k12f_ BK411)|((with_reducible refine gate_callee (f:=49) rfl ?_);refine gL_ (some 49) Try.func49 #[.slice A0_8 l0_8.length c0_8,.slice A1_8 l1_8.length c1_8] ?_;(with_reducible refine (laws_eqEntryS.calls k _ _ l0_8 _ _ l1_8 false _ ?side1 ?side2 ?side3 ?side4 A16.out).mono ?_);(case side1 => repeat (first|exact (Kd.C_below HR0_8.out HB.out)|(with_reducible refine Kd.C_alloc ?_ _)|(with_reducible refine Kd.C_drewN ?_ _)|(with_reducible refine Kd.C_drew ?_)));(case side2 => exact HC0_8.out);(case side3 => repeat (first|exact (Kd.C_below HR1_8.out HB.out)|(with_reducible refine Kd.C_alloc ?_ _)|(with_reducible refine Kd.C_drewN ?_ _)|(with_reducible refine Kd.C_drew ?_)));(case side4 => exact HC1_8.out);rintro e w59 ⟨rfl,hb⟩;refine ⟨_,rfl,?_⟩;replace BK410:=kB_ BK410 hb;replace BK411:=kB_ BK411 hb;replace HB:=bS_ HB hb;(try clear hb)))
          go_ret;exact ⟨ex_,bq_ HB⟩
       ·rw [if_neg c9] at H;have c9b0 : (a0_6 == a1_6) = false:=beq_eq_false_iff_ne.mpr c9;have c9b1 : (a0_6 != a1_6) = true:=bne_iff_ne.mpr c9;obtain rfl:=Option.some.inj H;go_enter Try.func23,Try.ntmps23
        go_wp2_with (first|((with_reducible refine gate_dst (N:=2) rfl ?_);refine bE_ 2 #[.int .i64 a0_0,.int .i64 a0_1,.int .i64 a0_2,.int .i64 a0_3,.int .i64 a0_4,.int .i64 a0_5,.int .i64 a0_6,.bool a0_7,.slice A0_8 l0_8.length c0_8,.slice A0_9 l0_9.length c0_9,.string a0_10,.bool a0_11] 41 ?_;intro gb410 hg w60 hbox hb;have BK410:=A_ (hbox);have GW410:=gE_ hg HB;have GE410:=gE_ hg HB;replace HB:=bS_ HB hb;clear hb hbox hg)|((with_reducible refine gate_dst (N:=3) rfl ?_);refine bE_ 3 #[.int .i64 a1_0,.int .i64 a1_1,.int .i64 a1_2,.int .i64 a1_3,.int .i64 a1_4,.int .i64 a1_5,.int .i64 a1_6,.bool a1_7,.slice A1_8 l1_8.length c1_8,.slice A1_9 l1_9.length c1_9,.string a1_10,.bool a1_11] 41 ?_;intro gb411 hg w61 hbox hb;have BK411:=A_ (hbox);have GW411:=gE_ hg HB;have GE411:=gE_ hg HB;replace HB:=bS_ HB hb;have NB410_411:=nB_ hg BK410;have NB411_410:=nC_ hg BK410;replace BK410:=kB_ BK410 hb;clear hb hbox hg;have hnb62:=NB410_411.out;have hnc62:=NB411_410.out;obtain ⟨hcz63_0,hcz63_1,hcz63_2,hcz63_3,hcz63_4,hcz63_5,hcz63_6,hcz63_7,hcz63_8,hcz63_9,hcz63_10,hcz63_11,hfz63_0,hfz63_1,hfz63_2,hfz63_3,hfz63_4,hfz63_5,hfz63_6,hfz63_7,hfz63_8,hfz63_9,hfz63_10,hfz63_11⟩:=k12f_ BK410;obtain ⟨hcz64_0,hcz64_1,hcz64_2,hcz64_3,hcz64_4,hcz64_5,hcz64_6,hcz64_7,hcz64_8,hcz64_9,hcz64_10,hcz64_11,hfz64_0,hfz64_1,hfz64_2,hfz64_3,hfz64_4,hfz64_5,hfz64_6,hfz64_7,hfz64_8,hfz64_9,hfz64_10,hfz64_11⟩:=k12f_ BK411))
        go_ret;exact ⟨ex_,bq_ HB⟩
      ·rw [if_neg c8] at H;have c8b0 : (a0_5 == a1_5) = false:=beq_eq_false_iff_ne.mpr c8;have c8b1 : (a0_5 != a1_5) = true:=bne_iff_ne.mpr c8;obtain rfl:=Option.some.inj H;go_enter Try.func23,Try.ntmps23
       go_wp2_with (first|((with_reducible refine gate_dst (N:=2) rfl ?_);refine bE_ 2 #[.int .i64 a0_0,.int .i64 a0_1,.int .i64 a0_2,.int .i64 a0_3,.int .i64 a0_4,.int .i64 a0_5,.int .i64 a0_6,.bool a0_7,.slice A0_8 l0_8.length c0_8,.slice A0_9 l0_9.length c0_9,.string a0_10,.bool a0_11] 41 ?_;intro gb410 hg w65 hbox hb;have BK410:=A_ (hbox);have GW410:=gE_ hg HB;have GE410:=gE_ hg HB;replace HB:=bS_ HB hb;clear hb hbox hg)|((with_reducible refine gate_dst (N:=3) rfl ?_);refine bE_ 3 #[.int .i64 a1_0,.int .i64 a1_1,.int .i64 a1_2,.int .i64 a1_3,.int .i64 a1_4,.int .i64 a1_5,.int .i64 a1_6,.bool a1_7,.slice A1_8 l1_8.length c1_8,.slice A1_9 l1_9.length c1_9,.string a1_10,.bool a1_11] 41 ?_;intro gb411 hg w66 hbox hb;have BK411:=A_ (hbox);have GW411:=gE_ hg HB;have GE411:=gE_ hg HB;replace HB:=bS_ HB hb;have NB410_411:=nB_ hg BK410;have NB411_410:=nC_ hg BK410;replace BK410:=kB_ BK410 hb;clear hb hbox hg;have hnb67:=NB410_411.out;have hnc67:=NB411_410.out;obtain ⟨hcz68_0,hcz68_1,hcz68_2,hcz68_3,hcz68_4,hcz68_5,hcz68_6,hcz68_7,hcz68_8,hcz68_9,hcz68_10,hcz68_11,hfz68_0,hfz68_1,hfz68_2,hfz68_3,hfz68_4,hfz68_5,hfz68_6,hfz68_7,hfz68_8,hfz68_9,hfz68_10,hfz68_11⟩:=k12f_ BK410;obtain ⟨hcz69_0,hcz69_1,hcz69_2,hcz69_3,hcz69_4,hcz69_5,hcz69_6,hcz69_7,hcz69_8,hcz69_9,hcz69_10,hcz69_11,hfz69_0,hfz69_1,hfz69_2,hfz69_3,hfz69_4,hfz69_5,hfz69_6,hfz69_7,hfz69_8,hfz69_9,hfz69_10,hfz69_11⟩:=k12f_ BK411))
       go_ret;exact ⟨ex_,bq_ HB⟩
     ·rw [if_neg c7] at H;have c7b0 : (a0_4 == a1_4) = false:=beq_eq_false_iff_ne.mpr c7;have c7b1 : (a0_4 != a1_4) = true:=bne_iff_ne.mpr c7;obtain rfl:=Option.some.inj H;go_enter Try.func23,Try.ntmps23
      go_wp2_with (first|((with_reducible refine gate_dst (N:=2) rfl ?_);refine bE_ 2 #[.int .i64 a0_0,.int .i64 a0_1,.int .i64 a0_2,.int .i64 a0_3,.int .i64 a0_4,.int .i64 a0_5,.int .i64 a0_6,.bool a0_7,.slice A0_8 l0_8.length c0_8,.slice A0_9 l0_9.length c0_9,.string a0_10,.bool a0_11] 41 ?_;intro gb410 hg w70 hbox hb;have BK410:=A_ (hbox);have GW410:=gE_ hg HB;have GE410:=gE_ hg HB;replace HB:=bS_ HB hb;clear hb hbox hg)|((with_reducible refine gate_dst (N:=3) rfl ?_);refine bE_ 3 #[.int .i64 a1_0,.int .i64 a1_1,.int .i64 a1_2,.int .i64 a1_3,.int .i64 a1_4,.int .i64 a1_5,.int .i64 a1_6,.bool a1_7,.slice A1_8 l1_8.length c1_8,.slice A1_9 l1_9.length c1_9,.string a1_10,.bool a1_11] 41 ?_;intro gb411 hg w71 hbox hb;have BK411:=A_ (hbox);have GW411:=gE_ hg HB;have GE411:=gE_ hg HB;replace HB:=bS_ HB hb;have NB410_411:=nB_ hg BK410;have NB411_410:=nC_ hg BK410;replace BK410:=kB_ BK410 hb;clear hb hbox hg;have hnb72:=NB410_411.out;have hnc72:=NB411_410.out;obtain ⟨hcz73_0,hcz73_1,hcz73_2,hcz73_3,hcz73_4,hcz73_5,hcz73_6,hcz73_7,hcz73_8,hcz73_9,hcz73_10,hcz73_11,hfz73_0,hfz73_1,hfz73_2,hfz73_3,hfz73_4,hfz73_5,hfz73_6,hfz73_7,hfz73_8,hfz73_9,hfz73_10,hfz73_11⟩:=k12f_ BK410;obtain ⟨hcz74_0,hcz74_1,hcz74_2,hcz74_3,hcz74_4,hcz74_5,hcz74_6,hcz74_7,hcz74_8,hcz74_9,hcz74_10,hcz74_11,hfz74_0,hfz74_1,hfz74_2,hfz74_3,hfz74_4,hfz74_5,hfz74_6,hfz74_7,hfz74_8,hfz74_9,hfz74_10,hfz74_11⟩:=k12f_ BK411))
      go_ret;exact ⟨ex_,bq_ HB⟩
    ·rw [if_neg c6] at H;have c6b0 : (a0_3 == a1_3) = false:=beq_eq_false_iff_ne.mpr c6;have c6b1 : (a0_3 != a1_3) = true:=bne_iff_ne.mpr c6;obtain rfl:=Option.some.inj H;go_enter Try.func23,Try.ntmps23
     go_wp2_with (first|((with_reducible refine gate_dst (N:=2) rfl ?_);refine bE_ 2 #[.int .i64 a0_0,.int .i64 a0_1,.int .i64 a0_2,.int .i64 a0_3,.int .i64 a0_4,.int .i64 a0_5,.int .i64 a0_6,.bool a0_7,.slice A0_8 l0_8.length c0_8,.slice A0_9 l0_9.length c0_9,.string a0_10,.bool a0_11] 41 ?_;intro gb410 hg w75 hbox hb;have BK410:=A_ (hbox);have GW410:=gE_ hg HB;have GE410:=gE_ hg HB;replace HB:=bS_ HB hb;clear hb hbox hg)|((with_reducible refine gate_dst (N:=3) rfl ?_);refine bE_ 3 #[.int .i64 a1_0,.int .i64 a1_1,.int .i64 a1_2,.int .i64 a1_3,.int .i64 a1_4,.int .i64 a1_5,.int .i64 a1_6,.bool a1_7,.slice A1_8 l1_8.length c1_8,.slice A1_9 l1_9.length c1_9,.string a1_10,.bool a1_11] 41 ?_;intro gb411 hg w76 hbox hb;have BK411:=A_ (hbox);have GW411:=gE_ hg HB;have GE411:=gE_ hg HB;replace HB:=bS_ HB hb;have NB410_411:=nB_ hg BK410;have NB411_410:=nC_ hg BK410;replace BK410:=kB_ BK410 hb;clear hb hbox hg;have hnb77:=NB410_411.out;have hnc77:=NB411_410.out;obtain ⟨hcz78_0,hcz78_1,hcz78_2,hcz78_3,hcz78_4,hcz78_5,hcz78_6,hcz78_7,hcz78_8,hcz78_9,hcz78_10,hcz78_11,hfz78_0,hfz78_1,hfz78_2,hfz78_3,hfz78_4,hfz78_5,hfz78_6,hfz78_7,hfz78_8,hfz78_9,hfz78_10,hfz78_11⟩:=k12f_ BK410;obtain ⟨hcz79_0,hcz79_1,hcz79_2,hcz79_3,hcz79_4,hcz79_5,hcz79_6,hcz79_7,hcz79_8,hcz79_9,hcz79_10,hcz79_11,hfz79_0,hfz79_1,hfz79_2,hfz79_3,hfz79_4,hfz79_5,hfz79_6,hfz79_7,hfz79_8,hfz79_9,hfz79_10,hfz79_11⟩:=k12f_ BK411))
     go_ret;exact ⟨ex_,bq_ HB⟩
   ·rw [if_neg c5] at H;have c5b0 : (a0_2 == a1_2) = false:=beq_eq_false_iff_ne.mpr c5;have c5b1 : (a0_2 != a1_2) = true:=bne_iff_ne.mpr c5;obtain rfl:=Option.some.inj H;go_enter Try.func23,Try.ntmps23
    go_wp2_with (first|((with_reducible refine gate_dst (N:=2) rfl ?_);refine bE_ 2 #[.int .i64 a0_0,.int .i64 a0_1,.int .i64 a0_2,.int .i64 a0_3,.int .i64 a0_4,.int .i64 a0_5,.int .i64 a0_6,.bool a0_7,.slice A0_8 l0_8.length c0_8,.slice A0_9 l0_9.length c0_9,.string a0_10,.bool a0_11] 41 ?_;intro gb410 hg w80 hbox hb;have BK410:=A_ (hbox);have GW410:=gE_ hg HB;have GE410:=gE_ hg HB;replace HB:=bS_ HB hb;clear hb hbox hg)|((with_reducible refine gate_dst (N:=3) rfl ?_);refine bE_ 3 #[.int .i64 a1_0,.int .i64 a1_1,.int .i64 a1_2,.int .i64 a1_3,.int .i64 a1_4,.int .i64 a1_5,.int .i64 a1_6,.bool a1_7,.slice A1_8 l1_8.length c1_8,.slice A1_9 l1_9.length c1_9,.string a1_10,.bool a1_11] 41 ?_;intro gb411 hg w81 hbox hb;have BK411:=A_ (hbox);have GW411:=gE_ hg HB;have GE411:=gE_ hg HB;replace HB:=bS_ HB hb;have NB410_411:=nB_ hg BK410;have NB411_410:=nC_ hg BK410;replace BK410:=kB_ BK410 hb;clear hb hbox hg;have hnb82:=NB410_411.out;have hnc82:=NB411_410.out;obtain ⟨hcz83_0,hcz83_1,hcz83_2,hcz83_3,hcz83_4,hcz83_5,hcz83_6,hcz83_7,hcz83_8,hcz83_9,hcz83_10,hcz83_11,hfz83_0,hfz83_1,hfz83_2,hfz83_3,hfz83_4,hfz83_5,hfz83_6,hfz83_7,hfz83_8,hfz83_9,hfz83_10,hfz83_11⟩:=k12f_ BK410;obtain ⟨hcz84_0,hcz84_1,hcz84_2,hcz84_3,hcz84_4,hcz84_5,hcz84_6,hcz84_7,hcz84_8,hcz84_9,hcz84_10,hcz84_11,hfz84_0,hfz84_1,hfz84_2,hfz84_3,hfz84_4,hfz84_5,hfz84_6,hfz84_7,hfz84_8,hfz84_9,hfz84_10,hfz84_11⟩:=k12f_ BK411))
    go_ret;exact ⟨ex_,bq_ HB⟩
  ·rw [if_neg c4] at H;have c4b0 : (a0_1 == a1_1) = false:=beq_eq_false_iff_ne.mpr c4;have c4b1 : (a0_1 != a1_1) = true:=bne_iff_ne.mpr c4;obtain rfl:=Option.some.inj H;go_enter Try.func23,Try.ntmps23
   go_wp2_with (first|((with_reducible refine gate_dst (N:=2) rfl ?_);refine bE_ 2 #[.int .i64 a0_0,.int .i64 a0_1,.int .i64 a0_2,.int .i64 a0_3,.int .i64 a0_4,.int .i64 a0_5,.int .i64 a0_6,.bool a0_7,.slice A0_8 l0_8.length c0_8,.slice A0_9 l0_9.length c0_9,.string a0_10,.bool a0_11] 41 ?_;intro gb410 hg w85 hbox hb;have BK410:=A_ (hbox);have GW410:=gE_ hg HB;have GE410:=gE_ hg HB;replace HB:=bS_ HB hb;clear hb hbox hg)|((with_reducible refine gate_dst (N:=3) rfl ?_);refine bE_ 3 #[.int .i64 a1_0,.int .i64 a1_1,.int .i64 a1_2,.int .i64 a1_3,.int .i64 a1_4,.int .i64 a1_5,.int .i64 a1_6,.bool a1_7,.slice A1_8 l1_8.length c1_8,.slice A1_9 l1_9.length c1_9,.string a1_10,.bool a1_11] 41 ?_;intro gb411 hg w86 hbox hb;have BK411:=A_ (hbox);have GW411:=gE_ hg HB;have GE411:=gE_ hg HB;replace HB:=bS_ HB hb;have NB410_411:=nB_ hg BK410;have NB411_410:=nC_ hg BK410;replace BK410:=kB_ BK410 hb;clear hb hbox hg;have hnb87:=NB410_411.out;have hnc87:=NB411_410.out;obtain ⟨hcz88_0,hcz88_1,hcz88_2,hcz88_3,hcz88_4,hcz88_5,hcz88_6,hcz88_7,hcz88_8,hcz88_9,hcz88_10,hcz88_11,hfz88_0,hfz88_1,hfz88_2,hfz88_3,hfz88_4,hfz88_5,hfz88_6,hfz88_7,hfz88_8,hfz88_9,hfz88_10,hfz88_11⟩:=k12f_ BK410;obtain ⟨hcz89_0,hcz89_1,hcz89_2,hcz89_3,hcz89_4,hcz89_5,hcz89_6,hcz89_7,hcz89_8,hcz89_9,hcz89_10,hcz89_11,hfz89_0,hfz89_1,hfz89_2,hfz89_3,hfz89_4,hfz89_5,hfz89_6,hfz89_7,hfz89_8,hfz89_9,hfz89_10,hfz89_11⟩:=k12f_ BK411))
   go_ret;exact ⟨ex_,bq_ HB⟩
 ·rw [if_neg c3] at H;have c3b0 : (a0_0 == a1_0) = false:=beq_eq_false_iff_ne.mpr c3;have c3b1 : (a0_0 != a1_0) = true:=bne_iff_ne.mpr c3;obtain rfl:=Option.some.inj H;go_enter Try.func23,Try.ntmps23
  go_wp2_with (first|((with_reducible refine gate_dst (N:=2) rfl ?_);refine bE_ 2 #[.int .i64 a0_0,.int .i64 a0_1,.int .i64 a0_2,.int .i64 a0_3,.int .i64 a0_4,.int .i64 a0_5,.int .i64 a0_6,.bool a0_7,.slice A0_8 l0_8.length c0_8,.slice A0_9 l0_9.length c0_9,.string a0_10,.bool a0_11] 41 ?_;intro gb410 hg w90 hbox hb;have BK410:=A_ (hbox);have GW410:=gE_ hg HB;have GE410:=gE_ hg HB;replace HB:=bS_ HB hb;clear hb hbox hg)|((with_reducible refine gate_dst (N:=3) rfl ?_);refine bE_ 3 #[.int .i64 a1_0,.int .i64 a1_1,.int .i64 a1_2,.int .i64 a1_3,.int .i64 a1_4,.int .i64 a1_5,.int .i64 a1_6,.bool a1_7,.slice A1_8 l1_8.length c1_8,.slice A1_9 l1_9.length c1_9,.string a1_10,.bool a1_11] 41 ?_;intro gb411 hg w91 hbox hb;have BK411:=A_ (hbox);have GW411:=gE_ hg HB;have GE411:=gE_ hg HB;replace HB:=bS_ HB hb;have NB410_411:=nB_ hg BK410;have NB411_410:=nC_ hg BK410;replace BK410:=kB_ BK410 hb;clear hb hbox hg;have hnb92:=NB410_411.out;have hnc92:=NB411_410.out;obtain ⟨hcz93_0,hcz93_1,hcz93_2,hcz93_3,hcz93_4,hcz93_5,hcz93_6,hcz93_7,hcz93_8,hcz93_9,hcz93_10,hcz93_11,hfz93_0,hfz93_1,hfz93_2,hfz93_3,hfz93_4,hfz93_5,hfz93_6,hfz93_7,hfz93_8,hfz93_9,hfz93_10,hfz93_11⟩:=k12f_ BK410;obtain ⟨hcz94_0,hcz94_1,hcz94_2,hcz94_3,hcz94_4,hcz94_5,hcz94_6,hcz94_7,hcz94_8,hcz94_9,hcz94_10,hcz94_11,hfz94_0,hfz94_1,hfz94_2,hfz94_3,hfz94_4,hfz94_5,hfz94_6,hfz94_7,hfz94_8,hfz94_9,hfz94_10,hfz94_11⟩:=k12f_ BK411))
  go_ret;exact ⟨ex_,bq_ HB⟩
end Go.Proofs.Ytbcgnncbiblibaa.PFnExactDecode
