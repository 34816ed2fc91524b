/- The contracts of the Go functions that this law reaches: what each call returns, by a plain Lean function of its arguments. No conditions but those each contract names. By the kit's print.py, run by this session's wip/gen/pp.py with facts and hand proofs beside it: not to the letter what print.sh prints. -/
import Derived.Test.YtbcgnncbiblibaaPFnExactLogStepsx0
namespace Go.Proofs.Ytbcgnncbiblibaa.PFnExactLogSteps
open Go.RowKit Go.Proofs.YtbcgnncbiblibaaW.PrintWords Go.Proofs.YtbcgnncbiblibaaW.PrintLast Go.Proofs.YtbcgnncbiblibaaW.PrintMore
attribute [local go_sem] max2_int min2_int max_two min_two max_three min_three max_four min_four
set_option linter.unusedVariables false
set_option linter.unusedSimpArgs false
def laws_toEntry.f (a0_0 : Int) (a0_1 : Int) (a0_2 : ByteArray) : Option (Int × Int × ByteArray) := some (a0_0, a0_1, a0_2)
set_option maxHeartbeats 8000000 in
set_option maxRecDepth 100000 in
theorem laws_toEntry.calls (a0_0 : Int) (a0_1 : Int) (a0_2 : ByteArray) (r1 : Int) (r2 : Int) (r3 : ByteArray) (w : World) (h : laws_toEntry.f a0_0 a0_1 a0_2 = some (r1, r2, r3)) :
  Calls Try.prog 121 #[.agg #[.int .i64 a0_0,.int .i64 a0_1,.string a0_2]] w fun e w' => e = .returned (.agg #[.int .i64 r1,.int .i64 r2,.string r3]) ∧ Below w.heap.size w w':=by
 have hu150:=Try.underlying150;have hu69:=Try.underlying69;have HB:=A_ (Below.refl w.heap.size w);unfold laws_toEntry.f at h;have H:=h;clear h;simp only [Option.some.injEq,Prod.mk.injEq] at H;obtain ⟨rfl,rfl,rfl⟩:=H;go_enter Try.func121,Try.ntmps121
 go_wp2_with (first|((with_reducible refine gate_dst (N:=1) rfl ?_);refine bE_ 1 #[.int .i64 a0_0,.int .i64 a0_1,.string a0_2] 150 ?_;intro gb366 hg w2 hbox hb;have BK366:=A_ (hbox);have GW366:=gE_ hg HB;have GE366:=gE_ hg HB;replace HB:=bS_ HB hb;clear hb hbox hg)|((with_reducible refine gate_dst (N:=2) rfl ?_);refine bE_ 2 #[.int .i64 0,.int .i64 0,.string (⟨#[]⟩ : ByteArray)] 69 ?_;intro gb367 hg w3 hbox hb;have BK367:=A_ (hbox);have GW367:=gE_ hg HB;have GE367:=gE_ hg HB;replace HB:=bS_ HB hb;have NB366_367:=nB_ hg BK366;have NB367_366:=nC_ hg BK366;replace BK366:=kB_ BK366 hb;clear hb hbox hg)|((with_reducible refine gate_dst (N:=3) rfl ?_);refine bE_ 3 #[.int .i64 0,.int .i64 0,.string (⟨#[]⟩ : ByteArray)] 69 ?_;intro gb368 hg w4 hbox hb;have BK368:=A_ (hbox);have GW368:=gE_ hg HB;have GE368:=gE_ hg HB;replace HB:=bS_ HB hb;have NB366_368:=nB_ hg BK366;have NB368_366:=nC_ hg BK366;replace BK366:=kB_ BK366 hb;have NB367_368:=nB_ hg BK367;have NB368_367:=nC_ hg BK367;replace BK367:=kB_ BK367 hb;clear hb hbox hg;have hnb5:=NB366_367.out;have hnc5:=NB367_366.out;have hnb6:=NB366_368.out;have hnc6:=NB368_366.out;obtain ⟨hcz7_0,hcz7_1,hcz7_2,hfz7_0,hfz7_1,hfz7_2⟩:=k3f_ BK366;have hnb8:=NB368_367.out;have hnc8:=NB367_368.out;obtain ⟨hcz9_0,hcz9_1,hcz9_2,hfz9_0,hfz9_1,hfz9_2⟩:=k3f_ BK368;obtain ⟨hcz10_0,hcz10_1,hcz10_2,hfz10_0,hfz10_1,hfz10_2⟩:=k3f_ BK367))
 refine bodyPost_ret (results_cell_row rfl _ _ gb367 69 #[.int .i64 a0_0,.int .i64 a0_1,.string a0_2] (0,0) _ rfl (kz_ BK367) Try.underlying69 rfl (by kernel_rfl)) rfl ?_;exact ⟨ex_,bq_ HB⟩
def laws_toEntryS.l0 : Nat → List (S150) → List (S69) → Int → Option ((List (S69)))
 | 0,_,_,_ => none
 | k + 1,x0,x3,x4 => if x4 < (x0.length : Int) then (if 0 ≤ x4 then ((laws_toEntry.f ((rd_T150 x0 x4).f0) ((rd_T150 x0 x4).f1) ((rd_T150 x0 x4).f2)).bind fun bt373 => (if x4 < (x3.length : Int) then (laws_toEntryS.l0 k x0 (x3.set (x4 : Int).toNat (⟨bt373.1,bt373.2.1,bt373.2.2⟩ : S69)) (wrap64 (x4 + 1))) else (none))) else (none)) else (some x3)
def laws_toEntryS.f (k : Nat) (l0 : List (S150)) : Option ((List (S69))) := if 0 ≤ (l0.length : Int) then (if ((l0.length : Int) : Int).toNat ≤ 8796093022208 then (laws_toEntryS.l0 k l0 (List.replicate ((l0.length : Int) : Int).toNat z69) 0) else (none)) else (none)
theorem laws_toEntryS.mono_l : ∀ k, (∀ y0 y1 y2, LeO (laws_toEntryS.l0 k y0 y1 y2) (laws_toEntryS.l0 (k + 1) y0 y1 y2))
 | 0 => fun _ _ _ r h => by simp [laws_toEntryS.l0] at h
 | k + 1 => by
  have ih0:=laws_toEntryS.mono_l k
  ·intro y0 y1 y2
   unfold laws_toEntryS.l0
   repeat' first
   | (with_reducible exact ih0 _ _ _)
   | (with_reducible exact LeO.refl _)
   | (with_reducible refine LeO.ite ?_ ?_)
   | (with_reducible refine LeO.bind ?_ (fun _ => ?_))
theorem laws_toEntryS.mono : ∀ a0 k, LeO (laws_toEntryS.f k a0) (laws_toEntryS.f (k + 1) a0) := by
 intro a0 k;have ih0:=laws_toEntryS.mono_l k
 unfold laws_toEntryS.f
 repeat' first
   | (with_reducible exact ih0 _ _ _)
   | (with_reducible exact LeO.refl _)
   | (with_reducible refine LeO.ite ?_ ?_)
set_option maxHeartbeats 8000000 in
set_option maxRecDepth 100000 in
theorem laws_toEntryS.calls (k : Nat) (A0 : Option Addr) (c0 : Nat) (l0 : List (S150)) (r : List (S69)) (w : World) (hr0 : Kd.C k150 w A0 l0.length l0) (hc0 : l0.length ≤ c0) (h : laws_toEntryS.f k l0 = some r) :
  Calls Try.prog 90 #[.slice A0 l0.length c0] w fun e w' => ∃ v0_ : Value,e = .returned (v0_) ∧ Kd.R k69 69 w' w.heap.size (fun _ => True) v0_ r ∧ Below w.heap.size w w':=by
 have hu150:=Try.underlying150;have hu69:=Try.underlying69;have HR0:=A_ hr0;have HC0:=A_ hc0;clear hr0 hc0;have HB:=A_ (Below.refl w.heap.size w);unfold laws_toEntryS.f at h;have H:=h;clear h
 by_cases c2 : 0 ≤ (l0.length : Int)
 ·rw [if_pos c2] at H;have c2b0:=eq_true c2;have c2b1 : decide (0 ≤ (l0.length : Int)) = true:=de_ c2;clear c2
  by_cases c3 : ((l0.length : Int) : Int).toNat ≤ 8796093022208
  ·rw [if_pos c3] at H;have c3b0:=eq_true c3;have c3b1 : decide (((l0.length : Int) : Int).toNat ≤ 8796093022208) = true:=de_ c3;clear c3;obtain ⟨y369,hy369⟩ : ∃ y_ : List (S69),y_ = (List.replicate ((l0.length : Int) : Int).toNat z69):=⟨_,rfl⟩
   replace H : (laws_toEntryS.l0 k l0 y369 0) = some r:=by (rw [hy369];with_reducible exact H)
   have Ny369:=A_ hy369;clear hy369;have H':=A_ H;clear H;go_enter Try.func90,Try.ntmps90
   go_wp2_with (((with_reducible refine gate_dst (N:=7) rfl ?_);refine Kd.R_make k69 _ 69 rfl (N:=7) rfl 22 _ _ rfl (l0.length : Int) rfl rfl Try.underlying22 (.agg #[(.int .i64 0),(.int .i64 0),(.string ⟨#[]⟩)]) 32 info69 rfl (by decide) (by omega) z69 (ok:=fun _ => True) (okp:=fun _ => True) (k69_mkM _ _ _ z69 ) (fun _ hk => hk) trivial (oda_) (Nat.le_trans (Nat.mul_le_mul_right _ (oda_ : (l0.length : Int).toNat ≤ 8796093022208)) (by omega)) (Below.refl _ _) (Nat.le_refl _) ?_;intro v370 w4 ho5 hb hg_ hnew_;clear hg_ hnew_;(rw [← Ny369.out] at ho5);have HO371:=A_ (rw_ ho5 (bz_ (bq_ HB)));replace HB:=bS_ HB hb;clear hb ho5))
   go_loopg [4] k (fun kq v4 w' => ∃ (x3_1 : List (S69)) (x4_1 : Int),v4 = .int .i64 x4_1 ∧ Aside0 (laws_toEntryS.l0 kq l0 x3_1 x4_1 = some r) ∧ Aside0 (kq ≤ k) ∧ Aside0 (Kd.R k69 69 w' w.heap.size (fun _ => True) v370 x3_1) ∧ Aside0 (Below w.heap.size w w'))
   case atStart => exact ⟨(y369),(0),(by rfl),H',⟨Nat.le_refl _⟩,⟨HO371.out⟩,⟨bq_ HB⟩⟩
   case round =>
    clear H'
    try clear c2
    try clear c2b0
    try clear c2b1
    try clear p2
    try clear c3
    try clear c3b0
    try clear c3b1
    obtain ⟨x3_1,x4_1,rfl,HA,HK1,HO_3,HB⟩:=hrel
    cases gk with
    | zero => exact absurd HA.out (by simp [laws_toEntryS.l0])
    | succ k1 =>
     have H:=HA.out;clear HA;simp only [laws_toEntryS.l0] at H
     by_cases c6 : x4_1 < (l0.length : Int)
     ·rw [if_pos c6] at H;have c6b0 : decide (x4_1 < (l0.length : Int)) = true:=de_ c6;clear c6
      by_cases c7 : 0 ≤ x4_1
      ·rw [if_pos c7] at H;have c7b0 : decide (0 ≤ x4_1) = true:=de_ c7;clear c7;replace H:=ob_.mp H;obtain ⟨⟨t373,t374,t375⟩,A80,H⟩:=H;(try dsimp only at H);have A8:=A_ A80;clear A80
       by_cases c9 : x4_1 < (x3_1.length : Int)
       ·rw [if_pos c9] at H;have c9b0 : decide (x4_1 < (x3_1.length : Int)) = true:=de_ c9;clear c9;obtain ⟨y376,hy376⟩ : ∃ y_ : List (S69),y_ = (x3_1.set (x4_1 : Int).toNat (⟨t373,t374,t375⟩ : S69)):=⟨_,rfl⟩
        replace H : (laws_toEntryS.l0 k1 l0 y376 (wrap64 (x4_1 + 1))) = some r:=by (rw [hy376];with_reducible exact H)
        have Ny376:=A_ hy376;clear hy376;have H':=A_ H;clear H;have p372 : 0 ≤ (x4_1 : Int):=oda_;have q372 : x4_1 < (l0.length : Int):=oda_;obtain ⟨ad372,e372,hx372_0,hx372_1,hx372_2⟩:=at_T150 HR0.out x4_1 p372 q372
        cases e372
        replace hx372_0:=(HB.out.cell (wb_ w _ hx372_0)).trans hx372_0;replace hx372_1:=(HB.out.cell (wb_ w _ hx372_1)).trans hx372_1;replace hx372_2:=(HB.out.cell (wb_ w _ hx372_2)).trans hx372_2;replace p372:=eq_true p372;replace q372:=eq_true q372
        go_wp2_with (first|((with_reducible refine gate_callee (f:=121) rfl ?_);refine gL_ (some 20) Try.func121 #[.agg #[.int .i64 ((rd_T150 l0 x4_1).f0),.int .i64 ((rd_T150 l0 x4_1).f1),.string ((rd_T150 l0 x4_1).f2)]] ?_;(with_reducible refine (laws_toEntry.calls ((rd_T150 l0 x4_1).f0) ((rd_T150 l0 x4_1).f1) ((rd_T150 l0 x4_1).f2) t373 t374 t375 _ A8.out).mono ?_);rintro e w11 ⟨rfl,hb⟩;refine ⟨_,rfl,?_⟩;replace HO_3:=rB_ HO_3 hb;replace HB:=bS_ HB hb;(try clear hb);have p10 : 0 ≤ (x4_1 : Int):=oda_;have q10 : (x4_1 : Int) < ((x3_1.length : Int) : Int):=oda_;obtain ⟨go10,co10,eo10,gb10,gl10,cl10,HG10⟩:=Kd.R_form HO_3.out (by omega);(cases eo10);have GB10:=A_ gb10;have GG10:=A_ HG10;clear gb10 gl10 HG10;obtain ⟨ce10,hcl10,hM10,hcc10,hfr10⟩:=Kd.R_elem HO_3.out z69 (x4_1 : Int) p10 q10;obtain rfl:=k69_openM hM10;have hx10_0 : w11.cell? ⟨go10,(x4_1 : Int).toNat * 3,none⟩ = some (.int .i64 ((rd_T69 x3_1 x4_1).f0)):=hcc10 0 _ rfl;have hx10_1 : w11.cell? ⟨go10,(x4_1 : Int).toNat * 3 + 1,none⟩ = some (.int .i64 ((rd_T69 x3_1 x4_1).f1)):=hcc10 1 _ rfl;have hx10_2 : w11.cell? ⟨go10,(x4_1 : Int).toNat * 3 + 2,none⟩ = some (.string ((rd_T69 x3_1 x4_1).f2)):=hcc10 2 _ rfl;have hf10_0 : w11.frozen? ⟨go10,(x4_1 : Int).toNat * 3,none⟩ = false:=hfr10 0;have hf10_1 : w11.frozen? ⟨go10,(x4_1 : Int).toNat * 3 + 1,none⟩ = false:=hfr10 1;have hf10_2 : w11.frozen? ⟨go10,(x4_1 : Int).toNat * 3 + 2,none⟩ = false:=hfr10 2;clear hcl10 hcc10 hfr10 hM10;replace p10:=eq_true p10;replace q10:=eq_true q10;have HX12:=A_ (show Kd.R k69 69 w11 w.heap.size (fun _ => True) (.slice (some ⟨go10,0,none⟩) x3_1.length co10) x3_1 from (rq_ HO_3));obtain ⟨ce12,hcl12,hM12,hcc12,hfr12⟩:=Kd.R_elem HX12.out z69 (x4_1 : Int) (oda_) (by have h_ : (x4_1 : Int) < ((x3_1.length : Int) : Int):=oda_;exact h_);obtain rfl:=k69_openM hM12;have HP12:=Kd.R_seg HX12.out (x4_1 : Int) (oda_) (by have h_ : (x4_1 : Int) < ((x3_1.length : Int) : Int):=oda_;exact h_) (seg:=[.int .i64 t373,.int .i64 t374,.string t375]) (j:=0) hcl12 hcc12 (show 3 ≤ 3 from by decide) (x':=(⟨t373,t374,t375⟩ : S69)) (k69_mkM _ _ _ (⟨t373,t374,t375⟩ : S69) ) (fun _ hk => hk);have hx12_0:=hcc12 0 _ rfl;(try simp only [show (k69).sz = 3 from rfl,Nat.mul_one,Nat.add_zero] at hx12_0);have hf12_0:=hfr12 0;(try simp only [show (k69).sz = 3 from rfl,Nat.mul_one,Nat.add_zero] at hf12_0);have hx12_1:=hcc12 1 _ rfl;(try simp only [show (k69).sz = 3 from rfl,Nat.mul_one,Nat.add_zero] at hx12_1);have hf12_1:=hfr12 1;(try simp only [show (k69).sz = 3 from rfl,Nat.mul_one,Nat.add_zero] at hf12_1);have hx12_2:=hcc12 2 _ rfl;(try simp only [show (k69).sz = 3 from rfl,Nat.mul_one,Nat.add_zero] at hx12_2);have hf12_2:=hfr12 2;(try simp only [show (k69).sz = 3 from rfl,Nat.mul_one,Nat.add_zero] at hf12_2);clear hcl12 hcc12 hfr12 hM12)|((with_reducible refine gate_store (t:=69) (p:=21) rfl ?_);refine store_event (t:=69) (p:=21) (v:=?vo_w13) (w1:=(((w11.setCell ⟨go10,(x4_1 : Int).toNat * 3,none⟩ (.int .i64 t373)).setCell ⟨go10,(x4_1 : Int).toNat * 3 + 1,none⟩ (.int .i64 t374)).setCell ⟨go10,(x4_1 : Int).toNat * 3 + 2,none⟩ (.string t375))) ?hg ?ho ?hn ?hr ?_;(case ho => rfl);(case hg => rfl);(case hn => rfl);(case hr => exact gx_);intro w13 hw;have hg : w11.grownBy w13 (some go10):=(by rw [hw];exact HP12.2);have hp_ : Kd.R k69 69 w13 w.heap.size (fun _ => True) (.slice (some ⟨go10,0,none⟩) x3_1.length co10) y376:=(by rw [hw,Ny376.out];exact HP12.1);clear HP12;replace HO_3:=A_ (hp_);replace HB:=A_ ((by rw [hw];exact ps_ (ps_ (ps_ (HB.out) GB10.out) GB10.out) GB10.out : Below w.heap.size w w13));clear hg hw hp_))
        go_roundg k1
        case measure => have:=HK1.out;omega
        case rel => exact ⟨(y376),(wrap64 (x4_1 + 1)),(by rfl),H',⟨by have:=HK1.out;omega⟩,⟨HO_3.out⟩,⟨bq_ HB⟩⟩
       ·rw [if_neg c9] at H;exact absurd H (by simp)
      ·rw [if_neg c7] at H;exact absurd H (by simp)
     ·rw [if_neg c6] at H;have c6b0 : decide (x4_1 < (l0.length : Int)) = false:=decide_eq_false c6;clear c6;obtain rfl:=Option.some.inj H;go_wp2;go_ret;exact ⟨_,by rfl,by exact HO_3.out,bq_ HB⟩
  ·rw [if_neg c3] at H;exact absurd H (by simp)
 ·rw [if_neg c2] at H;exact absurd H (by simp)
def laws_toLog.f (k : Nat) (a0_0 : Int) (a0_1 : Int) (l0_2 : List (S150)) : Option (Int × Int × (List (S69))) := (laws_toEntryS.f k l0_2).bind fun t380 => (some (a0_0, a0_1, t380))
theorem laws_toLog.mono : ∀ a0 a1 a2 k, LeO (laws_toLog.f k a0 a1 a2) (laws_toLog.f (k + 1) a0 a1 a2) := by
 intro a0 a1 a2 k
 unfold laws_toLog.f
 repeat' first
   | (with_reducible exact laws_toEntryS.mono _ _)
   | (with_reducible exact LeO.refl _)
   | (with_reducible refine LeO.bind ?_ (fun _ => ?_))
set_option maxHeartbeats 8000000 in
set_option maxRecDepth 100000 in
theorem laws_toLog.calls (k : Nat) (a0_0 : Int) (a0_1 : Int) (A0_2 : Option Addr) (c0_2 : Nat) (l0_2 : List (S150)) (r1 : Int) (r2 : Int) (r3 : List (S69)) (w : World) (hr0_2 : Kd.C k150 w A0_2 l0_2.length l0_2) (hc0_2 : l0_2.length ≤ c0_2) (h : laws_toLog.f k a0_0 a0_1 l0_2 = some (r1, r2, r3)) :
  Calls Try.prog 34 #[.agg #[.int .i64 a0_0,.int .i64 a0_1,.slice A0_2 l0_2.length c0_2]] w fun e w' => ∃ v2_ : Value,e = .returned (.agg #[.int .i64 r1,.int .i64 r2,v2_]) ∧ Kd.R k69 69 w' w.heap.size (fun _ => True) v2_ r3 ∧ Below w.heap.size w w':=by
 have hu55:=Try.underlying55;have hu24:=Try.underlying24;have HR0_2:=A_ hr0_2;have HC0_2:=A_ hc0_2;clear hr0_2 hc0_2;have HB:=A_ (Below.refl w.heap.size w);unfold laws_toLog.f at h;have H:=h;clear h;replace H:=ob_.mp H;obtain ⟨t380,A20,H⟩:=H;have A2:=A_ A20;clear A20;simp only [Option.some.injEq,Prod.mk.injEq] at H;obtain ⟨rfl,rfl,rfl⟩:=H;go_enter Try.func34,Try.ntmps34
 go_wp2_with (first|((with_reducible refine gate_dst (N:=1) rfl ?_);refine bE_ 1 #[.int .i64 a0_0,.int .i64 a0_1,.slice A0_2 l0_2.length c0_2] 55 ?_;intro gb377 hg w3 hbox hb;have BK377:=A_ (hbox);have GW377:=gE_ hg HB;have GE377:=gE_ hg HB;replace HB:=bS_ HB hb;clear hb hbox hg)|((with_reducible refine gate_dst (N:=2) rfl ?_);refine bE_ 2 #[.int .i64 0,.int .i64 0,.slice none 0 0] 24 ?_;intro gb378 hg w4 hbox hb;have BK378:=A_ (hbox);have GW378:=gE_ hg HB;have GE378:=gE_ hg HB;replace HB:=bS_ HB hb;have NB377_378:=nB_ hg BK377;have NB378_377:=nC_ hg BK377;replace BK377:=kB_ BK377 hb;clear hb hbox hg)|((with_reducible refine gate_dst (N:=3) rfl ?_);refine bE_ 3 #[.int .i64 0,.int .i64 0,.slice none 0 0] 24 ?_;intro gb379 hg w5 hbox hb;have BK379:=A_ (hbox);have GW379:=gE_ hg HB;have GE379:=gE_ hg HB;replace HB:=bS_ HB hb;have NB377_379:=nB_ hg BK377;have NB379_377:=nC_ hg BK377;replace BK377:=kB_ BK377 hb;have NB378_379:=nB_ hg BK378;have NB379_378:=nC_ hg BK378;replace BK378:=kB_ BK378 hb;clear hb hbox hg;have hnb6:=NB377_378.out;have hnc6:=NB378_377.out;have hnb7:=NB377_379.out;have hnc7:=NB379_377.out;obtain ⟨hcz8_0,hcz8_1,hcz8_2,hfz8_0,hfz8_1,hfz8_2⟩:=k3f_ BK377;have hnb9:=NB379_378.out;have hnc9:=NB378_379.out;obtain ⟨hcz10_0,hcz10_1,hcz10_2,hfz10_0,hfz10_1,hfz10_2⟩:=k3f_ BK379)|((with_reducible refine gate_callee (f:=90) rfl ?_);refine gL_ (some 12) Try.func90 #[.slice A0_2 l0_2.length c0_2] ?_;(with_reducible refine (laws_toEntryS.calls k _ _ l0_2 t380 _ ?side1 ?side2 A2.out).mono ?_);(case side1 => exact Kd.C_below HR0_2.out (bq_ HB));(case side2 => exact HC0_2.out);rintro e w11 ⟨v381,rfl,ho0,hb⟩;refine ⟨_,rfl,?_⟩;have HO382:=A_ (rw_ ho0 (bz_ (bq_ HB)));replace BK377:=A_ (kb_ (g:=gb377) (o:=.cells #[.int .i64 a0_0,.int .i64 a0_1,.slice A0_2 l0_2.length c0_2] 55 (0,0)) (kz_ BK377) hb);replace BK378:=A_ (kb_ (g:=gb378) (o:=.cells #[.int .i64 0,.int .i64 0,.slice none 0 0] 24 (0,0)) (kz_ BK378) hb);replace BK379:=A_ (kb_ (g:=gb379) (o:=.cells #[.int .i64 a0_0,.int .i64 a0_1,.slice none 0 0] 24 (0,0)) (kz_ BK379) hb);replace HB:=bS_ HB hb;(try clear hb);(try clear ho0);obtain ⟨Ao12,co12,eo12⟩:=Kd.R_slice HO382.out;subst eo12;obtain ⟨hcz13_0,hcz13_1,hcz13_2,hfz13_0,hfz13_1,hfz13_2⟩:=k3f_ BK379;obtain ⟨hcz14_0,hcz14_1,hcz14_2,hfz14_0,hfz14_1,hfz14_2⟩:=k3f_ BK378))
 refine bodyPost_ret (results_cell_row rfl _ _ gb378 24 #[.int .i64 a0_0,.int .i64 a0_1,.slice Ao12 t380.length co12] (0,0) _ rfl (kz_ BK378) Try.underlying24 rfl (by kernel_rfl)) rfl ?_;exact ⟨_,by rfl,by exact rm_ (rf_ (p:=⟨gb378,2,none⟩) (rf_ (p:=⟨gb378,1,none⟩) (rf_ (p:=⟨gb378,0,none⟩) (rf_ (p:=⟨gb379,2,none⟩) (Kd.R_types (Kd.R_types HO382.out BK379.out (by decide)) BK378.out (by decide)) (fun _ hk => hk.1.2) (.slice Ao12 t380.length co12)) (fun _ hk => hk.2) (.int .i64 a0_0)) (fun _ hk => hk.2) (.int .i64 a0_1)) (fun _ hk => hk.2) (.slice Ao12 t380.length co12)) (fun _ hk => trivial),bq_ HB⟩
def impl_within.f (a0 : Int) (a1 : Int) (a2 : Int) : Option (Bool) := if a0 ≥ a1 then (some (decide (a0 ≤ a2))) else (some false)
set_option maxHeartbeats 8000000 in
set_option maxRecDepth 100000 in
theorem impl_within.calls (a0 : Int) (a1 : Int) (a2 : Int) (r : Bool) (w : World) (h : impl_within.f a0 a1 a2 = some r) :
  Calls Try.prog 47 #[.int .i64 a0,.int .i64 a1,.int .i64 a2] w fun e w' => e = .returned (.bool r) ∧ Drawn0 w w':=by
 unfold impl_within.f at h;have H:=h;clear h
 by_cases c4 : a0 ≥ a1
 ·rw [if_pos c4] at H;have c4b0 : decide (a1 ≤ a0) = true:=de_ c4;clear c4;obtain rfl:=Option.some.inj H;go_enter Try.func47,Try.ntmps47;go_wp2;go_ret;exact ⟨by rfl,by repeat (exact Drawn0.refl _)⟩
 ·rw [if_neg c4] at H;have c4b0 : decide (a1 ≤ a0) = false:=decide_eq_false c4;clear c4;obtain rfl:=Option.some.inj H;go_enter Try.func47,Try.ntmps47;go_wp2;go_ret;exact ⟨by rfl,by repeat (exact Drawn0.refl _)⟩
def impl_VarText.l0 : Nat → Int → List Int → Option (ByteArray × Bool)
 | 0,_,_ => none
 | k + 1,x0,x4 => if x0 > 127 then (if x4.length < 140737488355328 then (impl_VarText.l0 k (wrap64 (Int.tdiv x0 128)) (x4 ++ [(wrap64 ((Int.tmod x0 128) + 128)) % 256])) else (none)) else (if x4.length < 140737488355328 then (some (strOfNums (x4 ++ [(x0) % 256]),true)) else (none))
def impl_VarText.f (k : Nat) (a0 : Int) : Option (ByteArray × Bool) := (impl_within.f a0 0 1000000000).bind fun t383 => (if t383 = true then (impl_VarText.l0 k a0 ([] : List Int)) else (some ((⟨#[]⟩ : ByteArray), false)))
theorem impl_VarText.mono_l : ∀ k, (∀ y0 y1, LeO (impl_VarText.l0 k y0 y1) (impl_VarText.l0 (k + 1) y0 y1))
 | 0 => fun _ _ r h => by simp [impl_VarText.l0] at h
 | k + 1 => by
  have ih0:=impl_VarText.mono_l k
  ·intro y0 y1
   unfold impl_VarText.l0
   repeat' first
   | (with_reducible exact ih0 _ _)
   | (with_reducible exact LeO.refl _)
   | (with_reducible refine LeO.ite ?_ ?_)
theorem impl_VarText.mono : ∀ a0 k, LeO (impl_VarText.f k a0) (impl_VarText.f (k + 1) a0) := by
 intro a0 k;have ih0:=impl_VarText.mono_l k
 unfold impl_VarText.f
 repeat' first
   | (with_reducible exact ih0 _ _)
   | (with_reducible exact LeO.refl _)
   | (with_reducible refine LeO.ite ?_ ?_)
   | (with_reducible refine LeO.bind ?_ (fun _ => ?_))
set_option maxHeartbeats 8000000 in
set_option maxRecDepth 100000 in
theorem impl_VarText.calls (k : Nat) (a0 : Int) (r1 : ByteArray) (r2 : Bool) (w : World) (h : impl_VarText.f k a0 = some (r1, r2)) :
  Calls Try.prog 77 #[.int .i64 a0] w fun e w' => e = .returned (.tuple #[.string r1,.bool r2]) ∧ Below w.heap.size w w':=by
 have HB:=A_ (Below.refl w.heap.size w);unfold impl_VarText.f at h;have H:=h;clear h;replace H:=ob_.mp H;obtain ⟨t383,A20,H⟩:=H;have A2:=A_ A20;clear A20
 by_cases c3 : t383 = true
 ·subst c3
  rw [if_pos rfl] at H;have H':=A_ H;clear H;go_enter Try.func77,Try.ntmps77
  go_wp2_with (((with_reducible refine gate_callee (f:=47) rfl ?_);refine gL_ (some 6) Try.func47 #[.int .i64 a0,.int .i64 0,.int .i64 1000000000] ?_;(with_reducible refine (impl_within.calls a0 0 1000000000 true _ A2.out).mono ?_);rintro e w' ⟨rfl,⟨nd,rfl⟩⟩;refine ⟨_,rfl,?_⟩))
  go_loopg [0,4] k (fun kq v0 v4 w' => ∃ (x0_1 : Int) (x4_1 : List Int),v0 = .int .i64 x0_1 ∧ Aside0 (impl_VarText.l0 kq x0_1 x4_1 = some (r1,r2)) ∧ Aside0 (kq ≤ k) ∧ Aside0 (Kd.R (Kd.int .u8) 5 w' w.heap.size (fun _ => True) v4 x4_1) ∧ Aside0 (Below w.heap.size w w'))
  case atStart => exact ⟨(a0),(([] : List Int)),(by rfl),H',⟨Nat.le_refl _⟩,⟨by exact Kd.R_nil _ _ _ _ _⟩,⟨bq_ HB⟩⟩
  case round =>
   clear H'
   try clear p2
   try clear c3
   obtain ⟨x0_1,x4_1,rfl,HA,HK1,HO_4,HB⟩:=hrel
   cases gk with
   | zero => exact absurd HA.out (by simp [impl_VarText.l0])
   | succ k1 =>
    have H:=HA.out;clear HA;simp only [impl_VarText.l0] at H
    by_cases c4 : x0_1 > 127
    ·rw [if_pos c4] at H;have c4b0 : decide (127 < x0_1) = true:=de_ c4;clear c4
     by_cases c5 : x4_1.length < 140737488355328
     ·rw [if_pos c5] at H;have LMc5:=A_ c5;clear c5;obtain ⟨y384,hy384⟩ : ∃ y_ : List Int,y_ = (x4_1 ++ [(wrap64 ((Int.tmod x0_1 128) + 128)) % 256]):=⟨_,rfl⟩
      replace H : (impl_VarText.l0 k1 (wrap64 (Int.tdiv x0_1 128)) y384) = some (r1,r2):=by (rw [hy384];with_reducible exact H)
      have Ny384:=A_ hy384;clear hy384;have H':=A_ H;clear H
      go_wp2_with (((with_reducible refine gate_builtin (b:=.append) (xs:=#[.tmp 10,.tmp 15]) rfl ?_);at_builtin;refine Kd.R_append (Kd.int .u8) (w0:=w) w.heap.size rfl (.tmp 10) (.tmp 15) 46 5 (.int .u8 0) 1 rfl Try.underlying46 info5 rfl (by decide) (by omega) u4 x4_1 ((wrap64 ((Int.tmod x0_1 128) + 128)) % 256) [.int .u8 ((wrap64 ((Int.tmod x0_1 128) + 128)) % 256)] (fun _ => True) (fun _ => False) rfl rfl ?aP (fun _ hk => hk.elim) ?aF ?aO ?aB ?aS ?aL ?_;(case aP => exact rfl);(case aB => exact (bq_ HB));(case aF => exact (fun _ _ => trivial));(case aO => exact (rq_ HO_4));(case aS => exact (bz_ (bq_ HB)));(case aL => have:=LMc5.out;omega);intro v385 w6 ho hb hg hat;rw [← Ny384.out] at ho;replace HB:=A_ (hb);have HO386:=A_ (ho);clear HO_4;clear ho hb hg hat))
      go_roundg k1
      case measure => have:=HK1.out;omega
      case rel => exact ⟨(wrap64 (Int.tdiv x0_1 128)),(y384),(by rfl),H',⟨by have:=HK1.out;omega⟩,⟨HO386.out⟩,⟨bq_ HB⟩⟩
     ·rw [if_neg c5] at H;exact absurd H (by simp)
    ·rw [if_neg c4] at H;have c4b0 : decide (127 < x0_1) = false:=decide_eq_false c4;clear c4
     by_cases c7 : x4_1.length < 140737488355328
     ·rw [if_pos c7] at H;have LMc7:=A_ c7;clear c7;obtain ⟨y387,hy387⟩ : ∃ y_ : List Int,y_ = (x4_1 ++ [(x0_1) % 256]):=⟨_,rfl⟩
      replace H : (some (strOfNums y387,true)) = some (r1,r2):=by (rw [hy387];with_reducible exact H)
      have Ny387:=A_ hy387;clear hy387;simp only [Option.some.injEq,Prod.mk.injEq] at H;obtain ⟨rfl,rfl⟩:=H
      go_wp2_with (((with_reducible refine gate_builtin (b:=.append) (xs:=#[.tmp 19,.tmp 22]) rfl ?_);at_builtin;refine Kd.R_append (Kd.int .u8) (w0:=w) w.heap.size rfl (.tmp 19) (.tmp 22) 46 5 (.int .u8 0) 1 rfl Try.underlying46 info5 rfl (by decide) (by omega) u4 x4_1 ((x0_1) % 256) [.int .u8 ((x0_1) % 256)] (fun _ => True) (fun _ => False) rfl rfl ?aP (fun _ hk => hk.elim) ?aF ?aO ?aB ?aS ?aL ?_;(case aP => exact rfl);(case aB => exact (bq_ HB));(case aF => exact (fun _ _ => trivial));(case aO => exact (rq_ HO_4));(case aS => exact (bz_ (bq_ HB)));(case aL => have:=LMc7.out;omega);intro v388 w8 ho hb hg hat;rw [← Ny387.out] at ho;replace HB:=A_ (hb);have HO389:=A_ (ho);clear HO_4;clear ho hb hg hat;have hcv9:=own_string (P:=Try.prog) Try.underlying46 Try.underlying5 Try.underlying9 (Kd.own_of_R HO389.out)))
      go_ret2;exact ⟨ex_,bq_ HB⟩
     ·rw [if_neg c7] at H;exact absurd H (by simp)
 ·replace c3:=Bool.eq_false_iff.mpr c3;subst c3
  have H1 : (some ((⟨#[]⟩ : ByteArray),false)) = some (r1,r2):=by rw [if_neg (show ¬ (false = true) by decide)] at H;exact H
  clear H;have H:=H1;clear H1;simp only [Option.some.injEq,Prod.mk.injEq] at H;obtain ⟨rfl,rfl⟩:=H;go_enter Try.func77,Try.ntmps77
  go_wp2_with (((with_reducible refine gate_callee (f:=47) rfl ?_);refine gL_ (some 6) Try.func47 #[.int .i64 a0,.int .i64 0,.int .i64 1000000000] ?_;(with_reducible refine (impl_within.calls a0 0 1000000000 false _ A2.out).mono ?_);rintro e w' ⟨rfl,⟨nd,rfl⟩⟩;refine ⟨_,rfl,?_⟩))
  go_ret2;exact ⟨ex_,bq_ HB⟩
mutual
def impl_ReadVar.l0 : Nat → ByteArray → Int → Int → Int → Option (Int × Int × Bool)
 | 0,_,_,_,_ => none
 | k + 1,x0,x1,x7,x8 => if x8 < 5 then (impl_ReadVar.j1 k x0 x1 x7 x8 (decide ((wrap64 (x1 + x8)) < (x0.size : Int)))) else (impl_ReadVar.j1 k x0 x1 x7 x8 false)
def impl_ReadVar.j1 : Nat → ByteArray → Int → Int → Int → Bool → Option (Int × Int × Bool)
 | 0,_,_,_,_,_ => none
 | k + 1,x0,x1,x7,x8,x26 => if x26 = true then (if 0 ≤ (wrap64 (x1 + x8)) then (if (wrap64 (x1 + x8)) < (x0.size : Int) then (if 0 ≤ (wrap64 (7 * x8)) then (if (wrap64 (bt x0 (wrap64 (x1 + x8)))) < 128 then ((impl_VarText.f k (wrap64 (x7 + (shl .i64 (Int.tmod (wrap64 (bt x0 (wrap64 (x1 + x8)))) 128) (wrap64 (7 * x8)))))).bind fun bt391 => (if bt391.2 = true then (if (bt391.1.size : Int) = (wrap64 (x8 + 1)) then (some (wrap64 (x7 + (shl .i64 (Int.tmod (wrap64 (bt x0 (wrap64 (x1 + x8)))) 128) (wrap64 (7 * x8)))),wrap64 ((wrap64 (x1 + x8)) + 1),true)) else (some (0,0,false))) else (some (0,0,false)))) else (impl_ReadVar.l0 k x0 x1 (wrap64 (x7 + (shl .i64 (Int.tmod (wrap64 (bt x0 (wrap64 (x1 + x8)))) 128) (wrap64 (7 * x8))))) (wrap64 (x8 + 1)))) else (none)) else (none)) else (none)) else (some (0,0,false))
end
def impl_ReadVar.f (k : Nat) (a0 : ByteArray) (a1 : Int) : Option (Int × Int × Bool) := (impl_within.f a1 0 (a0.size : Int)).bind fun t390 => (if t390 = true then (impl_ReadVar.l0 k a0 a1 0 0) else (some (0, 0, false)))
theorem impl_ReadVar.mono_l : ∀ k, (∀ y0 y1 y2 y3, LeO (impl_ReadVar.l0 k y0 y1 y2 y3) (impl_ReadVar.l0 (k + 1) y0 y1 y2 y3)) ∧ (∀ y0 y1 y2 y3 y4, LeO (impl_ReadVar.j1 k y0 y1 y2 y3 y4) (impl_ReadVar.j1 (k + 1) y0 y1 y2 y3 y4))
 | 0 => ⟨fun _ _ _ _ r h => by simp [impl_ReadVar.l0] at h,fun _ _ _ _ _ r h => by simp [impl_ReadVar.j1] at h⟩
 | k + 1 => by
  obtain ⟨ih0,ih1⟩:=impl_ReadVar.mono_l k;refine ⟨?_,?_⟩
  ·intro y0 y1 y2 y3
   unfold impl_ReadVar.l0
   repeat' first
   | (with_reducible exact ih1 _ _ _ _ _)
   | (with_reducible refine LeO.ite ?_ ?_)
  ·intro y0 y1 y2 y3 y4
   unfold impl_ReadVar.j1
   repeat' first
   | (with_reducible exact ih0 _ _ _ _)
   | (with_reducible exact impl_VarText.mono _ _)
   | (with_reducible exact LeO.refl _)
   | (with_reducible refine LeO.ite ?_ ?_)
   | (with_reducible refine LeO.bind ?_ (fun _ => ?_))
theorem impl_ReadVar.mono : ∀ a0 a1 k, LeO (impl_ReadVar.f k a0 a1) (impl_ReadVar.f (k + 1) a0 a1) := by
 intro a0 a1 k;obtain ⟨ih0,ih1⟩:=impl_ReadVar.mono_l k
 unfold impl_ReadVar.f
 repeat' first
   | (with_reducible exact ih0 _ _ _ _)
   | (with_reducible exact LeO.refl _)
   | (with_reducible refine LeO.ite ?_ ?_)
   | (with_reducible refine LeO.bind ?_ (fun _ => ?_))
set_option maxHeartbeats 8000000 in
set_option maxRecDepth 100000 in
theorem impl_ReadVar.calls (k : Nat) (a0 : ByteArray) (a1 : Int) (r1 : Int) (r2 : Int) (r3 : Bool) (w : World) (h : impl_ReadVar.f k a0 a1 = some (r1, r2, r3)) :
  Calls Try.prog 97 #[.string a0,.int .i64 a1] w fun e w' => e = .returned (.tuple #[.int .i64 r1,.int .i64 r2,.bool r3]) ∧ Below w.heap.size w w':=by
 have HB:=A_ (Below.refl w.heap.size w);unfold impl_ReadVar.f at h;have H:=h;clear h;replace H:=ob_.mp H;obtain ⟨t390,A30,H⟩:=H;have A3:=A_ A30;clear A30
 by_cases c4 : t390 = true
 ·subst c4
  rw [if_pos rfl] at H;have H':=A_ H;clear H;go_enter Try.func97,Try.ntmps97
  go_wp2_with (((with_reducible refine gate_callee (f:=47) rfl ?_);refine gL_ (some 15) Try.func47 #[.int .i64 a1,.int .i64 0,.int .i64 (a0.size : Int)] ?_;(with_reducible refine (impl_within.calls a1 0 (a0.size : Int) true _ A3.out).mono ?_);rintro e w' ⟨rfl,⟨nd,rfl⟩⟩;refine ⟨_,rfl,?_⟩))
  go_loopg [7,8] k (fun kq v7 v8 w' => ∃ (x7_1 : Int) (x8_1 : Int),v7 = .int .i64 x7_1 ∧ v8 = .int .i64 x8_1 ∧ Aside0 (impl_ReadVar.l0 kq a0 a1 x7_1 x8_1 = some (r1,r2,r3)) ∧ Aside0 (kq ≤ k) ∧ Aside0 (Below w.heap.size w w'))
  case atStart => exact ⟨(0),(0),(by rfl),(by rfl),H',⟨Nat.le_refl _⟩,⟨bq_ HB⟩⟩
  case round =>
   clear H'
   try clear p2
   try clear c4
   obtain ⟨x7_1,x8_1,rfl,rfl,HA,HK1,HB⟩:=hrel
   cases gk with
   | zero => exact absurd HA.out (by simp [impl_ReadVar.l0])
   | succ k1 =>
    have H:=HA.out;clear HA;simp only [impl_ReadVar.l0] at H;have HC5:=A_ H;clear H
    go_upto_region 5 with (fail)
    go_cut [26] (fun v26 wc => ∃ (kq : Nat) (x26_4 : Bool),v26 = .bool x26_4 ∧ Aside0 (impl_ReadVar.j1 kq a0 a1 x7_1 x8_1 x26_4 = some (r1,r2,r3)) ∧ Aside0 (kq ≤ k1) ∧ Aside0 (Below w.heap.size w wc))
    case first =>
     have H:=HC5.out;clear HC5
     by_cases c6 : x8_1 < 5
     ·rw [if_pos c6] at H;have c6b0 : decide (x8_1 < 5) = true:=de_ c6;clear c6
      (skip)
      have H':=A_ H;clear H;go_wp2
      go_meet
      case rel => exact ⟨_,(decide ((wrap64 (a1 + x8_1)) < (a0.size : Int))),(by rfl),H',⟨by have:=HK1.out;omega⟩,⟨bq_ HB⟩⟩
     ·rw [if_neg c6] at H;have c6b0 : decide (x8_1 < 5) = false:=decide_eq_false c6;clear c6
      (skip)
      have H':=A_ H;clear H;go_wp2
      go_meet
      case rel => exact ⟨_,(false),(by rfl),H',⟨by have:=HK1.out;omega⟩,⟨bq_ HB⟩⟩
    case rest =>
     clear HC5
     try clear p2
     try clear c4
     try clear c6
     try clear c6b0
     try clear p6
     try clear p2
     obtain ⟨kq,x26_4,rfl,HA,HJ4,HB⟩:=hcut
     cases kq with
     | zero => exact absurd HA.out (by simp [impl_ReadVar.j1])
     | succ kj4 =>
      have H:=HA.out;clear HA;simp only [impl_ReadVar.j1] at H
      by_cases c7 : x26_4 = true
      ·subst c7
       rw [if_pos rfl] at H;obtain ⟨ji8,hji8⟩ : ∃ j_ : Int,(wrap64 (a1 + x8_1)) = j_:=⟨_,rfl⟩
       replace H : (if 0 ≤ (ji8) then (if (ji8) < (a0.size : Int) then (if 0 ≤ (wrap64 (7 * x8_1)) then (if (wrap64 (bt a0 (ji8))) < 128 then ((impl_VarText.f kj4 (wrap64 (x7_1 + (shl .i64 (Int.tmod (wrap64 (bt a0 (ji8))) 128) (wrap64 (7 * x8_1)))))).bind fun bt391 => (if bt391.2 = true then (if (bt391.1.size : Int) = (wrap64 (x8_1 + 1)) then (some (wrap64 (x7_1 + (shl .i64 (Int.tmod (wrap64 (bt a0 (ji8))) 128) (wrap64 (7 * x8_1)))),wrap64 ((ji8) + 1),true)) else (some (0,0,false))) else (some (0,0,false)))) else (impl_ReadVar.l0 kj4 a0 a1 (wrap64 (x7_1 + (shl .i64 (Int.tmod (wrap64 (bt a0 (ji8))) 128) (wrap64 (7 * x8_1))))) (wrap64 (x8_1 + 1)))) else (none)) else (none)) else (none)) = some (r1,r2,r3):=by (rw [hji8] at H;exact H)
       have hji8w : (IntKind.i64.wrap (a1 + x8_1)) = ji8:=(i64_w _).trans hji8
       by_cases c9 : 0 ≤ (ji8)
       ·rw [if_pos c9] at H;have c9b0 : decide (0 ≤ (ji8)) = true:=de_ c9;clear c9
        by_cases c10 : (ji8) < (a0.size : Int)
        ·rw [if_pos c10] at H;have c10b0 : decide ((ji8) < (a0.size : Int)) = true:=de_ c10;clear c10;obtain ⟨ji12,hji12⟩ : ∃ j_ : Int,(wrap64 (7 * x8_1)) = j_:=⟨_,rfl⟩
         replace H : (if 0 ≤ (ji12) then (if (wrap64 (bt a0 (ji8))) < 128 then ((impl_VarText.f kj4 (wrap64 (x7_1 + (shl .i64 (Int.tmod (wrap64 (bt a0 (ji8))) 128) (ji12))))).bind fun bt391 => (if bt391.2 = true then (if (bt391.1.size : Int) = (wrap64 (x8_1 + 1)) then (some (wrap64 (x7_1 + (shl .i64 (Int.tmod (wrap64 (bt a0 (ji8))) 128) (ji12))),wrap64 ((ji8) + 1),true)) else (some (0,0,false))) else (some (0,0,false)))) else (impl_ReadVar.l0 kj4 a0 a1 (wrap64 (x7_1 + (shl .i64 (Int.tmod (wrap64 (bt a0 (ji8))) 128) (ji12)))) (wrap64 (x8_1 + 1)))) else (none)) = some (r1,r2,r3):=by (rw [hji12] at H;exact H)
         have hji12w : (IntKind.i64.wrap (7 * x8_1)) = ji12:=(i64_w _).trans hji12
         by_cases c13 : 0 ≤ (ji12)
         ·rw [if_pos c13] at H;have c13b0:=eq_true c13;have c13b1 : decide (0 ≤ (ji12)) = true:=de_ c13;clear c13;obtain ⟨ji14,hji14⟩ : ∃ j_ : Int,(shl .i64 (Int.tmod (wrap64 (bt a0 (ji8))) 128) (ji12)) = j_:=⟨_,rfl⟩
          replace H : (if (wrap64 (bt a0 (ji8))) < 128 then ((impl_VarText.f kj4 (wrap64 (x7_1 + (ji14)))).bind fun bt391 => (if bt391.2 = true then (if (bt391.1.size : Int) = (wrap64 (x8_1 + 1)) then (some (wrap64 (x7_1 + (ji14)),wrap64 ((ji8) + 1),true)) else (some (0,0,false))) else (some (0,0,false)))) else (impl_ReadVar.l0 kj4 a0 a1 (wrap64 (x7_1 + (ji14))) (wrap64 (x8_1 + 1)))) = some (r1,r2,r3):=by (rw [hji14] at H;exact H)
          have hji14_ : (IntKind.i64.wrap ((Int.tmod (wrap64 (bt a0 (ji8))) 128) * 2 ^ min (ji12).toNat 64)) = ji14:=hji14;have hji14z : (ji12) ≤ 64 → (IntKind.i64.wrap ((Int.tmod (wrap64 (bt a0 (ji8))) 128) * 2 ^ (ji12).toNat)) = ji14:=shl_small hji14;have hji14y : (wrap64 ((Int.tmod (wrap64 (bt a0 (ji8))) 128) * 2 ^ min (ji12).toNat 64)) = ji14:=(i64_w _).symm.trans hji14_
          have hji14x : (ji12) ≤ 64 → (wrap64 ((Int.tmod (wrap64 (bt a0 (ji8))) 128) * 2 ^ (ji12).toNat)) = ji14:=fun h_ => (i64_w _).symm.trans (hji14z h_)
          by_cases c15 : (wrap64 (bt a0 (ji8))) < 128
          ·rw [if_pos c15] at H;have c15b0 : decide ((wrap64 (bt a0 (ji8))) < 128) = true:=de_ c15;clear c15;replace H:=ob_.mp H;obtain ⟨⟨t391,t392⟩,A160,H⟩:=H;(try dsimp only at H);have A16:=A_ A160;clear A160
           by_cases c17 : t392 = true
           ·subst c17
            rw [if_pos rfl] at H
            by_cases c18 : (t391.size : Int) = (wrap64 (x8_1 + 1))
            ·rw [if_pos c18] at H;have c18b0 : ((t391.size : Int) == (wrap64 (x8_1 + 1))) = true:=beq_iff_eq.mpr c18;have c18b1 : ((t391.size : Int) != (wrap64 (x8_1 + 1))) = false:=bne_eq_false_iff_eq.mpr c18;clear c18;simp only [Option.some.injEq,Prod.mk.injEq] at H;obtain ⟨rfl,rfl,rfl⟩:=H;have p11 : 0 ≤ ((ji8) : Int):=oda_;have q11 : (ji8) < (a0.size : Int):=oda_;have hx11:=bt_at a0 (ji8);replace p11:=eq_true p11;replace q11:=eq_true q11
             go_wp2_with (((with_reducible refine gate_callee (f:=77) rfl ?_);refine goesL_ (some 46) rfl rfl Try.func77 (by kernel_rfl) rfl #[.int .i64 (wrap64 (x7_1 + (ji14)))] rfl (by (try simp only [s4_,s5_,s6_]);rfl) ?_;(with_reducible refine (impl_VarText.calls kj4 (wrap64 (x7_1 + (ji14))) t391 true _ A16.out).mono ?_);rintro e w19 ⟨rfl,hb⟩;refine ⟨_,rfl,?_⟩;replace HB:=bS_ HB hb;(try clear hb)))
             go_ret3;exact ⟨by rfl,bq_ HB⟩
            ·rw [if_neg c18] at H;have c18b0 : ((t391.size : Int) == (wrap64 (x8_1 + 1))) = false:=beq_eq_false_iff_ne.mpr c18;have c18b1 : ((t391.size : Int) != (wrap64 (x8_1 + 1))) = true:=bne_iff_ne.mpr c18;simp only [Option.some.injEq,Prod.mk.injEq] at H;obtain ⟨rfl,rfl,rfl⟩:=H;have p11 : 0 ≤ ((ji8) : Int):=oda_;have q11 : (ji8) < (a0.size : Int):=oda_;have hx11:=bt_at a0 (ji8);replace p11:=eq_true p11;replace q11:=eq_true q11
             go_wp2_with (((with_reducible refine gate_callee (f:=77) rfl ?_);refine goesL_ (some 46) rfl rfl Try.func77 (by kernel_rfl) rfl #[.int .i64 (wrap64 (x7_1 + (ji14)))] rfl (by (try simp only [s4_,s5_,s6_]);rfl) ?_;(with_reducible refine (impl_VarText.calls kj4 (wrap64 (x7_1 + (ji14))) t391 true _ A16.out).mono ?_);rintro e w20 ⟨rfl,hb⟩;refine ⟨_,rfl,?_⟩;replace HB:=bS_ HB hb;(try clear hb)))
             go_ret3;exact ⟨by rfl,bq_ HB⟩
           ·replace c17:=Bool.eq_false_iff.mpr c17;subst c17
            have H1 : (some (0,0,false)) = some (r1,r2,r3):=by rw [if_neg (show ¬ (false = true) by decide)] at H;exact H
            clear H;have H:=H1;clear H1;simp only [Option.some.injEq,Prod.mk.injEq] at H;obtain ⟨rfl,rfl,rfl⟩:=H;have p11 : 0 ≤ ((ji8) : Int):=oda_;have q11 : (ji8) < (a0.size : Int):=oda_;have hx11:=bt_at a0 (ji8);replace p11:=eq_true p11;replace q11:=eq_true q11
            go_wp2_with (((with_reducible refine gate_callee (f:=77) rfl ?_);refine goesL_ (some 46) rfl rfl Try.func77 (by kernel_rfl) rfl #[.int .i64 (wrap64 (x7_1 + (ji14)))] rfl (by (try simp only [s4_,s5_,s6_]);rfl) ?_;(with_reducible refine (impl_VarText.calls kj4 (wrap64 (x7_1 + (ji14))) t391 false _ A16.out).mono ?_);rintro e w21 ⟨rfl,hb⟩;refine ⟨_,rfl,?_⟩;replace HB:=bS_ HB hb;(try clear hb)))
            go_ret3;exact ⟨by rfl,bq_ HB⟩
          ·rw [if_neg c15] at H;have c15b0 : decide ((wrap64 (bt a0 (ji8))) < 128) = false:=decide_eq_false c15;clear c15;have H':=A_ H;clear H;have p11 : 0 ≤ ((ji8) : Int):=oda_;have q11 : (ji8) < (a0.size : Int):=oda_;have hx11:=bt_at a0 (ji8);replace p11:=eq_true p11;replace q11:=eq_true q11;go_wp2
           go_roundg kj4
           case measure => have:=HK1.out;have:=HJ4.out;omega
           case rel => exact ⟨(wrap64 (x7_1 + (ji14))),(wrap64 (x8_1 + 1)),(by rfl),(by rfl),H',⟨by have:=HK1.out;have:=HJ4.out;omega⟩,⟨bq_ HB⟩⟩
         ·rw [if_neg c13] at H;exact absurd H (by simp)
        ·rw [if_neg c10] at H;exact absurd H (by simp)
       ·rw [if_neg c9] at H;exact absurd H (by simp)
      ·replace c7:=Bool.eq_false_iff.mpr c7;subst c7
       have H1 : (some (0,0,false)) = some (r1,r2,r3):=by rw [if_neg (show ¬ (false = true) by decide)] at H;exact H
       clear H;have H:=H1;clear H1;simp only [Option.some.injEq,Prod.mk.injEq] at H;obtain ⟨rfl,rfl,rfl⟩:=H;go_wp2;go_ret3;exact ⟨ex_,bq_ HB⟩
 ·replace c4:=Bool.eq_false_iff.mpr c4;subst c4
  have H1 : (some (0,0,false)) = some (r1,r2,r3):=by rw [if_neg (show ¬ (false = true) by decide)] at H;exact H
  clear H;have H:=H1;clear H1;simp only [Option.some.injEq,Prod.mk.injEq] at H;obtain ⟨rfl,rfl,rfl⟩:=H;go_enter Try.func97,Try.ntmps97
  go_wp2_with (((with_reducible refine gate_callee (f:=47) rfl ?_);refine gL_ (some 15) Try.func47 #[.int .i64 a1,.int .i64 0,.int .i64 (a0.size : Int)] ?_;(with_reducible refine (impl_within.calls a1 0 (a0.size : Int) false _ A3.out).mono ?_);rintro e w' ⟨rfl,⟨nd,rfl⟩⟩;refine ⟨_,rfl,?_⟩))
  go_ret3;exact ⟨ex_,bq_ HB⟩
mutual
def impl_SumMore.l0 : Nat → Int → ByteArray → Int → Option (Int)
 | 0,_,_,_ => none
 | k + 1,x0,x1,x5 => if x5 < (x1.size : Int) then (if 0 ≤ x5 then (impl_SumMore.l1 k (Go.bits .xor .u32 x0 ((bt x1 x5) % 4294967296)) x1 x5 0) else (none)) else (some x0)
def impl_SumMore.l1 : Nat → Int → ByteArray → Int → Int → Option (Int)
 | 0,_,_,_,_ => none
 | k + 1,x0,x1,x5,x6 => if x6 < 8 then (if (Int.tmod x0 2) = 1 then (impl_SumMore.l1 k (Go.bits .xor .u32 ((Int.tdiv x0 2) % 4294967296) 3558460437) x1 x5 (wrap64 (x6 + 1))) else (impl_SumMore.l1 k ((Int.tdiv x0 2) % 4294967296) x1 x5 (wrap64 (x6 + 1)))) else (impl_SumMore.l0 k x0 x1 (wrap64 (x5 + 1)))
end
def impl_SumMore.f (k : Nat) (a0 : Int) (a1 : ByteArray) : Option (Int) := impl_SumMore.l0 k a0 a1 0
theorem impl_SumMore.mono_l : ∀ k, (∀ y0 y1 y2, LeO (impl_SumMore.l0 k y0 y1 y2) (impl_SumMore.l0 (k + 1) y0 y1 y2)) ∧ (∀ y0 y1 y2 y3, LeO (impl_SumMore.l1 k y0 y1 y2 y3) (impl_SumMore.l1 (k + 1) y0 y1 y2 y3))
 | 0 => ⟨fun _ _ _ r h => by simp [impl_SumMore.l0] at h,fun _ _ _ _ r h => by simp [impl_SumMore.l1] at h⟩
 | k + 1 => by
  obtain ⟨ih0,ih1⟩:=impl_SumMore.mono_l k;refine ⟨?_,?_⟩
  ·intro y0 y1 y2
   unfold impl_SumMore.l0
   repeat' first
   | (with_reducible exact ih1 _ _ _ _)
   | (with_reducible exact LeO.refl _)
   | (with_reducible refine LeO.ite ?_ ?_)
  ·intro y0 y1 y2 y3
   unfold impl_SumMore.l1
   repeat' first
   | (with_reducible exact ih0 _ _ _)
   | (with_reducible exact ih1 _ _ _ _)
   | (with_reducible refine LeO.ite ?_ ?_)
theorem impl_SumMore.mono : ∀ a0 a1 k, LeO (impl_SumMore.f k a0 a1) (impl_SumMore.f (k + 1) a0 a1) := by
 intro a0 a1 k;obtain ⟨ih0,ih1⟩:=impl_SumMore.mono_l k
 unfold impl_SumMore.f
 repeat' first
   | (with_reducible exact ih0 _ _ _)
set_option maxHeartbeats 8000000 in
set_option maxRecDepth 100000 in
theorem impl_SumMore.calls (k : Nat) (a0 : Int) (a1 : ByteArray) (r : Int) (w : World) (h : impl_SumMore.f k a0 a1 = some r) :
  Calls Try.prog 134 #[.int .u32 a0,.string a1] w fun e w' => e = .returned (.int .u32 r) ∧ Drawn0 w w':=by
 unfold impl_SumMore.f at h;have H:=h;clear h;have H':=A_ H;clear H;go_enter Try.func134,Try.ntmps134;go_wp2
 go_loopg [0,5] k (fun kq v0 v5 w' => ∃ (x0_1 : Int) (x5_1 : Int),v0 = .int .u32 x0_1 ∧ v5 = .int .i64 x5_1 ∧ Aside0 (impl_SumMore.l0 kq x0_1 a1 x5_1 = some r) ∧ Aside0 (kq ≤ k) ∧ Drawn0 w w')
 case atStart => exact ⟨(a0),(0),(by rfl),(by rfl),H',⟨Nat.le_refl _⟩,by repeat (exact Drawn0.refl _)⟩
 case round =>
  clear H'
  try clear c1
  try clear p2
  obtain ⟨x0_1,x5_1,rfl,rfl,HA,HK1,⟨m1,rfl⟩⟩:=hrel
  cases gk with
  | zero => exact absurd HA.out (by simp [impl_SumMore.l0])
  | succ k1 =>
   have H:=HA.out;clear HA;simp only [impl_SumMore.l0] at H
   by_cases c3 : x5_1 < (a1.size : Int)
   ·rw [if_pos c3] at H;have c3b0 : decide (x5_1 < (a1.size : Int)) = true:=de_ c3;clear c3
    by_cases c4 : 0 ≤ x5_1
    ·rw [if_pos c4] at H;have c4b0 : decide (0 ≤ x5_1) = true:=de_ c4;clear c4;have H':=A_ H;clear H;have p5 : 0 ≤ (x5_1 : Int):=oda_;have q5 : x5_1 < (a1.size : Int):=oda_;have hx5:=bt_at a1 x5_1;replace p5:=eq_true p5;replace q5:=eq_true q5;go_wp2
     go_loopg [0,6] k1 (fun kq v0 v6 w' => ∃ (x0_2 : Int) (x6_2 : Int),v0 = .int .u32 x0_2 ∧ v6 = .int .i64 x6_2 ∧ Aside0 (impl_SumMore.l1 kq x0_2 a1 x5_1 x6_2 = some r) ∧ Aside0 (kq ≤ k1) ∧ Drawn0 w w')
     case atStart => exact ⟨(Go.bits .xor .u32 x0_1 ((bt a1 x5_1) % 4294967296)),(0),(by rfl),(by rfl),H',⟨Nat.le_refl _⟩,by repeat (first|exact Drawn0.refl _|apply Drawn0.step)⟩
     case round =>
      clear H'
      try clear c1
      try clear p2
      try clear c3
      try clear c3b0
      try clear c4
      try clear c4b0
      try clear p5
      try clear q5
      try clear hx5
      try clear p2
      try clear p5
      try clear q5
      obtain ⟨x0_2,x6_2,rfl,rfl,HA,HK2,⟨m2,rfl⟩⟩:=hrel
      cases gk with
      | zero => exact absurd HA.out (by simp [impl_SumMore.l1])
      | succ k2 =>
       have H:=HA.out;clear HA;simp only [impl_SumMore.l1] at H
       by_cases c6 : x6_2 < 8
       ·rw [if_pos c6] at H;have c6b0 : decide (x6_2 < 8) = true:=de_ c6;clear c6
        by_cases c7 : (Int.tmod x0_2 2) = 1
        ·rw [if_pos c7] at H;have c7b0 : ((Int.tmod x0_2 2) == 1) = true:=beq_iff_eq.mpr c7;have c7b1 : ((Int.tmod x0_2 2) != 1) = false:=bne_eq_false_iff_eq.mpr c7;clear c7;have H':=A_ H;clear H;go_wp2
         go_roundg k2
         case measure => have:=HK1.out;have:=HK2.out;omega
         case rel => exact ⟨(Go.bits .xor .u32 ((Int.tdiv x0_2 2) % 4294967296) 3558460437),(wrap64 (x6_2 + 1)),(by rfl),(by rfl),H',⟨by have:=HK1.out;have:=HK2.out;omega⟩,by repeat (first|exact Drawn0.refl _|apply Drawn0.step)⟩
        ·rw [if_neg c7] at H;have c7b0 : ((Int.tmod x0_2 2) == 1) = false:=beq_eq_false_iff_ne.mpr c7;have c7b1 : ((Int.tmod x0_2 2) != 1) = true:=bne_iff_ne.mpr c7;have H':=A_ H;clear H;go_wp2
         go_roundg k2
         case measure => have:=HK1.out;have:=HK2.out;omega
         case rel => exact ⟨((Int.tdiv x0_2 2) % 4294967296),(wrap64 (x6_2 + 1)),(by rfl),(by rfl),H',⟨by have:=HK1.out;have:=HK2.out;omega⟩,by repeat (first|exact Drawn0.refl _|apply Drawn0.step)⟩
       ·rw [if_neg c6] at H;have c6b0 : decide (x6_2 < 8) = false:=decide_eq_false c6;clear c6;have H':=A_ H;clear H;go_wp2
        go_roundg k2
        case measure => have:=HK1.out;have:=HK2.out;omega
        case rel => exact ⟨(x0_2),(wrap64 (x5_1 + 1)),(by rfl),(by rfl),H',⟨by have:=HK1.out;have:=HK2.out;omega⟩,by repeat (first|exact Drawn0.refl _|apply Drawn0.step)⟩
    ·rw [if_neg c4] at H;exact absurd H (by simp)
   ·rw [if_neg c3] at H;have c3b0 : decide (x5_1 < (a1.size : Int)) = false:=decide_eq_false c3;clear c3;obtain rfl:=Option.some.inj H;go_wp2;go_ret;exact ⟨by rfl,by repeat (first|exact Drawn0.refl _|apply Drawn0.step)⟩
def impl_SumOf.f (k : Nat) (a0 : ByteArray) : Option (Int) := (impl_SumMore.f k 4294967295 a0).bind fun t393 => (some t393)
theorem impl_SumOf.mono : ∀ a0 k, LeO (impl_SumOf.f k a0) (impl_SumOf.f (k + 1) a0) := by
 intro a0 k
 unfold impl_SumOf.f
 repeat' first
   | (with_reducible exact impl_SumMore.mono _ _ _)
   | (with_reducible exact LeO.refl _)
   | (with_reducible refine LeO.bind ?_ (fun _ => ?_))
set_option maxHeartbeats 8000000 in
set_option maxRecDepth 100000 in
theorem impl_SumOf.calls (k : Nat) (a0 : ByteArray) (r : Int) (w : World) (h : impl_SumOf.f k a0 = some r) :
  Calls Try.prog 124 #[.string a0] w fun e w' => e = .returned (.int .u32 r) ∧ Drawn0 w w':=by
 unfold impl_SumOf.f at h;have H:=h;clear h;replace H:=ob_.mp H;obtain ⟨t393,A20,H⟩:=H;have A2:=A_ A20;clear A20;obtain rfl:=Option.some.inj H;go_enter Try.func124,Try.ntmps124
 go_wp2_with (((with_reducible refine gate_callee (f:=134) rfl ?_);refine gL_ (some 4) Try.func134 #[.int .u32 4294967295,.string a0] ?_;(with_reducible refine (impl_SumMore.calls k 4294967295 a0 t393 _ A2.out).mono ?_);rintro e w' ⟨rfl,⟨nd,rfl⟩⟩;refine ⟨_,rfl,?_⟩))
 go_ret;exact ⟨by rfl,by repeat (first|exact Drawn0.refl _|apply Drawn0.step)⟩
def impl_Frame.f (k : Nat) (a0 : ByteArray) : Option (ByteArray × Bool) := (impl_within.f (a0.size : Int) 1 9000).bind fun t394 => (if t394 = true then ((impl_VarText.f k (a0.size : Int)).bind fun bt395 => ((impl_SumOf.f k a0).bind fun t397 => ((some (([(t397 / 16777216) % 256, (t397 / 65536) % 256, (t397 / 256) % 256, (t397) % 256] : List Int) : List Int)).bind fun y398 => (if bt395.1.size + (strOfNums y398).size ≤ 9223372036854775807 then (if (bt395.1 ++ (strOfNums y398)).size + a0.size ≤ 9223372036854775807 then (some ((bt395.1 ++ (strOfNums y398)) ++ a0, true)) else (none)) else (none))))) else (some ((⟨#[]⟩ : ByteArray), false)))
theorem impl_Frame.mono : ∀ a0 k, LeO (impl_Frame.f k a0) (impl_Frame.f (k + 1) a0) := by
 intro a0 k
 unfold impl_Frame.f
 repeat' first
   | (with_reducible exact impl_SumOf.mono _ _)
   | (with_reducible exact impl_VarText.mono _ _)
   | (with_reducible exact LeO.refl _)
   | (with_reducible refine LeO.ite ?_ ?_)
   | (with_reducible refine LeO.bind ?_ (fun _ => ?_))
set_option maxHeartbeats 8000000 in
set_option maxRecDepth 100000 in
theorem impl_Frame.calls (k : Nat) (a0 : ByteArray) (r1 : ByteArray) (r2 : Bool) (w : World) (h : impl_Frame.f k a0 = some (r1, r2)) :
  Calls Try.prog 98 #[.string a0] w fun e w' => e = .returned (.tuple #[.string r1,.bool r2]) ∧ Below w.heap.size w w':=by
 have HB:=A_ (Below.refl w.heap.size w);unfold impl_Frame.f at h;have H:=h;clear h;replace H:=ob_.mp H;obtain ⟨t394,A20,H⟩:=H;have A2:=A_ A20;clear A20
 by_cases c3 : t394 = true
 ·subst c3
  rw [if_pos rfl] at H;replace H:=ob_.mp H;obtain ⟨⟨t395,t396⟩,A40,H⟩:=H;(try dsimp only at H);have A4:=A_ A40;clear A40;replace H:=ob_.mp H;obtain ⟨t397,A50,H⟩:=H;have A5:=A_ A50;clear A50;obtain ⟨y398,hy398⟩ : ∃ y_ : List Int,y_ = (([(t397 / 16777216) % 256,(t397 / 65536) % 256,(t397 / 256) % 256,(t397) % 256] : List Int)):=⟨_,rfl⟩
  replace H : (if t395.size + (strOfNums y398).size ≤ 9223372036854775807 then (if (t395 ++ (strOfNums y398)).size + a0.size ≤ 9223372036854775807 then (some ((t395 ++ (strOfNums y398)) ++ a0,true)) else (none)) else (none)) = some (r1,r2):=by (have H2_:=(Option.bind_some _ _).symm.trans H;rw [hy398];with_reducible exact H2_)
  have Ny398:=A_ hy398;clear hy398
  by_cases c6 : t395.size + (strOfNums y398).size ≤ 9223372036854775807
  ·rw [if_pos c6] at H;have c6b0:=eq_true c6;have c6b1 : decide (t395.size + (strOfNums y398).size ≤ 9223372036854775807) = true:=de_ c6
   try have c6b2 : (9223372036854775807 < t395.size + (strOfNums y398).size) = False:=eq_false (Nat.not_lt.2 c6)
   by_cases c7 : (t395 ++ (strOfNums y398)).size + a0.size ≤ 9223372036854775807
   ·rw [if_pos c7] at H;have c7b0:=eq_true c7;have c7b1 : decide ((t395 ++ (strOfNums y398)).size + a0.size ≤ 9223372036854775807) = true:=de_ c7
    try have c7b2 : (9223372036854775807 < (t395 ++ (strOfNums y398)).size + a0.size) = False:=eq_false (Nat.not_lt.2 c7)
    try have c7b3 : (9223372036854775807 < t395.size + (strOfNums y398).size + a0.size) = False:=eq_false (by have h_:=c7;simp only [ByteArray.size_append,show ∀ x_ : UInt8,(⟨#[x_]⟩ : ByteArray).size = 1 from fun _ => rfl] at h_;omega)
    simp only [Option.some.injEq,Prod.mk.injEq] at H;obtain ⟨rfl,rfl⟩:=H;go_enter Try.func98,Try.ntmps98
    go_wp2_with (first|((with_reducible refine gate_callee (f:=47) rfl ?_);refine gL_ (some 9) Try.func47 #[.int .i64 (a0.size : Int),.int .i64 1,.int .i64 9000] ?_;(with_reducible refine (impl_within.calls (a0.size : Int) 1 9000 true _ A2.out).mono ?_);rintro e w' ⟨rfl,⟨nd,rfl⟩⟩;refine ⟨_,rfl,?_⟩)|((with_reducible refine gate_callee (f:=77) rfl ?_);refine gL_ (some 14) Try.func77 #[.int .i64 (a0.size : Int)] ?_;(with_reducible refine (impl_VarText.calls k (a0.size : Int) t395 t396 _ A4.out).mono ?_);rintro e w8 ⟨rfl,hb⟩;refine ⟨_,rfl,?_⟩;replace HB:=bS_ HB hb;(try clear hb))|((with_reducible refine gate_callee (f:=124) rfl ?_);refine gL_ (some 18) Try.func124 #[.string a0] ?_;(with_reducible refine (impl_SumOf.calls k a0 t397 _ A5.out).mono ?_);rintro e w' ⟨rfl,⟨nd,rfl⟩⟩;refine ⟨_,rfl,?_⟩)|((with_reducible refine gate_dst (N:=31) rfl ?_);refine rX_ (d:=(Kd.int .u8)) (e:=5) (xs:=([(t397 / 16777216) % 256,(t397 / 65536) % 256,(t397 / 256) % 256,(t397) % 256] : List Int)) (inner:=[.int .u8 ((t397 / 16777216) % 256),.int .u8 ((t397 / 65536) % 256),.int .u8 ((t397 / 256) % 256),.int .u8 ((t397) % 256)]) (ok:=fun _ => True) (okp:=fun _ => True) 31 (Reps.one (show Kd.M (Kd.int .u8) _ _ _ ((t397 / 16777216) % 256) [.int .u8 ((t397 / 16777216) % 256)] from rfl) (Reps.one (show Kd.M (Kd.int .u8) _ _ _ ((t397 / 65536) % 256) [.int .u8 ((t397 / 65536) % 256)] from rfl) (Reps.one (show Kd.M (Kd.int .u8) _ _ _ ((t397 / 256) % 256) [.int .u8 ((t397 / 256) % 256)] from rfl) (Reps.one (show Kd.M (Kd.int .u8) _ _ _ ((t397) % 256) [.int .u8 ((t397) % 256)] from rfl) (Reps.none _ _))))) ?_;intro v399 w9 ho10 hb hg_ hnew_;clear hg_ hnew_;(rw [← Ny398.out] at ho10);have HO400:=A_ (rw_ ho10 (bz_ (bq_ HB)));replace HB:=bS_ HB hb;clear hb ho10;have hcv11:=own_string (P:=Try.prog) Try.underlying46 Try.underlying5 Try.underlying9 (Kd.own_of_R HO400.out)))
    go_ret2;exact ⟨ex_,bq_ HB⟩
   ·rw [if_neg c7] at H;exact absurd H (by simp)
  ·rw [if_neg c6] at H;exact absurd H (by simp)
 ·replace c3:=Bool.eq_false_iff.mpr c3;subst c3
  have H1 : (some ((⟨#[]⟩ : ByteArray),false)) = some (r1,r2):=by rw [if_neg (show ¬ (false = true) by decide)] at H;exact H
  clear H;have H:=H1;clear H1;simp only [Option.some.injEq,Prod.mk.injEq] at H;obtain ⟨rfl,rfl⟩:=H;go_enter Try.func98,Try.ntmps98
  go_wp2_with (((with_reducible refine gate_callee (f:=47) rfl ?_);refine gL_ (some 9) Try.func47 #[.int .i64 (a0.size : Int),.int .i64 1,.int .i64 9000] ?_;(with_reducible refine (impl_within.calls (a0.size : Int) 1 9000 false _ A2.out).mono ?_);rintro e w' ⟨rfl,⟨nd,rfl⟩⟩;refine ⟨_,rfl,?_⟩))
  go_ret2;exact ⟨ex_,bq_ HB⟩
end Go.Proofs.Ytbcgnncbiblibaa.PFnExactLogSteps
