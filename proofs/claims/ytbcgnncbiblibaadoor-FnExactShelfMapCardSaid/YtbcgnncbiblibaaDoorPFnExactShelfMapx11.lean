/- The contracts of the Go functions that this law reaches: what each call returns, by a plain Lean function of its arguments. No conditions but those each contract names. By the kit's print.py, run by this session's wip/gen/pp.py with facts and hand proofs beside it: not to the letter what print.sh prints. -/
import Derived.Test.YtbcgnncbiblibaaDoorPFnExactShelfMapx0
import Derived.Test.YtbcgnncbiblibaaDoorPFnExactShelfMapx1
namespace Go.Proofs.YtbcgnncbiblibaaDoor.PFnExactShelfMap
open Go.RowKit Go.Proofs.YtbcgnncbiblibaaDoorW.PrintWords Go.Proofs.YtbcgnncbiblibaaDoorW.PrintLast Go.Proofs.YtbcgnncbiblibaaDoorW.PrintMore
attribute [local go_sem] max2_int min2_int max_two min_two max_three min_three max_four min_four
set_option linter.unusedVariables false
set_option linter.unusedSimpArgs false
def laws_markPairS.l0 : Nat → List (S74) → Int → Int → Option (Int × (List (S74)))
 | 0,_,_,_ => none
 | k + 1,x0,x1,x5 => if x5 < (x0.length : Int) then ((laws_markText.f k x1).bind fun t308 => (if 0 ≤ x5 then ((some (x0.set (x5 : Int).toNat (⟨t308,(rd_T74 x0 x5).f1⟩ : S74) : List (S74))).bind fun y309 => ((laws_markText.f k (wrap64 (x1 + 1))).bind fun t310 => (laws_markPairS.l0 k (y309.set (x5 : Int).toNat (⟨(rd_T74 y309 x5).f0,t310⟩ : S74)) (wrap64 ((wrap64 (x1 + 1)) + 1)) (wrap64 (x5 + 1))))) else (none))) else (some (x1,x0))
def laws_markPairS.f (k : Nat) (l0 : List (S74)) (a1 : Int) : Option (Int × (List (S74))) := laws_markPairS.l0 k l0 a1 0
theorem laws_markPairS.mono_l : ∀ k, (∀ y0 y1 y2, LeO (laws_markPairS.l0 k y0 y1 y2) (laws_markPairS.l0 (k + 1) y0 y1 y2))
 | 0 => fun _ _ _ r h => by simp [laws_markPairS.l0] at h
 | k + 1 => by
  have ih0:=laws_markPairS.mono_l k
  ·intro y0 y1 y2
   unfold laws_markPairS.l0
   repeat' first
   | (with_reducible exact ih0 _ _ _)
   | (with_reducible exact laws_markText.mono _ _)
   | (with_reducible exact LeO.refl _)
   | (with_reducible exact LeO.none _)
   | (with_reducible refine LeO.ite ?_ ?_)
   | (with_reducible refine LeO.bind ?_ (fun _ => ?_))
theorem laws_markPairS.mono : ∀ a0 a1 k, LeO (laws_markPairS.f k a0 a1) (laws_markPairS.f (k + 1) a0 a1) := by
 intro a0 a1 k;have ih0:=laws_markPairS.mono_l k
 unfold laws_markPairS.f
 repeat' first
   | (with_reducible exact ih0 _ _ _)
   | (with_reducible exact laws_markText.mono _ _)
   | (with_reducible exact LeO.refl _)
   | (with_reducible exact LeO.none _)
   | (with_reducible refine LeO.ite ?_ ?_)
   | (with_reducible refine LeO.bind ?_ (fun _ => ?_))
set_option maxHeartbeats 8000000 in
set_option maxRecDepth 100000 in
theorem laws_markPairS.calls (k : Nat) (P0_ : Nat → Prop) (u9000_ : Value) (l0 : List (S74)) (a1 : Int) (r1 : Int) (r2 : List (S74)) (w0 w : World) (hB : Below w0.heap.size w0 w) (ho0 : Kd.R k74 74 w w0.heap.size P0_ u9000_ l0) (h : laws_markPairS.f k l0 a1 = some (r1, r2)) :
  Calls Tryd.prog 22 #[u9000_,.int .i64 a1] w fun e w' => e = .returned (.int .i64 r1) ∧ Kd.R k74 74 w' w0.heap.size (fun k_ => (P0_ k_ ∨ w.heap.size ≤ k_)) u9000_ r2 ∧ Below w0.heap.size w0 w' ∧ Kept w w' (fun k_ => P0_ k_):=by
 have HO0:=A_ (show Kd.R k74 74 w w0.heap.size (fun k_ => (P0_ k_ ∨ w.heap.size ≤ k_)) u9000_ l0 from rm_ ho0 (fun k_ hk => (.inl hk)));have HK:=A_ (Kept.refl w (fun k_ => P0_ k_));have HW0:=A_ hB.size;have HB:=A_ hB;clear hB;have H : (laws_markPairS.l0 k l0 a1 0) = some (r1,r2):=h;clear h;have H':=A_ H;clear H;go_enter Tryd.func22,Tryd.ntmps22;go_wp2
 go_loopg [1,5] k (fun kq v1 v5 w' => ∃ (x0_1 : List (S74)) (x1_1 : Int) (x5_1 : Int),v1 = .int .i64 x1_1 ∧ v5 = .int .i64 x5_1 ∧ Aside0 (laws_markPairS.l0 kq x0_1 x1_1 x5_1 = some (r1,r2)) ∧ Aside0 (kq ≤ k) ∧ Aside0 (Kd.R k74 74 w' w0.heap.size (fun k_ => (P0_ k_ ∨ w.heap.size ≤ k_)) u9000_ x0_1) ∧ Aside0 (Kept w w' (fun k_ => P0_ k_)) ∧ Aside0 (Below w0.heap.size w0 w'))
 case atStart => exact ⟨(l0),(a1),(0),(by first|rfl|(simp;done)|(simp [*];done)),(by first|rfl|(simp;done)|(simp [*];done)),H',⟨Nat.le_refl _⟩,⟨by (with_reducible repeat (first|apply ra_|apply rn_|apply Rd_));exact HO0.out⟩,⟨by repeat (first|(with_reducible first|exact HK.out|apply Kept.alloc|apply Kept.drewN|apply Kept.drew)|exact HK.out)⟩,⟨by repeat (first|(with_reducible first|exact HB.out|apply pa_|apply pn_|apply pd_)|exact HB.out)⟩⟩
 case round =>
  clear H'
  try clear c2
  try clear p2
  obtain ⟨x0_1,x1_1,x5_1,rfl,rfl,HA,HK1,HO_0,HK,HB⟩:=hrel
  cases gk with
  | zero => exact absurd HA.out (by simp [laws_markPairS.l0])
  | succ k1 =>
   have H:=HA.out;clear HA;simp only [laws_markPairS.l0] at H;have HC3:=A_ H;clear H;obtain ⟨Ao4,co4,eo4⟩:=Kd.R_slice HO_0.out;subst eo4
   go_upto_if 9 with (fail)
   have H:=HC3.out;clear HC3
   by_cases c5 : x5_1 < (x0_1.length : Int)
   ·rw [if_pos c5] at H;have c5b0 : decide (x5_1 < (x0_1.length : Int)) = true:=de_ c5;clear c5
    (first|rw [c5b0]|(simp only [i64_w,i32_w];rw [c5b0])|skip)
    replace H:=ob_.mp H;obtain ⟨t308,A60,H⟩:=H;replace H : (if 0 ≤ x5_1 then ((some (x0_1.set (x5_1 : Int).toNat (⟨t308,(rd_T74 x0_1 x5_1).f1⟩ : S74) : List (S74))).bind fun y309 => ((laws_markText.f k1 (wrap64 (x1_1 + 1))).bind fun t310 => (laws_markPairS.l0 k1 (y309.set (x5_1 : Int).toNat (⟨(rd_T74 y309 x5_1).f0,t310⟩ : S74)) (wrap64 ((wrap64 (x1_1 + 1)) + 1)) (wrap64 (x5_1 + 1))))) else (none)) = some (r1,r2):=H;have A6:=A_ A60;clear A60
    by_cases c7 : 0 ≤ x5_1
    ·rw [if_pos c7] at H;have c7b0 : decide (0 ≤ x5_1) = true:=de_ c7;clear c7;obtain ⟨y309,hy309⟩ : ∃ y_ : List (S74),y_ = (x0_1.set (x5_1 : Int).toNat (⟨t308,(rd_T74 x0_1 x5_1).f1⟩ : S74)):=⟨_,rfl⟩
     replace H : ((laws_markText.f k1 (wrap64 (x1_1 + 1))).bind fun t310 => (laws_markPairS.l0 k1 (y309.set (x5_1 : Int).toNat (⟨(rd_T74 y309 x5_1).f0,t310⟩ : S74)) (wrap64 ((wrap64 (x1_1 + 1)) + 1)) (wrap64 (x5_1 + 1)))) = some (r1,r2):=by first|(rw [hy309];with_reducible exact H)|(have H2_:=(Option.bind_some _ _).symm.trans H;rw [hy309];with_reducible exact H2_)|(have H2_:=(Option.bind_some _ _).symm.trans H;with_reducible exact H2_)|with_reducible exact H|(rw [hy309];exact H)|exact H
     have Ny309:=A_ hy309;clear hy309;replace H:=ob_.mp H;obtain ⟨t310,A90,H⟩:=H;replace H : (laws_markPairS.l0 k1 (y309.set (x5_1 : Int).toNat (⟨(rd_T74 y309 x5_1).f0,t310⟩ : S74)) (wrap64 ((wrap64 (x1_1 + 1)) + 1)) (wrap64 (x5_1 + 1))) = some (r1,r2):=H;have A9:=A_ A90;clear A90;obtain ⟨y311,hy311⟩ : ∃ y_ : List (S74),y_ = (y309.set (x5_1 : Int).toNat (⟨(rd_T74 y309 x5_1).f0,t310⟩ : S74)):=⟨_,rfl⟩
     replace H : (laws_markPairS.l0 k1 y311 (wrap64 ((wrap64 (x1_1 + 1)) + 1)) (wrap64 (x5_1 + 1))) = some (r1,r2):=by first|(rw [hy311];with_reducible exact H)|(have H2_:=(Option.bind_some _ _).symm.trans H;rw [hy311];with_reducible exact H2_)|(have H2_:=(Option.bind_some _ _).symm.trans H;with_reducible exact H2_)|with_reducible exact H|(rw [hy311];exact H)|exact H
     have Ny311:=A_ hy311;clear hy311;have H':=A_ H;clear H
     go_wp2_with (first|((with_reducible refine gate_callee (f:=48) rfl ?_);refine goesL_ (some 15) rfl rfl Tryd.func48 (by kernel_rfl) rfl #[.int .i64 x1_1] rfl (by (try simp only [s4_,s5_,s6_]);first|done|rfl|(simp only [List.length_drop,List.length_take];rfl)) ?_;(with_reducible refine (laws_markText.calls k1 x1_1 t308 _ A6.out).mono ?_);rintro e w11 ⟨rfl,hb⟩;refine ⟨_,rfl,?_⟩;replace HO_0:=A_ (rb_ (by (with_reducible repeat (first|apply ra_|apply rn_|apply Rd_));exact HO_0.out) hb);replace HK:=A_ (Kept.below (S:=(fun k_ => P0_ k_)) (by repeat (first|(with_reducible first|exact HK.out|apply Kept.alloc|apply Kept.drewN|apply Kept.drew)|exact HK.out)) hb);replace HB:=A_ (bs_ (by repeat (first|(with_reducible first|exact HB.out|apply pa_|apply pn_|apply pd_)|exact HB.out)) hb);(try clear hb);(try clear hb2);(try clear hk);(try clear hi);have p8 : 0 ≤ (x5_1 : Int):=oda_;have q8 : (x5_1 : Int) < ((x0_1.length : Int) : Int):=oda_;obtain ⟨go8,co8,eo8,gb8,gl8,cl8,HG8⟩:=Kd.R_form HO_0.out (by omega);(first|cases eo8|(injection eo8 with ea_ en_ ec_;(first|subst ea_|(injection ea_ with ea_;subst ea_));subst ec_;clear en_));have GB8:=A_ gb8;have GG8:=A_ HG8;clear gb8 gl8 HG8;have HMgo8:=A_ (show (P0_ go8 ∨ w.heap.size ≤ go8) from (HO_0.out.1 _ rfl));obtain ⟨ce8,hcl8,hM8,hcc8,hfr8⟩:=Kd.R_elem HO_0.out z74 (x5_1 : Int) p8 q8;obtain rfl:=k74_openM hM8;have hx8_0 : w11.cell? ⟨go8,(x5_1 : Int).toNat * 2,none⟩ = some (.string ((rd_T74 x0_1 x5_1).f0)):=hcc8 0 _ rfl;have hx8_1 : w11.cell? ⟨go8,(x5_1 : Int).toNat * 2 + 1,none⟩ = some (.string ((rd_T74 x0_1 x5_1).f1)):=hcc8 1 _ rfl;have hf8_0 : w11.frozen? ⟨go8,(x5_1 : Int).toNat * 2,none⟩ = false:=hfr8 0;have hf8_1 : w11.frozen? ⟨go8,(x5_1 : Int).toNat * 2 + 1,none⟩ = false:=hfr8 1;clear hcl8 hcc8 hfr8 hM8;replace p8:=eq_true p8;replace q8:=eq_true q8;have HX12:=A_ (show Kd.R k74 74 w11 w0.heap.size (fun k_ => (P0_ k_ ∨ w.heap.size ≤ k_)) (.slice (some ⟨go8,0,none⟩) x0_1.length co4) x0_1 from (by (with_reducible repeat (first|apply ra_|apply rn_|apply Rd_));exact HO_0.out));obtain ⟨ce12,hcl12,hM12,hcc12,hfr12⟩:=Kd.R_elem HX12.out z74 (x5_1 : Int) (oda_) (by have h_ : (x5_1 : Int) < ((x0_1.length : Int) : Int):=oda_;first|exact h_|(have e_:=(Kd.R_reads' HO_0.out).1;omega)|simpa using h_);obtain rfl:=k74_openM hM12;have HP12:=Kd.R_seg HX12.out (x5_1 : Int) (oda_) (by have h_ : (x5_1 : Int) < ((x0_1.length : Int) : Int):=oda_;first|exact h_|(have e_:=(Kd.R_reads' HO_0.out).1;omega)|simpa using h_) (seg:=[.string t308]) (j:=0) hcl12 hcc12 (show 1 ≤ 2 from by decide) (x':=(⟨t308,(rd_T74 x0_1 x5_1).f1⟩ : S74)) (k74_mkM _ _ _ (⟨t308,(rd_T74 x0_1 x5_1).f1⟩ : S74) ) (fun _ hk => hk);have hx12_0:=hcc12 0 _ rfl;(try simp only [show (k74).sz = 2 from rfl,Nat.mul_one,Nat.add_zero] at hx12_0);have hf12_0:=hfr12 0;(try simp only [show (k74).sz = 2 from rfl,Nat.mul_one,Nat.add_zero] at hf12_0);clear hcl12 hcc12 hfr12 hM12)|((with_reducible refine gate_store (t:=9) (p:=17) rfl ?_);refine store_event (t:=9) (p:=17) (v:=?vo_w13) (w1:=(w11.setCell ⟨go8,(x5_1 : Int).toNat * 2,none⟩ (.string t308))) ?hg ?ho ?hn ?hr ?_;(case ho => rfl);(case hg => rfl);(case hn => rfl);(case hr => first|(go_simp;done)|(go_simp;rfl));intro w13 hw;have hg : w11.grownBy w13 (some go8):=(by rw [hw];exact HP12.2);have hp_ : Kd.R k74 74 w13 w0.heap.size (fun k_ => (P0_ k_ ∨ w.heap.size ≤ k_)) (.slice (some ⟨go8,0,none⟩) x0_1.length co4) y309:=(by rw [hw,Ny309.out];exact HP12.1);clear HP12;replace HB:=A_ ((by rw [hw];exact ps_ (HB.out) GB8.out : Below w0.heap.size w0 w13));replace HK:=A_ (Kept.of_grown (S:=(fun k_ => P0_ k_)) hg (by repeat (first|(with_reducible first|exact HK.out|apply Kept.alloc|apply Kept.drewN|apply Kept.drew)|exact HK.out)) (fun k_ e_ => (HO_0.out.1 k_ e_)));replace HO_0:=A_ (hp_);clear hg hw hp_)|((with_reducible refine gate_callee (f:=48) rfl ?_);refine goesL_ (some 23) rfl rfl Tryd.func48 (by kernel_rfl) rfl #[.int .i64 (wrap64 (x1_1 + 1))] rfl (by (try simp only [s4_,s5_,s6_]);first|done|rfl|(simp only [List.length_drop,List.length_take];rfl)) ?_;(with_reducible refine (laws_markText.calls k1 (wrap64 (x1_1 + 1)) t310 _ A9.out).mono ?_);rintro e w14 ⟨rfl,hb⟩;refine ⟨_,rfl,?_⟩;replace HO_0:=A_ (rb_ (by (with_reducible repeat (first|apply ra_|apply rn_|apply Rd_));exact HO_0.out) hb);replace HK:=A_ (Kept.below (S:=(fun k_ => P0_ k_)) (by repeat (first|(with_reducible first|exact HK.out|apply Kept.alloc|apply Kept.drewN|apply Kept.drew)|exact HK.out)) hb);replace HB:=A_ (bs_ (by repeat (first|(with_reducible first|exact HB.out|apply pa_|apply pn_|apply pd_)|exact HB.out)) hb);(try clear hb);(try clear hb2);(try clear hk);(try clear hi);have p10 : 0 ≤ (x5_1 : Int):=oda_;have q10 : (x5_1 : Int) < ((x0_1.length : Int) : Int):=oda_;obtain ⟨ce10,hcl10,hM10,hcc10,hfr10⟩:=Kd.R_elem HO_0.out z74 (x5_1 : Int) p10 q10;obtain rfl:=k74_openM hM10;have hx10_0 : w14.cell? ⟨go8,(x5_1 : Int).toNat * 2,none⟩ = some (.string ((rd_T74 y309 x5_1).f0)):=hcc10 0 _ rfl;have hx10_1 : w14.cell? ⟨go8,(x5_1 : Int).toNat * 2 + 1,none⟩ = some (.string ((rd_T74 y309 x5_1).f1)):=hcc10 1 _ rfl;have hf10_0 : w14.frozen? ⟨go8,(x5_1 : Int).toNat * 2,none⟩ = false:=hfr10 0;have hf10_1 : w14.frozen? ⟨go8,(x5_1 : Int).toNat * 2 + 1,none⟩ = false:=hfr10 1;clear hcl10 hcc10 hfr10 hM10;replace p10:=eq_true p10;replace q10:=eq_true q10;have HX15:=A_ (show Kd.R k74 74 w14 w0.heap.size (fun k_ => (P0_ k_ ∨ w.heap.size ≤ k_)) (.slice (some ⟨go8,0,none⟩) x0_1.length co4) y309 from (by (with_reducible repeat (first|apply ra_|apply rn_|apply Rd_));exact HO_0.out));obtain ⟨ce15,hcl15,hM15,hcc15,hfr15⟩:=Kd.R_elem HX15.out z74 (x5_1 : Int) (oda_) (by have h_ : (x5_1 : Int) < ((x0_1.length : Int) : Int):=oda_;first|exact h_|(have e_:=(Kd.R_reads' HO_0.out).1;omega)|simpa using h_);obtain rfl:=k74_openM hM15;have HP15:=Kd.R_seg HX15.out (x5_1 : Int) (oda_) (by have h_ : (x5_1 : Int) < ((x0_1.length : Int) : Int):=oda_;first|exact h_|(have e_:=(Kd.R_reads' HO_0.out).1;omega)|simpa using h_) (seg:=[.string t310]) (j:=1) hcl15 hcc15 (show 2 ≤ 2 from by decide) (x':=(⟨(rd_T74 y309 x5_1).f0,t310⟩ : S74)) (k74_mkM _ _ _ (⟨(rd_T74 y309 x5_1).f0,t310⟩ : S74) ) (fun _ hk => hk);have hx15_1:=hcc15 1 _ rfl;(try simp only [show (k74).sz = 2 from rfl,Nat.mul_one,Nat.add_zero] at hx15_1);have hf15_1:=hfr15 1;(try simp only [show (k74).sz = 2 from rfl,Nat.mul_one,Nat.add_zero] at hf15_1);clear hcl15 hcc15 hfr15 hM15)|((with_reducible refine gate_store (t:=9) (p:=25) rfl ?_);refine store_event (t:=9) (p:=25) (v:=?vo_w16) (w1:=(w14.setCell ⟨go8,(x5_1 : Int).toNat * 2 + 1,none⟩ (.string t310))) ?hg ?ho ?hn ?hr ?_;(case ho => rfl);(case hg => rfl);(case hn => rfl);(case hr => first|(go_simp;done)|(go_simp;rfl));intro w16 hw;have hg : w14.grownBy w16 (some go8):=(by rw [hw];exact HP15.2);have hp_ : Kd.R k74 74 w16 w0.heap.size (fun k_ => (P0_ k_ ∨ w.heap.size ≤ k_)) (.slice (some ⟨go8,0,none⟩) x0_1.length co4) y311:=(by rw [hw,Ny311.out];exact HP15.1);clear HP15;replace HB:=A_ ((by rw [hw];exact ps_ (HB.out) GB8.out : Below w0.heap.size w0 w16));replace HK:=A_ (Kept.of_grown (S:=(fun k_ => P0_ k_)) hg (by repeat (first|(with_reducible first|exact HK.out|apply Kept.alloc|apply Kept.drewN|apply Kept.drew)|exact HK.out)) (fun k_ e_ => (HO_0.out.1 k_ e_)));replace HO_0:=A_ (hp_);clear hg hw hp_))
     go_roundg k1
     case measure => have:=HK1.out;omega
     case rel => exact ⟨(y311),(wrap64 ((wrap64 (x1_1 + 1)) + 1)),(wrap64 (x5_1 + 1)),(by first|rfl|(simp;done)|(simp [*];done)),(by first|rfl|(simp;done)|(simp [*];done)),H',⟨by have:=HK1.out;omega⟩,⟨by (with_reducible repeat (first|apply ra_|apply rn_|apply Rd_));exact HO_0.out⟩,⟨by repeat (first|(with_reducible first|exact HK.out|apply Kept.alloc|apply Kept.drewN|apply Kept.drew)|exact HK.out)⟩,⟨by repeat (first|(with_reducible first|exact HB.out|apply pa_|apply pn_|apply pd_)|exact HB.out)⟩⟩
    ·rw [if_neg c7] at H;exact absurd H (by simp)
   ·rw [if_neg c5] at H;have c5b0 : decide (x5_1 < (x0_1.length : Int)) = false:=decide_eq_false c5;clear c5
    (first|rw [c5b0]|(simp only [i64_w,i32_w];rw [c5b0])|skip)
    simp only [Option.some.injEq,Prod.mk.injEq] at H;obtain ⟨rfl,rfl⟩:=H;go_wp2;go_ret;exact ⟨by first|rfl|(simp [*,errW_none,errW_some] <;> rfl),by (with_reducible repeat (first|apply ra_|apply rn_|apply Rd_));exact HO_0.out,by repeat (first|(with_reducible first|exact HB.out|apply pa_|apply pn_|apply pd_)|exact HB.out),by repeat (first|(with_reducible first|exact HK.out|apply Kept.alloc|apply Kept.drewN|apply Kept.drew)|exact HK.out)⟩
def laws_heldPairS.l0 : Nat → List (S74) → Int → Int → Option (Int)
 | 0,_,_,_ => none
 | k + 1,x0,x1,x5 => if x5 < (x0.length : Int) then (if 0 ≤ x5 then ((laws_markText.f k x1).bind fun t313 => (if ((rd_T74 x0 x5).f0).toList = t313.toList then ((laws_markText.f k (wrap64 (x1 + 1))).bind fun t315 => (if ((rd_T74 x0 x5).f1).toList = t315.toList then (laws_heldPairS.l0 k x0 (wrap64 ((wrap64 (x1 + 1)) + 1)) (wrap64 (x5 + 1))) else (some (-1)))) else (some (-1)))) else (none)) else (some x1)
def laws_heldPairS.f (k : Nat) (l0 : List (S74)) (a1 : Int) : Option (Int) := laws_heldPairS.l0 k l0 a1 0
theorem laws_heldPairS.mono_l : ∀ k, (∀ y0 y1 y2, LeO (laws_heldPairS.l0 k y0 y1 y2) (laws_heldPairS.l0 (k + 1) y0 y1 y2))
 | 0 => fun _ _ _ r h => by simp [laws_heldPairS.l0] at h
 | k + 1 => by
  have ih0:=laws_heldPairS.mono_l k
  ·intro y0 y1 y2
   unfold laws_heldPairS.l0
   repeat' first
   | (with_reducible exact ih0 _ _ _)
   | (with_reducible exact laws_markText.mono _ _)
   | (with_reducible exact LeO.refl _)
   | (with_reducible exact LeO.none _)
   | (with_reducible refine LeO.ite ?_ ?_)
   | (with_reducible refine LeO.bind ?_ (fun _ => ?_))
theorem laws_heldPairS.mono : ∀ a0 a1 k, LeO (laws_heldPairS.f k a0 a1) (laws_heldPairS.f (k + 1) a0 a1) := by
 intro a0 a1 k;have ih0:=laws_heldPairS.mono_l k
 unfold laws_heldPairS.f
 repeat' first
   | (with_reducible exact ih0 _ _ _)
   | (with_reducible exact laws_markText.mono _ _)
   | (with_reducible exact LeO.refl _)
   | (with_reducible exact LeO.none _)
   | (with_reducible refine LeO.ite ?_ ?_)
   | (with_reducible refine LeO.bind ?_ (fun _ => ?_))
def laws_heldPairS.T4 : Bool × List (List Nat × List Nat) := (true, [([], []), ([], []), ([0, 1], [0, 1]), ([2], [2]), ([3], [3]), ([], []), ([5], [5]), ([4, 6], [4, 6])])
def laws_heldPairS.B4 : List Nat := [0, 0, 3, 7, 15, 0, 32, 127]
theorem laws_heldPairS.tab4 : rtab .any (opsOf Tryd.f23 4) = laws_heldPairS.T4 := by kernel_rfl
theorem laws_heldPairS.bits4 : waitsOk laws_heldPairS.T4.2 laws_heldPairS.B4 = true := by kernel_rfl
def laws_heldPairS.T7 : Bool × List (List Nat × List Nat) := (true, [([], []), ([], []), ([0, 1], [0, 1]), ([2], [2]), ([3], [3]), ([], []), ([5], [5]), ([4, 6], [4, 6])])
def laws_heldPairS.B7 : List Nat := [0, 0, 3, 7, 15, 0, 32, 127]
theorem laws_heldPairS.tab7 : rtab .any (opsOf Tryd.f23 7) = laws_heldPairS.T7 := by kernel_rfl
theorem laws_heldPairS.bits7 : waitsOk laws_heldPairS.T7.2 laws_heldPairS.B7 = true := by kernel_rfl
set_option maxHeartbeats 8000000 in
set_option maxRecDepth 100000 in
theorem laws_heldPairS.calls (k : Nat) (A0 : Option Addr) (c0 : Nat) (l0 : List (S74)) (a1 : Int) (r : Int) (w : World) (hr0 : Kd.C k74 w A0 l0.length l0) (hc0 : l0.length ≤ c0) (h : laws_heldPairS.f k l0 a1 = some r) :
  Calls Tryd.prog 23 #[.slice A0 l0.length c0,.int .i64 a1] w fun e w' => e = .returned (.int .i64 r) ∧ Below w.heap.size w w':=by
 have HR0:=A_ hr0;have HC0:=A_ hc0;clear hr0 hc0;have HB:=A_ (Below.refl w.heap.size w);have H : (laws_heldPairS.l0 k l0 a1 0) = some r:=h;clear h;have H':=A_ H;clear H;go_enter Tryd.func23,Tryd.ntmps23;go_wp2
 go_loopg [1,5] k (fun kq v1 v5 w' => ∃ (x1_1 : Int) (x5_1 : Int),v1 = .int .i64 x1_1 ∧ v5 = .int .i64 x5_1 ∧ Aside0 (laws_heldPairS.l0 kq l0 x1_1 x5_1 = some r) ∧ Aside0 (kq ≤ k) ∧ Aside0 (Below w.heap.size w w'))
 case atStart => exact ⟨(a1),(0),(by first|rfl|(simp;done)|(simp [*];done)),(by first|rfl|(simp;done)|(simp [*];done)),H',⟨Nat.le_refl _⟩,⟨by repeat (first|(with_reducible first|exact HB.out|apply pa_|apply pn_|apply pd_)|exact HB.out)⟩⟩
 case round =>
  clear H'
  try clear c2
  try clear p2
  obtain ⟨x1_1,x5_1,rfl,rfl,HA,HK1,HB⟩:=hrel
  cases gk with
  | zero => exact absurd HA.out (by simp [laws_heldPairS.l0])
  | succ k1 =>
   have H:=HA.out;clear HA;simp only [laws_heldPairS.l0] at H
   by_cases c3 : x5_1 < (l0.length : Int)
   ·rw [if_pos c3] at H;have c3b0 : decide (x5_1 < (l0.length : Int)) = true:=de_ c3;clear c3
    by_cases c4 : 0 ≤ x5_1
    ·rw [if_pos c4] at H;have c4b0 : decide (0 ≤ x5_1) = true:=de_ c4;clear c4;replace H:=ob_.mp H;obtain ⟨t313,A50,H⟩:=H;replace H : (if ((rd_T74 l0 x5_1).f0).toList = t313.toList then ((laws_markText.f k1 (wrap64 (x1_1 + 1))).bind fun t315 => (if ((rd_T74 l0 x5_1).f1).toList = t315.toList then (laws_heldPairS.l0 k1 l0 (wrap64 ((wrap64 (x1_1 + 1)) + 1)) (wrap64 (x5_1 + 1))) else (some (-1)))) else (some (-1))) = some r:=H;have A5:=A_ A50;clear A50;have HC6:=A_ H;clear H
     try go_wp2
     replace HB:=A_ (pd_ HB.out);have p312 : 0 ≤ (x5_1 : Int):=oda_;have q312 : x5_1 < (l0.length : Int):=oda_;obtain ⟨ad312,e312,hx312_0,hx312_1⟩:=at_T74 HR0.out x5_1 p312 q312;have hw312_1:=hx312_1;have hw312_0:=hx312_0
     cases e312
     replace hx312_0:=(HB.out.cell (wb_ w _ hx312_0)).trans hx312_0;replace hx312_1:=(HB.out.cell (wb_ w _ hx312_1)).trans hx312_1;replace p312:=eq_true p312;replace q312:=eq_true q312;refine start_ (n:=8) (S:=fun w' => w'.cell? (ad312.add ((x5_1).toNat * 2)) = some (.string ((rd_T74 l0 x5_1).f0)) ∧ w'.cell? ⟨(ad312.add ((x5_1).toNat * 2)).block,(ad312.add ((x5_1).toNat * 2)).off + 1,none⟩ = some (.string ((rd_T74 l0 x5_1).f1))) (ds:=[]) #[false,false,false,false,false,false,false,false] (by kernel_rfl) rfl rfl ⟨((HB.out.cell (wb_ w _ hw312_0)).trans hw312_0),((HB.out.cell (wb_ w _ hw312_1)).trans hw312_1)⟩ (fun hHeld => ?_);refine with_tabW laws_heldPairS.tab4 laws_heldPairS.bits4 (fun HT_ HW_ => ?_);generalize wr.drew = w7 at HB hx312_0 hx312_1 hHeld ⊢;refine pure_ (i:=0) (N:=some 12) (v:=?_) (a':=?_) #[true,false,false,false,false,false,false,false] rfl rfl (any_of HT_.out (by kernel_rfl)) (fun _ _ _ h => h) (Or.inl ⟨by rfl,?_⟩) ?_ ?_;rotate_left
     ·intro w';go_simp;with_reducible rfl
     rotate_left
     ·simp only [Act.put,s1_,s2_,s3_,i64_w,i32_w];rfl
     refine pure_ (i:=1) (N:=some 13) (v:=?_) (a':=?_) #[true,true,false,false,false,false,false,false] rfl rfl (any_of HT_.out (by kernel_rfl)) (fun _ _ _ h => h) (Or.inl ⟨by rfl,?_⟩) ?_ ?_;rotate_left
     ·intro w';go_simp;with_reducible rfl
     rotate_left
     ·simp only [Act.put,s1_,s2_,s3_,i64_w,i32_w];rfl
     refine pure_ (i:=2) (N:=some 14) (v:=?_) (a':=?_) #[true,true,true,false,false,false,false,false] rfl rfl (any_of HT_.out (by kernel_rfl)) (fun _ _ _ h => h) (Or.inl ⟨by rfl,?_⟩) ?_ ?_;rotate_left
     ·intro w';go_simp;with_reducible rfl
     rotate_left
     ·simp only [Act.put,s1_,s2_,s3_,i64_w,i32_w];rfl
     refine pure_ (i:=3) (N:=some 15) (v:=?_) (a':=?_) #[true,true,true,true,false,false,false,false] rfl rfl (any_of HT_.out (by kernel_rfl)) (fun _ _ _ h => h) (Or.inl ⟨by rfl,?_⟩) ?_ ?_;rotate_left
     ·intro w';go_simp;with_reducible rfl
     rotate_left
     ·simp only [Act.put,s1_,s2_,s3_,i64_w,i32_w];rfl
     refine pure_ (i:=5) (N:=some 17) (v:=?_) (a':=?_) #[true,true,true,true,false,true,false,false] rfl rfl (any_of HT_.out (by kernel_rfl)) (fun _ _ _ h => h) (Or.inl ⟨by rfl,?_⟩) ?_ ?_;rotate_left
     ·intro w';go_simp;with_reducible rfl
     rotate_left
     ·simp only [Act.put,s1_,s2_,s3_,i64_w,i32_w];rfl
     refine take_ (i:=4) (N:=some 16) (v:=?_) (a':=?_) #[true,true,true,true,true,true,false,false] rfl rfl (take_ofW HT_.out HW_.out (by kernel_rfl)) (fun _ _ _ h => h) (Or.inl ⟨by rfl,?_⟩) hHeld ?_ ?_;rotate_left
     ·rintro w' ⟨s0,s1⟩;go_simp;with_reducible rfl
     rotate_left
     ·simp only [Act.put,s1_,s2_,s3_,i64_w,i32_w];rfl
     refine one_ (i:=6) (N:=some 18) #[true,true,true,true,true,true,true,false] rfl rfl (one_of HT_.out (by kernel_rfl)) (by decide) (fun K hK => ?_);refine goes_ Tryd.func48 (by kernel_rfl) rfl #[.int .i64 x1_1] (by rfl) rfl rfl (by (try simp only [s4_,s5_,s6_]);first|done|rfl|(simp only [List.length_drop,List.length_take];rfl)) ?_;with_reducible refine (laws_markText.calls k1 x1_1 t313 _ A5.out).mono ?_;rintro e w8 ⟨rfl,hb⟩;refine ⟨_,rfl,?_⟩;replace HB:=A_ (bs_ (by repeat (first|(with_reducible first|exact HB.out|apply pa_|apply pn_|apply pd_)|exact HB.out)) hb)
     (try clear hb)
     (try clear hb2)
     (try clear hk)
     (try clear hi)
     refine hK.out _ _ ⟨((HB.out.cell (wb_ w _ hw312_0)).trans hw312_0),((HB.out.cell (wb_ w _ hw312_1)).trans hw312_1)⟩ (fun hHeld => ?_);clear hK K;refine norm_ (a':=?_) ?_ ?_;rotate_left
     ·show Act.put _ (some 18) _ = _;simp only [Act.put,s1_,s2_,s3_,i64_w,i32_w];rfl
     refine pure_ (i:=7) (N:=some 19) (v:=?_) (a':=?_) #[true,true,true,true,true,true,true,true] rfl rfl (any_of HT_.out (by kernel_rfl)) (fun _ _ _ h => h) (Or.inl ⟨by rfl,?_⟩) ?_ ?_;rotate_left
     ·intro w';go_simp;with_reducible rfl
     rotate_left
     ·simp only [Act.put,s1_,s2_,s3_,i64_w,i32_w];rfl
     refine done_ (done_of HT_.out (by kernel_rfl)) ?_
     go_upto_if 19 with (fail)
     have H:=HC6.out;clear HC6
     by_cases c9 : ((rd_T74 l0 x5_1).f0).toList = t313.toList
     ·rw [if_pos c9] at H;have c9b0 : (((rd_T74 l0 x5_1).f0).toList == t313.toList) = true:=beq_iff_eq.mpr c9;have c9b1 : (((rd_T74 l0 x5_1).f0).toList != t313.toList) = false:=bne_eq_false_iff_eq.mpr c9;clear c9
      (first|rw [c9b0]|(simp only [i64_w,i32_w];rw [c9b0])|skip)
      replace H:=ob_.mp H;obtain ⟨t315,A100,H⟩:=H;replace H : (if ((rd_T74 l0 x5_1).f1).toList = t315.toList then (laws_heldPairS.l0 k1 l0 (wrap64 ((wrap64 (x1_1 + 1)) + 1)) (wrap64 (x5_1 + 1))) else (some (-1))) = some r:=H;have A10:=A_ A100;clear A100;have HC11:=A_ H;clear H
      try go_wp2
      replace HB:=A_ (pd_ HB.out);have p314 : 0 ≤ (x5_1 : Int):=oda_;have q314 : x5_1 < (l0.length : Int):=oda_;obtain ⟨ad314,e314,hx314_0,hx314_1⟩:=at_T74 HR0.out x5_1 p314 q314;have hw314_1:=hx314_1;have hw314_0:=hx314_0;obtain rfl : ad312 = ad314:=(by injection e314);replace hx314_0:=(HB.out.cell (wb_ w _ hx314_0)).trans hx314_0;replace hx314_1:=(HB.out.cell (wb_ w _ hx314_1)).trans hx314_1;replace p314:=eq_true p314;replace q314:=eq_true q314;refine start_ (n:=8) (S:=fun w' => w'.cell? (ad312.add ((x5_1).toNat * 2)) = some (.string ((rd_T74 l0 x5_1).f0)) ∧ w'.cell? ⟨(ad312.add ((x5_1).toNat * 2)).block,(ad312.add ((x5_1).toNat * 2)).off + 1,none⟩ = some (.string ((rd_T74 l0 x5_1).f1))) (ds:=[]) #[false,false,false,false,false,false,false,false] (by kernel_rfl) rfl rfl ⟨((HB.out.cell (wb_ w _ hw314_0)).trans hw314_0),((HB.out.cell (wb_ w _ hw314_1)).trans hw314_1)⟩ (fun hHeld => ?_);refine with_tabW laws_heldPairS.tab7 laws_heldPairS.bits7 (fun HT_ HW_ => ?_);generalize w8.drew = w12 at HB hx314_0 hx314_1 hHeld ⊢;refine pure_ (i:=0) (N:=some 22) (v:=?_) (a':=?_) #[true,false,false,false,false,false,false,false] rfl rfl (any_of HT_.out (by kernel_rfl)) (fun _ _ _ h => h) (Or.inl ⟨by rfl,?_⟩) ?_ ?_;rotate_left
      ·intro w';go_simp;with_reducible rfl
      rotate_left
      ·simp only [Act.put,s1_,s2_,s3_,i64_w,i32_w];rfl
      refine pure_ (i:=1) (N:=some 23) (v:=?_) (a':=?_) #[true,true,false,false,false,false,false,false] rfl rfl (any_of HT_.out (by kernel_rfl)) (fun _ _ _ h => h) (Or.inl ⟨by rfl,?_⟩) ?_ ?_;rotate_left
      ·intro w';go_simp;with_reducible rfl
      rotate_left
      ·simp only [Act.put,s1_,s2_,s3_,i64_w,i32_w];rfl
      refine pure_ (i:=2) (N:=some 24) (v:=?_) (a':=?_) #[true,true,true,false,false,false,false,false] rfl rfl (any_of HT_.out (by kernel_rfl)) (fun _ _ _ h => h) (Or.inl ⟨by rfl,?_⟩) ?_ ?_;rotate_left
      ·intro w';go_simp;with_reducible rfl
      rotate_left
      ·simp only [Act.put,s1_,s2_,s3_,i64_w,i32_w];rfl
      refine pure_ (i:=3) (N:=some 25) (v:=?_) (a':=?_) #[true,true,true,true,false,false,false,false] rfl rfl (any_of HT_.out (by kernel_rfl)) (fun _ _ _ h => h) (Or.inl ⟨by rfl,?_⟩) ?_ ?_;rotate_left
      ·intro w';go_simp;with_reducible rfl
      rotate_left
      ·simp only [Act.put,s1_,s2_,s3_,i64_w,i32_w];rfl
      refine pure_ (i:=5) (N:=some 27) (v:=?_) (a':=?_) #[true,true,true,true,false,true,false,false] rfl rfl (any_of HT_.out (by kernel_rfl)) (fun _ _ _ h => h) (Or.inl ⟨by rfl,?_⟩) ?_ ?_;rotate_left
      ·intro w';go_simp;with_reducible rfl
      rotate_left
      ·simp only [Act.put,s1_,s2_,s3_,i64_w,i32_w];rfl
      refine take_ (i:=4) (N:=some 26) (v:=?_) (a':=?_) #[true,true,true,true,true,true,false,false] rfl rfl (take_ofW HT_.out HW_.out (by kernel_rfl)) (fun _ _ _ h => h) (Or.inl ⟨by rfl,?_⟩) hHeld ?_ ?_;rotate_left
      ·rintro w' ⟨s0,s1⟩;go_simp;with_reducible rfl
      rotate_left
      ·simp only [Act.put,s1_,s2_,s3_,i64_w,i32_w];rfl
      refine one_ (i:=6) (N:=some 28) #[true,true,true,true,true,true,true,false] rfl rfl (one_of HT_.out (by kernel_rfl)) (by decide) (fun K hK => ?_);refine goes_ Tryd.func48 (by kernel_rfl) rfl #[.int .i64 (wrap64 (x1_1 + 1))] (by rfl) rfl rfl (by (try simp only [s4_,s5_,s6_]);first|done|rfl|(simp only [List.length_drop,List.length_take];rfl)) ?_;with_reducible refine (laws_markText.calls k1 (wrap64 (x1_1 + 1)) t315 _ A10.out).mono ?_;rintro e w13 ⟨rfl,hb⟩;refine ⟨_,rfl,?_⟩;replace HB:=A_ (bs_ (by repeat (first|(with_reducible first|exact HB.out|apply pa_|apply pn_|apply pd_)|exact HB.out)) hb)
      (try clear hb)
      (try clear hb2)
      (try clear hk)
      (try clear hi)
      refine hK.out _ _ ⟨((HB.out.cell (wb_ w _ hw314_0)).trans hw314_0),((HB.out.cell (wb_ w _ hw314_1)).trans hw314_1)⟩ (fun hHeld => ?_);clear hK K;refine norm_ (a':=?_) ?_ ?_;rotate_left
      ·show Act.put _ (some 28) _ = _;simp only [Act.put,s1_,s2_,s3_,i64_w,i32_w];rfl
      refine pure_ (i:=7) (N:=some 29) (v:=?_) (a':=?_) #[true,true,true,true,true,true,true,true] rfl rfl (any_of HT_.out (by kernel_rfl)) (fun _ _ _ h => h) (Or.inl ⟨by rfl,?_⟩) ?_ ?_;rotate_left
      ·intro w';go_simp;with_reducible rfl
      rotate_left
      ·simp only [Act.put,s1_,s2_,s3_,i64_w,i32_w];rfl
      refine done_ (done_of HT_.out (by kernel_rfl)) ?_
      go_upto_if 29 with (fail)
      have H:=HC11.out;clear HC11
      by_cases c14 : ((rd_T74 l0 x5_1).f1).toList = t315.toList
      ·rw [if_pos c14] at H;have c14b0 : (((rd_T74 l0 x5_1).f1).toList == t315.toList) = true:=beq_iff_eq.mpr c14;have c14b1 : (((rd_T74 l0 x5_1).f1).toList != t315.toList) = false:=bne_eq_false_iff_eq.mpr c14;clear c14
       (first|rw [c14b0]|(simp only [i64_w,i32_w];rw [c14b0])|skip)
       have H':=A_ H;clear H;go_wp2
       go_roundg k1
       case measure => have:=HK1.out;omega
       case rel => exact ⟨(wrap64 ((wrap64 (x1_1 + 1)) + 1)),(wrap64 (x5_1 + 1)),(by first|rfl|(simp;done)|(simp [*];done)),(by first|rfl|(simp;done)|(simp [*];done)),H',⟨by have:=HK1.out;omega⟩,⟨by repeat (first|(with_reducible first|exact HB.out|apply pa_|apply pn_|apply pd_)|exact HB.out)⟩⟩
      ·rw [if_neg c14] at H;have c14b0 : (((rd_T74 l0 x5_1).f1).toList == t315.toList) = false:=beq_eq_false_iff_ne.mpr c14;have c14b1 : (((rd_T74 l0 x5_1).f1).toList != t315.toList) = true:=bne_iff_ne.mpr c14
       (first|rw [c14b0]|(simp only [i64_w,i32_w];rw [c14b0])|skip)
       obtain rfl:=Option.some.inj H;go_wp2;go_ret;exact ⟨by first|rfl|(simp [*,errW_none,errW_some] <;> rfl),by repeat (first|(with_reducible first|exact HB.out|apply pa_|apply pn_|apply pd_)|exact HB.out)⟩
     ·rw [if_neg c9] at H;have c9b0 : (((rd_T74 l0 x5_1).f0).toList == t313.toList) = false:=beq_eq_false_iff_ne.mpr c9;have c9b1 : (((rd_T74 l0 x5_1).f0).toList != t313.toList) = true:=bne_iff_ne.mpr c9
      (first|rw [c9b0]|(simp only [i64_w,i32_w];rw [c9b0])|skip)
      obtain rfl:=Option.some.inj H;go_wp2;go_ret;exact ⟨by first|rfl|(simp [*,errW_none,errW_some] <;> rfl),by repeat (first|(with_reducible first|exact HB.out|apply pa_|apply pn_|apply pd_)|exact HB.out)⟩
    ·rw [if_neg c4] at H;exact absurd H (by simp)
   ·rw [if_neg c3] at H;have c3b0 : decide (x5_1 < (l0.length : Int)) = false:=decide_eq_false c3;clear c3;obtain rfl:=Option.some.inj H;go_wp2;go_ret;exact ⟨by first|rfl|(simp [*,errW_none,errW_some] <;> rfl),by repeat (first|(with_reducible first|exact HB.out|apply pa_|apply pn_|apply pd_)|exact HB.out)⟩
end Go.Proofs.YtbcgnncbiblibaaDoor.PFnExactShelfMap
