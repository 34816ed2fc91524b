/- The contracts of the Go functions that this law reaches: what each call returns, by a plain Lean function of its arguments. No conditions but those each contract names. By the kit's print.py, run by this session's wip/gen/pp.py with facts and hand proofs beside it: not to the letter what print.sh prints. -/
import Derived.Test.YtbcgnncbiblibaaPFnExactDecodex0
namespace Go.Proofs.Ytbcgnncbiblibaa.PFnExactDecode
open Go.RowKit Go.Proofs.YtbcgnncbiblibaaW.PrintWords Go.Proofs.YtbcgnncbiblibaaW.PrintLast Go.Proofs.YtbcgnncbiblibaaW.PrintMore
attribute [local go_sem] max2_int min2_int max_two min_two max_three min_three max_four min_four
set_option linter.unusedVariables false
set_option linter.unusedSimpArgs false
def laws_markText.l0 : Nat → Int → ByteArray → Option (ByteArray)
 | 0,_,_ => none
 | k + 1,x0,x3 => if x0 > 0 then ((some (([(wrap64 (48 + (Int.tmod x0 10))) % 256] : List Int) : List Int)).bind fun y414 => (if (strOfNums y414).size + x3.size ≤ 9223372036854775807 then (laws_markText.l0 k (wrap64 (Int.tdiv x0 10)) ((strOfNums y414) ++ x3)) else (none))) else (if 1 + x3.size ≤ 9223372036854775807 then (some ((⟨#[109]⟩ : ByteArray) ++ x3)) else (none))
def laws_markText.f (k : Nat) (a0 : Int) : Option (ByteArray) := if a0 ≤ 0 then (some (⟨#[109, 48]⟩ : ByteArray)) else (laws_markText.l0 k a0 (⟨#[]⟩ : ByteArray))
theorem laws_markText.mono_l : ∀ k, (∀ y0 y1, LeO (laws_markText.l0 k y0 y1) (laws_markText.l0 (k + 1) y0 y1))
 | 0 => fun _ _ r h => by simp [laws_markText.l0] at h
 | k + 1 => by
  have ih0:=laws_markText.mono_l k
  ·intro y0 y1
   unfold laws_markText.l0
   repeat' first
   | (with_reducible exact ih0 _ _)
   | (with_reducible exact LeO.refl _)
   | (with_reducible exact LeO.none _)
   | (with_reducible refine LeO.ite ?_ ?_)
   | (with_reducible refine LeO.bind ?_ (fun _ => ?_))
theorem laws_markText.mono : ∀ a0 k, LeO (laws_markText.f k a0) (laws_markText.f (k + 1) a0) := by
 intro a0 k;have ih0:=laws_markText.mono_l k
 unfold laws_markText.f
 repeat' first
   | (with_reducible exact ih0 _ _)
   | (with_reducible exact LeO.refl _)
   | (with_reducible exact LeO.none _)
   | (with_reducible refine LeO.ite ?_ ?_)
   | (with_reducible refine LeO.bind ?_ (fun _ => ?_))
set_option maxHeartbeats 8000000 in
set_option maxRecDepth 100000 in
theorem laws_markText.calls (k : Nat) (a0 : Int) (r : ByteArray) (w : World) (h : laws_markText.f k a0 = some r) :
  Calls Try.prog 59 #[.int .i64 a0] w fun e w' => e = .returned (.string r) ∧ Below w.heap.size w w':=by
 have HB:=A_ (Below.refl w.heap.size w);unfold laws_markText.f at h;have H:=h;clear h
 by_cases c2 : a0 ≤ 0
 ·rw [if_pos c2] at H;have c2b0 : decide (a0 ≤ 0) = true:=de_ c2;clear c2;obtain rfl:=Option.some.inj H;go_enter Try.func59,Try.ntmps59;go_wp2;go_ret;exact ⟨ex_,bq_ HB⟩
 ·rw [if_neg c2] at H;have c2b0 : decide (a0 ≤ 0) = false:=decide_eq_false c2;clear c2;have H':=A_ H;clear H;go_enter Try.func59,Try.ntmps59;go_wp2
  go_loopg [0,3] k (fun kq v0 v3 w' => ∃ (x0_1 : Int) (x3_1 : ByteArray),v0 = .int .i64 x0_1 ∧ v3 = .string x3_1 ∧ Aside0 (laws_markText.l0 kq x0_1 x3_1 = some r) ∧ Aside0 (kq ≤ k) ∧ Aside0 (Below w.heap.size w w'))
  case atStart => exact ⟨(a0),((⟨#[]⟩ : ByteArray)),(by first|rfl|(simp;done)|(simp [*];done)),(by first|rfl|(simp;done)|(simp [*];done)),H',⟨Nat.le_refl _⟩,⟨bq_ HB⟩⟩
  case round =>
   clear H'
   try clear c2
   try clear c2b0
   try clear p2
   obtain ⟨x0_1,x3_1,rfl,rfl,HA,HK1,HB⟩:=hrel
   cases gk with
   | zero => exact absurd HA.out (by simp [laws_markText.l0])
   | succ k1 =>
    have H:=HA.out;clear HA;simp only [laws_markText.l0] at H
    by_cases c3 : x0_1 > 0
    ·rw [if_pos c3] at H;have c3b0 : decide (0 < x0_1) = true:=de_ c3;clear c3;obtain ⟨y414,hy414⟩ : ∃ y_ : List Int,y_ = (([(wrap64 (48 + (Int.tmod x0_1 10))) % 256] : List Int)):=⟨_,rfl⟩
     replace H : (if (strOfNums y414).size + x3_1.size ≤ 9223372036854775807 then (laws_markText.l0 k1 (wrap64 (Int.tdiv x0_1 10)) ((strOfNums y414) ++ x3_1)) else (none)) = some r:=by first|(rw [hy414];with_reducible exact H)|(have H2_:=(Option.bind_some _ _).symm.trans H;rw [hy414];with_reducible exact H2_)|(have H2_:=(Option.bind_some _ _).symm.trans H;with_reducible exact H2_)|with_reducible exact H|(rw [hy414];exact H)|exact H
     have Ny414:=A_ hy414;clear hy414
     by_cases c4 : (strOfNums y414).size + x3_1.size ≤ 9223372036854775807
     ·rw [if_pos c4] at H;have c4b0:=eq_true c4;have c4b1 : decide ((strOfNums y414).size + x3_1.size ≤ 9223372036854775807) = true:=de_ c4
      try have c4b2 : (9223372036854775807 < (strOfNums y414).size + x3_1.size) = False:=eq_false (Nat.not_lt.2 c4)
      have H':=A_ H;clear H
      go_wp2_with (first|((with_reducible refine gate_dst (N:=12) rfl ?_);refine rX_ (d:=(Kd.int .u8)) (e:=5) (xs:=([(wrap64 (48 + (Int.tmod x0_1 10))) % 256] : List Int)) (inner:=[.int .u8 ((wrap64 (48 + (Int.tmod x0_1 10))) % 256)]) (ok:=fun _ => True) (okp:=fun _ => True) 12 (Reps.one (show Kd.M (Kd.int .u8) _ _ _ ((wrap64 (48 + (Int.tmod x0_1 10))) % 256) [.int .u8 ((wrap64 (48 + (Int.tmod x0_1 10))) % 256)] from rfl) (Reps.none _ _)) ?_;intro v415 w5 ho6 hb hg_ hnew_;clear hg_ hnew_;(first|rw [← Ny414.out] at ho6|(simp only [Int.reduceToNat] at ho6;rw [← Ny414.out] at ho6));have HO416:=A_ (rw_ ho6 (bz_ (bq_ HB)));replace HB:=bS_ HB hb;clear hb ho6;have hcv7:=own_string (P:=Try.prog) Try.underlying46 Try.underlying5 Try.underlying9 (Kd.own_of_R HO416.out)))
      go_roundg k1
      case measure => have:=HK1.out;omega
      case rel => exact ⟨(wrap64 (Int.tdiv x0_1 10)),((strOfNums y414) ++ x3_1),(by first|rfl|(simp;done)|(simp [*];done)),(by first|rfl|(simp;done)|(simp [*];done)),H',⟨by have:=HK1.out;omega⟩,⟨bq_ HB⟩⟩
     ·rw [if_neg c4] at H;exact absurd H (by simp)
    ·rw [if_neg c3] at H;have c3b0 : decide (0 < x0_1) = false:=decide_eq_false c3;clear c3
     by_cases c8 : 1 + x3_1.size ≤ 9223372036854775807
     ·rw [if_pos c8] at H;have c8b0:=eq_true c8;have c8b1 : decide (1 + x3_1.size ≤ 9223372036854775807) = true:=de_ c8
      try have c8b2 : (9223372036854775807 < 1 + x3_1.size) = False:=eq_false (Nat.not_lt.2 c8)
      obtain rfl:=Option.some.inj H;go_wp2;go_ret;exact ⟨ex_,bq_ HB⟩
     ·rw [if_neg c8] at H;exact absurd H (by simp)
def laws_markEntryS.l0 : Nat → List (S69) → Int → Int → Option (Int × (List (S69)))
 | 0,_,_,_ => none
 | k + 1,x0,x1,x5 => if x5 < (x0.length : Int) then (if 0 ≤ x5 then ((some (x0.set (x5 : Int).toNat (⟨x1,(rd_T69 x0 x5).f1,(rd_T69 x0 x5).f2⟩ : S69) : List (S69))).bind fun y417 => ((some (y417.set (x5 : Int).toNat (⟨(rd_T69 y417 x5).f0,wrap64 (x1 + 1),(rd_T69 y417 x5).f2⟩ : S69) : List (S69))).bind fun y418 => ((laws_markText.f k (wrap64 ((wrap64 (x1 + 1)) + 1))).bind fun t419 => (laws_markEntryS.l0 k (y418.set (x5 : Int).toNat (⟨(rd_T69 y418 x5).f0,(rd_T69 y418 x5).f1,t419⟩ : S69)) (wrap64 ((wrap64 ((wrap64 (x1 + 1)) + 1)) + 1)) (wrap64 (x5 + 1)))))) else (none)) else (some (x1,x0))
def laws_markEntryS.f (k : Nat) (l0 : List (S69)) (a1 : Int) : Option (Int × (List (S69))) := laws_markEntryS.l0 k l0 a1 0
theorem laws_markEntryS.mono_l : ∀ k, (∀ y0 y1 y2, LeO (laws_markEntryS.l0 k y0 y1 y2) (laws_markEntryS.l0 (k + 1) y0 y1 y2))
 | 0 => fun _ _ _ r h => by simp [laws_markEntryS.l0] at h
 | k + 1 => by
  have ih0:=laws_markEntryS.mono_l k
  ·intro y0 y1 y2
   unfold laws_markEntryS.l0
   repeat' first
   | (with_reducible exact ih0 _ _ _)
   | (with_reducible exact laws_markText.mono _ _)
   | (with_reducible exact LeO.refl _)
   | (with_reducible exact LeO.none _)
   | (with_reducible refine LeO.ite ?_ ?_)
   | (with_reducible refine LeO.bind ?_ (fun _ => ?_))
theorem laws_markEntryS.mono : ∀ a0 a1 k, LeO (laws_markEntryS.f k a0 a1) (laws_markEntryS.f (k + 1) a0 a1) := by
 intro a0 a1 k;have ih0:=laws_markEntryS.mono_l k
 unfold laws_markEntryS.f
 repeat' first
   | (with_reducible exact ih0 _ _ _)
   | (with_reducible exact laws_markText.mono _ _)
   | (with_reducible exact LeO.refl _)
   | (with_reducible exact LeO.none _)
   | (with_reducible refine LeO.ite ?_ ?_)
   | (with_reducible refine LeO.bind ?_ (fun _ => ?_))
set_option maxHeartbeats 8000000 in
set_option maxRecDepth 100000 in
theorem laws_markEntryS.calls (k : Nat) (P0_ : Nat → Prop) (u9000_ : Value) (l0 : List (S69)) (a1 : Int) (r1 : Int) (r2 : List (S69)) (w0 w : World) (hB : Below w0.heap.size w0 w) (ho0 : Kd.R k69 69 w w0.heap.size P0_ u9000_ l0) (h : laws_markEntryS.f k l0 a1 = some (r1, r2)) :
  Calls Try.prog 50 #[u9000_,.int .i64 a1] w fun e w' => e = .returned (.int .i64 r1) ∧ Kd.R k69 69 w' w0.heap.size (fun k_ => (P0_ k_ ∨ w.heap.size ≤ k_)) u9000_ r2 ∧ Below w0.heap.size w0 w' ∧ Kept w w' (fun k_ => P0_ k_):=by
 have HO0:=A_ (show Kd.R k69 69 w w0.heap.size (fun k_ => (P0_ k_ ∨ w.heap.size ≤ k_)) u9000_ l0 from rm_ ho0 (fun k_ hk => (.inl hk)));have HK:=A_ (Kept.refl w (fun k_ => P0_ k_));have HW0:=A_ hB.size;have HB:=A_ hB;clear hB;unfold laws_markEntryS.f at h;have H:=h;clear h;have H':=A_ H;clear H;go_enter Try.func50,Try.ntmps50;go_wp2
 go_loopg [1,5] k (fun kq v1 v5 w' => ∃ (x0_1 : List (S69)) (x1_1 : Int) (x5_1 : Int),v1 = .int .i64 x1_1 ∧ v5 = .int .i64 x5_1 ∧ Aside0 (laws_markEntryS.l0 kq x0_1 x1_1 x5_1 = some (r1,r2)) ∧ Aside0 (kq ≤ k) ∧ Aside0 (Kd.R k69 69 w' w0.heap.size (fun k_ => (P0_ k_ ∨ w.heap.size ≤ k_)) u9000_ x0_1) ∧ Aside0 (Kept w w' (fun k_ => P0_ k_)) ∧ Aside0 (Below w0.heap.size w0 w'))
 case atStart => exact ⟨(l0),(a1),(0),(by first|rfl|(simp;done)|(simp [*];done)),(by first|rfl|(simp;done)|(simp [*];done)),H',⟨Nat.le_refl _⟩,⟨by (with_reducible repeat (first|apply ra_|apply rn_|apply Rd_));exact HO0.out⟩,⟨by repeat (first|(with_reducible first|exact HK.out|apply Kept.alloc|apply Kept.drewN|apply Kept.drew)|exact HK.out)⟩,⟨bq_ HB⟩⟩
 case round =>
  clear H'
  try clear p2
  obtain ⟨x0_1,x1_1,x5_1,rfl,rfl,HA,HK1,HO_0,HK,HB⟩:=hrel
  cases gk with
  | zero => exact absurd HA.out (by simp [laws_markEntryS.l0])
  | succ k1 =>
   have H:=HA.out;clear HA;simp only [laws_markEntryS.l0] at H
   by_cases c3 : x5_1 < (x0_1.length : Int)
   ·rw [if_pos c3] at H;have c3b0 : decide (x5_1 < (x0_1.length : Int)) = true:=de_ c3;clear c3
    by_cases c4 : 0 ≤ x5_1
    ·rw [if_pos c4] at H;have c4b0 : decide (0 ≤ x5_1) = true:=de_ c4;clear c4;obtain ⟨y417,hy417⟩ : ∃ y_ : List (S69),y_ = (x0_1.set (x5_1 : Int).toNat (⟨x1_1,(rd_T69 x0_1 x5_1).f1,(rd_T69 x0_1 x5_1).f2⟩ : S69)):=⟨_,rfl⟩
     replace H : ((some (y417.set (x5_1 : Int).toNat (⟨(rd_T69 y417 x5_1).f0,wrap64 (x1_1 + 1),(rd_T69 y417 x5_1).f2⟩ : S69) : List (S69))).bind fun y418 => ((laws_markText.f k1 (wrap64 ((wrap64 (x1_1 + 1)) + 1))).bind fun t419 => (laws_markEntryS.l0 k1 (y418.set (x5_1 : Int).toNat (⟨(rd_T69 y418 x5_1).f0,(rd_T69 y418 x5_1).f1,t419⟩ : S69)) (wrap64 ((wrap64 ((wrap64 (x1_1 + 1)) + 1)) + 1)) (wrap64 (x5_1 + 1))))) = some (r1,r2):=by first|(rw [hy417];with_reducible exact H)|(have H2_:=(Option.bind_some _ _).symm.trans H;rw [hy417];with_reducible exact H2_)|(have H2_:=(Option.bind_some _ _).symm.trans H;with_reducible exact H2_)|with_reducible exact H|(rw [hy417];exact H)|exact H
     have Ny417:=A_ hy417;clear hy417;obtain ⟨y418,hy418⟩ : ∃ y_ : List (S69),y_ = (y417.set (x5_1 : Int).toNat (⟨(rd_T69 y417 x5_1).f0,wrap64 (x1_1 + 1),(rd_T69 y417 x5_1).f2⟩ : S69)):=⟨_,rfl⟩
     replace H : ((laws_markText.f k1 (wrap64 ((wrap64 (x1_1 + 1)) + 1))).bind fun t419 => (laws_markEntryS.l0 k1 (y418.set (x5_1 : Int).toNat (⟨(rd_T69 y418 x5_1).f0,(rd_T69 y418 x5_1).f1,t419⟩ : S69)) (wrap64 ((wrap64 ((wrap64 (x1_1 + 1)) + 1)) + 1)) (wrap64 (x5_1 + 1)))) = some (r1,r2):=by first|(rw [hy418];with_reducible exact H)|(have H2_:=(Option.bind_some _ _).symm.trans H;rw [hy418];with_reducible exact H2_)|(have H2_:=(Option.bind_some _ _).symm.trans H;with_reducible exact H2_)|with_reducible exact H|(rw [hy418];exact H)|exact H
     have Ny418:=A_ hy418;clear hy418;replace H:=ob_.mp H;obtain ⟨t419,A70,H⟩:=H;(try dsimp only at H);have A7:=A_ A70;clear A70;obtain ⟨y420,hy420⟩ : ∃ y_ : List (S69),y_ = (y418.set (x5_1 : Int).toNat (⟨(rd_T69 y418 x5_1).f0,(rd_T69 y418 x5_1).f1,t419⟩ : S69)):=⟨_,rfl⟩
     replace H : (laws_markEntryS.l0 k1 y420 (wrap64 ((wrap64 ((wrap64 (x1_1 + 1)) + 1)) + 1)) (wrap64 (x5_1 + 1))) = some (r1,r2):=by first|(rw [hy420];with_reducible exact H)|(have H2_:=(Option.bind_some _ _).symm.trans H;rw [hy420];with_reducible exact H2_)|(have H2_:=(Option.bind_some _ _).symm.trans H;with_reducible exact H2_)|with_reducible exact H|(rw [hy420];exact H)|exact H
     have Ny420:=A_ hy420;clear hy420;have H':=A_ H;clear H;obtain ⟨Ao9,co9,eo9⟩:=Kd.R_slice HO_0.out;subst eo9;have p5 : 0 ≤ (x5_1 : Int):=oda_;have q5 : (x5_1 : Int) < ((x0_1.length : Int) : Int):=oda_;obtain ⟨go5,co5,eo5,gb5,gl5,cl5,HG5⟩:=Kd.R_form HO_0.out (by omega)
     (first|cases eo5|(injection eo5 with ea_ en_ ec_;(first|subst ea_|(injection ea_ with ea_;subst ea_));subst ec_;clear en_))
     have GB5:=A_ gb5;have GG5:=A_ HG5;clear gb5 gl5 HG5;have HMgo5:=A_ (show (P0_ go5 ∨ w.heap.size ≤ go5) from (HO_0.out.1 _ rfl));obtain ⟨ce5,hcl5,hM5,hcc5,hfr5⟩:=Kd.R_elem HO_0.out z69 (x5_1 : Int) p5 q5;obtain rfl:=k69_openM hM5;have hx5_0 : wr.cell? ⟨go5,(x5_1 : Int).toNat * 3,none⟩ = some (.int .i64 ((rd_T69 x0_1 x5_1).f0)):=hcc5 0 _ rfl;have hx5_1 : wr.cell? ⟨go5,(x5_1 : Int).toNat * 3 + 1,none⟩ = some (.int .i64 ((rd_T69 x0_1 x5_1).f1)):=hcc5 1 _ rfl;have hx5_2 : wr.cell? ⟨go5,(x5_1 : Int).toNat * 3 + 2,none⟩ = some (.string ((rd_T69 x0_1 x5_1).f2)):=hcc5 2 _ rfl;have hf5_0 : wr.frozen? ⟨go5,(x5_1 : Int).toNat * 3,none⟩ = false:=hfr5 0;have hf5_1 : wr.frozen? ⟨go5,(x5_1 : Int).toNat * 3 + 1,none⟩ = false:=hfr5 1;have hf5_2 : wr.frozen? ⟨go5,(x5_1 : Int).toNat * 3 + 2,none⟩ = false:=hfr5 2;clear hcl5 hcc5 hfr5 hM5;replace p5:=eq_true p5;replace q5:=eq_true q5;have HX10:=A_ (show Kd.R k69 69 wr w0.heap.size (fun k_ => (P0_ k_ ∨ w.heap.size ≤ k_)) (.slice (some ⟨go5,0,none⟩) x0_1.length co9) x0_1 from (rq_ HO_0));obtain ⟨ce10,hcl10,hM10,hcc10,hfr10⟩:=Kd.R_elem HX10.out z69 (x5_1 : Int) (oda_) (by have h_ : (x5_1 : Int) < ((x0_1.length : Int) : Int):=oda_;first|exact h_|(have e_:=(Kd.R_reads' HO_0.out).1;omega)|simpa using h_);obtain rfl:=k69_openM hM10;have HP10:=Kd.R_seg HX10.out (x5_1 : Int) (oda_) (by have h_ : (x5_1 : Int) < ((x0_1.length : Int) : Int):=oda_;first|exact h_|(have e_:=(Kd.R_reads' HO_0.out).1;omega)|simpa using h_) (seg:=[.int .i64 x1_1]) (j:=0) hcl10 hcc10 (show 1 ≤ 3 from by decide) (x':=(⟨x1_1,(rd_T69 x0_1 x5_1).f1,(rd_T69 x0_1 x5_1).f2⟩ : S69)) (k69_mkM _ _ _ (⟨x1_1,(rd_T69 x0_1 x5_1).f1,(rd_T69 x0_1 x5_1).f2⟩ : S69) ) (fun _ hk => hk);have hx10_0:=hcc10 0 _ rfl
     (try simp only [show (k69).sz = 3 from rfl,Nat.mul_one,Nat.add_zero] at hx10_0)
     have hf10_0:=hfr10 0
     (try simp only [show (k69).sz = 3 from rfl,Nat.mul_one,Nat.add_zero] at hf10_0)
     clear hcl10 hcc10 hfr10 hM10
     go_wp2_with (first|((with_reducible refine gate_store (t:=3) (p:=16) rfl ?_);refine store_event (t:=3) (p:=16) (v:=?vo_w11) (w1:=(wr.setCell ⟨go5,(x5_1 : Int).toNat * 3,none⟩ (.int .i64 x1_1))) ?hg ?ho ?hn ?hr ?_;(case ho => rfl);(case hg => rfl);(case hn => rfl);(case hr => exact gx_);intro w11 hw;have hg : wr.grownBy w11 (some go5):=(by rw [hw];exact HP10.2);have hp_ : Kd.R k69 69 w11 w0.heap.size (fun k_ => (P0_ k_ ∨ w.heap.size ≤ k_)) (.slice (some ⟨go5,0,none⟩) x0_1.length co9) y417:=(by rw [hw,Ny417.out];exact HP10.1);clear HP10;replace HB:=A_ ((by rw [hw];exact ps_ (HB.out) GB5.out : Below w0.heap.size w0 w11));replace HK:=A_ (Kept.of_grown (S:=(fun k_ => P0_ k_)) hg (by repeat (first|(with_reducible first|exact HK.out|apply Kept.alloc|apply Kept.drewN|apply Kept.drew)|exact HK.out)) (fun k_ e_ => (HO_0.out.1 k_ e_)));replace HO_0:=A_ (hp_);clear hg hw hp_;have p6 : 0 ≤ (x5_1 : Int):=oda_;have q6 : (x5_1 : Int) < ((x0_1.length : Int) : Int):=oda_;obtain ⟨ce6,hcl6,hM6,hcc6,hfr6⟩:=Kd.R_elem HO_0.out z69 (x5_1 : Int) p6 q6;obtain rfl:=k69_openM hM6;have hx6_0 : w11.cell? ⟨go5,(x5_1 : Int).toNat * 3,none⟩ = some (.int .i64 ((rd_T69 y417 x5_1).f0)):=hcc6 0 _ rfl;have hx6_1 : w11.cell? ⟨go5,(x5_1 : Int).toNat * 3 + 1,none⟩ = some (.int .i64 ((rd_T69 y417 x5_1).f1)):=hcc6 1 _ rfl;have hx6_2 : w11.cell? ⟨go5,(x5_1 : Int).toNat * 3 + 2,none⟩ = some (.string ((rd_T69 y417 x5_1).f2)):=hcc6 2 _ rfl;have hf6_0 : w11.frozen? ⟨go5,(x5_1 : Int).toNat * 3,none⟩ = false:=hfr6 0;have hf6_1 : w11.frozen? ⟨go5,(x5_1 : Int).toNat * 3 + 1,none⟩ = false:=hfr6 1;have hf6_2 : w11.frozen? ⟨go5,(x5_1 : Int).toNat * 3 + 2,none⟩ = false:=hfr6 2;clear hcl6 hcc6 hfr6 hM6;replace p6:=eq_true p6;replace q6:=eq_true q6;have HX12:=A_ (show Kd.R k69 69 w11 w0.heap.size (fun k_ => (P0_ k_ ∨ w.heap.size ≤ k_)) (.slice (some ⟨go5,0,none⟩) x0_1.length co9) y417 from (rq_ HO_0));obtain ⟨ce12,hcl12,hM12,hcc12,hfr12⟩:=Kd.R_elem HX12.out z69 (x5_1 : Int) (oda_) (by have h_ : (x5_1 : Int) < ((x0_1.length : Int) : Int):=oda_;first|exact h_|(have e_:=(Kd.R_reads' HO_0.out).1;omega)|simpa using h_);obtain rfl:=k69_openM hM12;have HP12:=Kd.R_seg HX12.out (x5_1 : Int) (oda_) (by have h_ : (x5_1 : Int) < ((x0_1.length : Int) : Int):=oda_;first|exact h_|(have e_:=(Kd.R_reads' HO_0.out).1;omega)|simpa using h_) (seg:=[.int .i64 (wrap64 (x1_1 + 1))]) (j:=1) hcl12 hcc12 (show 2 ≤ 3 from by decide) (x':=(⟨(rd_T69 y417 x5_1).f0,wrap64 (x1_1 + 1),(rd_T69 y417 x5_1).f2⟩ : S69)) (k69_mkM _ _ _ (⟨(rd_T69 y417 x5_1).f0,wrap64 (x1_1 + 1),(rd_T69 y417 x5_1).f2⟩ : S69) ) (fun _ hk => hk);have hx12_1:=hcc12 1 _ rfl;(try simp only [show (k69).sz = 3 from rfl,Nat.mul_one,Nat.add_zero] at hx12_1);have hf12_1:=hfr12 1;(try simp only [show (k69).sz = 3 from rfl,Nat.mul_one,Nat.add_zero] at hf12_1);clear hcl12 hcc12 hfr12 hM12)|((with_reducible refine gate_store (t:=3) (p:=23) rfl ?_);refine store_event (t:=3) (p:=23) (v:=?vo_w13) (w1:=(w11.setCell ⟨go5,(x5_1 : Int).toNat * 3 + 1,none⟩ (.int .i64 (wrap64 (x1_1 + 1))))) ?hg ?ho ?hn ?hr ?_;(case ho => rfl);(case hg => rfl);(case hn => rfl);(case hr => exact gx_);intro w13 hw;have hg : w11.grownBy w13 (some go5):=(by rw [hw];exact HP12.2);have hp_ : Kd.R k69 69 w13 w0.heap.size (fun k_ => (P0_ k_ ∨ w.heap.size ≤ k_)) (.slice (some ⟨go5,0,none⟩) x0_1.length co9) y418:=(by rw [hw,Ny418.out];exact HP12.1);clear HP12;replace HB:=A_ ((by rw [hw];exact ps_ (HB.out) GB5.out : Below w0.heap.size w0 w13));replace HK:=A_ (Kept.of_grown (S:=(fun k_ => P0_ k_)) hg (by repeat (first|(with_reducible first|exact HK.out|apply Kept.alloc|apply Kept.drewN|apply Kept.drew)|exact HK.out)) (fun k_ e_ => (HO_0.out.1 k_ e_)));replace HO_0:=A_ (hp_);clear hg hw hp_)|((with_reducible refine gate_callee (f:=59) rfl ?_);refine gL_ (some 29) Try.func59 #[.int .i64 (wrap64 ((wrap64 (x1_1 + 1)) + 1))] ?_;(with_reducible refine (laws_markText.calls k1 (wrap64 ((wrap64 (x1_1 + 1)) + 1)) t419 _ A7.out).mono ?_);rintro e w14 ⟨rfl,hb⟩;refine ⟨_,rfl,?_⟩;replace HO_0:=rB_ HO_0 hb;replace HK:=A_ (Kept.below (S:=(fun k_ => P0_ k_)) (by repeat (first|(with_reducible first|exact HK.out|apply Kept.alloc|apply Kept.drewN|apply Kept.drew)|exact HK.out)) hb);replace HB:=bS_ HB hb;(try clear hb);have p8 : 0 ≤ (x5_1 : Int):=oda_;have q8 : (x5_1 : Int) < ((x0_1.length : Int) : Int):=oda_;obtain ⟨ce8,hcl8,hM8,hcc8,hfr8⟩:=Kd.R_elem HO_0.out z69 (x5_1 : Int) p8 q8;obtain rfl:=k69_openM hM8;have hx8_0 : w14.cell? ⟨go5,(x5_1 : Int).toNat * 3,none⟩ = some (.int .i64 ((rd_T69 y418 x5_1).f0)):=hcc8 0 _ rfl;have hx8_1 : w14.cell? ⟨go5,(x5_1 : Int).toNat * 3 + 1,none⟩ = some (.int .i64 ((rd_T69 y418 x5_1).f1)):=hcc8 1 _ rfl;have hx8_2 : w14.cell? ⟨go5,(x5_1 : Int).toNat * 3 + 2,none⟩ = some (.string ((rd_T69 y418 x5_1).f2)):=hcc8 2 _ rfl;have hf8_0 : w14.frozen? ⟨go5,(x5_1 : Int).toNat * 3,none⟩ = false:=hfr8 0;have hf8_1 : w14.frozen? ⟨go5,(x5_1 : Int).toNat * 3 + 1,none⟩ = false:=hfr8 1;have hf8_2 : w14.frozen? ⟨go5,(x5_1 : Int).toNat * 3 + 2,none⟩ = false:=hfr8 2;clear hcl8 hcc8 hfr8 hM8;replace p8:=eq_true p8;replace q8:=eq_true q8;have HX15:=A_ (show Kd.R k69 69 w14 w0.heap.size (fun k_ => (P0_ k_ ∨ w.heap.size ≤ k_)) (.slice (some ⟨go5,0,none⟩) x0_1.length co9) y418 from (rq_ HO_0));obtain ⟨ce15,hcl15,hM15,hcc15,hfr15⟩:=Kd.R_elem HX15.out z69 (x5_1 : Int) (oda_) (by have h_ : (x5_1 : Int) < ((x0_1.length : Int) : Int):=oda_;first|exact h_|(have e_:=(Kd.R_reads' HO_0.out).1;omega)|simpa using h_);obtain rfl:=k69_openM hM15;have HP15:=Kd.R_seg HX15.out (x5_1 : Int) (oda_) (by have h_ : (x5_1 : Int) < ((x0_1.length : Int) : Int):=oda_;first|exact h_|(have e_:=(Kd.R_reads' HO_0.out).1;omega)|simpa using h_) (seg:=[.string t419]) (j:=2) hcl15 hcc15 (show 3 ≤ 3 from by decide) (x':=(⟨(rd_T69 y418 x5_1).f0,(rd_T69 y418 x5_1).f1,t419⟩ : S69)) (k69_mkM _ _ _ (⟨(rd_T69 y418 x5_1).f0,(rd_T69 y418 x5_1).f1,t419⟩ : S69) ) (fun _ hk => hk);have hx15_2:=hcc15 2 _ rfl;(try simp only [show (k69).sz = 3 from rfl,Nat.mul_one,Nat.add_zero] at hx15_2);have hf15_2:=hfr15 2;(try simp only [show (k69).sz = 3 from rfl,Nat.mul_one,Nat.add_zero] at hf15_2);clear hcl15 hcc15 hfr15 hM15)|((with_reducible refine gate_store (t:=9) (p:=31) rfl ?_);refine store_event (t:=9) (p:=31) (v:=?vo_w16) (w1:=(w14.setCell ⟨go5,(x5_1 : Int).toNat * 3 + 2,none⟩ (.string t419))) ?hg ?ho ?hn ?hr ?_;(case ho => rfl);(case hg => rfl);(case hn => rfl);(case hr => exact gx_);intro w16 hw;have hg : w14.grownBy w16 (some go5):=(by rw [hw];exact HP15.2);have hp_ : Kd.R k69 69 w16 w0.heap.size (fun k_ => (P0_ k_ ∨ w.heap.size ≤ k_)) (.slice (some ⟨go5,0,none⟩) x0_1.length co9) y420:=(by rw [hw,Ny420.out];exact HP15.1);clear HP15;replace HB:=A_ ((by rw [hw];exact ps_ (HB.out) GB5.out : Below w0.heap.size w0 w16));replace HK:=A_ (Kept.of_grown (S:=(fun k_ => P0_ k_)) hg (by repeat (first|(with_reducible first|exact HK.out|apply Kept.alloc|apply Kept.drewN|apply Kept.drew)|exact HK.out)) (fun k_ e_ => (HO_0.out.1 k_ e_)));replace HO_0:=A_ (hp_);clear hg hw hp_))
     go_roundg k1
     case measure => have:=HK1.out;omega
     case rel => exact ⟨(y420),(wrap64 ((wrap64 ((wrap64 (x1_1 + 1)) + 1)) + 1)),(wrap64 (x5_1 + 1)),(by first|rfl|(simp;done)|(simp [*];done)),(by first|rfl|(simp;done)|(simp [*];done)),H',⟨by have:=HK1.out;omega⟩,⟨by (with_reducible repeat (first|apply ra_|apply rn_|apply Rd_));exact HO_0.out⟩,⟨by repeat (first|(with_reducible first|exact HK.out|apply Kept.alloc|apply Kept.drewN|apply Kept.drew)|exact HK.out)⟩,⟨bq_ HB⟩⟩
    ·rw [if_neg c4] at H;exact absurd H (by simp)
   ·rw [if_neg c3] at H;have c3b0 : decide (x5_1 < (x0_1.length : Int)) = false:=decide_eq_false c3;clear c3;simp only [Option.some.injEq,Prod.mk.injEq] at H;obtain ⟨rfl,rfl⟩:=H;obtain ⟨Ao17,co17,eo17⟩:=Kd.R_slice HO_0.out;subst eo17;go_wp2;go_ret;exact ⟨ex_,by (with_reducible repeat (first|apply ra_|apply rn_|apply Rd_));exact HO_0.out,bq_ HB,by repeat (first|(with_reducible first|exact HK.out|apply Kept.alloc|apply Kept.drewN|apply Kept.drew)|exact HK.out)⟩
def laws_markIntS.l0 : Nat → List Int → Int → Int → Option (Int × List Int)
 | 0,_,_,_ => none
 | k + 1,x0,x1,x5 => if x5 < (x0.length : Int) then (if 0 ≤ x5 then (laws_markIntS.l0 k (x0.set (x5 : Int).toNat x1) (wrap64 (x1 + 1)) (wrap64 (x5 + 1))) else (none)) else (some (x1,x0))
def laws_markIntS.f (k : Nat) (l0 : List Int) (a1 : Int) : Option (Int × List Int) := laws_markIntS.l0 k l0 a1 0
theorem laws_markIntS.mono_l : ∀ k, (∀ y0 y1 y2, LeO (laws_markIntS.l0 k y0 y1 y2) (laws_markIntS.l0 (k + 1) y0 y1 y2))
 | 0 => fun _ _ _ r h => by simp [laws_markIntS.l0] at h
 | k + 1 => by
  have ih0:=laws_markIntS.mono_l k
  ·intro y0 y1 y2
   unfold laws_markIntS.l0
   repeat' first
   | (with_reducible exact ih0 _ _ _)
   | (with_reducible exact LeO.refl _)
   | (with_reducible exact LeO.none _)
   | (with_reducible refine LeO.ite ?_ ?_)
   | (with_reducible refine LeO.bind ?_ (fun _ => ?_))
theorem laws_markIntS.mono : ∀ a0 a1 k, LeO (laws_markIntS.f k a0 a1) (laws_markIntS.f (k + 1) a0 a1) := by
 intro a0 a1 k;have ih0:=laws_markIntS.mono_l k
 unfold laws_markIntS.f
 repeat' first
   | (with_reducible exact ih0 _ _ _)
   | (with_reducible exact LeO.refl _)
   | (with_reducible exact LeO.none _)
   | (with_reducible refine LeO.ite ?_ ?_)
   | (with_reducible refine LeO.bind ?_ (fun _ => ?_))
set_option maxHeartbeats 8000000 in
set_option maxRecDepth 100000 in
theorem laws_markIntS.calls (k : Nat) (P0_ : Nat → Prop) (u9000_ : Value) (l0 : List Int) (a1 : Int) (r1 : Int) (r2 : List Int) (w0 w : World) (hB : Below w0.heap.size w0 w) (ho0 : Kd.R (Kd.int .i64) 3 w w0.heap.size P0_ u9000_ l0) (h : laws_markIntS.f k l0 a1 = some (r1, r2)) :
  Calls Try.prog 71 #[u9000_,.int .i64 a1] w fun e w' => e = .returned (.int .i64 r1) ∧ Kd.R (Kd.int .i64) 3 w' w0.heap.size (fun k_ => (P0_ k_ ∨ w.heap.size ≤ k_)) u9000_ r2 ∧ Below w0.heap.size w0 w' ∧ Kept w w' (fun k_ => P0_ k_):=by
 have HO0:=A_ (show Kd.R (Kd.int .i64) 3 w w0.heap.size (fun k_ => (P0_ k_ ∨ w.heap.size ≤ k_)) u9000_ l0 from rm_ ho0 (fun k_ hk => (.inl hk)));have HK:=A_ (Kept.refl w (fun k_ => P0_ k_));have HW0:=A_ hB.size;have HB:=A_ hB;clear hB;unfold laws_markIntS.f at h;have H:=h;clear h;have H':=A_ H;clear H;go_enter Try.func71,Try.ntmps71;go_wp2
 go_loopg [1,5] k (fun kq v1 v5 w' => ∃ (x0_1 : List Int) (x1_1 : Int) (x5_1 : Int),v1 = .int .i64 x1_1 ∧ v5 = .int .i64 x5_1 ∧ Aside0 (laws_markIntS.l0 kq x0_1 x1_1 x5_1 = some (r1,r2)) ∧ Aside0 (kq ≤ k) ∧ Aside0 (Kd.R (Kd.int .i64) 3 w' w0.heap.size (fun k_ => (P0_ k_ ∨ w.heap.size ≤ k_)) u9000_ x0_1) ∧ Aside0 (Kept w w' (fun k_ => P0_ k_)) ∧ Aside0 (Below w0.heap.size w0 w'))
 case atStart => exact ⟨(l0),(a1),(0),(by first|rfl|(simp;done)|(simp [*];done)),(by first|rfl|(simp;done)|(simp [*];done)),H',⟨Nat.le_refl _⟩,⟨by (with_reducible repeat (first|apply ra_|apply rn_|apply Rd_));exact HO0.out⟩,⟨by repeat (first|(with_reducible first|exact HK.out|apply Kept.alloc|apply Kept.drewN|apply Kept.drew)|exact HK.out)⟩,⟨bq_ HB⟩⟩
 case round =>
  clear H'
  try clear p2
  obtain ⟨x0_1,x1_1,x5_1,rfl,rfl,HA,HK1,HO_0,HK,HB⟩:=hrel
  cases gk with
  | zero => exact absurd HA.out (by simp [laws_markIntS.l0])
  | succ k1 =>
   have H:=HA.out;clear HA;simp only [laws_markIntS.l0] at H
   by_cases c3 : x5_1 < (x0_1.length : Int)
   ·rw [if_pos c3] at H;have c3b0 : decide (x5_1 < (x0_1.length : Int)) = true:=de_ c3;clear c3
    by_cases c4 : 0 ≤ x5_1
    ·rw [if_pos c4] at H;have c4b0 : decide (0 ≤ x5_1) = true:=de_ c4;clear c4;obtain ⟨y421,hy421⟩ : ∃ y_ : List Int,y_ = (x0_1.set (x5_1 : Int).toNat x1_1):=⟨_,rfl⟩
     replace H : (laws_markIntS.l0 k1 y421 (wrap64 (x1_1 + 1)) (wrap64 (x5_1 + 1))) = some (r1,r2):=by first|(rw [hy421];with_reducible exact H)|(have H2_:=(Option.bind_some _ _).symm.trans H;rw [hy421];with_reducible exact H2_)|(have H2_:=(Option.bind_some _ _).symm.trans H;with_reducible exact H2_)|with_reducible exact H|(rw [hy421];exact H)|exact H
     have Ny421:=A_ hy421;clear hy421;have H':=A_ H;clear H;obtain ⟨Ao6,co6,eo6⟩:=Kd.R_slice HO_0.out;subst eo6;have p5 : 0 ≤ (x5_1 : Int):=oda_;have q5 : (x5_1 : Int) < ((x0_1.length : Int) : Int):=oda_;obtain ⟨go5,co5,eo5,gb5,gl5,cl5,HG5⟩:=Kd.R_form HO_0.out (by omega)
     (first|cases eo5|(injection eo5 with ea_ en_ ec_;(first|subst ea_|(injection ea_ with ea_;subst ea_));subst ec_;clear en_))
     have GB5:=A_ gb5;have GG5:=A_ HG5;clear gb5 gl5 HG5;have HMgo5:=A_ (show (P0_ go5 ∨ w.heap.size ≤ go5) from (HO_0.out.1 _ rfl));obtain ⟨hx5_0,hf5_0⟩:=Kd.R_celln 0 HO_0.out (x5_1 : Int) p5 q5;replace p5:=eq_true p5;replace q5:=eq_true q5;have HP7:=Kd.R_putg HO_0.out (x5_1 : Int) x1_1
     go_wp2_with (first|((with_reducible refine gate_store (t:=3) (p:=15) rfl ?_);refine store_event (t:=3) (p:=15) (v:=?vo_w8) (w1:=(wr.setCell ⟨go5,(x5_1 : Int).toNat,none⟩ (.int .i64 x1_1))) ?hg ?ho ?hn ?hr ?_;(case ho => rfl);(case hg => rfl);(case hn => rfl);(case hr => exact gx_);intro w8 hw;have hg : wr.grownBy w8 (some go5):=(by rw [hw];exact HP7.2);have hp_ : Kd.R (Kd.int .i64) 3 w8 w0.heap.size (fun k_ => (P0_ k_ ∨ w.heap.size ≤ k_)) (.slice (some ⟨go5,0,none⟩) x0_1.length co6) y421:=(by rw [hw,Ny421.out];exact HP7.1);clear HP7;replace HB:=A_ ((by rw [hw];exact ps_ (HB.out) GB5.out : Below w0.heap.size w0 w8));replace HK:=A_ (Kept.of_grown (S:=(fun k_ => P0_ k_)) hg (by repeat (first|(with_reducible first|exact HK.out|apply Kept.alloc|apply Kept.drewN|apply Kept.drew)|exact HK.out)) (fun k_ e_ => (HO_0.out.1 k_ e_)));replace HO_0:=A_ (hp_);clear hg hw hp_))
     go_roundg k1
     case measure => have:=HK1.out;omega
     case rel => exact ⟨(y421),(wrap64 (x1_1 + 1)),(wrap64 (x5_1 + 1)),(by first|rfl|(simp;done)|(simp [*];done)),(by first|rfl|(simp;done)|(simp [*];done)),H',⟨by have:=HK1.out;omega⟩,⟨by (with_reducible repeat (first|apply ra_|apply rn_|apply Rd_));exact HO_0.out⟩,⟨by repeat (first|(with_reducible first|exact HK.out|apply Kept.alloc|apply Kept.drewN|apply Kept.drew)|exact HK.out)⟩,⟨bq_ HB⟩⟩
    ·rw [if_neg c4] at H;exact absurd H (by simp)
   ·rw [if_neg c3] at H;have c3b0 : decide (x5_1 < (x0_1.length : Int)) = false:=decide_eq_false c3;clear c3;simp only [Option.some.injEq,Prod.mk.injEq] at H;obtain ⟨rfl,rfl⟩:=H;obtain ⟨Ao9,co9,eo9⟩:=Kd.R_slice HO_0.out;subst eo9;go_wp2;go_ret;exact ⟨ex_,by (with_reducible repeat (first|apply ra_|apply rn_|apply Rd_));exact HO_0.out,bq_ HB,by repeat (first|(with_reducible first|exact HK.out|apply Kept.alloc|apply Kept.drewN|apply Kept.drew)|exact HK.out)⟩
def laws_markMessage.f (k : Nat) (a0_0 : Int) (a0_1 : Int) (a0_2 : Int) (a0_3 : Int) (a0_4 : Int) (a0_5 : Int) (a0_6 : Int) (a0_7 : Bool) (l0_8 : List (S69)) (l0_9 : List Int) (a0_10 : ByteArray) (a0_11 : Bool) (a1 : Int) : Option (Int × (List (S69)) × List Int) := (laws_markEntryS.f k l0_8 a1).bind fun bt423 => ((laws_markIntS.f k l0_9 bt423.1).bind fun bt425 => (some (bt425.1, bt423.2, bt425.2)))
theorem laws_markMessage.mono : ∀ a0 a1 a2 a3 a4 a5 a6 a7 a8 a9 a10 a11 a12 k, LeO (laws_markMessage.f k a0 a1 a2 a3 a4 a5 a6 a7 a8 a9 a10 a11 a12) (laws_markMessage.f (k + 1) a0 a1 a2 a3 a4 a5 a6 a7 a8 a9 a10 a11 a12) := by
 intro a0 a1 a2 a3 a4 a5 a6 a7 a8 a9 a10 a11 a12 k
 unfold laws_markMessage.f
 repeat' first
   | (with_reducible exact laws_markEntryS.mono _ _ _)
   | (with_reducible exact laws_markIntS.mono _ _ _)
   | (with_reducible exact LeO.refl _)
   | (with_reducible exact LeO.none _)
   | (with_reducible refine LeO.ite ?_ ?_)
   | (with_reducible refine LeO.bind ?_ (fun _ => ?_))
set_option maxHeartbeats 8000000 in
set_option maxRecDepth 100000 in
theorem laws_markMessage.calls (k : Nat) (a0_0 : Int) (a0_1 : Int) (a0_2 : Int) (a0_3 : Int) (a0_4 : Int) (a0_5 : Int) (a0_6 : Int) (a0_7 : Bool) (P0_8_ : Nat → Prop) (u9000_ : Value) (l0_8 : List (S69)) (P0_9_ : Nat → Prop) (u9001_ : Value) (l0_9 : List Int) (a0_10 : ByteArray) (a0_11 : Bool) (a1 : Int) (r1 : Int) (r2 : List (S69)) (r3 : List Int) (w0 w : World) (hB : Below w0.heap.size w0 w) (ho0_8 : Kd.R k69 69 w w0.heap.size P0_8_ u9000_ l0_8) (ho0_9 : Kd.R (Kd.int .i64) 3 w w0.heap.size P0_9_ u9001_ l0_9) (h : laws_markMessage.f k a0_0 a0_1 a0_2 a0_3 a0_4 a0_5 a0_6 a0_7 l0_8 l0_9 a0_10 a0_11 a1 = some (r1, r2, r3)) :
  Calls Try.prog 24 #[.agg #[.int .i64 a0_0,.int .i64 a0_1,.int .i64 a0_2,.int .i64 a0_3,.int .i64 a0_4,.int .i64 a0_5,.int .i64 a0_6,.bool a0_7,u9000_,u9001_,.string a0_10,.bool a0_11],.int .i64 a1] w fun e w' => e = .returned (.int .i64 r1) ∧ Kd.R k69 69 w' w0.heap.size (fun k_ => ((P0_8_ k_ ∨ P0_9_ k_) ∨ w.heap.size ≤ k_)) u9000_ r2 ∧ Kd.R (Kd.int .i64) 3 w' w0.heap.size (fun k_ => ((P0_8_ k_ ∨ P0_9_ k_) ∨ w.heap.size ≤ k_)) u9001_ r3 ∧ Below w0.heap.size w0 w' ∧ Kept w w' (fun k_ => P0_8_ k_ ∨ P0_9_ k_):=by
 have hu41:=Try.underlying41;have HO0_8:=A_ (show Kd.R k69 69 w w0.heap.size (fun k_ => ((P0_8_ k_ ∨ P0_9_ k_) ∨ w.heap.size ≤ k_)) u9000_ l0_8 from rm_ ho0_8 (fun k_ hk => (.inl (.inl hk))));have HO0_9:=A_ (show Kd.R (Kd.int .i64) 3 w w0.heap.size (fun k_ => ((P0_8_ k_ ∨ P0_9_ k_) ∨ w.heap.size ≤ k_)) u9001_ l0_9 from rm_ ho0_9 (fun k_ hk => (.inl (.inr hk))));have HK:=A_ (Kept.refl w (fun k_ => P0_8_ k_ ∨ P0_9_ k_));have HW0:=A_ hB.size;have HB:=A_ hB;clear hB;unfold laws_markMessage.f at h;have H:=h;clear h;replace H:=ob_.mp H;obtain ⟨⟨t423,t424⟩,A30,H⟩:=H;(try dsimp only at H);have A3:=A_ A30;clear A30;replace H:=ob_.mp H;obtain ⟨⟨t425,t426⟩,A40,H⟩:=H;(try dsimp only at H);have A4:=A_ A40;clear A40;simp only [Option.some.injEq,Prod.mk.injEq] at H;obtain ⟨rfl,rfl,rfl⟩:=H;obtain ⟨Ao5,co5,eo5⟩:=Kd.R_slice HO0_8.out;subst eo5;obtain ⟨Ao6,co6,eo6⟩:=Kd.R_slice HO0_9.out;subst eo6;go_enter Try.func24,Try.ntmps24
 go_wp2_with (first|((with_reducible refine gate_dst (N:=2) rfl ?_);refine bE_ 2 #[.int .i64 a0_0,.int .i64 a0_1,.int .i64 a0_2,.int .i64 a0_3,.int .i64 a0_4,.int .i64 a0_5,.int .i64 a0_6,.bool a0_7,.slice Ao5 l0_8.length co5,.slice Ao6 l0_9.length co6,.string a0_10,.bool a0_11] 41 ?_;intro gb422 hg w7 hbox hb;replace HO0_8:=rB_ HO0_8 hb;replace HO0_9:=rB_ HO0_9 hb;have BK422:=A_ (hbox);have GW422:=A_ ((by rw [hg];exact (by first|exact HK.out.1|exact (show Kept w _ (fun k_ => P0_8_ k_ ∨ P0_9_ k_) from by repeat (first|(with_reducible first|exact HK.out|apply Kept.alloc|apply Kept.drewN|apply Kept.drew)|exact HK.out)).1) : w.heap.size ≤ gb422));replace HK:=A_ (Kept.below (S:=(fun k_ => P0_8_ k_ ∨ P0_9_ k_)) (by repeat (first|(with_reducible first|exact HK.out|apply Kept.alloc|apply Kept.drewN|apply Kept.drew)|exact HK.out)) hb);have GE422:=gE_ hg HB;replace HB:=bS_ HB hb;clear hb hbox hg;obtain ⟨hcz8_0,hcz8_1,hcz8_2,hcz8_3,hcz8_4,hcz8_5,hcz8_6,hcz8_7,hcz8_8,hcz8_9,hcz8_10,hcz8_11,hfz8_0,hfz8_1,hfz8_2,hfz8_3,hfz8_4,hfz8_5,hfz8_6,hfz8_7,hfz8_8,hfz8_9,hfz8_10,hfz8_11⟩:=k12f_ BK422)|((with_reducible refine gate_callee (f:=50) rfl ?_);refine gL_ (some 8) Try.func50 #[.slice Ao5 l0_8.length co5,.int .i64 a1] ?_;(with_reducible refine (laws_markEntryS.calls k (fun k_ => some k_ = (.slice Ao5 l0_8.length co5 : Value).ownBlock) (.slice Ao5 l0_8.length co5) l0_8 a1 t423 t424 w0 _ ?side1 ?side2 A3.out).mono ?_);(case side1 => exact bq_ HB);(case side2 => exact Kd.R_tight rfl HO0_8.out);rintro e w9 ⟨rfl,hy0,hb,hkp⟩;refine ⟨_,rfl,?_⟩;replace HO0_9:=A_ (rm_ (ok':=fun k_ => ((P0_8_ k_ ∨ P0_9_ k_) ∨ w.heap.size ≤ k_)) (Kd.R_keptB ((Kd.R_apart' HO0_9.out (ry_ HO0_8.out) (by decide))) hkp (fun k_ hk_ hs_ => (hk_.2) hs_)) (fun k_ hk_ => hk_.1.1));replace BK422:=A_ (blk_kept (kq_ BK422) hkp (fun hs_ => (fun e_ => (re_ HO0_8.out BK422.out (by decide)) e_) hs_));replace HK:=A_ (Kept.then_ (S:=(fun k_ => P0_8_ k_ ∨ P0_9_ k_)) (by repeat (first|(with_reducible first|exact HK.out|apply Kept.alloc|apply Kept.drewN|apply Kept.drew|refine Kept.setCell ?_ (.inr GW422.out) _)|exact HK.out)) hkp (fun k_ hs_ => (fun e_ => (HO0_8.out.1 k_ e_.symm)) hs_));replace HO0_8:=A_ (Kd.R_reok rfl hy0 (fun k_ e_ => HO0_8.out.1 k_ e_));replace HB:=A_ (hb);(try clear hb);(try clear hkp);(try clear hy0);obtain ⟨hcz10_0,hcz10_1,hcz10_2,hcz10_3,hcz10_4,hcz10_5,hcz10_6,hcz10_7,hcz10_8,hcz10_9,hcz10_10,hcz10_11,hfz10_0,hfz10_1,hfz10_2,hfz10_3,hfz10_4,hfz10_5,hfz10_6,hfz10_7,hfz10_8,hfz10_9,hfz10_10,hfz10_11⟩:=k12f_ BK422)|((with_reducible refine gate_callee (f:=71) rfl ?_);refine gL_ (some 12) Try.func71 #[.slice Ao6 l0_9.length co6,.int .i64 t423] ?_;(with_reducible refine (laws_markIntS.calls k (fun k_ => some k_ = (.slice Ao6 l0_9.length co6 : Value).ownBlock) (.slice Ao6 l0_9.length co6) l0_9 t423 t425 t426 w0 _ ?side1 ?side2 A4.out).mono ?_);(case side1 => exact bq_ HB);(case side2 => exact Kd.R_tight rfl HO0_9.out);rintro e w11 ⟨rfl,hy0,hb,hkp⟩;refine ⟨_,rfl,?_⟩;replace HO0_8:=A_ (rm_ (ok':=fun k_ => ((P0_8_ k_ ∨ P0_9_ k_) ∨ w.heap.size ≤ k_)) (Kd.R_keptB ((Kd.R_apart' HO0_8.out (ry_ HO0_9.out) (by decide))) hkp (fun k_ hk_ hs_ => (hk_.2) hs_)) (fun k_ hk_ => hk_.1.1));replace BK422:=A_ (blk_kept (kq_ BK422) hkp (fun hs_ => (fun e_ => (re_ HO0_9.out BK422.out (by decide)) e_) hs_));replace HK:=A_ (Kept.then_ (S:=(fun k_ => P0_8_ k_ ∨ P0_9_ k_)) (by repeat (first|(with_reducible first|exact HK.out|apply Kept.alloc|apply Kept.drewN|apply Kept.drew|refine Kept.setCell ?_ (.inr GW422.out) _)|exact HK.out)) hkp (fun k_ hs_ => (fun e_ => (HO0_9.out.1 k_ e_.symm)) hs_));replace HO0_9:=A_ (Kd.R_reok rfl hy0 (fun k_ e_ => HO0_9.out.1 k_ e_));replace HB:=A_ (hb);(try clear hb);(try clear hkp);(try clear hy0)))
 go_ret;exact ⟨ex_,by (with_reducible repeat (first|apply ra_|apply rn_|apply Rd_));exact HO0_8.out,by (with_reducible repeat (first|apply ra_|apply rn_|apply Rd_));exact HO0_9.out,bq_ HB,by repeat (first|(with_reducible first|exact HK.out|apply Kept.alloc|apply Kept.drewN|apply Kept.drew|refine Kept.setCell ?_ (.inr GW422.out) _)|exact HK.out)⟩
def laws_heldEntryS.l0 : Nat → List (S69) → Int → Int → Option (Int)
 | 0,_,_,_ => none
 | k + 1,x0,x1,x5 => if x5 < (x0.length : Int) then (if 0 ≤ x5 then (if ((rd_T69 x0 x5).f0) = x1 then (if ((rd_T69 x0 x5).f1) = (wrap64 (x1 + 1)) then ((laws_markText.f k (wrap64 ((wrap64 (x1 + 1)) + 1))).bind fun t430 => (if ((rd_T69 x0 x5).f2).toList = t430.toList then (laws_heldEntryS.l0 k x0 (wrap64 ((wrap64 ((wrap64 (x1 + 1)) + 1)) + 1)) (wrap64 (x5 + 1))) else (some (-1)))) else (some (-1))) else (some (-1))) else (none)) else (some x1)
def laws_heldEntryS.f (k : Nat) (l0 : List (S69)) (a1 : Int) : Option (Int) := laws_heldEntryS.l0 k l0 a1 0
theorem laws_heldEntryS.mono_l : ∀ k, (∀ y0 y1 y2, LeO (laws_heldEntryS.l0 k y0 y1 y2) (laws_heldEntryS.l0 (k + 1) y0 y1 y2))
 | 0 => fun _ _ _ r h => by simp [laws_heldEntryS.l0] at h
 | k + 1 => by
  have ih0:=laws_heldEntryS.mono_l k
  ·intro y0 y1 y2
   unfold laws_heldEntryS.l0
   repeat' first
   | (with_reducible exact ih0 _ _ _)
   | (with_reducible exact laws_markText.mono _ _)
   | (with_reducible exact LeO.refl _)
   | (with_reducible exact LeO.none _)
   | (with_reducible refine LeO.ite ?_ ?_)
   | (with_reducible refine LeO.bind ?_ (fun _ => ?_))
theorem laws_heldEntryS.mono : ∀ a0 a1 k, LeO (laws_heldEntryS.f k a0 a1) (laws_heldEntryS.f (k + 1) a0 a1) := by
 intro a0 a1 k;have ih0:=laws_heldEntryS.mono_l k
 unfold laws_heldEntryS.f
 repeat' first
   | (with_reducible exact ih0 _ _ _)
   | (with_reducible exact laws_markText.mono _ _)
   | (with_reducible exact LeO.refl _)
   | (with_reducible exact LeO.none _)
   | (with_reducible refine LeO.ite ?_ ?_)
   | (with_reducible refine LeO.bind ?_ (fun _ => ?_))
def laws_heldEntryS.T10 : Bool × List (List Nat × List Nat) := (true, [([], []), ([], []), ([0, 1], [0, 1]), ([2], [2]), ([3], [3]), ([], []), ([5], [5]), ([4, 6], [4, 6])])
def laws_heldEntryS.B10 : List Nat := [0, 0, 3, 7, 15, 0, 32, 127]
theorem laws_heldEntryS.tab10 : rtab .any (opsOf Try.f51 10) = laws_heldEntryS.T10 := by kernel_rfl
theorem laws_heldEntryS.bits10 : waitsOk laws_heldEntryS.T10.2 laws_heldEntryS.B10 = true := by kernel_rfl
set_option maxHeartbeats 8000000 in
set_option maxRecDepth 100000 in
theorem laws_heldEntryS.calls (k : Nat) (A0 : Option Addr) (c0 : Nat) (l0 : List (S69)) (a1 : Int) (r : Int) (w : World) (hr0 : Kd.C k69 w A0 l0.length l0) (hc0 : l0.length ≤ c0) (h : laws_heldEntryS.f k l0 a1 = some r) :
  Calls Try.prog 51 #[.slice A0 l0.length c0,.int .i64 a1] w fun e w' => e = .returned (.int .i64 r) ∧ Below w.heap.size w w':=by
 have HR0:=A_ hr0;have HC0:=A_ hc0;clear hr0 hc0;have HB:=A_ (Below.refl w.heap.size w);unfold laws_heldEntryS.f at h;have H:=h;clear h;have H':=A_ H;clear H;go_enter Try.func51,Try.ntmps51;go_wp2
 go_loopg [1,5] k (fun kq v1 v5 w' => ∃ (x1_1 : Int) (x5_1 : Int),v1 = .int .i64 x1_1 ∧ v5 = .int .i64 x5_1 ∧ Aside0 (laws_heldEntryS.l0 kq l0 x1_1 x5_1 = some r) ∧ Aside0 (kq ≤ k) ∧ Aside0 (Below w.heap.size w w'))
 case atStart => exact ⟨(a1),(0),(by first|rfl|(simp;done)|(simp [*];done)),(by first|rfl|(simp;done)|(simp [*];done)),H',⟨Nat.le_refl _⟩,⟨bq_ HB⟩⟩
 case round =>
  clear H'
  try clear p2
  obtain ⟨x1_1,x5_1,rfl,rfl,HA,HK1,HB⟩:=hrel
  cases gk with
  | zero => exact absurd HA.out (by simp [laws_heldEntryS.l0])
  | succ k1 =>
   have H:=HA.out;clear HA;simp only [laws_heldEntryS.l0] at H
   by_cases c3 : x5_1 < (l0.length : Int)
   ·rw [if_pos c3] at H;have c3b0 : decide (x5_1 < (l0.length : Int)) = true:=de_ c3;clear c3
    by_cases c4 : 0 ≤ x5_1
    ·rw [if_pos c4] at H;have c4b0 : decide (0 ≤ x5_1) = true:=de_ c4;clear c4
     by_cases c5 : ((rd_T69 l0 x5_1).f0) = x1_1
     ·rw [if_pos c5] at H;have c5b0 : (((rd_T69 l0 x5_1).f0) == x1_1) = true:=beq_iff_eq.mpr c5;have c5b1 : (((rd_T69 l0 x5_1).f0) != x1_1) = false:=bne_eq_false_iff_eq.mpr c5;clear c5
      by_cases c6 : ((rd_T69 l0 x5_1).f1) = (wrap64 (x1_1 + 1))
      ·rw [if_pos c6] at H;have c6b0 : (((rd_T69 l0 x5_1).f1) == (wrap64 (x1_1 + 1))) = true:=beq_iff_eq.mpr c6;have c6b1 : (((rd_T69 l0 x5_1).f1) != (wrap64 (x1_1 + 1))) = false:=bne_eq_false_iff_eq.mpr c6;clear c6;replace H:=ob_.mp H;obtain ⟨t430,A70,H⟩:=H;(try dsimp only at H);have A7:=A_ A70;clear A70
       by_cases c8 : ((rd_T69 l0 x5_1).f2).toList = t430.toList
       ·rw [if_pos c8] at H;have c8b0 : (((rd_T69 l0 x5_1).f2).toList == t430.toList) = true:=beq_iff_eq.mpr c8;have c8b1 : (((rd_T69 l0 x5_1).f2).toList != t430.toList) = false:=bne_eq_false_iff_eq.mpr c8;clear c8;have H':=A_ H;clear H;have p427 : 0 ≤ (x5_1 : Int):=oda_;have q427 : x5_1 < (l0.length : Int):=oda_;obtain ⟨ad427,e427,hx427_0,hx427_1,hx427_2⟩:=at_T69 HR0.out x5_1 p427 q427
        cases e427
        replace hx427_0:=(HB.out.cell (wb_ w _ hx427_0)).trans hx427_0;replace hx427_1:=(HB.out.cell (wb_ w _ hx427_1)).trans hx427_1;replace hx427_2:=(HB.out.cell (wb_ w _ hx427_2)).trans hx427_2;replace p427:=eq_true p427;replace q427:=eq_true q427;have p428 : 0 ≤ (x5_1 : Int):=oda_;have q428 : x5_1 < (l0.length : Int):=oda_;obtain ⟨ad428,e428,hx428_0,hx428_1,hx428_2⟩:=at_T69 HR0.out x5_1 p428 q428;obtain rfl : ad427 = ad428:=(by injection e428);replace hx428_0:=(HB.out.cell (wb_ w _ hx428_0)).trans hx428_0;replace hx428_1:=(HB.out.cell (wb_ w _ hx428_1)).trans hx428_1;replace hx428_2:=(HB.out.cell (wb_ w _ hx428_2)).trans hx428_2;replace p428:=eq_true p428;replace q428:=eq_true q428
        try go_wp2
        replace HB:=A_ (pd_ HB.out);have p429 : 0 ≤ (x5_1 : Int):=oda_;have q429 : x5_1 < (l0.length : Int):=oda_;obtain ⟨ad429,e429,hx429_0,hx429_1,hx429_2⟩:=at_T69 HR0.out x5_1 p429 q429;have hw429_2:=hx429_2;have hw429_1:=hx429_1;have hw429_0:=hx429_0;obtain rfl : ad427 = ad429:=(by injection e429);replace hx429_0:=(HB.out.cell (wb_ w _ hx429_0)).trans hx429_0;replace hx429_1:=(HB.out.cell (wb_ w _ hx429_1)).trans hx429_1;replace hx429_2:=(HB.out.cell (wb_ w _ hx429_2)).trans hx429_2;replace p429:=eq_true p429;replace q429:=eq_true q429;refine start_ (n:=8) (S:=fun w' => w'.cell? (ad427.add ((x5_1).toNat * 3)) = some (.int .i64 ((rd_T69 l0 x5_1).f0)) ∧ w'.cell? ⟨(ad427.add ((x5_1).toNat * 3)).block,(ad427.add ((x5_1).toNat * 3)).off + 1,none⟩ = some (.int .i64 ((rd_T69 l0 x5_1).f1)) ∧ w'.cell? ⟨(ad427.add ((x5_1).toNat * 3)).block,(ad427.add ((x5_1).toNat * 3)).off + 2,none⟩ = some (.string ((rd_T69 l0 x5_1).f2))) (ds:=[]) #[false,false,false,false,false,false,false,false] (by kernel_rfl) rfl rfl ⟨((HB.out.cell (wb_ w _ hw429_0)).trans hw429_0),((HB.out.cell (wb_ w _ hw429_1)).trans hw429_1),((HB.out.cell (wb_ w _ hw429_2)).trans hw429_2)⟩ (fun hHeld => ?_);refine with_tabW laws_heldEntryS.tab10 laws_heldEntryS.bits10 (fun HT_ HW_ => ?_);generalize wr.drew = w9 at HB hx429_0 hx429_1 hx429_2 hHeld ⊢;refine pU_ 0 (some 30) ?_
        refine pU_ 1 (some 31) ?_
        refine pU_ 2 (some 32) ?_
        refine pU_ 3 (some 33) ?_
        refine pU_ 5 (some 35) ?_
        refine tK_ 4 (some 34) hHeld ?_
        refine oN_ 6 (some 36) (fun K hK => ?_);refine gs_ Try.func59 #[.int .i64 (wrap64 ((wrap64 (x1_1 + 1)) + 1))] ?_;with_reducible refine (laws_markText.calls k1 (wrap64 ((wrap64 (x1_1 + 1)) + 1)) t430 _ A7.out).mono ?_;rintro e w10 ⟨rfl,hb⟩;refine ⟨_,rfl,?_⟩;replace HB:=bS_ HB hb
        (try clear hb)
        refine hK.out _ _ ⟨((HB.out.cell (wb_ w _ hw429_0)).trans hw429_0),((HB.out.cell (wb_ w _ hw429_1)).trans hw429_1),((HB.out.cell (wb_ w _ hw429_2)).trans hw429_2)⟩ (fun hHeld => ?_);clear hK K;refine nX_ (some 36) ?_
        refine pU_ 7 (some 37) ?_
        refine done_ (done_of HT_.out (by kernel_rfl)) ?_
        try go_wp2
        go_roundg k1
        case measure => have:=HK1.out;omega
        case rel => exact ⟨(wrap64 ((wrap64 ((wrap64 (x1_1 + 1)) + 1)) + 1)),(wrap64 (x5_1 + 1)),(by first|rfl|(simp;done)|(simp [*];done)),(by first|rfl|(simp;done)|(simp [*];done)),H',⟨by have:=HK1.out;omega⟩,⟨bq_ HB⟩⟩
       ·rw [if_neg c8] at H;have c8b0 : (((rd_T69 l0 x5_1).f2).toList == t430.toList) = false:=beq_eq_false_iff_ne.mpr c8;have c8b1 : (((rd_T69 l0 x5_1).f2).toList != t430.toList) = true:=bne_iff_ne.mpr c8;obtain rfl:=Option.some.inj H;have p427 : 0 ≤ (x5_1 : Int):=oda_;have q427 : x5_1 < (l0.length : Int):=oda_;obtain ⟨ad427,e427,hx427_0,hx427_1,hx427_2⟩:=at_T69 HR0.out x5_1 p427 q427
        cases e427
        replace hx427_0:=(HB.out.cell (wb_ w _ hx427_0)).trans hx427_0;replace hx427_1:=(HB.out.cell (wb_ w _ hx427_1)).trans hx427_1;replace hx427_2:=(HB.out.cell (wb_ w _ hx427_2)).trans hx427_2;replace p427:=eq_true p427;replace q427:=eq_true q427;have p428 : 0 ≤ (x5_1 : Int):=oda_;have q428 : x5_1 < (l0.length : Int):=oda_;obtain ⟨ad428,e428,hx428_0,hx428_1,hx428_2⟩:=at_T69 HR0.out x5_1 p428 q428;obtain rfl : ad427 = ad428:=(by injection e428);replace hx428_0:=(HB.out.cell (wb_ w _ hx428_0)).trans hx428_0;replace hx428_1:=(HB.out.cell (wb_ w _ hx428_1)).trans hx428_1;replace hx428_2:=(HB.out.cell (wb_ w _ hx428_2)).trans hx428_2;replace p428:=eq_true p428;replace q428:=eq_true q428
        try go_wp2
        replace HB:=A_ (pd_ HB.out);have p429 : 0 ≤ (x5_1 : Int):=oda_;have q429 : x5_1 < (l0.length : Int):=oda_;obtain ⟨ad429,e429,hx429_0,hx429_1,hx429_2⟩:=at_T69 HR0.out x5_1 p429 q429;have hw429_2:=hx429_2;have hw429_1:=hx429_1;have hw429_0:=hx429_0;obtain rfl : ad427 = ad429:=(by injection e429);replace hx429_0:=(HB.out.cell (wb_ w _ hx429_0)).trans hx429_0;replace hx429_1:=(HB.out.cell (wb_ w _ hx429_1)).trans hx429_1;replace hx429_2:=(HB.out.cell (wb_ w _ hx429_2)).trans hx429_2;replace p429:=eq_true p429;replace q429:=eq_true q429;refine start_ (n:=8) (S:=fun w' => w'.cell? (ad427.add ((x5_1).toNat * 3)) = some (.int .i64 ((rd_T69 l0 x5_1).f0)) ∧ w'.cell? ⟨(ad427.add ((x5_1).toNat * 3)).block,(ad427.add ((x5_1).toNat * 3)).off + 1,none⟩ = some (.int .i64 ((rd_T69 l0 x5_1).f1)) ∧ w'.cell? ⟨(ad427.add ((x5_1).toNat * 3)).block,(ad427.add ((x5_1).toNat * 3)).off + 2,none⟩ = some (.string ((rd_T69 l0 x5_1).f2))) (ds:=[]) #[false,false,false,false,false,false,false,false] (by kernel_rfl) rfl rfl ⟨((HB.out.cell (wb_ w _ hw429_0)).trans hw429_0),((HB.out.cell (wb_ w _ hw429_1)).trans hw429_1),((HB.out.cell (wb_ w _ hw429_2)).trans hw429_2)⟩ (fun hHeld => ?_);refine with_tabW laws_heldEntryS.tab10 laws_heldEntryS.bits10 (fun HT_ HW_ => ?_);generalize wr.drew = w11 at HB hx429_0 hx429_1 hx429_2 hHeld ⊢;refine pU_ 0 (some 30) ?_
        refine pU_ 1 (some 31) ?_
        refine pU_ 2 (some 32) ?_
        refine pU_ 3 (some 33) ?_
        refine pU_ 5 (some 35) ?_
        refine tK_ 4 (some 34) hHeld ?_
        refine oN_ 6 (some 36) (fun K hK => ?_);refine gs_ Try.func59 #[.int .i64 (wrap64 ((wrap64 (x1_1 + 1)) + 1))] ?_;with_reducible refine (laws_markText.calls k1 (wrap64 ((wrap64 (x1_1 + 1)) + 1)) t430 _ A7.out).mono ?_;rintro e w12 ⟨rfl,hb⟩;refine ⟨_,rfl,?_⟩;replace HB:=bS_ HB hb
        (try clear hb)
        refine hK.out _ _ ⟨((HB.out.cell (wb_ w _ hw429_0)).trans hw429_0),((HB.out.cell (wb_ w _ hw429_1)).trans hw429_1),((HB.out.cell (wb_ w _ hw429_2)).trans hw429_2)⟩ (fun hHeld => ?_);clear hK K;refine nX_ (some 36) ?_
        refine pU_ 7 (some 37) ?_
        refine done_ (done_of HT_.out (by kernel_rfl)) ?_
        try go_wp2
        go_ret;exact ⟨ex_,bq_ HB⟩
      ·rw [if_neg c6] at H;have c6b0 : (((rd_T69 l0 x5_1).f1) == (wrap64 (x1_1 + 1))) = false:=beq_eq_false_iff_ne.mpr c6;have c6b1 : (((rd_T69 l0 x5_1).f1) != (wrap64 (x1_1 + 1))) = true:=bne_iff_ne.mpr c6;obtain rfl:=Option.some.inj H;have p427 : 0 ≤ (x5_1 : Int):=oda_;have q427 : x5_1 < (l0.length : Int):=oda_;obtain ⟨ad427,e427,hx427_0,hx427_1,hx427_2⟩:=at_T69 HR0.out x5_1 p427 q427
       cases e427
       replace hx427_0:=(HB.out.cell (wb_ w _ hx427_0)).trans hx427_0;replace hx427_1:=(HB.out.cell (wb_ w _ hx427_1)).trans hx427_1;replace hx427_2:=(HB.out.cell (wb_ w _ hx427_2)).trans hx427_2;replace p427:=eq_true p427;replace q427:=eq_true q427;have p428 : 0 ≤ (x5_1 : Int):=oda_;have q428 : x5_1 < (l0.length : Int):=oda_;obtain ⟨ad428,e428,hx428_0,hx428_1,hx428_2⟩:=at_T69 HR0.out x5_1 p428 q428;obtain rfl : ad427 = ad428:=(by injection e428);replace hx428_0:=(HB.out.cell (wb_ w _ hx428_0)).trans hx428_0;replace hx428_1:=(HB.out.cell (wb_ w _ hx428_1)).trans hx428_1;replace hx428_2:=(HB.out.cell (wb_ w _ hx428_2)).trans hx428_2;replace p428:=eq_true p428;replace q428:=eq_true q428;go_wp2;go_ret;exact ⟨ex_,bq_ HB⟩
     ·rw [if_neg c5] at H;have c5b0 : (((rd_T69 l0 x5_1).f0) == x1_1) = false:=beq_eq_false_iff_ne.mpr c5;have c5b1 : (((rd_T69 l0 x5_1).f0) != x1_1) = true:=bne_iff_ne.mpr c5;obtain rfl:=Option.some.inj H;have p427 : 0 ≤ (x5_1 : Int):=oda_;have q427 : x5_1 < (l0.length : Int):=oda_;obtain ⟨ad427,e427,hx427_0,hx427_1,hx427_2⟩:=at_T69 HR0.out x5_1 p427 q427
      cases e427
      replace hx427_0:=(HB.out.cell (wb_ w _ hx427_0)).trans hx427_0;replace hx427_1:=(HB.out.cell (wb_ w _ hx427_1)).trans hx427_1;replace hx427_2:=(HB.out.cell (wb_ w _ hx427_2)).trans hx427_2;replace p427:=eq_true p427;replace q427:=eq_true q427;go_wp2;go_ret;exact ⟨ex_,bq_ HB⟩
    ·rw [if_neg c4] at H;exact absurd H (by simp)
   ·rw [if_neg c3] at H;have c3b0 : decide (x5_1 < (l0.length : Int)) = false:=decide_eq_false c3;clear c3;obtain rfl:=Option.some.inj H;go_wp2;go_ret;exact ⟨ex_,bq_ HB⟩
def laws_heldIntS.l0 : Nat → List Int → Int → Int → Option (Int)
 | 0,_,_,_ => none
 | k + 1,x0,x1,x5 => if x5 < (x0.length : Int) then (if 0 ≤ x5 then (if (rd x0 x5) = x1 then (laws_heldIntS.l0 k x0 (wrap64 (x1 + 1)) (wrap64 (x5 + 1))) else (some (-1))) else (none)) else (some x1)
def laws_heldIntS.f (k : Nat) (l0 : List Int) (a1 : Int) : Option (Int) := laws_heldIntS.l0 k l0 a1 0
theorem laws_heldIntS.mono_l : ∀ k, (∀ y0 y1 y2, LeO (laws_heldIntS.l0 k y0 y1 y2) (laws_heldIntS.l0 (k + 1) y0 y1 y2))
 | 0 => fun _ _ _ r h => by simp [laws_heldIntS.l0] at h
 | k + 1 => by
  have ih0:=laws_heldIntS.mono_l k
  ·intro y0 y1 y2
   unfold laws_heldIntS.l0
   repeat' first
   | (with_reducible exact ih0 _ _ _)
   | (with_reducible exact LeO.refl _)
   | (with_reducible exact LeO.none _)
   | (with_reducible refine LeO.ite ?_ ?_)
   | (with_reducible refine LeO.bind ?_ (fun _ => ?_))
theorem laws_heldIntS.mono : ∀ a0 a1 k, LeO (laws_heldIntS.f k a0 a1) (laws_heldIntS.f (k + 1) a0 a1) := by
 intro a0 a1 k;have ih0:=laws_heldIntS.mono_l k
 unfold laws_heldIntS.f
 repeat' first
   | (with_reducible exact ih0 _ _ _)
   | (with_reducible exact LeO.refl _)
   | (with_reducible exact LeO.none _)
   | (with_reducible refine LeO.ite ?_ ?_)
   | (with_reducible refine LeO.bind ?_ (fun _ => ?_))
set_option maxHeartbeats 8000000 in
set_option maxRecDepth 100000 in
theorem laws_heldIntS.calls (k : Nat) (A0 : Option Addr) (c0 : Nat) (l0 : List Int) (a1 : Int) (r : Int) (w : World) (hr0 : Kd.C (Kd.int .i64) w A0 l0.length l0) (hc0 : l0.length ≤ c0) (h : laws_heldIntS.f k l0 a1 = some r) :
  Calls Try.prog 72 #[.slice A0 l0.length c0,.int .i64 a1] w fun e w' => e = .returned (.int .i64 r) ∧ Drawn0 w w':=by
 have HR0:=A_ hr0;have HC0:=A_ hc0;clear hr0 hc0;unfold laws_heldIntS.f at h;have H:=h;clear h;have H':=A_ H;clear H;go_enter Try.func72,Try.ntmps72;go_wp2
 go_loopg [1,5] k (fun kq v1 v5 w' => ∃ (x1_1 : Int) (x5_1 : Int),v1 = .int .i64 x1_1 ∧ v5 = .int .i64 x5_1 ∧ Aside0 (laws_heldIntS.l0 kq l0 x1_1 x5_1 = some r) ∧ Aside0 (kq ≤ k) ∧ Drawn0 w w')
 case atStart => exact ⟨(a1),(0),(by first|rfl|(simp;done)|(simp [*];done)),(by first|rfl|(simp;done)|(simp [*];done)),H',⟨Nat.le_refl _⟩,by repeat (first|exact Drawn0.refl _|apply Drawn0.step)⟩
 case round =>
  clear H'
  try clear p2
  obtain ⟨x1_1,x5_1,rfl,rfl,HA,HK1,⟨m1,rfl⟩⟩:=hrel
  cases gk with
  | zero => exact absurd HA.out (by simp [laws_heldIntS.l0])
  | succ k1 =>
   have H:=HA.out;clear HA;simp only [laws_heldIntS.l0] at H
   by_cases c3 : x5_1 < (l0.length : Int)
   ·rw [if_pos c3] at H;have c3b0 : decide (x5_1 < (l0.length : Int)) = true:=de_ c3;clear c3
    by_cases c4 : 0 ≤ x5_1
    ·rw [if_pos c4] at H;have c4b0 : decide (0 ≤ x5_1) = true:=de_ c4;clear c4
     by_cases c5 : (rd l0 x5_1) = x1_1
     ·rw [if_pos c5] at H;have c5b0 : ((rd l0 x5_1) == x1_1) = true:=beq_iff_eq.mpr c5;have c5b1 : ((rd l0 x5_1) != x1_1) = false:=bne_eq_false_iff_eq.mpr c5;clear c5;have H':=A_ H;clear H;have p431 : 0 ≤ (x5_1 : Int):=oda_;have q431 : x5_1 < (l0.length : Int):=oda_;obtain ⟨ad431,e431,hx431_0⟩:=Kd.at_int HR0.out x5_1 p431 q431
      cases e431
      replace p431:=eq_true p431;replace q431:=eq_true q431;go_wp2
      go_roundg k1
      case measure => have:=HK1.out;omega
      case rel => exact ⟨(wrap64 (x1_1 + 1)),(wrap64 (x5_1 + 1)),(by first|rfl|(simp;done)|(simp [*];done)),(by first|rfl|(simp;done)|(simp [*];done)),H',⟨by have:=HK1.out;omega⟩,by repeat (first|exact Drawn0.refl _|apply Drawn0.step)⟩
     ·rw [if_neg c5] at H;have c5b0 : ((rd l0 x5_1) == x1_1) = false:=beq_eq_false_iff_ne.mpr c5;have c5b1 : ((rd l0 x5_1) != x1_1) = true:=bne_iff_ne.mpr c5;obtain rfl:=Option.some.inj H;have p431 : 0 ≤ (x5_1 : Int):=oda_;have q431 : x5_1 < (l0.length : Int):=oda_;obtain ⟨ad431,e431,hx431_0⟩:=Kd.at_int HR0.out x5_1 p431 q431
      cases e431
      replace p431:=eq_true p431;replace q431:=eq_true q431;go_wp2;go_ret;exact ⟨by first|rfl|(simp;done)|(simp [*];done),by repeat (first|exact Drawn0.refl _|apply Drawn0.step)⟩
    ·rw [if_neg c4] at H;exact absurd H (by simp)
   ·rw [if_neg c3] at H;have c3b0 : decide (x5_1 < (l0.length : Int)) = false:=decide_eq_false c3;clear c3;obtain rfl:=Option.some.inj H;go_wp2;go_ret;exact ⟨by first|rfl|(simp;done)|(simp [*];done),by repeat (first|exact Drawn0.refl _|apply Drawn0.step)⟩
end Go.Proofs.Ytbcgnncbiblibaa.PFnExactDecode
