/- The contracts of the Go functions that this law reaches: what each call returns, by a plain Lean function of its arguments. No conditions but those each contract names. By the kit's print.py, run by this session's wip/gen/pp.py with facts and hand proofs beside it: not to the letter what print.sh prints. -/
import Derived.Test.YtbcgnncbiblibaaDoorPFnExactShelfMapx0
import Derived.Test.YtbcgnncbiblibaaDoorPFnExactShelfMapx8
namespace Go.Proofs.YtbcgnncbiblibaaDoor.PFnExactShelfMap
open Go.RowKit Go.Proofs.YtbcgnncbiblibaaDoorW.PrintWords Go.Proofs.YtbcgnncbiblibaaDoorW.PrintLast Go.Proofs.YtbcgnncbiblibaaDoorW.PrintMore
attribute [local go_sem] max2_int min2_int max_two min_two max_three min_three max_four min_four
set_option linter.unusedVariables false
set_option linter.unusedSimpArgs false
def laws_eqPairS.l0 : Nat → List (S74) → List (S74) → Int → Option (Bool)
 | 0,_,_,_ => none
 | k + 1,x0,x1,x5 => if x5 < (x0.length : Int) then (if 0 ≤ x5 then (if x5 < (x1.length : Int) then ((laws_eqPair.f ((rd_T74 x0 x5).f0) ((rd_T74 x0 x5).f1) ((rd_T74 x1 x5).f0) ((rd_T74 x1 x5).f1)).bind fun t275 => (if t275 = true then (laws_eqPairS.l0 k x0 x1 (wrap64 (x5 + 1))) else (some false))) else (none)) else (none)) else (some true)
def laws_eqPairS.f (k : Nat) (l0 : List (S74)) (l1 : List (S74)) : Option (Bool) := if (l0.length : Int) = (l1.length : Int) then (laws_eqPairS.l0 k l0 l1 0) else (some false)
theorem laws_eqPairS.mono_l : ∀ k, (∀ y0 y1 y2, LeO (laws_eqPairS.l0 k y0 y1 y2) (laws_eqPairS.l0 (k + 1) y0 y1 y2))
 | 0 => fun _ _ _ r h => by simp [laws_eqPairS.l0] at h
 | k + 1 => by
  have ih0:=laws_eqPairS.mono_l k
  ·intro y0 y1 y2
   unfold laws_eqPairS.l0
   repeat' first
   | (with_reducible exact ih0 _ _ _)
   | (with_reducible exact LeO.refl _)
   | (with_reducible exact LeO.none _)
   | (with_reducible refine LeO.ite ?_ ?_)
   | (with_reducible refine LeO.bind ?_ (fun _ => ?_))
theorem laws_eqPairS.mono : ∀ a0 a1 k, LeO (laws_eqPairS.f k a0 a1) (laws_eqPairS.f (k + 1) a0 a1) := by
 intro a0 a1 k;have ih0:=laws_eqPairS.mono_l k
 unfold laws_eqPairS.f
 repeat' first
   | (with_reducible exact ih0 _ _ _)
   | (with_reducible exact LeO.refl _)
   | (with_reducible exact LeO.none _)
   | (with_reducible refine LeO.ite ?_ ?_)
   | (with_reducible refine LeO.bind ?_ (fun _ => ?_))
def laws_eqPairS.T6 : Bool × List (List Nat × List Nat) := (true, [([], []), ([], []), ([0, 1], [0, 1]), ([2], [2]), ([], []), ([], []), ([4, 5], [4, 5]), ([6], [6]), ([3, 7], [3, 7]), ([8], [8])])
def laws_eqPairS.B6 : List Nat := [0, 0, 3, 7, 0, 0, 48, 112, 255, 511]
theorem laws_eqPairS.tab6 : rtab .any (opsOf Tryd.f19 6) = laws_eqPairS.T6 := by kernel_rfl
theorem laws_eqPairS.bits6 : waitsOk laws_eqPairS.T6.2 laws_eqPairS.B6 = true := by kernel_rfl
set_option maxHeartbeats 8000000 in
set_option maxRecDepth 100000 in
theorem laws_eqPairS.calls (k : Nat) (A0 : Option Addr) (c0 : Nat) (l0 : List (S74)) (A1 : Option Addr) (c1 : Nat) (l1 : List (S74)) (r : Bool) (w : World) (hr0 : Kd.C k74 w A0 l0.length l0) (hc0 : l0.length ≤ c0) (hr1 : Kd.C k74 w A1 l1.length l1) (hc1 : l1.length ≤ c1) (h : laws_eqPairS.f k l0 l1 = some r) :
  Calls Tryd.prog 19 #[.slice A0 l0.length c0,.slice A1 l1.length c1] w fun e w' => e = .returned (.bool r) ∧ Below w.heap.size w w':=by
 have hu74:=Tryd.underlying74;have HR0:=A_ hr0;have HC0:=A_ hc0;clear hr0 hc0;have HR1:=A_ hr1;have HC1:=A_ hc1;clear hr1 hc1;have HB:=A_ (Below.refl w.heap.size w);have H : (if (l0.length : Int) = (l1.length : Int) then (laws_eqPairS.l0 k l0 l1 0) else (some false)) = some r:=h;clear h
 by_cases c3 : (l0.length : Int) = (l1.length : Int)
 ·rw [if_pos c3] at H;have c3b0 : ((l0.length : Int) == (l1.length : Int)) = true:=beq_iff_eq.mpr c3;have c3b1 : ((l0.length : Int) != (l1.length : Int)) = false:=bne_eq_false_iff_eq.mpr c3
  have c3b2 : (l0.length == l1.length) = true:=by first|simpa using c3|(simp at c3 ⊢;omega)
  clear c3;have H':=A_ H;clear H;go_enter Tryd.func19,Tryd.ntmps19;go_wp2
  go_loopg [5] k (fun kq v5 w' => ∃ (x5_1 : Int),v5 = .int .i64 x5_1 ∧ Aside0 (laws_eqPairS.l0 kq l0 l1 x5_1 = some r) ∧ Aside0 (kq ≤ k) ∧ Aside0 (Below w.heap.size w w'))
  case atStart => exact ⟨(0),(by first|rfl|(simp;done)|(simp [*];done)),H',⟨Nat.le_refl _⟩,⟨by repeat (first|(with_reducible first|exact HB.out|apply pa_|apply pn_|apply pd_)|exact HB.out)⟩⟩
  case round =>
   clear H'
   try clear c1
   try clear p2
   try clear c3
   try clear c3b0
   try clear c3b1
   try clear c3b2
   obtain ⟨x5_1,rfl,HA,HK1,HB⟩:=hrel
   cases gk with
   | zero => exact absurd HA.out (by simp [laws_eqPairS.l0])
   | succ k1 =>
    have H:=HA.out;clear HA;simp only [laws_eqPairS.l0] at H
    by_cases c4 : x5_1 < (l0.length : Int)
    ·rw [if_pos c4] at H;have c4b0 : decide (x5_1 < (l0.length : Int)) = true:=de_ c4;clear c4
     by_cases c5 : 0 ≤ x5_1
     ·rw [if_pos c5] at H;have c5b0 : decide (0 ≤ x5_1) = true:=de_ c5;clear c5
      by_cases c6 : x5_1 < (l1.length : Int)
      ·rw [if_pos c6] at H;have c6b0 : decide (x5_1 < (l1.length : Int)) = true:=de_ c6;clear c6;replace H:=ob_.mp H;obtain ⟨t275,A70,H⟩:=H;replace H : (if t275 = true then (laws_eqPairS.l0 k1 l0 l1 (wrap64 (x5_1 + 1))) else (some false)) = some r:=H;have A7:=A_ A70;clear A70;have HC8:=A_ H;clear H
       try go_wp2
       replace HB:=A_ (pd_ HB.out);have p273 : 0 ≤ (x5_1 : Int):=oda_;have q273 : x5_1 < (l0.length : Int):=oda_;obtain ⟨ad273,e273,hx273_0,hx273_1⟩:=at_T74 HR0.out x5_1 p273 q273;have hw273_1:=hx273_1;have hw273_0:=hx273_0
       cases e273
       replace hx273_0:=(HB.out.cell (wb_ w _ hx273_0)).trans hx273_0;replace hx273_1:=(HB.out.cell (wb_ w _ hx273_1)).trans hx273_1;replace p273:=eq_true p273;replace q273:=eq_true q273;have p274 : 0 ≤ (x5_1 : Int):=oda_;have q274 : x5_1 < (l1.length : Int):=oda_;obtain ⟨ad274,e274,hx274_0,hx274_1⟩:=at_T74 HR1.out x5_1 p274 q274;have hw274_1:=hx274_1;have hw274_0:=hx274_0
       cases e274
       replace hx274_0:=(HB.out.cell (wb_ w _ hx274_0)).trans hx274_0;replace hx274_1:=(HB.out.cell (wb_ w _ hx274_1)).trans hx274_1;replace p274:=eq_true p274;replace q274:=eq_true q274;refine start_ (n:=10) (S:=fun w' => w'.cell? (ad273.add ((x5_1).toNat * 2)) = some (.string ((rd_T74 l0 x5_1).f0)) ∧ w'.cell? ⟨(ad273.add ((x5_1).toNat * 2)).block,(ad273.add ((x5_1).toNat * 2)).off + 1,none⟩ = some (.string ((rd_T74 l0 x5_1).f1)) ∧ w'.cell? (ad274.add ((x5_1).toNat * 2)) = some (.string ((rd_T74 l1 x5_1).f0)) ∧ w'.cell? ⟨(ad274.add ((x5_1).toNat * 2)).block,(ad274.add ((x5_1).toNat * 2)).off + 1,none⟩ = some (.string ((rd_T74 l1 x5_1).f1))) (ds:=[]) #[false,false,false,false,false,false,false,false,false,false] (by kernel_rfl) rfl rfl ⟨((HB.out.cell (wb_ w _ hw273_0)).trans hw273_0),((HB.out.cell (wb_ w _ hw273_1)).trans hw273_1),((HB.out.cell (wb_ w _ hw274_0)).trans hw274_0),((HB.out.cell (wb_ w _ hw274_1)).trans hw274_1)⟩ (fun hHeld => ?_);refine with_tabW laws_eqPairS.tab6 laws_eqPairS.bits6 (fun HT_ HW_ => ?_);generalize wr.drew = w9 at HB hx273_0 hx273_1 hx274_0 hx274_1 hHeld ⊢;refine pure_ (i:=0) (N:=some 17) (v:=?_) (a':=?_) #[true,false,false,false,false,false,false,false,false,false] rfl rfl (any_of HT_.out (by kernel_rfl)) (fun _ _ _ h => h) (Or.inl ⟨by rfl,?_⟩) ?_ ?_;rotate_left
       ·intro w';go_simp;with_reducible rfl
       rotate_left
       ·simp only [Act.put,s1_,s2_,s3_,i64_w,i32_w];rfl
       refine pure_ (i:=1) (N:=some 18) (v:=?_) (a':=?_) #[true,true,false,false,false,false,false,false,false,false] rfl rfl (any_of HT_.out (by kernel_rfl)) (fun _ _ _ h => h) (Or.inl ⟨by rfl,?_⟩) ?_ ?_;rotate_left
       ·intro w';go_simp;with_reducible rfl
       rotate_left
       ·simp only [Act.put,s1_,s2_,s3_,i64_w,i32_w];rfl
       refine pure_ (i:=2) (N:=some 19) (v:=?_) (a':=?_) #[true,true,true,false,false,false,false,false,false,false] rfl rfl (any_of HT_.out (by kernel_rfl)) (fun _ _ _ h => h) (Or.inl ⟨by rfl,?_⟩) ?_ ?_;rotate_left
       ·intro w';go_simp;with_reducible rfl
       rotate_left
       ·simp only [Act.put,s1_,s2_,s3_,i64_w,i32_w];rfl
       refine pure_ (i:=4) (N:=some 21) (v:=?_) (a':=?_) #[true,true,true,false,true,false,false,false,false,false] rfl rfl (any_of HT_.out (by kernel_rfl)) (fun _ _ _ h => h) (Or.inl ⟨by rfl,?_⟩) ?_ ?_;rotate_left
       ·intro w';go_simp;with_reducible rfl
       rotate_left
       ·simp only [Act.put,s1_,s2_,s3_,i64_w,i32_w];rfl
       refine pure_ (i:=5) (N:=some 22) (v:=?_) (a':=?_) #[true,true,true,false,true,true,false,false,false,false] rfl rfl (any_of HT_.out (by kernel_rfl)) (fun _ _ _ h => h) (Or.inl ⟨by rfl,?_⟩) ?_ ?_;rotate_left
       ·intro w';go_simp;with_reducible rfl
       rotate_left
       ·simp only [Act.put,s1_,s2_,s3_,i64_w,i32_w];rfl
       refine pure_ (i:=6) (N:=some 23) (v:=?_) (a':=?_) #[true,true,true,false,true,true,true,false,false,false] rfl rfl (any_of HT_.out (by kernel_rfl)) (fun _ _ _ h => h) (Or.inl ⟨by rfl,?_⟩) ?_ ?_;rotate_left
       ·intro w';go_simp;with_reducible rfl
       rotate_left
       ·simp only [Act.put,s1_,s2_,s3_,i64_w,i32_w];rfl
       refine take_ (i:=3) (N:=some 20) (v:=?_) (a':=?_) #[true,true,true,true,true,true,true,false,false,false] rfl rfl (take_ofW HT_.out HW_.out (by kernel_rfl)) (fun _ _ _ h => h) (Or.inl ⟨by rfl,?_⟩) hHeld ?_ ?_;rotate_left
       ·rintro w' ⟨s0,s1,s2,s3⟩;go_simp;with_reducible rfl
       rotate_left
       ·simp only [Act.put,s1_,s2_,s3_,i64_w,i32_w];rfl
       refine take_ (i:=7) (N:=some 24) (v:=?_) (a':=?_) #[true,true,true,true,true,true,true,true,false,false] rfl rfl (take_ofW HT_.out HW_.out (by kernel_rfl)) (fun _ _ _ h => h) (Or.inl ⟨by rfl,?_⟩) hHeld ?_ ?_;rotate_left
       ·rintro w' ⟨s0,s1,s2,s3⟩;go_simp;with_reducible rfl
       rotate_left
       ·simp only [Act.put,s1_,s2_,s3_,i64_w,i32_w];rfl
       refine one_ (i:=8) (N:=some 25) #[true,true,true,true,true,true,true,true,true,false] rfl rfl (one_of HT_.out (by kernel_rfl)) (by decide) (fun K hK => ?_);refine goes_ Tryd.func43 (by kernel_rfl) rfl #[.agg #[.string ((rd_T74 l0 x5_1).f0),.string ((rd_T74 l0 x5_1).f1)],.agg #[.string ((rd_T74 l1 x5_1).f0),.string ((rd_T74 l1 x5_1).f1)]] (by rfl) rfl rfl (by (try simp only [s4_,s5_,s6_]);first|done|rfl|(simp only [List.length_drop,List.length_take];rfl)) ?_;with_reducible refine (laws_eqPair.calls ((rd_T74 l0 x5_1).f0) ((rd_T74 l0 x5_1).f1) ((rd_T74 l1 x5_1).f0) ((rd_T74 l1 x5_1).f1) t275 _ A7.out).mono ?_;rintro e w10 ⟨rfl,hb⟩;refine ⟨_,rfl,?_⟩;replace HB:=A_ (bs_ (by repeat (first|(with_reducible first|exact HB.out|apply pa_|apply pn_|apply pd_)|exact HB.out)) hb)
       (try clear hb)
       (try clear hb2)
       (try clear hk)
       (try clear hi)
       refine hK.out _ _ ⟨((HB.out.cell (wb_ w _ hw273_0)).trans hw273_0),((HB.out.cell (wb_ w _ hw273_1)).trans hw273_1),((HB.out.cell (wb_ w _ hw274_0)).trans hw274_0),((HB.out.cell (wb_ w _ hw274_1)).trans hw274_1)⟩ (fun hHeld => ?_);clear hK K;refine norm_ (a':=?_) ?_ ?_;rotate_left
       ·show Act.put _ (some 25) _ = _;simp only [Act.put,s1_,s2_,s3_,i64_w,i32_w];rfl
       refine pure_ (i:=9) (N:=some 26) (v:=?_) (a':=?_) #[true,true,true,true,true,true,true,true,true,true] rfl rfl (any_of HT_.out (by kernel_rfl)) (fun _ _ _ h => h) (Or.inl ⟨by rfl,?_⟩) ?_ ?_;rotate_left
       ·intro w';go_simp;with_reducible rfl
       rotate_left
       ·simp only [Act.put,s1_,s2_,s3_,i64_w,i32_w];rfl
       refine done_ (done_of HT_.out (by kernel_rfl)) ?_
       go_upto_if 26 with (fail)
       have H:=HC8.out;clear HC8
       by_cases c11 : t275 = true
       ·subst c11
        have H1 : (laws_eqPairS.l0 k1 l0 l1 (wrap64 (x5_1 + 1))) = some r:=by rw [if_pos rfl] at H;exact H
        clear H;have H:=H1;clear H1;have H':=A_ H;clear H;go_wp2
        go_roundg k1
        case measure => have:=HK1.out;omega
        case rel => exact ⟨(wrap64 (x5_1 + 1)),(by first|rfl|(simp;done)|(simp [*];done)),H',⟨by have:=HK1.out;omega⟩,⟨by repeat (first|(with_reducible first|exact HB.out|apply pa_|apply pn_|apply pd_)|exact HB.out)⟩⟩
       ·replace c11:=Bool.eq_false_iff.mpr c11;subst c11
        have H1 : (some false) = some r:=by rw [if_neg (show ¬ (false = true) by decide)] at H;exact H
        clear H;have H:=H1;clear H1;obtain rfl:=Option.some.inj H;go_wp2;go_ret;exact ⟨by first|rfl|(simp [*,errW_none,errW_some] <;> rfl),by repeat (first|(with_reducible first|exact HB.out|apply pa_|apply pn_|apply pd_)|exact HB.out)⟩
      ·rw [if_neg c6] at H;exact absurd H (by simp)
     ·rw [if_neg c5] at H;exact absurd H (by simp)
    ·rw [if_neg c4] at H;have c4b0 : decide (x5_1 < (l0.length : Int)) = false:=decide_eq_false c4;clear c4;obtain rfl:=Option.some.inj H;go_wp2;go_ret;exact ⟨by first|rfl|(simp [*,errW_none,errW_some] <;> rfl),by repeat (first|(with_reducible first|exact HB.out|apply pa_|apply pn_|apply pd_)|exact HB.out)⟩
 ·rw [if_neg c3] at H;have c3b0 : ((l0.length : Int) == (l1.length : Int)) = false:=beq_eq_false_iff_ne.mpr c3;have c3b1 : ((l0.length : Int) != (l1.length : Int)) = true:=bne_iff_ne.mpr c3
  have c3b2 : (l0.length == l1.length) = false:=by first|simpa using c3|(simp at c3 ⊢;omega)
  obtain rfl:=Option.some.inj H;go_enter Tryd.func19,Tryd.ntmps19;go_wp2;go_ret;exact ⟨by first|rfl|(simp [*,errW_none,errW_some] <;> rfl),by repeat (first|(with_reducible first|exact HB.out|apply pa_|apply pn_|apply pd_)|exact HB.out)⟩
def laws_eqIntS.l0 : Nat → List Int → List Int → Int → Option (Bool)
 | 0,_,_,_ => none
 | k + 1,x0,x1,x5 => if x5 < (x0.length : Int) then (if 0 ≤ x5 then (if x5 < (x1.length : Int) then (if (rd x0 x5) = (rd x1 x5) then (laws_eqIntS.l0 k x0 x1 (wrap64 (x5 + 1))) else (some false)) else (none)) else (none)) else (some true)
def laws_eqIntS.f (k : Nat) (l0 : List Int) (l1 : List Int) : Option (Bool) := if (l0.length : Int) = (l1.length : Int) then (laws_eqIntS.l0 k l0 l1 0) else (some false)
theorem laws_eqIntS.mono_l : ∀ k, (∀ y0 y1 y2, LeO (laws_eqIntS.l0 k y0 y1 y2) (laws_eqIntS.l0 (k + 1) y0 y1 y2))
 | 0 => fun _ _ _ r h => by simp [laws_eqIntS.l0] at h
 | k + 1 => by
  have ih0:=laws_eqIntS.mono_l k
  ·intro y0 y1 y2
   unfold laws_eqIntS.l0
   repeat' first
   | (with_reducible exact ih0 _ _ _)
   | (with_reducible exact LeO.refl _)
   | (with_reducible exact LeO.none _)
   | (with_reducible refine LeO.ite ?_ ?_)
   | (with_reducible refine LeO.bind ?_ (fun _ => ?_))
theorem laws_eqIntS.mono : ∀ a0 a1 k, LeO (laws_eqIntS.f k a0 a1) (laws_eqIntS.f (k + 1) a0 a1) := by
 intro a0 a1 k;have ih0:=laws_eqIntS.mono_l k
 unfold laws_eqIntS.f
 repeat' first
   | (with_reducible exact ih0 _ _ _)
   | (with_reducible exact LeO.refl _)
   | (with_reducible exact LeO.none _)
   | (with_reducible refine LeO.ite ?_ ?_)
   | (with_reducible refine LeO.bind ?_ (fun _ => ?_))
set_option maxHeartbeats 8000000 in
set_option maxRecDepth 100000 in
theorem laws_eqIntS.calls (k : Nat) (A0 : Option Addr) (c0 : Nat) (l0 : List Int) (A1 : Option Addr) (c1 : Nat) (l1 : List Int) (r : Bool) (w : World) (hr0 : Kd.C (Kd.int .i64) w A0 l0.length l0) (hc0 : l0.length ≤ c0) (hr1 : Kd.C (Kd.int .i64) w A1 l1.length l1) (hc1 : l1.length ≤ c1) (h : laws_eqIntS.f k l0 l1 = some r) :
  Calls Tryd.prog 9 #[.slice A0 l0.length c0,.slice A1 l1.length c1] w fun e w' => e = .returned (.bool r) ∧ Drawn0 w w':=by
 have HR0:=A_ hr0;have HC0:=A_ hc0;clear hr0 hc0;have HR1:=A_ hr1;have HC1:=A_ hc1;clear hr1 hc1;have H : (if (l0.length : Int) = (l1.length : Int) then (laws_eqIntS.l0 k l0 l1 0) else (some false)) = some r:=h;clear h
 by_cases c3 : (l0.length : Int) = (l1.length : Int)
 ·rw [if_pos c3] at H;have c3b0 : ((l0.length : Int) == (l1.length : Int)) = true:=beq_iff_eq.mpr c3;have c3b1 : ((l0.length : Int) != (l1.length : Int)) = false:=bne_eq_false_iff_eq.mpr c3
  have c3b2 : (l0.length == l1.length) = true:=by first|simpa using c3|(simp at c3 ⊢;omega)
  clear c3;have H':=A_ H;clear H;go_enter Tryd.func9,Tryd.ntmps9;go_wp2
  repeat (go_quiet (fail);try go_wp2)
  go_loopg [5] k (fun kq v5 w' => ∃ (x5_1 : Int),v5 = .int .i64 x5_1 ∧ Aside0 (laws_eqIntS.l0 kq l0 l1 x5_1 = some r) ∧ Aside0 (kq ≤ k) ∧ Drawn0 w w')
  case atStart => exact ⟨(0),(by first|rfl|(simp;done)|(simp [*];done)),H',⟨Nat.le_refl _⟩,by repeat (first|exact Drawn0.refl _|apply Drawn0.step)⟩
  case round =>
   clear H'
   try clear c1
   try clear p2
   try clear c3
   try clear c3b0
   try clear c3b1
   try clear c3b2
   obtain ⟨x5_1,rfl,HA,HK1,⟨m1,rfl⟩⟩:=hrel
   cases gk with
   | zero => exact absurd HA.out (by simp [laws_eqIntS.l0])
   | succ k1 =>
    have H:=HA.out;clear HA;simp only [laws_eqIntS.l0] at H
    by_cases c4 : x5_1 < (l0.length : Int)
    ·rw [if_pos c4] at H;have c4b0 : decide (x5_1 < (l0.length : Int)) = true:=de_ c4;clear c4
     by_cases c5 : 0 ≤ x5_1
     ·rw [if_pos c5] at H;have c5b0 : decide (0 ≤ x5_1) = true:=de_ c5;clear c5
      by_cases c6 : x5_1 < (l1.length : Int)
      ·rw [if_pos c6] at H;have c6b0 : decide (x5_1 < (l1.length : Int)) = true:=de_ c6;clear c6
       by_cases c7 : (rd l0 x5_1) = (rd l1 x5_1)
       ·rw [if_pos c7] at H;have c7b0 : ((rd l0 x5_1) == (rd l1 x5_1)) = true:=beq_iff_eq.mpr c7;have c7b1 : ((rd l0 x5_1) != (rd l1 x5_1)) = false:=bne_eq_false_iff_eq.mpr c7;clear c7;have H':=A_ H;clear H;have p276 : 0 ≤ (x5_1 : Int):=oda_;have q276 : x5_1 < (l0.length : Int):=oda_;obtain ⟨ad276,e276,hx276_0⟩:=Kd.at_int HR0.out x5_1 p276 q276
        cases e276
        replace p276:=eq_true p276;replace q276:=eq_true q276;have p277 : 0 ≤ (x5_1 : Int):=oda_;have q277 : x5_1 < (l1.length : Int):=oda_;obtain ⟨ad277,e277,hx277_0⟩:=Kd.at_int HR1.out x5_1 p277 q277
        cases e277
        replace p277:=eq_true p277;replace q277:=eq_true q277;go_wp2
        repeat (go_quiet (fail);try go_wp2)
        go_roundg k1
        case measure => have:=HK1.out;omega
        case rel => exact ⟨(wrap64 (x5_1 + 1)),(by first|rfl|(simp;done)|(simp [*];done)),H',⟨by have:=HK1.out;omega⟩,by repeat (first|exact Drawn0.refl _|apply Drawn0.step)⟩
       ·rw [if_neg c7] at H;have c7b0 : ((rd l0 x5_1) == (rd l1 x5_1)) = false:=beq_eq_false_iff_ne.mpr c7;have c7b1 : ((rd l0 x5_1) != (rd l1 x5_1)) = true:=bne_iff_ne.mpr c7;obtain rfl:=Option.some.inj H;have p276 : 0 ≤ (x5_1 : Int):=oda_;have q276 : x5_1 < (l0.length : Int):=oda_;obtain ⟨ad276,e276,hx276_0⟩:=Kd.at_int HR0.out x5_1 p276 q276
        cases e276
        replace p276:=eq_true p276;replace q276:=eq_true q276;have p277 : 0 ≤ (x5_1 : Int):=oda_;have q277 : x5_1 < (l1.length : Int):=oda_;obtain ⟨ad277,e277,hx277_0⟩:=Kd.at_int HR1.out x5_1 p277 q277
        cases e277
        replace p277:=eq_true p277;replace q277:=eq_true q277;go_wp2
        repeat (go_quiet (fail);try go_wp2)
        go_ret;exact ⟨by first|rfl|(simp;done)|(simp [*];done),by repeat (first|exact Drawn0.refl _|apply Drawn0.step)⟩
      ·rw [if_neg c6] at H;exact absurd H (by simp)
     ·rw [if_neg c5] at H;exact absurd H (by simp)
    ·rw [if_neg c4] at H;have c4b0 : decide (x5_1 < (l0.length : Int)) = false:=decide_eq_false c4;clear c4;obtain rfl:=Option.some.inj H;go_wp2
     repeat (go_quiet (fail);try go_wp2)
     go_ret;exact ⟨by first|rfl|(simp;done)|(simp [*];done),by repeat (first|exact Drawn0.refl _|apply Drawn0.step)⟩
 ·rw [if_neg c3] at H;have c3b0 : ((l0.length : Int) == (l1.length : Int)) = false:=beq_eq_false_iff_ne.mpr c3;have c3b1 : ((l0.length : Int) != (l1.length : Int)) = true:=bne_iff_ne.mpr c3
  have c3b2 : (l0.length == l1.length) = false:=by first|simpa using c3|(simp at c3 ⊢;omega)
  obtain rfl:=Option.some.inj H;go_enter Tryd.func9,Tryd.ntmps9;go_wp2
  repeat (go_quiet (fail);try go_wp2)
  go_ret;exact ⟨by first|rfl|(simp;done)|(simp [*];done),by repeat (first|exact Drawn0.refl _|apply Drawn0.step)⟩
def laws_eqManifest.f (k : Nat) (l0_0 : List Int) (a0_1 : Int) (a0_2 : Int) (a0_3 : Int) (l0_4 : List Int) (l1_0 : List Int) (a1_1 : Int) (a1_2 : Int) (a1_3 : Int) (l1_4 : List Int) : Option (Bool) := (laws_eqIntS.f k l0_0 l1_0).bind fun t280 => (if t280 = true then (if a0_1 = a1_1 then (if a0_2 = a1_2 then (if a0_3 = a1_3 then ((laws_eqIntS.f k l0_4 l1_4).bind fun t281 => (if t281 = true then (some true) else (some false))) else (some false)) else (some false)) else (some false)) else (some false))
theorem laws_eqManifest.mono : ∀ a0 a1 a2 a3 a4 a5 a6 a7 a8 a9 k, LeO (laws_eqManifest.f k a0 a1 a2 a3 a4 a5 a6 a7 a8 a9) (laws_eqManifest.f (k + 1) a0 a1 a2 a3 a4 a5 a6 a7 a8 a9) := by
 intro a0 a1 a2 a3 a4 a5 a6 a7 a8 a9 k
 unfold laws_eqManifest.f
 repeat' first
   | (with_reducible exact laws_eqIntS.mono _ _ _)
   | (with_reducible exact LeO.refl _)
   | (with_reducible exact LeO.none _)
   | (with_reducible refine LeO.ite ?_ ?_)
   | (with_reducible refine LeO.bind ?_ (fun _ => ?_))
set_option maxHeartbeats 8000000 in
set_option maxRecDepth 100000 in
theorem laws_eqManifest.calls (k : Nat) (A0_0 : Option Addr) (c0_0 : Nat) (l0_0 : List Int) (a0_1 : Int) (a0_2 : Int) (a0_3 : Int) (A0_4 : Option Addr) (c0_4 : Nat) (l0_4 : List Int) (A1_0 : Option Addr) (c1_0 : Nat) (l1_0 : List Int) (a1_1 : Int) (a1_2 : Int) (a1_3 : Int) (A1_4 : Option Addr) (c1_4 : Nat) (l1_4 : List Int) (r : Bool) (w : World) (hr0_0 : Kd.C (Kd.int .i64) w A0_0 l0_0.length l0_0) (hc0_0 : l0_0.length ≤ c0_0) (hr0_4 : Kd.C (Kd.int .i64) w A0_4 l0_4.length l0_4) (hc0_4 : l0_4.length ≤ c0_4) (hr1_0 : Kd.C (Kd.int .i64) w A1_0 l1_0.length l1_0) (hc1_0 : l1_0.length ≤ c1_0) (hr1_4 : Kd.C (Kd.int .i64) w A1_4 l1_4.length l1_4) (hc1_4 : l1_4.length ≤ c1_4) (h : laws_eqManifest.f k l0_0 a0_1 a0_2 a0_3 l0_4 l1_0 a1_1 a1_2 a1_3 l1_4 = some r) :
  Calls Tryd.prog 44 #[.agg #[.slice A0_0 l0_0.length c0_0,.int .i64 a0_1,.int .i64 a0_2,.int .i64 a0_3,.slice A0_4 l0_4.length c0_4],.agg #[.slice A1_0 l1_0.length c1_0,.int .i64 a1_1,.int .i64 a1_2,.int .i64 a1_3,.slice A1_4 l1_4.length c1_4]] w fun e w' => e = .returned (.bool r) ∧ Below w.heap.size w w':=by
 have hu48:=Tryd.underlying48;have HR0_0:=A_ hr0_0;have HC0_0:=A_ hc0_0;clear hr0_0 hc0_0;have HR0_4:=A_ hr0_4;have HC0_4:=A_ hc0_4;clear hr0_4 hc0_4;have HR1_0:=A_ hr1_0;have HC1_0:=A_ hc1_0;clear hr1_0 hc1_0;have HR1_4:=A_ hr1_4;have HC1_4:=A_ hc1_4;clear hr1_4 hc1_4;have HB:=A_ (Below.refl w.heap.size w);have H : ((laws_eqIntS.f k l0_0 l1_0).bind fun t280 => (if t280 = true then (if a0_1 = a1_1 then (if a0_2 = a1_2 then (if a0_3 = a1_3 then ((laws_eqIntS.f k l0_4 l1_4).bind fun t281 => (if t281 = true then (some true) else (some false))) else (some false)) else (some false)) else (some false)) else (some false))) = some r:=h;clear h;replace H:=ob_.mp H;obtain ⟨t280,A30,H⟩:=H;replace H : (if t280 = true then (if a0_1 = a1_1 then (if a0_2 = a1_2 then (if a0_3 = a1_3 then ((laws_eqIntS.f k l0_4 l1_4).bind fun t281 => (if t281 = true then (some true) else (some false))) else (some false)) else (some false)) else (some false)) else (some false)) = some r:=H;have A3:=A_ A30;clear A30;have HC4:=A_ H;clear H;go_enter Tryd.func44,Tryd.ntmps44
 go_upto_if 10 with (first|((with_reducible refine gate_dst (N:=2) rfl ?_);refine box_event ?hg (N:=2) ?hd (cs:=#[.slice A0_0 l0_0.length c0_0,.int .i64 a0_1,.int .i64 a0_2,.int .i64 a0_3,.slice A0_4 l0_4.length c0_4]) (t:=48) ?hr ?_;(case hd => rfl);(case hg => rfl);(case hr => first|(go_simp;done)|(go_simp;rfl));intro gb278 hg w5 hbox hb;have n0_:=A_ (bs_ (by repeat (first|(with_reducible first|exact HB.out|apply pa_|apply pn_|apply pd_)|exact HB.out)) hb);have n1_:=A_ (hbox);have n3_:=A_ ((by rw [hg];exact (bz_ (by repeat (first|(with_reducible first|exact HB.out|apply pa_|apply pn_|apply pd_)|exact HB.out))) : w.heap.size ≤ gb278));clear HB;have HB:=n0_;have BK278:=n1_;have GE278:=n3_;clear n0_ n1_ n3_;clear hb hbox hg)|((with_reducible refine gate_dst (N:=3) rfl ?_);refine box_event ?hg (N:=3) ?hd (cs:=#[.slice A1_0 l1_0.length c1_0,.int .i64 a1_1,.int .i64 a1_2,.int .i64 a1_3,.slice A1_4 l1_4.length c1_4]) (t:=48) ?hr ?_;(case hd => rfl);(case hg => rfl);(case hr => first|(go_simp;done)|(go_simp;rfl));intro gb279 hg w6 hbox hb;have n0_:=A_ (kb_ (by (with_reducible repeat (first|refine kn_ ?_ _|refine kd_ ?_|refine ka_ ?_ _));exact BK278.out) hb);have n1_:=A_ (bs_ (by repeat (first|(with_reducible first|exact HB.out|apply pa_|apply pn_|apply pd_|refine ps_ ?_ GE278.out)|exact HB.out)) hb);have n2_:=A_ (hbox);have n4_:=A_ ((by rw [hg];exact (bz_ (by repeat (first|(with_reducible first|exact HB.out|apply pa_|apply pn_|apply pd_|refine ps_ ?_ GE278.out)|exact HB.out))) : w.heap.size ≤ gb279));have n5_:=A_ ((by rw [hg];exact nl_ (kl_ (g:=gb278) (o:=.cells #[.slice A0_0 l0_0.length c0_0,.int .i64 a0_1,.int .i64 a0_2,.int .i64 a0_3,.slice A0_4 l0_4.length c0_4] 48 (0,0)) (by (with_reducible repeat (first|refine kn_ ?_ _|refine kd_ ?_|refine ka_ ?_ _));exact BK278.out)) : gb278 ≠ gb279));have n6_:=A_ ((by rw [hg];exact ng_ (kl_ (g:=gb278) (o:=.cells #[.slice A0_0 l0_0.length c0_0,.int .i64 a0_1,.int .i64 a0_2,.int .i64 a0_3,.slice A0_4 l0_4.length c0_4] 48 (0,0)) (by (with_reducible repeat (first|refine kn_ ?_ _|refine kd_ ?_|refine ka_ ?_ _));exact BK278.out)) : gb279 ≠ gb278));clear BK278;clear HB;have BK278:=n0_;have HB:=n1_;have BK279:=n2_;have GE279:=n4_;have NB278_279:=n5_;have NB279_278:=n6_;clear n0_ n1_ n2_ n4_ n5_ n6_;clear hb hbox hg;have hnb7:=NB278_279.out;have hnc7:=NB279_278.out;have hcz8_0 : w6.cell? ⟨gb278,0,none⟩ = some (.slice A0_0 l0_0.length c0_0):=(kc_ BK278.out 0).trans rfl;have hcz8_1 : w6.cell? ⟨gb278,1,none⟩ = some (.int .i64 a0_1):=(kc_ BK278.out 1).trans rfl;have hcz8_2 : w6.cell? ⟨gb278,2,none⟩ = some (.int .i64 a0_2):=(kc_ BK278.out 2).trans rfl;have hcz8_3 : w6.cell? ⟨gb278,3,none⟩ = some (.int .i64 a0_3):=(kc_ BK278.out 3).trans rfl;have hcz8_4 : w6.cell? ⟨gb278,4,none⟩ = some (.slice A0_4 l0_4.length c0_4):=(kc_ BK278.out 4).trans rfl;have hfz8_0:=kf_ BK278.out 0;have hfz8_1:=kf_ BK278.out 1;have hfz8_2:=kf_ BK278.out 2;have hfz8_3:=kf_ BK278.out 3;have hfz8_4:=kf_ BK278.out 4;have hcz9_0 : w6.cell? ⟨gb279,0,none⟩ = some (.slice A1_0 l1_0.length c1_0):=(kc_ BK279.out 0).trans rfl;have hcz9_1 : w6.cell? ⟨gb279,1,none⟩ = some (.int .i64 a1_1):=(kc_ BK279.out 1).trans rfl;have hcz9_2 : w6.cell? ⟨gb279,2,none⟩ = some (.int .i64 a1_2):=(kc_ BK279.out 2).trans rfl;have hcz9_3 : w6.cell? ⟨gb279,3,none⟩ = some (.int .i64 a1_3):=(kc_ BK279.out 3).trans rfl;have hcz9_4 : w6.cell? ⟨gb279,4,none⟩ = some (.slice A1_4 l1_4.length c1_4):=(kc_ BK279.out 4).trans rfl;have hfz9_0:=kf_ BK279.out 0;have hfz9_1:=kf_ BK279.out 1;have hfz9_2:=kf_ BK279.out 2;have hfz9_3:=kf_ BK279.out 3;have hfz9_4:=kf_ BK279.out 4)|((with_reducible refine gate_callee (f:=9) rfl ?_);refine goesL_ (some 9) rfl rfl Tryd.func9 (by kernel_rfl) rfl #[.slice A0_0 l0_0.length c0_0,.slice A1_0 l1_0.length c1_0] rfl (by (try simp only [s4_,s5_,s6_]);first|done|rfl|(simp only [List.length_drop,List.length_take];rfl)) ?_;(with_reducible refine (laws_eqIntS.calls k _ _ l0_0 _ _ l1_0 t280 _ ?side1 ?side2 ?side3 ?side4 A3.out).mono ?_);(case side1 => repeat (first|exact (Kd.C_below HR0_0.out HB.out)|(with_reducible refine Kd.C_alloc ?_ _)|(with_reducible refine Kd.C_drewN ?_ _)|(with_reducible refine Kd.C_drew ?_)));(case side2 => exact HC0_0.out);(case side3 => repeat (first|exact (Kd.C_below HR1_0.out HB.out)|(with_reducible refine Kd.C_alloc ?_ _)|(with_reducible refine Kd.C_drewN ?_ _)|(with_reducible refine Kd.C_drew ?_)));(case side4 => exact HC1_0.out);rintro e w' ⟨rfl,⟨nd,rfl⟩⟩;refine ⟨_,rfl,?_⟩))
 have H:=HC4.out;clear HC4
 by_cases c10 : t280 = true
 ·subst c10
  have H1 : (if a0_1 = a1_1 then (if a0_2 = a1_2 then (if a0_3 = a1_3 then ((laws_eqIntS.f k l0_4 l1_4).bind fun t281 => (if t281 = true then (some true) else (some false))) else (some false)) else (some false)) else (some false)) = some r:=by rw [if_pos rfl] at H;exact H
  clear H;have H:=H1;clear H1;have HC11:=A_ H;clear H;have hnb12:=NB278_279.out;have hnc12:=NB279_278.out;have hcz13_0 : w6.cell? ⟨gb278,0,none⟩ = some (.slice A0_0 l0_0.length c0_0):=(kc_ BK278.out 0).trans rfl;have hcz13_1 : w6.cell? ⟨gb278,1,none⟩ = some (.int .i64 a0_1):=(kc_ BK278.out 1).trans rfl;have hcz13_2 : w6.cell? ⟨gb278,2,none⟩ = some (.int .i64 a0_2):=(kc_ BK278.out 2).trans rfl;have hcz13_3 : w6.cell? ⟨gb278,3,none⟩ = some (.int .i64 a0_3):=(kc_ BK278.out 3).trans rfl;have hcz13_4 : w6.cell? ⟨gb278,4,none⟩ = some (.slice A0_4 l0_4.length c0_4):=(kc_ BK278.out 4).trans rfl;have hfz13_0:=kf_ BK278.out 0;have hfz13_1:=kf_ BK278.out 1;have hfz13_2:=kf_ BK278.out 2;have hfz13_3:=kf_ BK278.out 3;have hfz13_4:=kf_ BK278.out 4;have hcz14_0 : w6.cell? ⟨gb279,0,none⟩ = some (.slice A1_0 l1_0.length c1_0):=(kc_ BK279.out 0).trans rfl;have hcz14_1 : w6.cell? ⟨gb279,1,none⟩ = some (.int .i64 a1_1):=(kc_ BK279.out 1).trans rfl;have hcz14_2 : w6.cell? ⟨gb279,2,none⟩ = some (.int .i64 a1_2):=(kc_ BK279.out 2).trans rfl;have hcz14_3 : w6.cell? ⟨gb279,3,none⟩ = some (.int .i64 a1_3):=(kc_ BK279.out 3).trans rfl;have hcz14_4 : w6.cell? ⟨gb279,4,none⟩ = some (.slice A1_4 l1_4.length c1_4):=(kc_ BK279.out 4).trans rfl;have hfz14_0:=kf_ BK279.out 0;have hfz14_1:=kf_ BK279.out 1;have hfz14_2:=kf_ BK279.out 2;have hfz14_3:=kf_ BK279.out 3;have hfz14_4:=kf_ BK279.out 4
  go_upto_if 15 with (fail)
  have H:=HC11.out;clear HC11
  by_cases c15 : a0_1 = a1_1
  ·rw [if_pos c15] at H;have c15b0 : (a0_1 == a1_1) = true:=beq_iff_eq.mpr c15;have c15b1 : (a0_1 != a1_1) = false:=bne_eq_false_iff_eq.mpr c15;clear c15
   (first|rw [c15b0]|(simp only [i64_w,i32_w];rw [c15b0])|skip)
   have HC16:=A_ H;clear H;have hnb17:=NB278_279.out;have hnc17:=NB279_278.out;have hcz18_0 : w6.cell? ⟨gb278,0,none⟩ = some (.slice A0_0 l0_0.length c0_0):=(kc_ BK278.out 0).trans rfl;have hcz18_1 : w6.cell? ⟨gb278,1,none⟩ = some (.int .i64 a0_1):=(kc_ BK278.out 1).trans rfl;have hcz18_2 : w6.cell? ⟨gb278,2,none⟩ = some (.int .i64 a0_2):=(kc_ BK278.out 2).trans rfl;have hcz18_3 : w6.cell? ⟨gb278,3,none⟩ = some (.int .i64 a0_3):=(kc_ BK278.out 3).trans rfl;have hcz18_4 : w6.cell? ⟨gb278,4,none⟩ = some (.slice A0_4 l0_4.length c0_4):=(kc_ BK278.out 4).trans rfl;have hfz18_0:=kf_ BK278.out 0;have hfz18_1:=kf_ BK278.out 1;have hfz18_2:=kf_ BK278.out 2;have hfz18_3:=kf_ BK278.out 3;have hfz18_4:=kf_ BK278.out 4;have hcz19_0 : w6.cell? ⟨gb279,0,none⟩ = some (.slice A1_0 l1_0.length c1_0):=(kc_ BK279.out 0).trans rfl;have hcz19_1 : w6.cell? ⟨gb279,1,none⟩ = some (.int .i64 a1_1):=(kc_ BK279.out 1).trans rfl;have hcz19_2 : w6.cell? ⟨gb279,2,none⟩ = some (.int .i64 a1_2):=(kc_ BK279.out 2).trans rfl;have hcz19_3 : w6.cell? ⟨gb279,3,none⟩ = some (.int .i64 a1_3):=(kc_ BK279.out 3).trans rfl;have hcz19_4 : w6.cell? ⟨gb279,4,none⟩ = some (.slice A1_4 l1_4.length c1_4):=(kc_ BK279.out 4).trans rfl;have hfz19_0:=kf_ BK279.out 0;have hfz19_1:=kf_ BK279.out 1;have hfz19_2:=kf_ BK279.out 2;have hfz19_3:=kf_ BK279.out 3;have hfz19_4:=kf_ BK279.out 4
   go_upto_if 20 with (fail)
   have H:=HC16.out;clear HC16
   by_cases c20 : a0_2 = a1_2
   ·rw [if_pos c20] at H;have c20b0 : (a0_2 == a1_2) = true:=beq_iff_eq.mpr c20;have c20b1 : (a0_2 != a1_2) = false:=bne_eq_false_iff_eq.mpr c20;clear c20
    (first|rw [c20b0]|(simp only [i64_w,i32_w];rw [c20b0])|skip)
    have HC21:=A_ H;clear H;have hnb22:=NB278_279.out;have hnc22:=NB279_278.out;have hcz23_0 : w6.cell? ⟨gb278,0,none⟩ = some (.slice A0_0 l0_0.length c0_0):=(kc_ BK278.out 0).trans rfl;have hcz23_1 : w6.cell? ⟨gb278,1,none⟩ = some (.int .i64 a0_1):=(kc_ BK278.out 1).trans rfl;have hcz23_2 : w6.cell? ⟨gb278,2,none⟩ = some (.int .i64 a0_2):=(kc_ BK278.out 2).trans rfl;have hcz23_3 : w6.cell? ⟨gb278,3,none⟩ = some (.int .i64 a0_3):=(kc_ BK278.out 3).trans rfl;have hcz23_4 : w6.cell? ⟨gb278,4,none⟩ = some (.slice A0_4 l0_4.length c0_4):=(kc_ BK278.out 4).trans rfl;have hfz23_0:=kf_ BK278.out 0;have hfz23_1:=kf_ BK278.out 1;have hfz23_2:=kf_ BK278.out 2;have hfz23_3:=kf_ BK278.out 3;have hfz23_4:=kf_ BK278.out 4;have hcz24_0 : w6.cell? ⟨gb279,0,none⟩ = some (.slice A1_0 l1_0.length c1_0):=(kc_ BK279.out 0).trans rfl;have hcz24_1 : w6.cell? ⟨gb279,1,none⟩ = some (.int .i64 a1_1):=(kc_ BK279.out 1).trans rfl;have hcz24_2 : w6.cell? ⟨gb279,2,none⟩ = some (.int .i64 a1_2):=(kc_ BK279.out 2).trans rfl;have hcz24_3 : w6.cell? ⟨gb279,3,none⟩ = some (.int .i64 a1_3):=(kc_ BK279.out 3).trans rfl;have hcz24_4 : w6.cell? ⟨gb279,4,none⟩ = some (.slice A1_4 l1_4.length c1_4):=(kc_ BK279.out 4).trans rfl;have hfz24_0:=kf_ BK279.out 0;have hfz24_1:=kf_ BK279.out 1;have hfz24_2:=kf_ BK279.out 2;have hfz24_3:=kf_ BK279.out 3;have hfz24_4:=kf_ BK279.out 4
    go_upto_if 25 with (fail)
    have H:=HC21.out;clear HC21
    by_cases c25 : a0_3 = a1_3
    ·rw [if_pos c25] at H;have c25b0 : (a0_3 == a1_3) = true:=beq_iff_eq.mpr c25;have c25b1 : (a0_3 != a1_3) = false:=bne_eq_false_iff_eq.mpr c25;clear c25
     (first|rw [c25b0]|(simp only [i64_w,i32_w];rw [c25b0])|skip)
     replace H:=ob_.mp H;obtain ⟨t281,A260,H⟩:=H;replace H : (if t281 = true then (some true) else (some false)) = some r:=H;have A26:=A_ A260;clear A260;have HC27:=A_ H;clear H;have hnb28:=NB278_279.out;have hnc28:=NB279_278.out;have hcz29_0 : w6.cell? ⟨gb278,0,none⟩ = some (.slice A0_0 l0_0.length c0_0):=(kc_ BK278.out 0).trans rfl;have hcz29_1 : w6.cell? ⟨gb278,1,none⟩ = some (.int .i64 a0_1):=(kc_ BK278.out 1).trans rfl;have hcz29_2 : w6.cell? ⟨gb278,2,none⟩ = some (.int .i64 a0_2):=(kc_ BK278.out 2).trans rfl;have hcz29_3 : w6.cell? ⟨gb278,3,none⟩ = some (.int .i64 a0_3):=(kc_ BK278.out 3).trans rfl;have hcz29_4 : w6.cell? ⟨gb278,4,none⟩ = some (.slice A0_4 l0_4.length c0_4):=(kc_ BK278.out 4).trans rfl;have hfz29_0:=kf_ BK278.out 0;have hfz29_1:=kf_ BK278.out 1;have hfz29_2:=kf_ BK278.out 2;have hfz29_3:=kf_ BK278.out 3;have hfz29_4:=kf_ BK278.out 4;have hcz30_0 : w6.cell? ⟨gb279,0,none⟩ = some (.slice A1_0 l1_0.length c1_0):=(kc_ BK279.out 0).trans rfl;have hcz30_1 : w6.cell? ⟨gb279,1,none⟩ = some (.int .i64 a1_1):=(kc_ BK279.out 1).trans rfl;have hcz30_2 : w6.cell? ⟨gb279,2,none⟩ = some (.int .i64 a1_2):=(kc_ BK279.out 2).trans rfl;have hcz30_3 : w6.cell? ⟨gb279,3,none⟩ = some (.int .i64 a1_3):=(kc_ BK279.out 3).trans rfl;have hcz30_4 : w6.cell? ⟨gb279,4,none⟩ = some (.slice A1_4 l1_4.length c1_4):=(kc_ BK279.out 4).trans rfl;have hfz30_0:=kf_ BK279.out 0;have hfz30_1:=kf_ BK279.out 1;have hfz30_2:=kf_ BK279.out 2;have hfz30_3:=kf_ BK279.out 3;have hfz30_4:=kf_ BK279.out 4
     go_upto_if 31 with (first|((with_reducible refine gate_callee (f:=9) rfl ?_);refine goesL_ (some 30) rfl rfl Tryd.func9 (by kernel_rfl) rfl #[.slice A0_4 l0_4.length c0_4,.slice A1_4 l1_4.length c1_4] rfl (by (try simp only [s4_,s5_,s6_]);first|done|rfl|(simp only [List.length_drop,List.length_take];rfl)) ?_;(with_reducible refine (laws_eqIntS.calls k _ _ l0_4 _ _ l1_4 t281 _ ?side1 ?side2 ?side3 ?side4 A26.out).mono ?_);(case side1 => repeat (first|exact (Kd.C_below HR0_4.out HB.out)|(with_reducible refine Kd.C_alloc ?_ _)|(with_reducible refine Kd.C_drewN ?_ _)|(with_reducible refine Kd.C_drew ?_)));(case side2 => exact HC0_4.out);(case side3 => repeat (first|exact (Kd.C_below HR1_4.out HB.out)|(with_reducible refine Kd.C_alloc ?_ _)|(with_reducible refine Kd.C_drewN ?_ _)|(with_reducible refine Kd.C_drew ?_)));(case side4 => exact HC1_4.out);rintro e w' ⟨rfl,⟨nd,rfl⟩⟩;refine ⟨_,rfl,?_⟩))
     have H:=HC27.out;clear HC27
     by_cases c31 : t281 = true
     ·subst c31
      have H1 : (some true) = some r:=by rw [if_pos rfl] at H;exact H
      clear H;have H:=H1;clear H1;obtain rfl:=Option.some.inj H;go_wp2;go_ret;exact ⟨by first|rfl|(simp [*,errW_none,errW_some] <;> rfl),by repeat (first|(with_reducible first|exact HB.out|apply pa_|apply pn_|apply pd_|refine ps_ ?_ GE278.out|refine ps_ ?_ GE279.out)|exact HB.out)⟩
     ·replace c31:=Bool.eq_false_iff.mpr c31;subst c31
      have H1 : (some false) = some r:=by rw [if_neg (show ¬ (false = true) by decide)] at H;exact H
      clear H;have H:=H1;clear H1;obtain rfl:=Option.some.inj H;go_wp2;go_ret;exact ⟨by first|rfl|(simp [*,errW_none,errW_some] <;> rfl),by repeat (first|(with_reducible first|exact HB.out|apply pa_|apply pn_|apply pd_|refine ps_ ?_ GE278.out|refine ps_ ?_ GE279.out)|exact HB.out)⟩
    ·rw [if_neg c25] at H;have c25b0 : (a0_3 == a1_3) = false:=beq_eq_false_iff_ne.mpr c25;have c25b1 : (a0_3 != a1_3) = true:=bne_iff_ne.mpr c25
     (first|rw [c25b0]|(simp only [i64_w,i32_w];rw [c25b0])|skip)
     obtain rfl:=Option.some.inj H;go_wp2;go_ret;exact ⟨by first|rfl|(simp [*,errW_none,errW_some] <;> rfl),by repeat (first|(with_reducible first|exact HB.out|apply pa_|apply pn_|apply pd_|refine ps_ ?_ GE278.out|refine ps_ ?_ GE279.out)|exact HB.out)⟩
   ·rw [if_neg c20] at H;have c20b0 : (a0_2 == a1_2) = false:=beq_eq_false_iff_ne.mpr c20;have c20b1 : (a0_2 != a1_2) = true:=bne_iff_ne.mpr c20
    (first|rw [c20b0]|(simp only [i64_w,i32_w];rw [c20b0])|skip)
    obtain rfl:=Option.some.inj H;go_wp2;go_ret;exact ⟨by first|rfl|(simp [*,errW_none,errW_some] <;> rfl),by repeat (first|(with_reducible first|exact HB.out|apply pa_|apply pn_|apply pd_|refine ps_ ?_ GE278.out|refine ps_ ?_ GE279.out)|exact HB.out)⟩
  ·rw [if_neg c15] at H;have c15b0 : (a0_1 == a1_1) = false:=beq_eq_false_iff_ne.mpr c15;have c15b1 : (a0_1 != a1_1) = true:=bne_iff_ne.mpr c15
   (first|rw [c15b0]|(simp only [i64_w,i32_w];rw [c15b0])|skip)
   obtain rfl:=Option.some.inj H;go_wp2;go_ret;exact ⟨by first|rfl|(simp [*,errW_none,errW_some] <;> rfl),by repeat (first|(with_reducible first|exact HB.out|apply pa_|apply pn_|apply pd_|refine ps_ ?_ GE278.out|refine ps_ ?_ GE279.out)|exact HB.out)⟩
 ·replace c10:=Bool.eq_false_iff.mpr c10;subst c10
  have H1 : (some false) = some r:=by rw [if_neg (show ¬ (false = true) by decide)] at H;exact H
  clear H;have H:=H1;clear H1;obtain rfl:=Option.some.inj H;go_wp2;go_ret;exact ⟨by first|rfl|(simp [*,errW_none,errW_some] <;> rfl),by repeat (first|(with_reducible first|exact HB.out|apply pa_|apply pn_|apply pd_|refine ps_ ?_ GE278.out|refine ps_ ?_ GE279.out)|exact HB.out)⟩
def laws_eqSpot.f (a0_0 : ByteArray) (a0_1 : Int) (a0_2 : Int) (a0_3 : Int) (a1_0 : ByteArray) (a1_1 : Int) (a1_2 : Int) (a1_3 : Int) : Option (Bool) := if a0_0.toList = a1_0.toList then (if a0_1 = a1_1 then (if a0_2 = a1_2 then (if a0_3 = a1_3 then (some true) else (some false)) else (some false)) else (some false)) else (some false)
set_option maxHeartbeats 8000000 in
set_option maxRecDepth 100000 in
theorem laws_eqSpot.calls (a0_0 : ByteArray) (a0_1 : Int) (a0_2 : Int) (a0_3 : Int) (a1_0 : ByteArray) (a1_1 : Int) (a1_2 : Int) (a1_3 : Int) (r : Bool) (w : World) (h : laws_eqSpot.f a0_0 a0_1 a0_2 a0_3 a1_0 a1_1 a1_2 a1_3 = some r) :
  Calls Tryd.prog 70 #[.agg #[.string a0_0,.int .i64 a0_1,.int .i64 a0_2,.int .i64 a0_3],.agg #[.string a1_0,.int .i64 a1_1,.int .i64 a1_2,.int .i64 a1_3]] w fun e w' => e = .returned (.bool r) ∧ Below w.heap.size w w':=by
 have hu71:=Tryd.underlying71;have HB:=A_ (Below.refl w.heap.size w);have H : (if a0_0.toList = a1_0.toList then (if a0_1 = a1_1 then (if a0_2 = a1_2 then (if a0_3 = a1_3 then (some true) else (some false)) else (some false)) else (some false)) else (some false)) = some r:=h;clear h;have HC3:=A_ H;clear H;go_enter Tryd.func70,Tryd.ntmps70
 go_upto_if 9 with (first|((with_reducible refine gate_dst (N:=2) rfl ?_);refine box_event ?hg (N:=2) ?hd (cs:=#[.string a0_0,.int .i64 a0_1,.int .i64 a0_2,.int .i64 a0_3]) (t:=71) ?hr ?_;(case hd => rfl);(case hg => rfl);(case hr => first|(go_simp;done)|(go_simp;rfl));intro gb282 hg w4 hbox hb;have n0_:=A_ (bs_ (by repeat (first|(with_reducible first|exact HB.out|apply pa_|apply pn_|apply pd_)|exact HB.out)) hb);have n1_:=A_ (hbox);have n3_:=A_ ((by rw [hg];exact (bz_ (by repeat (first|(with_reducible first|exact HB.out|apply pa_|apply pn_|apply pd_)|exact HB.out))) : w.heap.size ≤ gb282));clear HB;have HB:=n0_;have BK282:=n1_;have GE282:=n3_;clear n0_ n1_ n3_;clear hb hbox hg)|((with_reducible refine gate_dst (N:=3) rfl ?_);refine box_event ?hg (N:=3) ?hd (cs:=#[.string a1_0,.int .i64 a1_1,.int .i64 a1_2,.int .i64 a1_3]) (t:=71) ?hr ?_;(case hd => rfl);(case hg => rfl);(case hr => first|(go_simp;done)|(go_simp;rfl));intro gb283 hg w5 hbox hb;have n0_:=A_ (kb_ (by (with_reducible repeat (first|refine kn_ ?_ _|refine kd_ ?_|refine ka_ ?_ _));exact BK282.out) hb);have n1_:=A_ (bs_ (by repeat (first|(with_reducible first|exact HB.out|apply pa_|apply pn_|apply pd_|refine ps_ ?_ GE282.out)|exact HB.out)) hb);have n2_:=A_ (hbox);have n4_:=A_ ((by rw [hg];exact (bz_ (by repeat (first|(with_reducible first|exact HB.out|apply pa_|apply pn_|apply pd_|refine ps_ ?_ GE282.out)|exact HB.out))) : w.heap.size ≤ gb283));have n5_:=A_ ((by rw [hg];exact nl_ (kl_ (g:=gb282) (o:=.cells #[.string a0_0,.int .i64 a0_1,.int .i64 a0_2,.int .i64 a0_3] 71 (0,0)) (by (with_reducible repeat (first|refine kn_ ?_ _|refine kd_ ?_|refine ka_ ?_ _));exact BK282.out)) : gb282 ≠ gb283));have n6_:=A_ ((by rw [hg];exact ng_ (kl_ (g:=gb282) (o:=.cells #[.string a0_0,.int .i64 a0_1,.int .i64 a0_2,.int .i64 a0_3] 71 (0,0)) (by (with_reducible repeat (first|refine kn_ ?_ _|refine kd_ ?_|refine ka_ ?_ _));exact BK282.out)) : gb283 ≠ gb282));clear BK282;clear HB;have BK282:=n0_;have HB:=n1_;have BK283:=n2_;have GE283:=n4_;have NB282_283:=n5_;have NB283_282:=n6_;clear n0_ n1_ n2_ n4_ n5_ n6_;clear hb hbox hg;have hnb6:=NB282_283.out;have hnc6:=NB283_282.out;have hcz7_0 : w5.cell? ⟨gb282,0,none⟩ = some (.string a0_0):=(kc_ BK282.out 0).trans rfl;have hcz7_1 : w5.cell? ⟨gb282,1,none⟩ = some (.int .i64 a0_1):=(kc_ BK282.out 1).trans rfl;have hcz7_2 : w5.cell? ⟨gb282,2,none⟩ = some (.int .i64 a0_2):=(kc_ BK282.out 2).trans rfl;have hcz7_3 : w5.cell? ⟨gb282,3,none⟩ = some (.int .i64 a0_3):=(kc_ BK282.out 3).trans rfl;have hfz7_0:=kf_ BK282.out 0;have hfz7_1:=kf_ BK282.out 1;have hfz7_2:=kf_ BK282.out 2;have hfz7_3:=kf_ BK282.out 3;have hcz8_0 : w5.cell? ⟨gb283,0,none⟩ = some (.string a1_0):=(kc_ BK283.out 0).trans rfl;have hcz8_1 : w5.cell? ⟨gb283,1,none⟩ = some (.int .i64 a1_1):=(kc_ BK283.out 1).trans rfl;have hcz8_2 : w5.cell? ⟨gb283,2,none⟩ = some (.int .i64 a1_2):=(kc_ BK283.out 2).trans rfl;have hcz8_3 : w5.cell? ⟨gb283,3,none⟩ = some (.int .i64 a1_3):=(kc_ BK283.out 3).trans rfl;have hfz8_0:=kf_ BK283.out 0;have hfz8_1:=kf_ BK283.out 1;have hfz8_2:=kf_ BK283.out 2;have hfz8_3:=kf_ BK283.out 3))
 have H:=HC3.out;clear HC3
 by_cases c9 : a0_0.toList = a1_0.toList
 ·rw [if_pos c9] at H;have c9b0 : (a0_0.toList == a1_0.toList) = true:=beq_iff_eq.mpr c9;have c9b1 : (a0_0.toList != a1_0.toList) = false:=bne_eq_false_iff_eq.mpr c9;clear c9
  (first|rw [c9b0]|(simp only [i64_w,i32_w];rw [c9b0])|skip)
  have HC10:=A_ H;clear H;have hnb11:=NB282_283.out;have hnc11:=NB283_282.out;have hcz12_0 : w5.cell? ⟨gb282,0,none⟩ = some (.string a0_0):=(kc_ BK282.out 0).trans rfl;have hcz12_1 : w5.cell? ⟨gb282,1,none⟩ = some (.int .i64 a0_1):=(kc_ BK282.out 1).trans rfl;have hcz12_2 : w5.cell? ⟨gb282,2,none⟩ = some (.int .i64 a0_2):=(kc_ BK282.out 2).trans rfl;have hcz12_3 : w5.cell? ⟨gb282,3,none⟩ = some (.int .i64 a0_3):=(kc_ BK282.out 3).trans rfl;have hfz12_0:=kf_ BK282.out 0;have hfz12_1:=kf_ BK282.out 1;have hfz12_2:=kf_ BK282.out 2;have hfz12_3:=kf_ BK282.out 3;have hcz13_0 : w5.cell? ⟨gb283,0,none⟩ = some (.string a1_0):=(kc_ BK283.out 0).trans rfl;have hcz13_1 : w5.cell? ⟨gb283,1,none⟩ = some (.int .i64 a1_1):=(kc_ BK283.out 1).trans rfl;have hcz13_2 : w5.cell? ⟨gb283,2,none⟩ = some (.int .i64 a1_2):=(kc_ BK283.out 2).trans rfl;have hcz13_3 : w5.cell? ⟨gb283,3,none⟩ = some (.int .i64 a1_3):=(kc_ BK283.out 3).trans rfl;have hfz13_0:=kf_ BK283.out 0;have hfz13_1:=kf_ BK283.out 1;have hfz13_2:=kf_ BK283.out 2;have hfz13_3:=kf_ BK283.out 3
  go_upto_if 14 with (fail)
  have H:=HC10.out;clear HC10
  by_cases c14 : a0_1 = a1_1
  ·rw [if_pos c14] at H;have c14b0 : (a0_1 == a1_1) = true:=beq_iff_eq.mpr c14;have c14b1 : (a0_1 != a1_1) = false:=bne_eq_false_iff_eq.mpr c14;clear c14
   (first|rw [c14b0]|(simp only [i64_w,i32_w];rw [c14b0])|skip)
   have HC15:=A_ H;clear H;have hnb16:=NB282_283.out;have hnc16:=NB283_282.out;have hcz17_0 : w5.cell? ⟨gb282,0,none⟩ = some (.string a0_0):=(kc_ BK282.out 0).trans rfl;have hcz17_1 : w5.cell? ⟨gb282,1,none⟩ = some (.int .i64 a0_1):=(kc_ BK282.out 1).trans rfl;have hcz17_2 : w5.cell? ⟨gb282,2,none⟩ = some (.int .i64 a0_2):=(kc_ BK282.out 2).trans rfl;have hcz17_3 : w5.cell? ⟨gb282,3,none⟩ = some (.int .i64 a0_3):=(kc_ BK282.out 3).trans rfl;have hfz17_0:=kf_ BK282.out 0;have hfz17_1:=kf_ BK282.out 1;have hfz17_2:=kf_ BK282.out 2;have hfz17_3:=kf_ BK282.out 3;have hcz18_0 : w5.cell? ⟨gb283,0,none⟩ = some (.string a1_0):=(kc_ BK283.out 0).trans rfl;have hcz18_1 : w5.cell? ⟨gb283,1,none⟩ = some (.int .i64 a1_1):=(kc_ BK283.out 1).trans rfl;have hcz18_2 : w5.cell? ⟨gb283,2,none⟩ = some (.int .i64 a1_2):=(kc_ BK283.out 2).trans rfl;have hcz18_3 : w5.cell? ⟨gb283,3,none⟩ = some (.int .i64 a1_3):=(kc_ BK283.out 3).trans rfl;have hfz18_0:=kf_ BK283.out 0;have hfz18_1:=kf_ BK283.out 1;have hfz18_2:=kf_ BK283.out 2;have hfz18_3:=kf_ BK283.out 3
   go_upto_if 19 with (fail)
   have H:=HC15.out;clear HC15
   by_cases c19 : a0_2 = a1_2
   ·rw [if_pos c19] at H;have c19b0 : (a0_2 == a1_2) = true:=beq_iff_eq.mpr c19;have c19b1 : (a0_2 != a1_2) = false:=bne_eq_false_iff_eq.mpr c19;clear c19
    (first|rw [c19b0]|(simp only [i64_w,i32_w];rw [c19b0])|skip)
    have HC20:=A_ H;clear H;have hnb21:=NB282_283.out;have hnc21:=NB283_282.out;have hcz22_0 : w5.cell? ⟨gb282,0,none⟩ = some (.string a0_0):=(kc_ BK282.out 0).trans rfl;have hcz22_1 : w5.cell? ⟨gb282,1,none⟩ = some (.int .i64 a0_1):=(kc_ BK282.out 1).trans rfl;have hcz22_2 : w5.cell? ⟨gb282,2,none⟩ = some (.int .i64 a0_2):=(kc_ BK282.out 2).trans rfl;have hcz22_3 : w5.cell? ⟨gb282,3,none⟩ = some (.int .i64 a0_3):=(kc_ BK282.out 3).trans rfl;have hfz22_0:=kf_ BK282.out 0;have hfz22_1:=kf_ BK282.out 1;have hfz22_2:=kf_ BK282.out 2;have hfz22_3:=kf_ BK282.out 3;have hcz23_0 : w5.cell? ⟨gb283,0,none⟩ = some (.string a1_0):=(kc_ BK283.out 0).trans rfl;have hcz23_1 : w5.cell? ⟨gb283,1,none⟩ = some (.int .i64 a1_1):=(kc_ BK283.out 1).trans rfl;have hcz23_2 : w5.cell? ⟨gb283,2,none⟩ = some (.int .i64 a1_2):=(kc_ BK283.out 2).trans rfl;have hcz23_3 : w5.cell? ⟨gb283,3,none⟩ = some (.int .i64 a1_3):=(kc_ BK283.out 3).trans rfl;have hfz23_0:=kf_ BK283.out 0;have hfz23_1:=kf_ BK283.out 1;have hfz23_2:=kf_ BK283.out 2;have hfz23_3:=kf_ BK283.out 3
    go_upto_if 24 with (fail)
    have H:=HC20.out;clear HC20
    by_cases c24 : a0_3 = a1_3
    ·rw [if_pos c24] at H;have c24b0 : (a0_3 == a1_3) = true:=beq_iff_eq.mpr c24;have c24b1 : (a0_3 != a1_3) = false:=bne_eq_false_iff_eq.mpr c24;clear c24
     (first|rw [c24b0]|(simp only [i64_w,i32_w];rw [c24b0])|skip)
     obtain rfl:=Option.some.inj H;go_wp2;go_ret;exact ⟨by first|rfl|(simp [*,errW_none,errW_some] <;> rfl),by repeat (first|(with_reducible first|exact HB.out|apply pa_|apply pn_|apply pd_|refine ps_ ?_ GE282.out|refine ps_ ?_ GE283.out)|exact HB.out)⟩
    ·rw [if_neg c24] at H;have c24b0 : (a0_3 == a1_3) = false:=beq_eq_false_iff_ne.mpr c24;have c24b1 : (a0_3 != a1_3) = true:=bne_iff_ne.mpr c24
     (first|rw [c24b0]|(simp only [i64_w,i32_w];rw [c24b0])|skip)
     obtain rfl:=Option.some.inj H;go_wp2;go_ret;exact ⟨by first|rfl|(simp [*,errW_none,errW_some] <;> rfl),by repeat (first|(with_reducible first|exact HB.out|apply pa_|apply pn_|apply pd_|refine ps_ ?_ GE282.out|refine ps_ ?_ GE283.out)|exact HB.out)⟩
   ·rw [if_neg c19] at H;have c19b0 : (a0_2 == a1_2) = false:=beq_eq_false_iff_ne.mpr c19;have c19b1 : (a0_2 != a1_2) = true:=bne_iff_ne.mpr c19
    (first|rw [c19b0]|(simp only [i64_w,i32_w];rw [c19b0])|skip)
    obtain rfl:=Option.some.inj H;go_wp2;go_ret;exact ⟨by first|rfl|(simp [*,errW_none,errW_some] <;> rfl),by repeat (first|(with_reducible first|exact HB.out|apply pa_|apply pn_|apply pd_|refine ps_ ?_ GE282.out|refine ps_ ?_ GE283.out)|exact HB.out)⟩
  ·rw [if_neg c14] at H;have c14b0 : (a0_1 == a1_1) = false:=beq_eq_false_iff_ne.mpr c14;have c14b1 : (a0_1 != a1_1) = true:=bne_iff_ne.mpr c14
   (first|rw [c14b0]|(simp only [i64_w,i32_w];rw [c14b0])|skip)
   obtain rfl:=Option.some.inj H;go_wp2;go_ret;exact ⟨by first|rfl|(simp [*,errW_none,errW_some] <;> rfl),by repeat (first|(with_reducible first|exact HB.out|apply pa_|apply pn_|apply pd_|refine ps_ ?_ GE282.out|refine ps_ ?_ GE283.out)|exact HB.out)⟩
 ·rw [if_neg c9] at H;have c9b0 : (a0_0.toList == a1_0.toList) = false:=beq_eq_false_iff_ne.mpr c9;have c9b1 : (a0_0.toList != a1_0.toList) = true:=bne_iff_ne.mpr c9
  (first|rw [c9b0]|(simp only [i64_w,i32_w];rw [c9b0])|skip)
  obtain rfl:=Option.some.inj H;go_wp2;go_ret;exact ⟨by first|rfl|(simp [*,errW_none,errW_some] <;> rfl),by repeat (first|(with_reducible first|exact HB.out|apply pa_|apply pn_|apply pd_|refine ps_ ?_ GE282.out|refine ps_ ?_ GE283.out)|exact HB.out)⟩
end Go.Proofs.YtbcgnncbiblibaaDoor.PFnExactShelfMap
