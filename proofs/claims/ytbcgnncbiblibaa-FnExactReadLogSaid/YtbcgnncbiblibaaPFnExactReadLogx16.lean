/- The contracts of the Go functions that this law reaches: what each call returns, by a plain Lean function of its arguments. No conditions but those each contract names. By the kit's print.py, run by this session's wip/gen/pp.py with facts and hand proofs beside it: not to the letter what print.sh prints. -/
import Derived.Test.YtbcgnncbiblibaaPFnExactReadLogx0
import Derived.Test.YtbcgnncbiblibaaPFnExactReadLogx15
namespace Go.Proofs.Ytbcgnncbiblibaa.PFnExactReadLog
open Go.RowKit Go.Proofs.YtbcgnncbiblibaaW.PrintWords Go.Proofs.YtbcgnncbiblibaaW.PrintLast Go.Proofs.YtbcgnncbiblibaaW.PrintMore
attribute [local go_sem] max2_int min2_int max_two min_two max_three min_three max_four min_four
set_option linter.unusedVariables false
set_option linter.unusedSimpArgs false
def laws_heldEntryS.l0 : Nat → List (S69) → Int → Int → Option (Int)
 | 0,_,_,_ => none
 | k + 1,x0,x1,x5 => if x5 < (x0.length : Int) then (if 0 ≤ x5 then (if ((rd_T69 x0 x5).f0) = x1 then (if ((rd_T69 x0 x5).f1) = (wrap64 (x1 + 1)) then ((laws_markText.f k (wrap64 ((wrap64 (x1 + 1)) + 1))).bind fun t397 => (if ((rd_T69 x0 x5).f2).toList = t397.toList then (laws_heldEntryS.l0 k x0 (wrap64 ((wrap64 ((wrap64 (x1 + 1)) + 1)) + 1)) (wrap64 (x5 + 1))) else (some (-1)))) else (some (-1))) else (some (-1))) else (none)) else (some x1)
def laws_heldEntryS.f (k : Nat) (l0 : List (S69)) (a1 : Int) : Option (Int) := laws_heldEntryS.l0 k l0 a1 0
theorem laws_heldEntryS.mono_l : ∀ k, (∀ y0 y1 y2, LeO (laws_heldEntryS.l0 k y0 y1 y2) (laws_heldEntryS.l0 (k + 1) y0 y1 y2))
 | 0 => fun _ _ _ r h => by simp [laws_heldEntryS.l0] at h
 | k + 1 => by
  have ih0:=laws_heldEntryS.mono_l k
  ·intro y0 y1 y2
   unfold laws_heldEntryS.l0
   repeat' first
   | (with_reducible exact ih0 _ _ _)
   | (with_reducible exact laws_markText.mono _ _)
   | (with_reducible exact LeO.refl _)
   | (with_reducible exact LeO.none _)
   | (with_reducible refine LeO.ite ?_ ?_)
   | (with_reducible refine LeO.bind ?_ (fun _ => ?_))
theorem laws_heldEntryS.mono : ∀ a0 a1 k, LeO (laws_heldEntryS.f k a0 a1) (laws_heldEntryS.f (k + 1) a0 a1) := by
 intro a0 a1 k;have ih0:=laws_heldEntryS.mono_l k
 unfold laws_heldEntryS.f
 repeat' first
   | (with_reducible exact ih0 _ _ _)
   | (with_reducible exact laws_markText.mono _ _)
   | (with_reducible exact LeO.refl _)
   | (with_reducible exact LeO.none _)
   | (with_reducible refine LeO.ite ?_ ?_)
   | (with_reducible refine LeO.bind ?_ (fun _ => ?_))
def laws_heldEntryS.T10 : Bool × List (List Nat × List Nat) := (true, [([], []), ([], []), ([0, 1], [0, 1]), ([2], [2]), ([3], [3]), ([], []), ([5], [5]), ([4, 6], [4, 6])])
def laws_heldEntryS.B10 : List Nat := [0, 0, 3, 7, 15, 0, 32, 127]
theorem laws_heldEntryS.tab10 : rtab .any (opsOf Try.f51 10) = laws_heldEntryS.T10 := by kernel_rfl
theorem laws_heldEntryS.bits10 : waitsOk laws_heldEntryS.T10.2 laws_heldEntryS.B10 = true := by kernel_rfl
set_option maxHeartbeats 8000000 in
set_option maxRecDepth 100000 in
theorem laws_heldEntryS.calls (k : Nat) (A0 : Option Addr) (c0 : Nat) (l0 : List (S69)) (a1 : Int) (r : Int) (w : World) (hr0 : Kd.C k69 w A0 l0.length l0) (hc0 : l0.length ≤ c0) (h : laws_heldEntryS.f k l0 a1 = some r) :
  Calls Try.prog 51 #[.slice A0 l0.length c0,.int .i64 a1] w fun e w' => e = .returned (.int .i64 r) ∧ Below w.heap.size w w':=by
 have HR0:=A_ hr0;have HC0:=A_ hc0;clear hr0 hc0;have HB:=A_ (Below.refl w.heap.size w);have H : (laws_heldEntryS.l0 k l0 a1 0) = some r:=h;clear h;have H':=A_ H;clear H;go_enter Try.func51,Try.ntmps51;go_wp2
 go_loopg [1,5] k (fun kq v1 v5 w' => ∃ (x1_1 : Int) (x5_1 : Int),v1 = .int .i64 x1_1 ∧ v5 = .int .i64 x5_1 ∧ Aside0 (laws_heldEntryS.l0 kq l0 x1_1 x5_1 = some r) ∧ Aside0 (kq ≤ k) ∧ Aside0 (Below w.heap.size w w'))
 case atStart => exact ⟨(a1),(0),(by first|rfl|(simp;done)|(simp [*];done)),(by first|rfl|(simp;done)|(simp [*];done)),H',⟨Nat.le_refl _⟩,⟨by repeat (first|(with_reducible first|exact HB.out|apply pa_|apply pn_|apply pd_)|exact HB.out)⟩⟩
 case round =>
  clear H'
  try clear p2
  obtain ⟨x1_1,x5_1,rfl,rfl,HA,HK1,HB⟩:=hrel
  cases gk with
  | zero => exact absurd HA.out (by simp [laws_heldEntryS.l0])
  | succ k1 =>
   have H:=HA.out;clear HA;simp only [laws_heldEntryS.l0] at H
   by_cases c3 : x5_1 < (l0.length : Int)
   ·rw [if_pos c3] at H;have c3b0 : decide (x5_1 < (l0.length : Int)) = true:=de_ c3;clear c3
    by_cases c4 : 0 ≤ x5_1
    ·rw [if_pos c4] at H;have c4b0 : decide (0 ≤ x5_1) = true:=de_ c4;clear c4
     by_cases c5 : ((rd_T69 l0 x5_1).f0) = x1_1
     ·rw [if_pos c5] at H;have c5b0 : (((rd_T69 l0 x5_1).f0) == x1_1) = true:=beq_iff_eq.mpr c5;have c5b1 : (((rd_T69 l0 x5_1).f0) != x1_1) = false:=bne_eq_false_iff_eq.mpr c5;clear c5
      by_cases c6 : ((rd_T69 l0 x5_1).f1) = (wrap64 (x1_1 + 1))
      ·rw [if_pos c6] at H;have c6b0 : (((rd_T69 l0 x5_1).f1) == (wrap64 (x1_1 + 1))) = true:=beq_iff_eq.mpr c6;have c6b1 : (((rd_T69 l0 x5_1).f1) != (wrap64 (x1_1 + 1))) = false:=bne_eq_false_iff_eq.mpr c6;clear c6;replace H:=ob_.mp H;obtain ⟨t397,A70,H⟩:=H;replace H : (if ((rd_T69 l0 x5_1).f2).toList = t397.toList then (laws_heldEntryS.l0 k1 l0 (wrap64 ((wrap64 ((wrap64 (x1_1 + 1)) + 1)) + 1)) (wrap64 (x5_1 + 1))) else (some (-1))) = some r:=H;have A7:=A_ A70;clear A70
       by_cases c8 : ((rd_T69 l0 x5_1).f2).toList = t397.toList
       ·rw [if_pos c8] at H;have c8b0 : (((rd_T69 l0 x5_1).f2).toList == t397.toList) = true:=beq_iff_eq.mpr c8;have c8b1 : (((rd_T69 l0 x5_1).f2).toList != t397.toList) = false:=bne_eq_false_iff_eq.mpr c8;clear c8;have H':=A_ H;clear H;have p394 : 0 ≤ (x5_1 : Int):=oda_;have q394 : x5_1 < (l0.length : Int):=oda_;obtain ⟨ad394,e394,hx394_0,hx394_1,hx394_2⟩:=at_T69 HR0.out x5_1 p394 q394
        cases e394
        replace hx394_0:=(HB.out.cell (wb_ w _ hx394_0)).trans hx394_0;replace hx394_1:=(HB.out.cell (wb_ w _ hx394_1)).trans hx394_1;replace hx394_2:=(HB.out.cell (wb_ w _ hx394_2)).trans hx394_2;replace p394:=eq_true p394;replace q394:=eq_true q394;have p395 : 0 ≤ (x5_1 : Int):=oda_;have q395 : x5_1 < (l0.length : Int):=oda_;obtain ⟨ad395,e395,hx395_0,hx395_1,hx395_2⟩:=at_T69 HR0.out x5_1 p395 q395;obtain rfl : ad394 = ad395:=(by injection e395);replace hx395_0:=(HB.out.cell (wb_ w _ hx395_0)).trans hx395_0;replace hx395_1:=(HB.out.cell (wb_ w _ hx395_1)).trans hx395_1;replace hx395_2:=(HB.out.cell (wb_ w _ hx395_2)).trans hx395_2;replace p395:=eq_true p395;replace q395:=eq_true q395
        try go_wp2
        replace HB:=A_ (pd_ HB.out);have p396 : 0 ≤ (x5_1 : Int):=oda_;have q396 : x5_1 < (l0.length : Int):=oda_;obtain ⟨ad396,e396,hx396_0,hx396_1,hx396_2⟩:=at_T69 HR0.out x5_1 p396 q396;have hw396_2:=hx396_2;have hw396_1:=hx396_1;have hw396_0:=hx396_0;obtain rfl : ad394 = ad396:=(by injection e396);replace hx396_0:=(HB.out.cell (wb_ w _ hx396_0)).trans hx396_0;replace hx396_1:=(HB.out.cell (wb_ w _ hx396_1)).trans hx396_1;replace hx396_2:=(HB.out.cell (wb_ w _ hx396_2)).trans hx396_2;replace p396:=eq_true p396;replace q396:=eq_true q396;refine start_ (n:=8) (S:=fun w' => w'.cell? (ad394.add ((x5_1).toNat * 3)) = some (.int .i64 ((rd_T69 l0 x5_1).f0)) ∧ w'.cell? ⟨(ad394.add ((x5_1).toNat * 3)).block,(ad394.add ((x5_1).toNat * 3)).off + 1,none⟩ = some (.int .i64 ((rd_T69 l0 x5_1).f1)) ∧ w'.cell? ⟨(ad394.add ((x5_1).toNat * 3)).block,(ad394.add ((x5_1).toNat * 3)).off + 2,none⟩ = some (.string ((rd_T69 l0 x5_1).f2))) (ds:=[]) #[false,false,false,false,false,false,false,false] (by kernel_rfl) rfl rfl ⟨((HB.out.cell (wb_ w _ hw396_0)).trans hw396_0),((HB.out.cell (wb_ w _ hw396_1)).trans hw396_1),((HB.out.cell (wb_ w _ hw396_2)).trans hw396_2)⟩ (fun hHeld => ?_);refine with_tabW laws_heldEntryS.tab10 laws_heldEntryS.bits10 (fun HT_ HW_ => ?_);generalize wr.drew = w9 at HB hx396_0 hx396_1 hx396_2 hHeld ⊢;refine pure_ (i:=0) (N:=some 30) (v:=?_) (a':=?_) #[true,false,false,false,false,false,false,false] rfl rfl (any_of HT_.out (by kernel_rfl)) (fun _ _ _ h => h) (Or.inl ⟨by rfl,?_⟩) ?_ ?_;rotate_left
        ·intro w';go_simp;with_reducible rfl
        rotate_left
        ·simp only [Act.put,s1_,s2_,s3_,i64_w,i32_w];rfl
        refine pure_ (i:=1) (N:=some 31) (v:=?_) (a':=?_) #[true,true,false,false,false,false,false,false] rfl rfl (any_of HT_.out (by kernel_rfl)) (fun _ _ _ h => h) (Or.inl ⟨by rfl,?_⟩) ?_ ?_;rotate_left
        ·intro w';go_simp;with_reducible rfl
        rotate_left
        ·simp only [Act.put,s1_,s2_,s3_,i64_w,i32_w];rfl
        refine pure_ (i:=2) (N:=some 32) (v:=?_) (a':=?_) #[true,true,true,false,false,false,false,false] rfl rfl (any_of HT_.out (by kernel_rfl)) (fun _ _ _ h => h) (Or.inl ⟨by rfl,?_⟩) ?_ ?_;rotate_left
        ·intro w';go_simp;with_reducible rfl
        rotate_left
        ·simp only [Act.put,s1_,s2_,s3_,i64_w,i32_w];rfl
        refine pure_ (i:=3) (N:=some 33) (v:=?_) (a':=?_) #[true,true,true,true,false,false,false,false] rfl rfl (any_of HT_.out (by kernel_rfl)) (fun _ _ _ h => h) (Or.inl ⟨by rfl,?_⟩) ?_ ?_;rotate_left
        ·intro w';go_simp;with_reducible rfl
        rotate_left
        ·simp only [Act.put,s1_,s2_,s3_,i64_w,i32_w];rfl
        refine pure_ (i:=5) (N:=some 35) (v:=?_) (a':=?_) #[true,true,true,true,false,true,false,false] rfl rfl (any_of HT_.out (by kernel_rfl)) (fun _ _ _ h => h) (Or.inl ⟨by rfl,?_⟩) ?_ ?_;rotate_left
        ·intro w';go_simp;with_reducible rfl
        rotate_left
        ·simp only [Act.put,s1_,s2_,s3_,i64_w,i32_w];rfl
        refine take_ (i:=4) (N:=some 34) (v:=?_) (a':=?_) #[true,true,true,true,true,true,false,false] rfl rfl (take_ofW HT_.out HW_.out (by kernel_rfl)) (fun _ _ _ h => h) (Or.inl ⟨by rfl,?_⟩) hHeld ?_ ?_;rotate_left
        ·rintro w' ⟨s0,s1,s2⟩;go_simp;with_reducible rfl
        rotate_left
        ·simp only [Act.put,s1_,s2_,s3_,i64_w,i32_w];rfl
        refine one_ (i:=6) (N:=some 36) #[true,true,true,true,true,true,true,false] rfl rfl (one_of HT_.out (by kernel_rfl)) (by decide) (fun K hK => ?_);refine goes_ Try.func59 (by kernel_rfl) rfl #[.int .i64 (wrap64 ((wrap64 (x1_1 + 1)) + 1))] (by rfl) rfl rfl (by (try simp only [s4_,s5_,s6_]);first|done|rfl|(simp only [List.length_drop,List.length_take];rfl)) ?_;with_reducible refine (laws_markText.calls k1 (wrap64 ((wrap64 (x1_1 + 1)) + 1)) t397 _ A7.out).mono ?_;rintro e w10 ⟨rfl,hb⟩;refine ⟨_,rfl,?_⟩;replace HB:=A_ (bs_ (by repeat (first|(with_reducible first|exact HB.out|apply pa_|apply pn_|apply pd_)|exact HB.out)) hb)
        (try clear hb)
        (try clear hb2)
        (try clear hk)
        (try clear hi)
        refine hK.out _ _ ⟨((HB.out.cell (wb_ w _ hw396_0)).trans hw396_0),((HB.out.cell (wb_ w _ hw396_1)).trans hw396_1),((HB.out.cell (wb_ w _ hw396_2)).trans hw396_2)⟩ (fun hHeld => ?_);clear hK K;refine norm_ (a':=?_) ?_ ?_;rotate_left
        ·show Act.put _ (some 36) _ = _;simp only [Act.put,s1_,s2_,s3_,i64_w,i32_w];rfl
        refine pure_ (i:=7) (N:=some 37) (v:=?_) (a':=?_) #[true,true,true,true,true,true,true,true] rfl rfl (any_of HT_.out (by kernel_rfl)) (fun _ _ _ h => h) (Or.inl ⟨by rfl,?_⟩) ?_ ?_;rotate_left
        ·intro w';go_simp;with_reducible rfl
        rotate_left
        ·simp only [Act.put,s1_,s2_,s3_,i64_w,i32_w];rfl
        refine done_ (done_of HT_.out (by kernel_rfl)) ?_
        try go_wp2
        go_roundg k1
        case measure => have:=HK1.out;omega
        case rel => exact ⟨(wrap64 ((wrap64 ((wrap64 (x1_1 + 1)) + 1)) + 1)),(wrap64 (x5_1 + 1)),(by first|rfl|(simp;done)|(simp [*];done)),(by first|rfl|(simp;done)|(simp [*];done)),H',⟨by have:=HK1.out;omega⟩,⟨by repeat (first|(with_reducible first|exact HB.out|apply pa_|apply pn_|apply pd_)|exact HB.out)⟩⟩
       ·rw [if_neg c8] at H;have c8b0 : (((rd_T69 l0 x5_1).f2).toList == t397.toList) = false:=beq_eq_false_iff_ne.mpr c8;have c8b1 : (((rd_T69 l0 x5_1).f2).toList != t397.toList) = true:=bne_iff_ne.mpr c8;obtain rfl:=Option.some.inj H;have p394 : 0 ≤ (x5_1 : Int):=oda_;have q394 : x5_1 < (l0.length : Int):=oda_;obtain ⟨ad394,e394,hx394_0,hx394_1,hx394_2⟩:=at_T69 HR0.out x5_1 p394 q394
        cases e394
        replace hx394_0:=(HB.out.cell (wb_ w _ hx394_0)).trans hx394_0;replace hx394_1:=(HB.out.cell (wb_ w _ hx394_1)).trans hx394_1;replace hx394_2:=(HB.out.cell (wb_ w _ hx394_2)).trans hx394_2;replace p394:=eq_true p394;replace q394:=eq_true q394;have p395 : 0 ≤ (x5_1 : Int):=oda_;have q395 : x5_1 < (l0.length : Int):=oda_;obtain ⟨ad395,e395,hx395_0,hx395_1,hx395_2⟩:=at_T69 HR0.out x5_1 p395 q395;obtain rfl : ad394 = ad395:=(by injection e395);replace hx395_0:=(HB.out.cell (wb_ w _ hx395_0)).trans hx395_0;replace hx395_1:=(HB.out.cell (wb_ w _ hx395_1)).trans hx395_1;replace hx395_2:=(HB.out.cell (wb_ w _ hx395_2)).trans hx395_2;replace p395:=eq_true p395;replace q395:=eq_true q395
        try go_wp2
        replace HB:=A_ (pd_ HB.out);have p396 : 0 ≤ (x5_1 : Int):=oda_;have q396 : x5_1 < (l0.length : Int):=oda_;obtain ⟨ad396,e396,hx396_0,hx396_1,hx396_2⟩:=at_T69 HR0.out x5_1 p396 q396;have hw396_2:=hx396_2;have hw396_1:=hx396_1;have hw396_0:=hx396_0;obtain rfl : ad394 = ad396:=(by injection e396);replace hx396_0:=(HB.out.cell (wb_ w _ hx396_0)).trans hx396_0;replace hx396_1:=(HB.out.cell (wb_ w _ hx396_1)).trans hx396_1;replace hx396_2:=(HB.out.cell (wb_ w _ hx396_2)).trans hx396_2;replace p396:=eq_true p396;replace q396:=eq_true q396;refine start_ (n:=8) (S:=fun w' => w'.cell? (ad394.add ((x5_1).toNat * 3)) = some (.int .i64 ((rd_T69 l0 x5_1).f0)) ∧ w'.cell? ⟨(ad394.add ((x5_1).toNat * 3)).block,(ad394.add ((x5_1).toNat * 3)).off + 1,none⟩ = some (.int .i64 ((rd_T69 l0 x5_1).f1)) ∧ w'.cell? ⟨(ad394.add ((x5_1).toNat * 3)).block,(ad394.add ((x5_1).toNat * 3)).off + 2,none⟩ = some (.string ((rd_T69 l0 x5_1).f2))) (ds:=[]) #[false,false,false,false,false,false,false,false] (by kernel_rfl) rfl rfl ⟨((HB.out.cell (wb_ w _ hw396_0)).trans hw396_0),((HB.out.cell (wb_ w _ hw396_1)).trans hw396_1),((HB.out.cell (wb_ w _ hw396_2)).trans hw396_2)⟩ (fun hHeld => ?_);refine with_tabW laws_heldEntryS.tab10 laws_heldEntryS.bits10 (fun HT_ HW_ => ?_);generalize wr.drew = w11 at HB hx396_0 hx396_1 hx396_2 hHeld ⊢;refine pure_ (i:=0) (N:=some 30) (v:=?_) (a':=?_) #[true,false,false,false,false,false,false,false] rfl rfl (any_of HT_.out (by kernel_rfl)) (fun _ _ _ h => h) (Or.inl ⟨by rfl,?_⟩) ?_ ?_;rotate_left
        ·intro w';go_simp;with_reducible rfl
        rotate_left
        ·simp only [Act.put,s1_,s2_,s3_,i64_w,i32_w];rfl
        refine pure_ (i:=1) (N:=some 31) (v:=?_) (a':=?_) #[true,true,false,false,false,false,false,false] rfl rfl (any_of HT_.out (by kernel_rfl)) (fun _ _ _ h => h) (Or.inl ⟨by rfl,?_⟩) ?_ ?_;rotate_left
        ·intro w';go_simp;with_reducible rfl
        rotate_left
        ·simp only [Act.put,s1_,s2_,s3_,i64_w,i32_w];rfl
        refine pure_ (i:=2) (N:=some 32) (v:=?_) (a':=?_) #[true,true,true,false,false,false,false,false] rfl rfl (any_of HT_.out (by kernel_rfl)) (fun _ _ _ h => h) (Or.inl ⟨by rfl,?_⟩) ?_ ?_;rotate_left
        ·intro w';go_simp;with_reducible rfl
        rotate_left
        ·simp only [Act.put,s1_,s2_,s3_,i64_w,i32_w];rfl
        refine pure_ (i:=3) (N:=some 33) (v:=?_) (a':=?_) #[true,true,true,true,false,false,false,false] rfl rfl (any_of HT_.out (by kernel_rfl)) (fun _ _ _ h => h) (Or.inl ⟨by rfl,?_⟩) ?_ ?_;rotate_left
        ·intro w';go_simp;with_reducible rfl
        rotate_left
        ·simp only [Act.put,s1_,s2_,s3_,i64_w,i32_w];rfl
        refine pure_ (i:=5) (N:=some 35) (v:=?_) (a':=?_) #[true,true,true,true,false,true,false,false] rfl rfl (any_of HT_.out (by kernel_rfl)) (fun _ _ _ h => h) (Or.inl ⟨by rfl,?_⟩) ?_ ?_;rotate_left
        ·intro w';go_simp;with_reducible rfl
        rotate_left
        ·simp only [Act.put,s1_,s2_,s3_,i64_w,i32_w];rfl
        refine take_ (i:=4) (N:=some 34) (v:=?_) (a':=?_) #[true,true,true,true,true,true,false,false] rfl rfl (take_ofW HT_.out HW_.out (by kernel_rfl)) (fun _ _ _ h => h) (Or.inl ⟨by rfl,?_⟩) hHeld ?_ ?_;rotate_left
        ·rintro w' ⟨s0,s1,s2⟩;go_simp;with_reducible rfl
        rotate_left
        ·simp only [Act.put,s1_,s2_,s3_,i64_w,i32_w];rfl
        refine one_ (i:=6) (N:=some 36) #[true,true,true,true,true,true,true,false] rfl rfl (one_of HT_.out (by kernel_rfl)) (by decide) (fun K hK => ?_);refine goes_ Try.func59 (by kernel_rfl) rfl #[.int .i64 (wrap64 ((wrap64 (x1_1 + 1)) + 1))] (by rfl) rfl rfl (by (try simp only [s4_,s5_,s6_]);first|done|rfl|(simp only [List.length_drop,List.length_take];rfl)) ?_;with_reducible refine (laws_markText.calls k1 (wrap64 ((wrap64 (x1_1 + 1)) + 1)) t397 _ A7.out).mono ?_;rintro e w12 ⟨rfl,hb⟩;refine ⟨_,rfl,?_⟩;replace HB:=A_ (bs_ (by repeat (first|(with_reducible first|exact HB.out|apply pa_|apply pn_|apply pd_)|exact HB.out)) hb)
        (try clear hb)
        (try clear hb2)
        (try clear hk)
        (try clear hi)
        refine hK.out _ _ ⟨((HB.out.cell (wb_ w _ hw396_0)).trans hw396_0),((HB.out.cell (wb_ w _ hw396_1)).trans hw396_1),((HB.out.cell (wb_ w _ hw396_2)).trans hw396_2)⟩ (fun hHeld => ?_);clear hK K;refine norm_ (a':=?_) ?_ ?_;rotate_left
        ·show Act.put _ (some 36) _ = _;simp only [Act.put,s1_,s2_,s3_,i64_w,i32_w];rfl
        refine pure_ (i:=7) (N:=some 37) (v:=?_) (a':=?_) #[true,true,true,true,true,true,true,true] rfl rfl (any_of HT_.out (by kernel_rfl)) (fun _ _ _ h => h) (Or.inl ⟨by rfl,?_⟩) ?_ ?_;rotate_left
        ·intro w';go_simp;with_reducible rfl
        rotate_left
        ·simp only [Act.put,s1_,s2_,s3_,i64_w,i32_w];rfl
        refine done_ (done_of HT_.out (by kernel_rfl)) ?_
        try go_wp2
        go_ret;exact ⟨by first|rfl|(simp [*,errW_none,errW_some] <;> rfl),by repeat (first|(with_reducible first|exact HB.out|apply pa_|apply pn_|apply pd_)|exact HB.out)⟩
      ·rw [if_neg c6] at H;have c6b0 : (((rd_T69 l0 x5_1).f1) == (wrap64 (x1_1 + 1))) = false:=beq_eq_false_iff_ne.mpr c6;have c6b1 : (((rd_T69 l0 x5_1).f1) != (wrap64 (x1_1 + 1))) = true:=bne_iff_ne.mpr c6;obtain rfl:=Option.some.inj H;have p394 : 0 ≤ (x5_1 : Int):=oda_;have q394 : x5_1 < (l0.length : Int):=oda_;obtain ⟨ad394,e394,hx394_0,hx394_1,hx394_2⟩:=at_T69 HR0.out x5_1 p394 q394
       cases e394
       replace hx394_0:=(HB.out.cell (wb_ w _ hx394_0)).trans hx394_0;replace hx394_1:=(HB.out.cell (wb_ w _ hx394_1)).trans hx394_1;replace hx394_2:=(HB.out.cell (wb_ w _ hx394_2)).trans hx394_2;replace p394:=eq_true p394;replace q394:=eq_true q394;have p395 : 0 ≤ (x5_1 : Int):=oda_;have q395 : x5_1 < (l0.length : Int):=oda_;obtain ⟨ad395,e395,hx395_0,hx395_1,hx395_2⟩:=at_T69 HR0.out x5_1 p395 q395;obtain rfl : ad394 = ad395:=(by injection e395);replace hx395_0:=(HB.out.cell (wb_ w _ hx395_0)).trans hx395_0;replace hx395_1:=(HB.out.cell (wb_ w _ hx395_1)).trans hx395_1;replace hx395_2:=(HB.out.cell (wb_ w _ hx395_2)).trans hx395_2;replace p395:=eq_true p395;replace q395:=eq_true q395;go_wp2;go_ret;exact ⟨by first|rfl|(simp [*,errW_none,errW_some] <;> rfl),by repeat (first|(with_reducible first|exact HB.out|apply pa_|apply pn_|apply pd_)|exact HB.out)⟩
     ·rw [if_neg c5] at H;have c5b0 : (((rd_T69 l0 x5_1).f0) == x1_1) = false:=beq_eq_false_iff_ne.mpr c5;have c5b1 : (((rd_T69 l0 x5_1).f0) != x1_1) = true:=bne_iff_ne.mpr c5;obtain rfl:=Option.some.inj H;have p394 : 0 ≤ (x5_1 : Int):=oda_;have q394 : x5_1 < (l0.length : Int):=oda_;obtain ⟨ad394,e394,hx394_0,hx394_1,hx394_2⟩:=at_T69 HR0.out x5_1 p394 q394
      cases e394
      replace hx394_0:=(HB.out.cell (wb_ w _ hx394_0)).trans hx394_0;replace hx394_1:=(HB.out.cell (wb_ w _ hx394_1)).trans hx394_1;replace hx394_2:=(HB.out.cell (wb_ w _ hx394_2)).trans hx394_2;replace p394:=eq_true p394;replace q394:=eq_true q394;go_wp2;go_ret;exact ⟨by first|rfl|(simp [*,errW_none,errW_some] <;> rfl),by repeat (first|(with_reducible first|exact HB.out|apply pa_|apply pn_|apply pd_)|exact HB.out)⟩
    ·rw [if_neg c4] at H;exact absurd H (by simp)
   ·rw [if_neg c3] at H;have c3b0 : decide (x5_1 < (l0.length : Int)) = false:=decide_eq_false c3;clear c3;obtain rfl:=Option.some.inj H;go_wp2;go_ret;exact ⟨by first|rfl|(simp [*,errW_none,errW_some] <;> rfl),by repeat (first|(with_reducible first|exact HB.out|apply pa_|apply pn_|apply pd_)|exact HB.out)⟩
def laws_heldLog.f (k : Nat) (a0_0 : Int) (a0_1 : Int) (l0_2 : List (S69)) (a1 : Int) : Option (Int) := (laws_heldEntryS.f k l0_2 a1).bind fun t399 => (if t399 < 0 then (some (-1)) else (some t399))
theorem laws_heldLog.mono : ∀ a0 a1 a2 a3 k, LeO (laws_heldLog.f k a0 a1 a2 a3) (laws_heldLog.f (k + 1) a0 a1 a2 a3) := by
 intro a0 a1 a2 a3 k
 unfold laws_heldLog.f
 repeat' first
   | (with_reducible exact laws_heldEntryS.mono _ _ _)
   | (with_reducible exact LeO.refl _)
   | (with_reducible exact LeO.none _)
   | (with_reducible refine LeO.ite ?_ ?_)
   | (with_reducible refine LeO.bind ?_ (fun _ => ?_))
set_option maxHeartbeats 8000000 in
set_option maxRecDepth 100000 in
theorem laws_heldLog.calls (k : Nat) (a0_0 : Int) (a0_1 : Int) (A0_2 : Option Addr) (c0_2 : Nat) (l0_2 : List (S69)) (a1 : Int) (r : Int) (w : World) (hr0_2 : Kd.C k69 w A0_2 l0_2.length l0_2) (hc0_2 : l0_2.length ≤ c0_2) (h : laws_heldLog.f k a0_0 a0_1 l0_2 a1 = some r) :
  Calls Try.prog 12 #[.agg #[.int .i64 a0_0,.int .i64 a0_1,.slice A0_2 l0_2.length c0_2],.int .i64 a1] w fun e w' => e = .returned (.int .i64 r) ∧ Below w.heap.size w w':=by
 have hu24:=Try.underlying24;have HR0_2:=A_ hr0_2;have HC0_2:=A_ hc0_2;clear hr0_2 hc0_2;have HB:=A_ (Below.refl w.heap.size w);have H : ((laws_heldEntryS.f k l0_2 a1).bind fun t399 => (if t399 < 0 then (some (-1)) else (some t399))) = some r:=h;clear h;replace H:=ob_.mp H;obtain ⟨t399,A30,H⟩:=H;replace H : (if t399 < 0 then (some (-1)) else (some t399)) = some r:=H;have A3:=A_ A30;clear A30
 by_cases c4 : t399 < 0
 ·rw [if_pos c4] at H;have c4b0 : decide (t399 < 0) = true:=de_ c4;clear c4;obtain rfl:=Option.some.inj H;go_enter Try.func12,Try.ntmps12
  go_wp2_with (first|((with_reducible refine gate_dst (N:=2) rfl ?_);refine box_event ?hg (N:=2) ?hd (cs:=#[.int .i64 a0_0,.int .i64 a0_1,.slice A0_2 l0_2.length c0_2]) (t:=24) ?hr ?_;(case hd => rfl);(case hg => rfl);(case hr => first|(go_simp;done)|(go_simp;rfl));intro gb398 hg w5 hbox hb;have BK398:=A_ (hbox);have GW398:=A_ ((by rw [hg];exact (bz_ (by repeat (first|(with_reducible first|exact HB.out|apply pa_|apply pn_|apply pd_)|exact HB.out))) : w.heap.size ≤ gb398));have GE398:=A_ ((by rw [hg];exact (bz_ (by repeat (first|(with_reducible first|exact HB.out|apply pa_|apply pn_|apply pd_)|exact HB.out))) : w.heap.size ≤ gb398));replace HB:=A_ (bs_ (by repeat (first|(with_reducible first|exact HB.out|apply pa_|apply pn_|apply pd_)|exact HB.out)) hb);clear hb hbox hg;have hcz6_0 : w5.cell? ⟨gb398,0,none⟩ = some (.int .i64 a0_0):=(kc_ BK398.out 0).trans rfl;have hcz6_1 : w5.cell? ⟨gb398,1,none⟩ = some (.int .i64 a0_1):=(kc_ BK398.out 1).trans rfl;have hcz6_2 : w5.cell? ⟨gb398,2,none⟩ = some (.slice A0_2 l0_2.length c0_2):=(kc_ BK398.out 2).trans rfl;have hfz6_0:=kf_ BK398.out 0;have hfz6_1:=kf_ BK398.out 1;have hfz6_2:=kf_ BK398.out 2)|((with_reducible refine gate_callee (f:=51) rfl ?_);refine goesL_ (some 8) rfl rfl Try.func51 (by kernel_rfl) rfl #[.slice A0_2 l0_2.length c0_2,.int .i64 a1] rfl (by (try simp only [s4_,s5_,s6_]);first|done|rfl|(simp only [List.length_drop,List.length_take];rfl)) ?_;(with_reducible refine (laws_heldEntryS.calls k _ _ l0_2 a1 t399 _ ?side1 ?side2 A3.out).mono ?_);(case side1 => repeat (first|exact (Kd.C_below HR0_2.out HB.out)|(with_reducible refine Kd.C_alloc ?_ _)|(with_reducible refine Kd.C_drewN ?_ _)|(with_reducible refine Kd.C_drew ?_)));(case side2 => exact HC0_2.out);rintro e w7 ⟨rfl,hb⟩;refine ⟨_,rfl,?_⟩;replace BK398:=A_ (kb_ (by (with_reducible repeat (first|refine kn_ ?_ _|refine kd_ ?_|refine ka_ ?_ _));exact BK398.out) hb);replace HB:=A_ (bs_ (by repeat (first|(with_reducible first|exact HB.out|apply pa_|apply pn_|apply pd_|refine ps_ ?_ GE398.out)|exact HB.out)) hb);(try clear hb);(try clear hb2);(try clear hk);(try clear hi)))
  go_ret;exact ⟨by first|rfl|(simp [*,errW_none,errW_some] <;> rfl),by repeat (first|(with_reducible first|exact HB.out|apply pa_|apply pn_|apply pd_|refine ps_ ?_ GE398.out)|exact HB.out)⟩
 ·rw [if_neg c4] at H;have c4b0 : decide (t399 < 0) = false:=decide_eq_false c4;clear c4;obtain rfl:=Option.some.inj H;go_enter Try.func12,Try.ntmps12
  go_wp2_with (first|((with_reducible refine gate_dst (N:=2) rfl ?_);refine box_event ?hg (N:=2) ?hd (cs:=#[.int .i64 a0_0,.int .i64 a0_1,.slice A0_2 l0_2.length c0_2]) (t:=24) ?hr ?_;(case hd => rfl);(case hg => rfl);(case hr => first|(go_simp;done)|(go_simp;rfl));intro gb398 hg w8 hbox hb;have BK398:=A_ (hbox);have GW398:=A_ ((by rw [hg];exact (bz_ (by repeat (first|(with_reducible first|exact HB.out|apply pa_|apply pn_|apply pd_)|exact HB.out))) : w.heap.size ≤ gb398));have GE398:=A_ ((by rw [hg];exact (bz_ (by repeat (first|(with_reducible first|exact HB.out|apply pa_|apply pn_|apply pd_)|exact HB.out))) : w.heap.size ≤ gb398));replace HB:=A_ (bs_ (by repeat (first|(with_reducible first|exact HB.out|apply pa_|apply pn_|apply pd_)|exact HB.out)) hb);clear hb hbox hg;have hcz9_0 : w8.cell? ⟨gb398,0,none⟩ = some (.int .i64 a0_0):=(kc_ BK398.out 0).trans rfl;have hcz9_1 : w8.cell? ⟨gb398,1,none⟩ = some (.int .i64 a0_1):=(kc_ BK398.out 1).trans rfl;have hcz9_2 : w8.cell? ⟨gb398,2,none⟩ = some (.slice A0_2 l0_2.length c0_2):=(kc_ BK398.out 2).trans rfl;have hfz9_0:=kf_ BK398.out 0;have hfz9_1:=kf_ BK398.out 1;have hfz9_2:=kf_ BK398.out 2)|((with_reducible refine gate_callee (f:=51) rfl ?_);refine goesL_ (some 8) rfl rfl Try.func51 (by kernel_rfl) rfl #[.slice A0_2 l0_2.length c0_2,.int .i64 a1] rfl (by (try simp only [s4_,s5_,s6_]);first|done|rfl|(simp only [List.length_drop,List.length_take];rfl)) ?_;(with_reducible refine (laws_heldEntryS.calls k _ _ l0_2 a1 t399 _ ?side1 ?side2 A3.out).mono ?_);(case side1 => repeat (first|exact (Kd.C_below HR0_2.out HB.out)|(with_reducible refine Kd.C_alloc ?_ _)|(with_reducible refine Kd.C_drewN ?_ _)|(with_reducible refine Kd.C_drew ?_)));(case side2 => exact HC0_2.out);rintro e w10 ⟨rfl,hb⟩;refine ⟨_,rfl,?_⟩;replace BK398:=A_ (kb_ (by (with_reducible repeat (first|refine kn_ ?_ _|refine kd_ ?_|refine ka_ ?_ _));exact BK398.out) hb);replace HB:=A_ (bs_ (by repeat (first|(with_reducible first|exact HB.out|apply pa_|apply pn_|apply pd_|refine ps_ ?_ GE398.out)|exact HB.out)) hb);(try clear hb);(try clear hb2);(try clear hk);(try clear hi)))
  go_ret;exact ⟨by first|rfl|(simp [*,errW_none,errW_some] <;> rfl),by repeat (first|(with_reducible first|exact HB.out|apply pa_|apply pn_|apply pd_|refine ps_ ?_ GE398.out)|exact HB.out)⟩
end Go.Proofs.Ytbcgnncbiblibaa.PFnExactReadLog
