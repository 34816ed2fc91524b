/- The contracts of the Go functions that this law reaches: what each call returns, by a plain Lean function of its arguments. No conditions but those each contract names. By the kit's print.py, run by this session's wip/gen/pp.py with facts and hand proofs beside it: not to the letter what print.sh prints. -/
import Derived.Test.YtgpafelepkhdoaaPFnBehindx0
import Derived.Test.YtgpafelepkhdoaaPFnBehindx7
import Derived.Test.YtgpafelepkhdoaaPFnBehindx8
import Derived.Test.YtgpafelepkhdoaaPFnBehindx9
namespace Go.Proofs.Ytgpafelepkhdoaa.PFnBehind
open Go.RowKit Go.Proofs.YtgpafelepkhdoaaW.PrintWords Go.Proofs.YtgpafelepkhdoaaW.PrintLast Go.Proofs.YtgpafelepkhdoaaW.PrintMore
attribute [local go_sem] max2_int min2_int max_two min_two max_three min_three max_four min_four
set_option linter.unusedVariables false
set_option linter.unusedSimpArgs false
theorem conv_below (w : World) (e : TypeId) (s : ByteArray) : Below w.heap.size w (Lib.bytesWorld w e s) := by
 refine ⟨rfl,rfl,rfl,?_,fun i hi => Lib.bytesWorld_at_old w e s i hi⟩;rw [Lib.bytesWorld_size];omega
theorem conv_bytes {P : Program} {ops : Array Oper} {rest : List Oper} {o : Oper} {a : Act} {Q : Exit → Act → World → Prop} {W : World} (hgd : o.guard = none) {N : Tmp} (_hd : o.dst = some N) (src dst e : TypeId) (x : Operand) (ho : o.op = .convert src dst x) (s : ByteArray) (hx : a.eval x = .string s)
  (hs : P.underlying src = some .string) (hdd : P.underlying dst = some (.slice e)) (he : P.underlying e = some (.int .u8)) (hz : s.size ≤ 9223372036854775807)
  (h : ∀ ad cap w1,ReadsInt w1 .u8 (some ad) s.size (bytesOf s) → Below W.heap.size W w1 → wpList P ops Q rest (a.put o.dst (.slice (some ad) s.size cap)) w1) :
  wpList P ops Q (o :: rest) a W:=by
 have hr:=Lib.run_convert_string_bytes (P:=P) W src dst e s hs hdd he
 refine wpList_plain hgd fun K hK => ?_
 unfold Oper.wp execOp
 simp only [ho,Sem.run_bind,Sem.run_pure,Result.andThen_ok,hx,hr];refine hK _ _ (h ⟨W.heap.size,0,none⟩ _ _ ⟨bytesOf_length s,hz,fun hn => ⟨_,rfl,fun j hj => ?_⟩⟩ (conv_below W e s));rw [add_plain,Lib.bytesWorld_cell W e s j hj]
 simp [bytesOf,List.getD_eq_getElem?_getD]
 cases s.data[j]? <;> rfl
def spec_l12Frames.l0 : Nat → List Int → Int → Int → Int → List (S37) → Option (ByteArray)
 | 0,_,_,_,_,_ => none
 | k + 1,x5,x6,x211000,x211001,x211002 => if x6 < (x211002.length : Int) then (if 0 ≤ x6 then ((spec_EntryText.f k (wrap64 ((wrap64 (x211000 + 1)) + x6)) ((rd_T37 x211002 x6).f0) ((rd_T37 x211002 x6).f1) ((rd_T37 x211002 x6).f2)).bind fun bt215 => ((spec_Frame.f k bt215.1).bind fun bt217 => (if x5.length + bt217.1.size < 140737488355328 then (spec_l12Frames.l0 k (x5 ++ bytesOf bt217.1) (wrap64 (x6 + 1)) x211000 x211001 x211002) else (none)))) else (none)) else (some (strOfNums x5))
def spec_l12Frames.f (k : Nat) (a0_0 : Int) (a0_1 : Int) (l0_2 : List (S37)) (a1 : Int) : Option (ByteArray) := spec_l12Frames.l0 k (([] : List Int)) a1 a0_0 a0_1 l0_2
theorem spec_l12Frames.mono_l : ∀ k, (∀ y0 y1 y2 y3 y4, LeO (spec_l12Frames.l0 k y0 y1 y2 y3 y4) (spec_l12Frames.l0 (k + 1) y0 y1 y2 y3 y4))
 | 0 => fun _ _ _ _ _ r h => by simp [spec_l12Frames.l0] at h
 | k + 1 => by
  have ih0:=spec_l12Frames.mono_l k
  ·intro y0 y1 y2 y3 y4
   unfold spec_l12Frames.l0
   repeat' first
   | (with_reducible exact ih0 _ _ _ _ _)
   | (with_reducible exact spec_EntryText.mono _ _ _ _ _)
   | (with_reducible exact spec_Frame.mono _ _)
   | (with_reducible exact LeO.refl _)
   | (with_reducible exact LeO.none _)
   | (with_reducible refine LeO.ite ?_ ?_)
   | (with_reducible refine LeO.bind ?_ (fun _ => ?_))
theorem spec_l12Frames.mono : ∀ a0 a1 a2 a3 k, LeO (spec_l12Frames.f k a0 a1 a2 a3) (spec_l12Frames.f (k + 1) a0 a1 a2 a3) := by
 intro a0 a1 a2 a3 k;have ih0:=spec_l12Frames.mono_l k
 unfold spec_l12Frames.f
 repeat' first
   | (with_reducible exact ih0 _ _ _ _ _)
   | (with_reducible exact spec_EntryText.mono _ _ _ _ _)
   | (with_reducible exact spec_Frame.mono _ _)
   | (with_reducible exact LeO.refl _)
   | (with_reducible exact LeO.none _)
   | (with_reducible refine LeO.ite ?_ ?_)
   | (with_reducible refine LeO.bind ?_ (fun _ => ?_))
def spec_l12Frames.T5 : Bool × List (List Nat × List Nat) := (true, [([], []), ([0], [0]), ([1], [1]), ([], []), ([2, 3], [2, 3]), ([], []), ([5], [5]), ([], []), ([6, 7], [6, 7]), ([8], [8]), ([4, 9], [4, 9]), ([10], [10]), ([11], [11]), ([11], [11]), ([12, 10, 0, 1, 2, 3, 4, 5, 6, 7, 8, 9, 10, 11, 12], [12]), ([13, 14, 0, 1, 2, 3, 4, 5, 6, 7, 8, 9, 10, 11, 12, 13, 14], [13])])
def spec_l12Frames.B5 : List Nat := [0, 1, 3, 0, 15, 0, 32, 0, 224, 480, 1023, 2047, 4095, 4095, 8191, 32767]
theorem spec_l12Frames.tab5 : rtab .any (opsOf Try.f116 5) = spec_l12Frames.T5 := by kernel_rfl
theorem spec_l12Frames.bits5 : waitsOk spec_l12Frames.T5.2 spec_l12Frames.B5 = true := by kernel_rfl
set_option maxHeartbeats 8000000 in
set_option maxRecDepth 100000 in
theorem spec_l12Frames.calls (k : Nat) (a0_0 : Int) (a0_1 : Int) (A0_2 : Option Addr) (c0_2 : Nat) (l0_2 : List (S37)) (a1 : Int) (r : ByteArray) (w : World) (hr0_2 : Kd.C k37 w A0_2 l0_2.length l0_2) (hc0_2 : l0_2.length ≤ c0_2) (h : spec_l12Frames.f k a0_0 a0_1 l0_2 a1 = some r) :
  Calls Try.prog 116 #[.agg #[.int .i64 a0_0,.int .i64 a0_1,.slice A0_2 l0_2.length c0_2],.int .i64 a1] w fun e w' => e = .returned (.string r) ∧ Below w.heap.size w w':=by
 have hu60:=Try.underlying60;have hu37:=Try.underlying37;have HR0_2:=A_ hr0_2;have HC0_2:=A_ hc0_2;clear hr0_2 hc0_2;have HB:=A_ (Below.refl w.heap.size w);have H : (spec_l12Frames.l0 k (([] : List Int)) a1 a0_0 a0_1 l0_2) = some r:=h;clear h;obtain ⟨y211,hy211⟩ : ∃ y_ : List Int,y_ = (([] : List Int)):=⟨_,rfl⟩
 replace H : (spec_l12Frames.l0 k y211 a1 a0_0 a0_1 l0_2) = some r:=by first|(rw [hy211];with_reducible exact H)|(have H2_:=(Option.bind_some _ _).symm.trans H;rw [hy211];with_reducible exact H2_)|(have H2_:=(Option.bind_some _ _).symm.trans H;with_reducible exact H2_)|with_reducible exact H|(rw [hy211];exact H)|exact H
 have Ny211:=A_ hy211;clear hy211;have H':=A_ H;clear H;go_enter Try.func116,Try.ntmps116
 go_wp2_with (first|((with_reducible refine gate_dst (N:=2) rfl ?_);refine box_event ?hg (N:=2) ?hd (cs:=#[.int .i64 a0_0,.int .i64 a0_1,.slice A0_2 l0_2.length c0_2]) (t:=60) ?hr ?_;(case hd => rfl);(case hg => rfl);(case hr => exact gx_);intro gb210 hg w3 hbox hb;have BK210:=A_ (hbox);have GW210:=A_ ((by rw [hg];exact (bz_ (bq_ HB)) : w.heap.size ≤ gb210));have GE210:=A_ ((by rw [hg];exact (bz_ (bq_ HB)) : w.heap.size ≤ gb210));replace HB:=A_ (bs_ (bq_ HB) hb);clear hb hbox hg)|((with_reducible refine gate_dst (N:=11) rfl ?_);refine Kd.R_lit (Kd.int .u8) _ 5 ?hg (N:=11) ?hd (xs:=([] : List Int)) (inner:=[]) (ok:=fun _ => True) (okp:=fun _ => True) ?hr ?hp (fun _ hk => hk) trivial (Below.refl _ _) (Nat.le_refl _) (by simp) ?_;(case hd => rfl);(case hg => rfl);(case hr => exact gx_);(case hp => exact (Reps.none _ _));intro v212 w4 ho5 hb hg_ hnew_;clear hg_ hnew_;(first|rw [← Ny211.out] at ho5|(simp only [Int.reduceToNat] at ho5;rw [← Ny211.out] at ho5));have HO213:=A_ (rw_ ho5 (bz_ (bq_ HB)));replace BK210:=A_ (kb_ (kq_ BK210) hb);replace HB:=A_ (bs_ (bq_ HB) hb);clear hb ho5))
 go_loopg [5,6] k (fun kq v5 v6 w' => ∃ (x5_1 : List Int) (x6_1 : Int),v6 = .int .i64 x6_1 ∧ Aside0 (spec_l12Frames.l0 kq x5_1 x6_1 a0_0 a0_1 l0_2 = some r) ∧ Aside0 (kq ≤ k) ∧ Aside0 (Kd.R (Kd.int .u8) 5 w' w.heap.size (fun _ => True) v5 x5_1) ∧ Aside0 (w'.heap[gb210]? = some (.cells #[.int .i64 a0_0,.int .i64 a0_1,(.slice A0_2 l0_2.length c0_2)] 60 (0,0))) ∧ Aside0 (Below w.heap.size w w'))
 case atStart => exact ⟨(y211),(a1),(by first|rfl|(simp;done)|(simp [*];done)),H',⟨Nat.le_refl _⟩,⟨by (with_reducible repeat (first|apply ra_|apply rn_|apply Rd_));exact HO213.out⟩,⟨kq_ BK210⟩,⟨bq_ HB⟩⟩
 case round =>
  clear H'
  try clear c1
  try clear p2
  obtain ⟨x5_1,x6_1,rfl,HA,HK1,HO_5,BK210,HB⟩:=hrel
  cases gk with
  | zero => exact absurd HA.out (by simp [spec_l12Frames.l0])
  | succ k1 =>
   have H:=HA.out;clear HA;simp only [spec_l12Frames.l0] at H
   by_cases c6 : x6_1 < (l0_2.length : Int)
   ·rw [if_pos c6] at H;have c6b0 : decide (x6_1 < (l0_2.length : Int)) = true:=de_ c6;clear c6
    by_cases c7 : 0 ≤ x6_1
    ·rw [if_pos c7] at H;have c7b0 : decide (0 ≤ x6_1) = true:=de_ c7;clear c7;replace H:=ob_.mp H;obtain ⟨⟨t215,t216⟩,A80,H⟩:=H;replace H : ((spec_Frame.f k1 t215).bind fun bt217 => (if x5_1.length + bt217.1.size < 140737488355328 then (spec_l12Frames.l0 k1 (x5_1 ++ bytesOf bt217.1) (wrap64 (x6_1 + 1)) a0_0 a0_1 l0_2) else (none))) = some r:=H;have A8:=A_ A80;clear A80;replace H:=ob_.mp H;obtain ⟨⟨t217,t218⟩,A90,H⟩:=H;replace H : (if x5_1.length + t217.size < 140737488355328 then (spec_l12Frames.l0 k1 (x5_1 ++ bytesOf t217) (wrap64 (x6_1 + 1)) a0_0 a0_1 l0_2) else (none)) = some r:=H;have A9:=A_ A90;clear A90
     by_cases c10 : x5_1.length + t217.size < 140737488355328
     ·rw [if_pos c10] at H;have LMc10:=A_ c10;clear c10;obtain ⟨y219,hy219⟩ : ∃ y_ : List Int,y_ = (x5_1 ++ bytesOf t217):=⟨_,rfl⟩
      replace H : (spec_l12Frames.l0 k1 y219 (wrap64 (x6_1 + 1)) a0_0 a0_1 l0_2) = some r:=by first|(rw [hy219];with_reducible exact H)|(have H2_:=(Option.bind_some _ _).symm.trans H;rw [hy219];with_reducible exact H2_)|(have H2_:=(Option.bind_some _ _).symm.trans H;with_reducible exact H2_)|with_reducible exact H|(rw [hy219];exact H)|exact H
      have Ny219:=A_ hy219;clear hy219;have H':=A_ H;clear H;have hcz11_0:=kC_ BK210 0;have hcz11_1:=kC_ BK210 1;have hcz11_2:=kC_ BK210 2;have hfz11_0:=kf_ BK210.out 0;have hfz11_1:=kf_ BK210.out 1;have hfz11_2:=kf_ BK210.out 2
      try go_wp2
      replace HO_5:=A_ (Rd_ HO_5.out);replace BK210:=A_ (kd_ BK210.out);replace HB:=A_ (pd_ HB.out);have p214 : 0 ≤ (x6_1 : Int):=oda_;have q214 : x6_1 < (l0_2.length : Int):=oda_;obtain ⟨ad214,e214,hx214_0,hx214_1,hx214_2⟩:=at_T37 HR0_2.out x6_1 p214 q214;have hw214_2:=hx214_2;have hw214_1:=hx214_1;have hw214_0:=hx214_0
      cases e214
      replace hx214_0:=(HB.out.cell (wb_ w _ hx214_0)).trans hx214_0;replace hx214_1:=(HB.out.cell (wb_ w _ hx214_1)).trans hx214_1;replace hx214_2:=(HB.out.cell (wb_ w _ hx214_2)).trans hx214_2;replace p214:=eq_true p214;replace q214:=eq_true q214;refine start_ (n:=16) (S:=fun w' => w'.cell? ⟨gb210,0,none⟩ = some (.int .i64 a0_0) ∧ w'.cell? ⟨gb210,1,none⟩ = some (.int .i64 a0_1) ∧ w'.cell? ⟨gb210,2,none⟩ = some (.slice (some ad214) l0_2.length c0_2) ∧ w'.cell? (ad214.add ((x6_1).toNat * 3)) = some (.int .i64 ((rd_T37 l0_2 x6_1).f0)) ∧ w'.cell? ⟨(ad214.add ((x6_1).toNat * 3)).block,(ad214.add ((x6_1).toNat * 3)).off + 1,none⟩ = some (.int .i64 ((rd_T37 l0_2 x6_1).f1)) ∧ w'.cell? ⟨(ad214.add ((x6_1).toNat * 3)).block,(ad214.add ((x6_1).toNat * 3)).off + 2,none⟩ = some (.string ((rd_T37 l0_2 x6_1).f2))) (ds:=[]) #[false,false,false,false,false,false,false,false,false,false,false,false,false,false,false,false] (by kernel_rfl) rfl rfl ⟨kC_ BK210 0,kC_ BK210 1,kC_ BK210 2,((HB.out.cell (wb_ w _ hw214_0)).trans hw214_0),((HB.out.cell (wb_ w _ hw214_1)).trans hw214_1),((HB.out.cell (wb_ w _ hw214_2)).trans hw214_2)⟩ (fun hHeld => ?_);refine with_tabW spec_l12Frames.tab5 spec_l12Frames.bits5 (fun HT_ HW_ => ?_);generalize wr.drew = w12 at HO_5 BK210 HB hx214_0 hx214_1 hx214_2 hHeld ⊢;refine pure_ (i:=0) (N:=some 21) (v:=?_) (a':=?_) #[true,false,false,false,false,false,false,false,false,false,false,false,false,false,false,false] rfl rfl (any_of HT_.out (by kernel_rfl)) (fun _ _ _ h => h) (Or.inl ⟨by rfl,?_⟩) ?_ ?_;rotate_left
      ·intro w';go_simp;with_reducible rfl
      rotate_left
      ·exact ux_
      refine pure_ (i:=3) (N:=some 24) (v:=?_) (a':=?_) #[true,false,false,true,false,false,false,false,false,false,false,false,false,false,false,false] rfl rfl (any_of HT_.out (by kernel_rfl)) (fun _ _ _ h => h) (Or.inl ⟨by rfl,?_⟩) ?_ ?_;rotate_left
      ·intro w';go_simp;with_reducible rfl
      rotate_left
      ·exact ux_
      refine pure_ (i:=5) (N:=some 26) (v:=?_) (a':=?_) #[true,false,false,true,false,true,false,false,false,false,false,false,false,false,false,false] rfl rfl (any_of HT_.out (by kernel_rfl)) (fun _ _ _ h => h) (Or.inl ⟨by rfl,?_⟩) ?_ ?_;rotate_left
      ·intro w';go_simp;with_reducible rfl
      rotate_left
      ·exact ux_
      refine pure_ (i:=7) (N:=some 28) (v:=?_) (a':=?_) #[true,false,false,true,false,true,false,true,false,false,false,false,false,false,false,false] rfl rfl (any_of HT_.out (by kernel_rfl)) (fun _ _ _ h => h) (Or.inl ⟨by rfl,?_⟩) ?_ ?_;rotate_left
      ·intro w';go_simp;with_reducible rfl
      rotate_left
      ·exact ux_
      refine take_ (i:=1) (N:=some 22) (v:=?_) (a':=?_) #[true,true,false,true,false,true,false,true,false,false,false,false,false,false,false,false] rfl rfl (take_ofW HT_.out HW_.out (by kernel_rfl)) (fun _ _ _ h => h) (Or.inl ⟨by rfl,?_⟩) hHeld ?_ ?_;rotate_left
      ·rintro w' ⟨s0,s1,s2,s3,s4,s5⟩;go_simp;with_reducible rfl
      rotate_left
      ·exact ux_
      refine pure_ (i:=2) (N:=some 23) (v:=?_) (a':=?_) #[true,true,true,true,false,true,false,true,false,false,false,false,false,false,false,false] rfl rfl (any_of HT_.out (by kernel_rfl)) (fun _ _ _ h => h) (Or.inl ⟨by rfl,?_⟩) ?_ ?_;rotate_left
      ·intro w';go_simp;with_reducible rfl
      rotate_left
      ·exact ux_
      refine pure_ (i:=4) (N:=some 25) (v:=?_) (a':=?_) #[true,true,true,true,true,true,false,true,false,false,false,false,false,false,false,false] rfl rfl (any_of HT_.out (by kernel_rfl)) (fun _ _ _ h => h) (Or.inl ⟨by rfl,?_⟩) ?_ ?_;rotate_left
      ·intro w';go_simp;with_reducible rfl
      rotate_left
      ·exact ux_
      refine take_ (i:=6) (N:=some 27) (v:=?_) (a':=?_) #[true,true,true,true,true,true,true,true,false,false,false,false,false,false,false,false] rfl rfl (take_ofW HT_.out HW_.out (by kernel_rfl)) (fun _ _ _ h => h) (Or.inl ⟨by rfl,?_⟩) hHeld ?_ ?_;rotate_left
      ·rintro w' ⟨s0,s1,s2,s3,s4,s5⟩;go_simp;with_reducible rfl
      rotate_left
      ·exact ux_
      refine pure_ (i:=8) (N:=some 29) (v:=?_) (a':=?_) #[true,true,true,true,true,true,true,true,true,false,false,false,false,false,false,false] rfl rfl (any_of HT_.out (by kernel_rfl)) (fun _ _ _ h => h) (Or.inl ⟨by rfl,?_⟩) ?_ ?_;rotate_left
      ·intro w';go_simp;with_reducible rfl
      rotate_left
      ·exact ux_
      refine take_ (i:=9) (N:=some 30) (v:=?_) (a':=?_) #[true,true,true,true,true,true,true,true,true,true,false,false,false,false,false,false] rfl rfl (take_ofW HT_.out HW_.out (by kernel_rfl)) (fun _ _ _ h => h) (Or.inl ⟨by rfl,?_⟩) hHeld ?_ ?_;rotate_left
      ·rintro w' ⟨s0,s1,s2,s3,s4,s5⟩;go_simp;with_reducible rfl
      rotate_left
      ·exact ux_
      refine one_ (i:=10) (N:=some 31) #[true,true,true,true,true,true,true,true,true,true,true,false,false,false,false,false] rfl rfl (one_of HT_.out (by kernel_rfl)) (by decide) (fun K hK => ?_);refine goes_ Try.func55 (by kernel_rfl) rfl #[.int .i64 (wrap64 ((wrap64 (a0_0 + 1)) + x6_1)),.agg #[.int .i64 ((rd_T37 l0_2 x6_1).f0),.int .i64 ((rd_T37 l0_2 x6_1).f1),.string ((rd_T37 l0_2 x6_1).f2)]] (by rfl) rfl rfl aq_ ?_;with_reducible refine (spec_EntryText.calls k1 (wrap64 ((wrap64 (a0_0 + 1)) + x6_1)) ((rd_T37 l0_2 x6_1).f0) ((rd_T37 l0_2 x6_1).f1) ((rd_T37 l0_2 x6_1).f2) t215 t216 _ A8.out).mono ?_;rintro e w13 ⟨rfl,hb⟩;refine ⟨_,rfl,?_⟩;replace HO_5:=A_ (rb_ (rq_ HO_5) hb);replace BK210:=A_ (kb_ (kq_ BK210) hb);replace HB:=A_ (bs_ (bq_ HB) hb)
      (try clear hb)
      (try clear hb2)
      (try clear hk)
      (try clear hi)
      refine hK.out _ _ ⟨kC_ BK210 0,kC_ BK210 1,kC_ BK210 2,((HB.out.cell (wb_ w _ hw214_0)).trans hw214_0),((HB.out.cell (wb_ w _ hw214_1)).trans hw214_1),((HB.out.cell (wb_ w _ hw214_2)).trans hw214_2)⟩ (fun hHeld => ?_);clear hK K;refine norm_ (a':=?_) ?_ ?_;rotate_left
      ·show Act.put _ (some 31) _ = _;simp only [Act.put,s1_,s2_,s3_,i64_w,i32_w];rfl
      refine pure_ (i:=11) (N:=some 20) (v:=?_) (a':=?_) #[true,true,true,true,true,true,true,true,true,true,true,true,false,false,false,false] rfl rfl (any_of HT_.out (by kernel_rfl)) (fun _ _ _ h => h) (Or.inl ⟨by rfl,?_⟩) ?_ ?_;rotate_left
      ·intro w';go_simp;with_reducible rfl
      rotate_left
      ·exact ux_
      refine pure_ (i:=12) (N:=some 32) (v:=?_) (a':=?_) #[true,true,true,true,true,true,true,true,true,true,true,true,true,false,false,false] rfl rfl (any_of HT_.out (by kernel_rfl)) (fun _ _ _ h => h) (Or.inl ⟨by rfl,?_⟩) ?_ ?_;rotate_left
      ·intro w';go_simp;with_reducible rfl
      rotate_left
      ·exact ux_
      refine pure_ (i:=13) (N:=some 33) (v:=?_) (a':=?_) #[true,true,true,true,true,true,true,true,true,true,true,true,true,true,false,false] rfl rfl (any_of HT_.out (by kernel_rfl)) (fun _ _ _ h => h) (Or.inl ⟨by rfl,?_⟩) ?_ ?_;rotate_left
      ·intro w';go_simp;with_reducible rfl
      rotate_left
      ·exact ux_
      refine pure_ (i:=14) (N:=some 7) (v:=?_) (a':=?_) #[true,true,true,true,true,true,true,true,true,true,true,true,true,true,true,false] rfl rfl (any_of HT_.out (by kernel_rfl)) (fun _ _ _ h => h) (Or.inl ⟨by rfl,?_⟩) ?_ ?_;rotate_left
      ·intro w';go_simp;with_reducible rfl
      rotate_left
      ·exact ux_
      refine pure_ (i:=15) (N:=some 8) (v:=?_) (a':=?_) #[true,true,true,true,true,true,true,true,true,true,true,true,true,true,true,true] rfl rfl (any_of HT_.out (by kernel_rfl)) (fun _ _ _ h => h) (Or.inl ⟨by rfl,?_⟩) ?_ ?_;rotate_left
      ·intro w';go_simp;with_reducible rfl
      rotate_left
      ·exact ux_
      refine done_ (done_of HT_.out (by kernel_rfl)) ?_
      try go_wp2_with (first|((with_reducible refine gate_callee (f:=79) rfl ?_);refine goesL_ (some 36) rfl rfl Try.func79 (by kernel_rfl) rfl #[.string t215] rfl aq_ ?_;(with_reducible refine (spec_Frame.calls k1 t215 t217 t218 _ A9.out).mono ?_);rintro e w14 ⟨rfl,hb⟩;refine ⟨_,rfl,?_⟩;replace HO_5:=A_ (rb_ (rq_ HO_5) hb);replace BK210:=A_ (kb_ (kq_ BK210) hb);replace HB:=A_ (bs_ (bq_ HB) hb);(try clear hb);(try clear hb2);(try clear hk);(try clear hi))|((with_reducible refine gate_dst (N:=41) rfl ?_);refine conv_bytes (N:=41) rfl rfl 9 22 5 _ rfl t217 rfl Try.underlying9 Try.underlying22 Try.underlying5 (by have:=LMc10.out;omega) ?_;intro adC_ capC_ wC_ hrd_ hb;have HRD_:=A_ hrd_;clear hrd_;replace HO_5:=A_ (rb_ (rq_ HO_5) hb);replace BK210:=A_ (kb_ (kq_ BK210) hb);replace HB:=A_ (bs_ (bq_ HB) hb);clear hb)|(at_builtin;refine print_append_row (w0:=w) w.heap.size rfl (.tmp 39) _ 22 5 .u8 1 rfl Try.underlying22 info5 (by decide) u5 x5_1 (bytesOf t217) (some adC_) t217.size capC_ rfl rfl ?aO ?aR ?aB ?aS ?aL ?_;(case aR => exact HRD_.out);(case aB => exact (bq_ HB));(case aO => exact (Kd.own_of_R (rq_ HO_5)));(case aS => exact (bz_ (bq_ HB)));(case aL => have:=LMc10.out;omega);intro v220 w15 ho0 hb hg hat_;clear hat_;have ho:=Kd.R_of_own (h1:=fun _ => rfl) (ok:=fun _ => True) ho0 (fun _ _ => trivial);clear ho0;have hat:=True.intro;rw [← Ny219.out] at ho;change Kd.R (Kd.int .u8) 5 w15 w.heap.size (fun _ => True) v220 y219 at ho;replace BK210:=A_ (kg_ (kq_ BK210) hg (re_ HO_5.out BK210.out (by decide)));replace HB:=A_ (hb);have HO221:=A_ (ho);clear HO_5;clear ho hb hg hat))
      go_roundg k1
      case measure => have:=HK1.out;omega
      case rel => exact ⟨(y219),(wrap64 (x6_1 + 1)),(by first|rfl|(simp;done)|(simp [*];done)),H',⟨by have:=HK1.out;omega⟩,⟨by (with_reducible repeat (first|apply ra_|apply rn_|apply Rd_));exact HO221.out⟩,⟨kq_ BK210⟩,⟨bq_ HB⟩⟩
     ·rw [if_neg c10] at H;exact absurd H (by simp)
    ·rw [if_neg c7] at H;exact absurd H (by simp)
   ·rw [if_neg c6] at H;have c6b0 : decide (x6_1 < (l0_2.length : Int)) = false:=decide_eq_false c6;clear c6;obtain rfl:=Option.some.inj H;have hcz16_0:=kC_ BK210 0;have hcz16_1:=kC_ BK210 1;have hcz16_2:=kC_ BK210 2;have hfz16_0:=kf_ BK210.out 0;have hfz16_1:=kf_ BK210.out 1;have hfz16_2:=kf_ BK210.out 2;have hcv17:=own_string (P:=Try.prog) Try.underlying22 Try.underlying5 Try.underlying9 (Kd.own_of_R HO_5.out);go_wp2;go_ret;exact ⟨ex_,bq_ HB⟩
def spec_LogFile.f (k : Nat) (a0_0 : Int) (a0_1 : Int) (l0_2 : List (S37)) : Option (ByteArray × Bool) := (spec_LogOk.f k a0_0 a0_1 l0_2).bind fun t223 => (if t223 = true then ((spec_l12Head.f k a0_0 a0_1 l0_2).bind fun t224 => ((spec_l12Frames.f k a0_0 a0_1 l0_2 0).bind fun t225 => (if t224.size + t225.size ≤ 9223372036854775807 then (if ((t224 ++ t225).size : Int) > 20000 then (some ((⟨#[]⟩ : ByteArray), false)) else (some (t224 ++ t225, true))) else (none)))) else (some ((⟨#[]⟩ : ByteArray), false)))
theorem spec_LogFile.mono : ∀ a0 a1 a2 k, LeO (spec_LogFile.f k a0 a1 a2) (spec_LogFile.f (k + 1) a0 a1 a2) := by
 intro a0 a1 a2 k
 unfold spec_LogFile.f
 repeat' first
   | (with_reducible exact spec_LogOk.mono _ _ _ _)
   | (with_reducible exact spec_l12Frames.mono _ _ _ _ _)
   | (with_reducible exact spec_l12Head.mono _ _ _ _)
   | (with_reducible exact LeO.refl _)
   | (with_reducible exact LeO.none _)
   | (with_reducible refine LeO.ite ?_ ?_)
   | (with_reducible refine LeO.bind ?_ (fun _ => ?_))
set_option maxHeartbeats 8000000 in
set_option maxRecDepth 100000 in
theorem spec_LogFile.calls (k : Nat) (a0_0 : Int) (a0_1 : Int) (A0_2 : Option Addr) (c0_2 : Nat) (l0_2 : List (S37)) (r1 : ByteArray) (r2 : Bool) (w : World) (hr0_2 : Kd.C k37 w A0_2 l0_2.length l0_2) (hc0_2 : l0_2.length ≤ c0_2) (h : spec_LogFile.f k a0_0 a0_1 l0_2 = some (r1, r2)) :
  Calls Try.prog 47 #[.agg #[.int .i64 a0_0,.int .i64 a0_1,.slice A0_2 l0_2.length c0_2]] w fun e w' => e = .returned (.tuple #[.string r1,.bool r2]) ∧ Below w.heap.size w w':=by
 have hu60:=Try.underlying60;have HR0_2:=A_ hr0_2;have HC0_2:=A_ hc0_2;clear hr0_2 hc0_2;have HB:=A_ (Below.refl w.heap.size w);have H : ((spec_LogOk.f k a0_0 a0_1 l0_2).bind fun t223 => (if t223 = true then ((spec_l12Head.f k a0_0 a0_1 l0_2).bind fun t224 => ((spec_l12Frames.f k a0_0 a0_1 l0_2 0).bind fun t225 => (if t224.size + t225.size ≤ 9223372036854775807 then (if ((t224 ++ t225).size : Int) > 20000 then (some ((⟨#[]⟩ : ByteArray),false)) else (some (t224 ++ t225,true))) else (none)))) else (some ((⟨#[]⟩ : ByteArray),false)))) = some (r1,r2):=h;clear h;replace H:=ob_.mp H;obtain ⟨t223,A20,H⟩:=H;replace H : (if t223 = true then ((spec_l12Head.f k a0_0 a0_1 l0_2).bind fun t224 => ((spec_l12Frames.f k a0_0 a0_1 l0_2 0).bind fun t225 => (if t224.size + t225.size ≤ 9223372036854775807 then (if ((t224 ++ t225).size : Int) > 20000 then (some ((⟨#[]⟩ : ByteArray),false)) else (some (t224 ++ t225,true))) else (none)))) else (some ((⟨#[]⟩ : ByteArray),false))) = some (r1,r2):=H;have A2:=A_ A20;clear A20
 by_cases c3 : t223 = true
 ·subst c3
  have H1 : ((spec_l12Head.f k a0_0 a0_1 l0_2).bind fun t224 => ((spec_l12Frames.f k a0_0 a0_1 l0_2 0).bind fun t225 => (if t224.size + t225.size ≤ 9223372036854775807 then (if ((t224 ++ t225).size : Int) > 20000 then (some ((⟨#[]⟩ : ByteArray),false)) else (some (t224 ++ t225,true))) else (none)))) = some (r1,r2):=by rw [if_pos rfl] at H;exact H
  clear H;have H:=H1;clear H1;replace H:=ob_.mp H;obtain ⟨t224,A40,H⟩:=H;replace H : ((spec_l12Frames.f k a0_0 a0_1 l0_2 0).bind fun t225 => (if t224.size + t225.size ≤ 9223372036854775807 then (if ((t224 ++ t225).size : Int) > 20000 then (some ((⟨#[]⟩ : ByteArray),false)) else (some (t224 ++ t225,true))) else (none))) = some (r1,r2):=H;have A4:=A_ A40;clear A40;replace H:=ob_.mp H;obtain ⟨t225,A50,H⟩:=H;replace H : (if t224.size + t225.size ≤ 9223372036854775807 then (if ((t224 ++ t225).size : Int) > 20000 then (some ((⟨#[]⟩ : ByteArray),false)) else (some (t224 ++ t225,true))) else (none)) = some (r1,r2):=H;have A5:=A_ A50;clear A50
  by_cases c6 : t224.size + t225.size ≤ 9223372036854775807
  ·rw [if_pos c6] at H;have c6b0:=eq_true c6;have c6b1 : decide (t224.size + t225.size ≤ 9223372036854775807) = true:=de_ c6
   try have c6b2 : (9223372036854775807 < t224.size + t225.size) = False:=eq_false (Nat.not_lt.2 c6)
   by_cases c7 : ((t224 ++ t225).size : Int) > 20000
   ·rw [if_pos c7] at H;have c7b0 : decide (20000 < ((t224 ++ t225).size : Int)) = true:=de_ c7;have c7b9:=c7b0
    try simp only [ByteArray.size_append,Int.natCast_add] at c7b9
    have c7b1 : decide (20000 < (t224 ++ t225).size) = true:=de_ (by omega);clear c7;simp only [Option.some.injEq,Prod.mk.injEq] at H;obtain ⟨rfl,rfl⟩:=H;go_enter Try.func47,Try.ntmps47
    try go_wp2_with (first|((with_reducible refine gate_dst (N:=1) rfl ?_);refine box_event ?hg (N:=1) ?hd (cs:=#[.int .i64 a0_0,.int .i64 a0_1,.slice A0_2 l0_2.length c0_2]) (t:=60) ?hr ?_;(case hd => rfl);(case hg => rfl);(case hr => exact gx_);intro gb222 hg w8 hbox hb;have BK222:=A_ (hbox);have GW222:=A_ ((by rw [hg];exact (bz_ (bq_ HB)) : w.heap.size ≤ gb222));have GE222:=A_ ((by rw [hg];exact (bz_ (bq_ HB)) : w.heap.size ≤ gb222));replace HB:=A_ (bs_ (bq_ HB) hb);clear hb hbox hg;have hcz9_0:=kC_ BK222 0;have hcz9_1:=kC_ BK222 1;have hcz9_2:=kC_ BK222 2;have hfz9_0:=kf_ BK222.out 0;have hfz9_1:=kf_ BK222.out 1;have hfz9_2:=kf_ BK222.out 2)|((with_reducible refine gate_callee (f:=101) rfl ?_);refine goesL_ (some 6) rfl rfl Try.func101 (by kernel_rfl) rfl #[.agg #[.int .i64 a0_0,.int .i64 a0_1,.slice A0_2 l0_2.length c0_2]] rfl aq_ ?_;(with_reducible refine (spec_LogOk.calls k a0_0 a0_1 _ _ l0_2 true _ ?side1 ?side2 A2.out).mono ?_);(case side1 => repeat (first|exact (Kd.C_below HR0_2.out HB.out)|(with_reducible refine Kd.C_alloc ?_ _)|(with_reducible refine Kd.C_drewN ?_ _)|(with_reducible refine Kd.C_drew ?_)));(case side2 => exact HC0_2.out);rintro e w10 ⟨rfl,hb⟩;refine ⟨_,rfl,?_⟩;replace BK222:=A_ (kb_ (kq_ BK222) hb);replace HB:=A_ (bs_ (bq_ HB) hb);(try clear hb);(try clear hb2);(try clear hk);(try clear hi)))
    replace BK222:=A_ (kd_ BK222.out);replace HB:=A_ (pd_ HB.out);refine start_ (n:=6) (S:=fun w' => w'.cell? ⟨gb222,0,none⟩ = some (.int .i64 a0_0) ∧ w'.cell? ⟨gb222,1,none⟩ = some (.int .i64 a0_1) ∧ w'.cell? ⟨gb222,2,none⟩ = some (.slice A0_2 l0_2.length c0_2)) (ds:=[]) #[false,false,false,false,false,false] (by kernel_rfl) rfl rfl ⟨kC_ BK222 0,kC_ BK222 1,kC_ BK222 2⟩ (fun hHeld => ?_);generalize w10.drew = w11 at BK222 HB hHeld ⊢;refine take_ (i:=0) (N:=some 8) (v:=?_) (a':=?_) #[true,false,false,false,false,false] rfl rfl (by kernel_rfl) (fun _ _ _ h => h) (Or.inl ⟨by rfl,?_⟩) hHeld ?_ ?_;rotate_left
    ·rintro w' ⟨s0,s1,s2⟩;go_simp;with_reducible rfl
    rotate_left
    ·exact ux_
    refine take_ (i:=2) (N:=some 10) (v:=?_) (a':=?_) #[true,false,true,false,false,false] rfl rfl (by kernel_rfl) (fun _ _ _ h => h) (Or.inl ⟨by rfl,?_⟩) hHeld ?_ ?_;rotate_left
    ·rintro w' ⟨s0,s1,s2⟩;go_simp;with_reducible rfl
    rotate_left
    ·exact ux_
    refine one_ (i:=1) (N:=some 9) #[true,true,true,false,false,false] rfl rfl (by kernel_rfl) (by decide) (fun K hK => ?_);refine goes_ Try.func115 (by kernel_rfl) rfl #[.agg #[.int .i64 a0_0,.int .i64 a0_1,.slice A0_2 l0_2.length c0_2]] (by rfl) rfl rfl aq_ ?_;with_reducible refine (spec_l12Head.calls k a0_0 a0_1 _ _ l0_2 t224 _ ?side1 ?side2 A4.out).mono ?_
    (case side1 => repeat (first|exact (Kd.C_below HR0_2.out HB.out)|(with_reducible refine Kd.C_alloc ?_ _)|(with_reducible refine Kd.C_drewN ?_ _)|(with_reducible refine Kd.C_drew ?_)))
    (case side2 => exact HC0_2.out)
    rintro e w12 ⟨rfl,hb⟩;refine ⟨_,rfl,?_⟩;replace BK222:=A_ (kb_ (kq_ BK222) hb);replace HB:=A_ (bs_ (bq_ HB) hb)
    (try clear hb)
    (try clear hb2)
    (try clear hk)
    (try clear hi)
    refine hK.out _ _ ⟨kC_ BK222 0,kC_ BK222 1,kC_ BK222 2⟩ (fun hHeld => ?_);clear hK K;refine norm_ (a':=?_) ?_ ?_;rotate_left
    ·show Act.put _ (some 9) _ = _;simp only [Act.put,s1_,s2_,s3_,i64_w,i32_w];rfl
    refine one_ (i:=3) (N:=some 11) #[true,true,true,true,false,false] rfl rfl (by kernel_rfl) (by decide) (fun K hK => ?_);refine goes_ Try.func116 (by kernel_rfl) rfl #[.agg #[.int .i64 a0_0,.int .i64 a0_1,.slice A0_2 l0_2.length c0_2],.int .i64 0] (by rfl) rfl rfl aq_ ?_;with_reducible refine (spec_l12Frames.calls k a0_0 a0_1 _ _ l0_2 0 t225 _ ?side1 ?side2 A5.out).mono ?_
    (case side1 => repeat (first|exact (Kd.C_below HR0_2.out HB.out)|(with_reducible refine Kd.C_alloc ?_ _)|(with_reducible refine Kd.C_drewN ?_ _)|(with_reducible refine Kd.C_drew ?_)))
    (case side2 => exact HC0_2.out)
    rintro e w13 ⟨rfl,hb⟩;refine ⟨_,rfl,?_⟩;replace BK222:=A_ (kb_ (kq_ BK222) hb);replace HB:=A_ (bs_ (bq_ HB) hb)
    (try clear hb)
    (try clear hb2)
    (try clear hk)
    (try clear hi)
    refine hK.out _ _ ⟨kC_ BK222 0,kC_ BK222 1,kC_ BK222 2⟩ (fun hHeld => ?_);clear hK K;refine norm_ (a':=?_) ?_ ?_;rotate_left
    ·show Act.put _ (some 11) _ = _;simp only [Act.put,s1_,s2_,s3_,i64_w,i32_w];rfl
    refine pure_ (i:=4) (N:=some 12) (v:=?_) (a':=?_) #[true,true,true,true,true,false] rfl rfl (by kernel_rfl) (fun _ _ _ h => h) (Or.inl ⟨by rfl,?_⟩) ?_ ?_;rotate_left
    ·intro w';go_simp;with_reducible rfl
    rotate_left
    ·exact ux_
    refine pure_ (i:=5) (N:=some 4) (v:=?_) (a':=?_) #[true,true,true,true,true,true] rfl rfl (by kernel_rfl) (fun _ _ _ h => h) (Or.inl ⟨by rfl,?_⟩) ?_ ?_;rotate_left
    ·intro w';go_simp;with_reducible rfl
    rotate_left
    ·exact ux_
    refine done_ (by kernel_rfl) ?_
    try go_wp2
    go_ret2;exact ⟨ex_,bq_ HB⟩
   ·rw [if_neg c7] at H;have c7b0 : decide (20000 < ((t224 ++ t225).size : Int)) = false:=decide_eq_false c7;have c7b9:=c7b0
    try simp only [ByteArray.size_append,Int.natCast_add] at c7b9
    have c7b1 : decide (20000 < (t224 ++ t225).size) = false:=decide_eq_false (by omega);clear c7;simp only [Option.some.injEq,Prod.mk.injEq] at H;obtain ⟨rfl,rfl⟩:=H;go_enter Try.func47,Try.ntmps47
    try go_wp2_with (first|((with_reducible refine gate_dst (N:=1) rfl ?_);refine box_event ?hg (N:=1) ?hd (cs:=#[.int .i64 a0_0,.int .i64 a0_1,.slice A0_2 l0_2.length c0_2]) (t:=60) ?hr ?_;(case hd => rfl);(case hg => rfl);(case hr => exact gx_);intro gb222 hg w14 hbox hb;have BK222:=A_ (hbox);have GW222:=A_ ((by rw [hg];exact (bz_ (bq_ HB)) : w.heap.size ≤ gb222));have GE222:=A_ ((by rw [hg];exact (bz_ (bq_ HB)) : w.heap.size ≤ gb222));replace HB:=A_ (bs_ (bq_ HB) hb);clear hb hbox hg;have hcz15_0:=kC_ BK222 0;have hcz15_1:=kC_ BK222 1;have hcz15_2:=kC_ BK222 2;have hfz15_0:=kf_ BK222.out 0;have hfz15_1:=kf_ BK222.out 1;have hfz15_2:=kf_ BK222.out 2)|((with_reducible refine gate_callee (f:=101) rfl ?_);refine goesL_ (some 6) rfl rfl Try.func101 (by kernel_rfl) rfl #[.agg #[.int .i64 a0_0,.int .i64 a0_1,.slice A0_2 l0_2.length c0_2]] rfl aq_ ?_;(with_reducible refine (spec_LogOk.calls k a0_0 a0_1 _ _ l0_2 true _ ?side1 ?side2 A2.out).mono ?_);(case side1 => repeat (first|exact (Kd.C_below HR0_2.out HB.out)|(with_reducible refine Kd.C_alloc ?_ _)|(with_reducible refine Kd.C_drewN ?_ _)|(with_reducible refine Kd.C_drew ?_)));(case side2 => exact HC0_2.out);rintro e w16 ⟨rfl,hb⟩;refine ⟨_,rfl,?_⟩;replace BK222:=A_ (kb_ (kq_ BK222) hb);replace HB:=A_ (bs_ (bq_ HB) hb);(try clear hb);(try clear hb2);(try clear hk);(try clear hi)))
    replace BK222:=A_ (kd_ BK222.out);replace HB:=A_ (pd_ HB.out);refine start_ (n:=6) (S:=fun w' => w'.cell? ⟨gb222,0,none⟩ = some (.int .i64 a0_0) ∧ w'.cell? ⟨gb222,1,none⟩ = some (.int .i64 a0_1) ∧ w'.cell? ⟨gb222,2,none⟩ = some (.slice A0_2 l0_2.length c0_2)) (ds:=[]) #[false,false,false,false,false,false] (by kernel_rfl) rfl rfl ⟨kC_ BK222 0,kC_ BK222 1,kC_ BK222 2⟩ (fun hHeld => ?_);generalize w16.drew = w17 at BK222 HB hHeld ⊢;refine take_ (i:=0) (N:=some 8) (v:=?_) (a':=?_) #[true,false,false,false,false,false] rfl rfl (by kernel_rfl) (fun _ _ _ h => h) (Or.inl ⟨by rfl,?_⟩) hHeld ?_ ?_;rotate_left
    ·rintro w' ⟨s0,s1,s2⟩;go_simp;with_reducible rfl
    rotate_left
    ·exact ux_
    refine take_ (i:=2) (N:=some 10) (v:=?_) (a':=?_) #[true,false,true,false,false,false] rfl rfl (by kernel_rfl) (fun _ _ _ h => h) (Or.inl ⟨by rfl,?_⟩) hHeld ?_ ?_;rotate_left
    ·rintro w' ⟨s0,s1,s2⟩;go_simp;with_reducible rfl
    rotate_left
    ·exact ux_
    refine one_ (i:=1) (N:=some 9) #[true,true,true,false,false,false] rfl rfl (by kernel_rfl) (by decide) (fun K hK => ?_);refine goes_ Try.func115 (by kernel_rfl) rfl #[.agg #[.int .i64 a0_0,.int .i64 a0_1,.slice A0_2 l0_2.length c0_2]] (by rfl) rfl rfl aq_ ?_;with_reducible refine (spec_l12Head.calls k a0_0 a0_1 _ _ l0_2 t224 _ ?side1 ?side2 A4.out).mono ?_
    (case side1 => repeat (first|exact (Kd.C_below HR0_2.out HB.out)|(with_reducible refine Kd.C_alloc ?_ _)|(with_reducible refine Kd.C_drewN ?_ _)|(with_reducible refine Kd.C_drew ?_)))
    (case side2 => exact HC0_2.out)
    rintro e w18 ⟨rfl,hb⟩;refine ⟨_,rfl,?_⟩;replace BK222:=A_ (kb_ (kq_ BK222) hb);replace HB:=A_ (bs_ (bq_ HB) hb)
    (try clear hb)
    (try clear hb2)
    (try clear hk)
    (try clear hi)
    refine hK.out _ _ ⟨kC_ BK222 0,kC_ BK222 1,kC_ BK222 2⟩ (fun hHeld => ?_);clear hK K;refine norm_ (a':=?_) ?_ ?_;rotate_left
    ·show Act.put _ (some 9) _ = _;simp only [Act.put,s1_,s2_,s3_,i64_w,i32_w];rfl
    refine one_ (i:=3) (N:=some 11) #[true,true,true,true,false,false] rfl rfl (by kernel_rfl) (by decide) (fun K hK => ?_);refine goes_ Try.func116 (by kernel_rfl) rfl #[.agg #[.int .i64 a0_0,.int .i64 a0_1,.slice A0_2 l0_2.length c0_2],.int .i64 0] (by rfl) rfl rfl aq_ ?_;with_reducible refine (spec_l12Frames.calls k a0_0 a0_1 _ _ l0_2 0 t225 _ ?side1 ?side2 A5.out).mono ?_
    (case side1 => repeat (first|exact (Kd.C_below HR0_2.out HB.out)|(with_reducible refine Kd.C_alloc ?_ _)|(with_reducible refine Kd.C_drewN ?_ _)|(with_reducible refine Kd.C_drew ?_)))
    (case side2 => exact HC0_2.out)
    rintro e w19 ⟨rfl,hb⟩;refine ⟨_,rfl,?_⟩;replace BK222:=A_ (kb_ (kq_ BK222) hb);replace HB:=A_ (bs_ (bq_ HB) hb)
    (try clear hb)
    (try clear hb2)
    (try clear hk)
    (try clear hi)
    refine hK.out _ _ ⟨kC_ BK222 0,kC_ BK222 1,kC_ BK222 2⟩ (fun hHeld => ?_);clear hK K;refine norm_ (a':=?_) ?_ ?_;rotate_left
    ·show Act.put _ (some 11) _ = _;simp only [Act.put,s1_,s2_,s3_,i64_w,i32_w];rfl
    refine pure_ (i:=4) (N:=some 12) (v:=?_) (a':=?_) #[true,true,true,true,true,false] rfl rfl (by kernel_rfl) (fun _ _ _ h => h) (Or.inl ⟨by rfl,?_⟩) ?_ ?_;rotate_left
    ·intro w';go_simp;with_reducible rfl
    rotate_left
    ·exact ux_
    refine pure_ (i:=5) (N:=some 4) (v:=?_) (a':=?_) #[true,true,true,true,true,true] rfl rfl (by kernel_rfl) (fun _ _ _ h => h) (Or.inl ⟨by rfl,?_⟩) ?_ ?_;rotate_left
    ·intro w';go_simp;with_reducible rfl
    rotate_left
    ·exact ux_
    refine done_ (by kernel_rfl) ?_
    try go_wp2
    go_ret2;exact ⟨ex_,bq_ HB⟩
  ·rw [if_neg c6] at H;exact absurd H (by simp)
 ·replace c3:=Bool.eq_false_iff.mpr c3;subst c3
  have H1 : (some ((⟨#[]⟩ : ByteArray),false)) = some (r1,r2):=by rw [if_neg (show ¬ (false = true) by decide)] at H;exact H
  clear H;have H:=H1;clear H1;simp only [Option.some.injEq,Prod.mk.injEq] at H;obtain ⟨rfl,rfl⟩:=H;go_enter Try.func47,Try.ntmps47
  go_wp2_with (first|((with_reducible refine gate_dst (N:=1) rfl ?_);refine box_event ?hg (N:=1) ?hd (cs:=#[.int .i64 a0_0,.int .i64 a0_1,.slice A0_2 l0_2.length c0_2]) (t:=60) ?hr ?_;(case hd => rfl);(case hg => rfl);(case hr => exact gx_);intro gb222 hg w20 hbox hb;have BK222:=A_ (hbox);have GW222:=A_ ((by rw [hg];exact (bz_ (bq_ HB)) : w.heap.size ≤ gb222));have GE222:=A_ ((by rw [hg];exact (bz_ (bq_ HB)) : w.heap.size ≤ gb222));replace HB:=A_ (bs_ (bq_ HB) hb);clear hb hbox hg;have hcz21_0:=kC_ BK222 0;have hcz21_1:=kC_ BK222 1;have hcz21_2:=kC_ BK222 2;have hfz21_0:=kf_ BK222.out 0;have hfz21_1:=kf_ BK222.out 1;have hfz21_2:=kf_ BK222.out 2)|((with_reducible refine gate_callee (f:=101) rfl ?_);refine goesL_ (some 6) rfl rfl Try.func101 (by kernel_rfl) rfl #[.agg #[.int .i64 a0_0,.int .i64 a0_1,.slice A0_2 l0_2.length c0_2]] rfl aq_ ?_;(with_reducible refine (spec_LogOk.calls k a0_0 a0_1 _ _ l0_2 false _ ?side1 ?side2 A2.out).mono ?_);(case side1 => repeat (first|exact (Kd.C_below HR0_2.out HB.out)|(with_reducible refine Kd.C_alloc ?_ _)|(with_reducible refine Kd.C_drewN ?_ _)|(with_reducible refine Kd.C_drew ?_)));(case side2 => exact HC0_2.out);rintro e w22 ⟨rfl,hb⟩;refine ⟨_,rfl,?_⟩;replace BK222:=A_ (kb_ (kq_ BK222) hb);replace HB:=A_ (bs_ (bq_ HB) hb);(try clear hb);(try clear hb2);(try clear hk);(try clear hi)))
  go_ret2;exact ⟨ex_,bq_ HB⟩
def IsS155 (w0 W : World) (g : Nat) (f0 : List Int) (f1 : Int) (f2 : Int) : Prop := ∃ A0 c0, W.heap[g]? = some (.cells #[.slice A0 f0.length c0, .int .i64 f1, .int .i64 f2] 155 (0, 0)) ∧ w0.heap.size ≤ g ∧ Kd.C (Kd.int .u8) w0 A0 f0.length f0
theorem IsS155.grown {w0 W : World} {g : Nat} {f0 : List Int} {f1 : Int} {f2 : Int} {W1 : World} {row : Option Nat} (h : IsS155 w0 W g f0 f1 f2) (hw : W.grownBy W1 row) (hne : some g ≠ row) : IsS155 w0 W1 g f0 f1 f2 := by
 obtain ⟨A0,c0,hb,hg,hr0⟩:=h;exact ⟨A0,c0,kg_ hb hw hne,hg,hr0⟩
theorem IsS155.own_neN {w0 W : World} {g : Nat} {f0 : List Int} {f1 : Int} {f2 : Int} {α : Type} {d : Kd α} {e : Nat} {base : Nat} {ok : Nat → Prop} {v : Value} {xs : List α} (h : IsS155 w0 W g f0 f1 f2) (ho : Kd.N d e W base ok v xs) (ht : e ≠ 155) : some g ≠ v.ownBlock := by
 obtain ⟨A0,c0,hb,hg,hr0⟩:=h;exact Kd.N_ne ho hb ht
theorem IsS155.fresh {w0 W : World} {g : Nat} {f0 : List Int} {f1 : Int} {f2 : Int} (h : IsS155 w0 W g f0 f1 f2) : ∀ k, W.heap.size ≤ k → k ≠ g := by
 obtain ⟨A0,c0,hb,hg,hr0⟩:=h;exact Kd.freshB hb
theorem IsS155.kept {w0 W : World} {g : Nat} {f0 : List Int} {f1 : Int} {f2 : Int} {W1 : World} {S : Nat → Prop} (h : IsS155 w0 W g f0 f1 f2) (hk : Kept W W1 S) (hne : ¬ S g) : IsS155 w0 W1 g f0 f1 f2 := by
 obtain ⟨A0,c0,hb,hg,hr0⟩:=h;exact ⟨A0,c0,blk_kept hb hk hne,hg,hr0⟩
theorem IsS155.below {w0 W : World} {g : Nat} {f0 : List Int} {f1 : Int} {f2 : Int} {W1 : World} (h : IsS155 w0 W g f0 f1 f2) (hw : Below W.heap.size W W1) : IsS155 w0 W1 g f0 f1 f2 := h.grown (grown_of_below hw none) (by simp)
theorem IsS155.alloc {w0 W : World} {g : Nat} {f0 : List Int} {f1 : Int} {f2 : Int} (h : IsS155 w0 W g f0 f1 f2) (o : Obj) : IsS155 w0 (W.alloc o) g f0 f1 f2 := h.below (below_alloc (Below.refl _ _) o)
theorem IsS155.drewN {w0 W : World} {g : Nat} {f0 : List Int} {f1 : Int} {f2 : Int} (h : IsS155 w0 W g f0 f1 f2) (m : Nat) : IsS155 w0 (W.drewN m) g f0 f1 f2 := h
theorem IsS155.drew {w0 W : World} {g : Nat} {f0 : List Int} {f1 : Int} {f2 : Int} (h : IsS155 w0 W g f0 f1 f2) : IsS155 w0 W.drew g f0 f1 f2 := h
theorem IsS155.at_ {w0 W : World} {g : Nat} {f0 : List Int} {f1 : Int} {f2 : Int} {w' : World} {m : Nat} (hq : W.drewN m = w') (h : IsS155 w0 W g f0 f1 f2) : IsS155 w0 w' g f0 f1 f2 := by subst hq; exact IsS155.drewN h m
theorem IsS155.apart {w0 W : World} {g : Nat} {f0 : List Int} {f1 : Int} {f2 : Int} {α : Type} {d : Kd α} {e : Nat} {base : Nat} {ok : Nat → Prop} {v : Value} {xs : List α} (h : IsS155 w0 W g f0 f1 f2) (ho : d.R e W base ok v xs) (ht : ∀ q, q ∈ e :: d.E → q ≠ 155) : d.R e W base (fun k => ok k ∧ k ≠ g) v xs := by
 obtain ⟨A0,c0,hb,hg,hr0⟩:=h;exact Kd.R_types ho hb ht
theorem IsS155.own_ne {w0 W : World} {g : Nat} {f0 : List Int} {f1 : Int} {f2 : Int} {α : Type} {d : Kd α} {e : Nat} {base : Nat} {ok : Nat → Prop} {v : Value} {xs : List α} (h : IsS155 w0 W g f0 f1 f2) (ho : d.R e W base ok v xs) (ht : e ≠ 155) : some g ≠ v.ownBlock := by
 obtain ⟨A0,c0,hb,hg,hr0⟩:=h;exact re_ ho hb ht
theorem IsS155.apartQ {w0 W : World} {g : Nat} {f0 : List Int} {f1 : Int} {f2 : Int} {α : Type} {d : Kd α} {e : Nat} {base : Nat} {ok : Nat → Prop} {v : Value} {xs : List α} (h : IsS155 w0 W g f0 f1 f2) (ho : d.Q e W base ok v xs) (ht : ∀ q, q ∈ e :: d.E → q ≠ 155) : d.Q e W base (fun k => ok k ∧ k ≠ g) v xs := by
 obtain ⟨A0,c0,hb,hg,hr0⟩:=h;exact Kd.Q_types ho hb ht
theorem IsS155.own_neQ {w0 W : World} {g : Nat} {f0 : List Int} {f1 : Int} {f2 : Int} {α : Type} {d : Kd α} {e : Nat} {base : Nat} {ok : Nat → Prop} {v : Value} {xs : List α} (h : IsS155 w0 W g f0 f1 f2) (ho : d.Q e W base ok v xs) (ht : e ≠ 155) : some g ≠ v.ownBlock := by
 obtain ⟨A0,c0,hb,hg,hr0⟩:=h;exact Kd.Q_ne ho hb ht
theorem IsS155.apartS {w0 W : World} {g : Nat} {f0 : List Int} {f1 : Int} {f2 : Int} {α : Type} {d : Kd α} {e : Nat} {base : Nat} {ok : Nat → Prop} {v : Value} {xs : List α} (h : IsS155 w0 W g f0 f1 f2) (ho : d.S e W base ok v xs) (ht : ∀ q, q ∈ e :: d.E → q ≠ 155) : d.S e W base (fun k => ok k ∧ k ≠ g) v xs := by
 obtain ⟨A0,c0,hb,hg,hr0⟩:=h;exact Kd.S_types ho hb ht
theorem IsS155.own_neS {w0 W : World} {g : Nat} {f0 : List Int} {f1 : Int} {f2 : Int} {α : Type} {d : Kd α} {e : Nat} {base : Nat} {ok : Nat → Prop} {v : Value} {xs : List α} (h : IsS155 w0 W g f0 f1 f2) (ho : d.S e W base ok v xs) (ht : e ≠ 155) : some g ≠ v.ownBlock := by
 obtain ⟨A0,c0,hb,hg,hr0⟩:=h;exact Kd.S_ne ho hb ht
theorem IsS155.lt {w0 W : World} {g : Nat} {f0 : List Int} {f1 : Int} {f2 : Int} (h : IsS155 w0 W g f0 f1 f2) : g < W.heap.size := by
 obtain ⟨A0,c0,hb,hg,hr0⟩:=h;exact kl_ hb
theorem IsS155.ge {w0 W : World} {g : Nat} {f0 : List Int} {f1 : Int} {f2 : Int} (h : IsS155 w0 W g f0 f1 f2) : w0.heap.size ≤ g := by
 obtain ⟨A0,c0,hb,hg,hr0⟩:=h;exact hg
theorem IsS155.ne_blk {w0 W : World} {g : Nat} {f0 : List Int} {f1 : Int} {f2 : Int} {a : Nat} {cs : Array Value} {t : TypeId} {fr : Nat × Nat} (h : IsS155 w0 W g f0 f1 f2) (hb2 : W.heap[a]? = some (.cells cs t fr)) (ht : t ≠ 155) : g ≠ a := by
 obtain ⟨A0,c0,hb,hg,hr0⟩:=h;rintro rfl;rw [hb] at hb2
 injection hb2 with hb2
 injection hb2 with _ ht2
 exact ht ht2.symm
theorem IsS155.far {w0 W : World} {g : Nat} {f0 : List Int} {f1 : Int} {f2 : Int} {p : Addr} (h : IsS155 w0 W g f0 f1 f2) (hne : g ≠ p.block) (u : Value) : IsS155 w0 (W.setCell p u) g f0 f1 f2 := by
 obtain ⟨A0,c0,hb,hg,hr0⟩:=h;exact ⟨A0,c0,kr_ hb hne u,hg,hr0⟩
theorem cellS155_0 {W : World} {g : Nat} {A0 : Option Addr} {c0 : Nat} {f0 : List Int} {f1 : Int} {f2 : Int} (h : W.heap[g]? = some (.cells #[.slice A0 f0.length c0, .int .i64 f1, .int .i64 f2] 155 (0, 0))) : W.cell? ⟨g, 0, none⟩ = some (.slice A0 f0.length c0) := (blk_cell h 0).trans rfl
theorem cellS155_1 {W : World} {g : Nat} {A0 : Option Addr} {c0 : Nat} {f0 : List Int} {f1 : Int} {f2 : Int} (h : W.heap[g]? = some (.cells #[.slice A0 f0.length c0, .int .i64 f1, .int .i64 f2] 155 (0, 0))) : W.cell? ⟨g, 1, none⟩ = some (.int .i64 f1) := (blk_cell h 1).trans rfl
theorem IsS155.set_1 {w0 W : World} {g : Nat} {f0 : List Int} {f1 : Int} {f2 : Int} (h : IsS155 w0 W g f0 f1 f2) (x : Int) : IsS155 w0 (W.setCell ⟨g, 1, none⟩ (.int .i64 x)) g f0 x f2 := by
 obtain ⟨A0,c0,hb,hg,hr0⟩:=h;exact ⟨A0,c0,by simpa using blk_set hb 1 (.int .i64 x),hg,hr0⟩
theorem cellS155_2 {W : World} {g : Nat} {A0 : Option Addr} {c0 : Nat} {f0 : List Int} {f1 : Int} {f2 : Int} (h : W.heap[g]? = some (.cells #[.slice A0 f0.length c0, .int .i64 f1, .int .i64 f2] 155 (0, 0))) : W.cell? ⟨g, 2, none⟩ = some (.int .i64 f2) := (blk_cell h 2).trans rfl
theorem IsS155.set_2 {w0 W : World} {g : Nat} {f0 : List Int} {f1 : Int} {f2 : Int} (h : IsS155 w0 W g f0 f1 f2) (x : Int) : IsS155 w0 (W.setCell ⟨g, 2, none⟩ (.int .i64 x)) g f0 f1 x := by
 obtain ⟨A0,c0,hb,hg,hr0⟩:=h;exact ⟨A0,c0,by simpa using blk_set hb 2 (.int .i64 x),hg,hr0⟩
theorem IsS155.new (w0 W : World) (A0 : Option Addr) (c0 : Nat) (f0 : List Int) (f1 : Int) (f2 : Int) (hB : Below w0.heap.size w0 W) (hr0 : Kd.C (Kd.int .u8) w0 A0 f0.length f0) : IsS155 w0 (W.alloc (.cells #[.slice A0 f0.length c0, .int .i64 f1, .int .i64 f2] 155)) W.heap.size f0 f1 f2 := ⟨A0, c0, by simpa using heap_alloc_new W _, hB.size, hr0⟩
theorem iq155_ {p q : Prop} (B : Aside0 q) (h : q → p := by intro h_;repeat (first|(with_reducible first|exact h_|apply IsS155.alloc|apply IsS155.drewN|apply IsS155.drew|apply IsS155.set_1|apply IsS155.set_2|refine IsS155.far ?_ (Aside0.out (by assumption)) _)|exact h_)) : p := h B.out
def spec_l01New.l0 : Nat → List Int → Int → Int → Option (List Int × Int × Int)
 | 0,_,_,_ => none
 | k + 1,x0,x3,x4 => if x4 < (x0.length : Int) then (if x4 < 4000 then (if 0 ≤ x4 then (spec_l01New.l0 k x0 (Go.bits .and .i64 (wrap64 ((wrap64 ((wrap64 (x3 * 131)) + (wrap64 (rd x0 x4)))) + 7)) 1073741823) (wrap64 (x4 + 1))) else (none)) else (some (x0,0,x3))) else (some (x0,0,x3))
def spec_l01New.f (k : Nat) (l0 : List Int) : Option (List Int × Int × Int) := spec_l01New.l0 k l0 (wrap64 (10301 + (l0.length : Int))) 0
theorem spec_l01New.mono_l : ∀ k, (∀ y0 y1 y2, LeO (spec_l01New.l0 k y0 y1 y2) (spec_l01New.l0 (k + 1) y0 y1 y2))
 | 0 => fun _ _ _ r h => by simp [spec_l01New.l0] at h
 | k + 1 => by
  have ih0:=spec_l01New.mono_l k
  ·intro y0 y1 y2
   unfold spec_l01New.l0
   repeat' first
   | (with_reducible exact ih0 _ _ _)
   | (with_reducible exact LeO.refl _)
   | (with_reducible exact LeO.none _)
   | (with_reducible refine LeO.ite ?_ ?_)
   | (with_reducible refine LeO.bind ?_ (fun _ => ?_))
theorem spec_l01New.mono : ∀ a0 k, LeO (spec_l01New.f k a0) (spec_l01New.f (k + 1) a0) := by
 intro a0 k;have ih0:=spec_l01New.mono_l k
 unfold spec_l01New.f
 repeat' first
   | (with_reducible exact ih0 _ _ _)
   | (with_reducible exact LeO.refl _)
   | (with_reducible exact LeO.none _)
   | (with_reducible refine LeO.ite ?_ ?_)
   | (with_reducible refine LeO.bind ?_ (fun _ => ?_))
set_option maxHeartbeats 8000000 in
set_option maxRecDepth 100000 in
theorem spec_l01New.calls (k : Nat) (A0 : Option Addr) (c0 : Nat) (l0 : List Int) (r1 : List Int) (r2 : Int) (r3 : Int) (w0 w : World) (hB : Below w0.heap.size w0 w) (hr0 : Kd.C (Kd.int .u8) w0 A0 l0.length l0) (hc0 : l0.length ≤ c0) (h : spec_l01New.f k l0 = some (r1, r2, r3)) :
  Calls Try.prog 70 #[.slice A0 l0.length c0] w fun e w' => ∃ g_ : Nat,e = .returned (.pointer (some ⟨g_,0,none⟩)) ∧ IsS155 w0 w' g_ r1 r2 r3 ∧ Below w0.heap.size w0 w' ∧ Below w.heap.size w w':=by
 have hu155:=Try.underlying155;have HR0:=A_ hr0;have HC0:=A_ hc0;clear hr0 hc0;have HBW:=A_ (Below.refl w.heap.size w);have HW0:=A_ hB.size;have HB:=A_ hB;clear hB;have H : (spec_l01New.l0 k l0 (wrap64 (10301 + (l0.length : Int))) 0) = some (r1,r2,r3):=h;clear h;have H':=A_ H;clear H;go_enter Try.func70,Try.ntmps70;go_wp2
 go_loopg [3,4] k (fun kq v3 v4 w' => ∃ (x3_1 : Int) (x4_1 : Int),v3 = .int .i64 x3_1 ∧ v4 = .int .i64 x4_1 ∧ Aside0 (spec_l01New.l0 kq l0 x3_1 x4_1 = some (r1,r2,r3)) ∧ Aside0 (kq ≤ k) ∧ Aside0 (Below w0.heap.size w0 w') ∧ Aside0 (Below w.heap.size w w'))
 case atStart => exact ⟨(wrap64 (10301 + (l0.length : Int))),(0),(by first|rfl|(simp;done)|(simp [*];done)),(by first|rfl|(simp;done)|(simp [*];done)),H',⟨Nat.le_refl _⟩,⟨bq_ HB⟩,⟨by repeat (first|(with_reducible first|exact HBW.out|apply pa_|apply pn_|apply pd_)|exact HBW.out)⟩⟩
 case round =>
  clear H';obtain ⟨x3_1,x4_1,rfl,rfl,HA,HK1,HB,HBW⟩:=hrel
  cases gk with
  | zero => exact absurd HA.out (by simp [spec_l01New.l0])
  | succ k1 =>
   have H:=HA.out;clear HA;simp only [spec_l01New.l0] at H
   by_cases c2 : x4_1 < (l0.length : Int)
   ·rw [if_pos c2] at H;have c2b0 : decide (x4_1 < (l0.length : Int)) = true:=de_ c2;clear c2
    by_cases c3 : x4_1 < 4000
    ·rw [if_pos c3] at H;have c3b0 : decide (x4_1 < 4000) = true:=de_ c3;clear c3
     by_cases c4 : 0 ≤ x4_1
     ·rw [if_pos c4] at H;have c4b0 : decide (0 ≤ x4_1) = true:=de_ c4;clear c4;have H':=A_ H;clear H;have p226 : 0 ≤ (x4_1 : Int):=oda_;have q226 : x4_1 < (l0.length : Int):=oda_;obtain ⟨ad226,e226,hx226_0⟩:=Kd.at_int HR0.out x4_1 p226 q226
      cases e226
      replace hx226_0:=pw_cell_below HB.out hx226_0;replace p226:=eq_true p226;replace q226:=eq_true q226;go_wp2
      go_roundg k1
      case measure => have:=HK1.out;omega
      case rel => exact ⟨(Go.bits .and .i64 (wrap64 ((wrap64 ((wrap64 (x3_1 * 131)) + (wrap64 (rd l0 x4_1)))) + 7)) 1073741823),(wrap64 (x4_1 + 1)),(by first|rfl|(simp;done)|(simp [*];done)),(by first|rfl|(simp;done)|(simp [*];done)),H',⟨by have:=HK1.out;omega⟩,⟨bq_ HB⟩,⟨by repeat (first|(with_reducible first|exact HBW.out|apply pa_|apply pn_|apply pd_)|exact HBW.out)⟩⟩
     ·rw [if_neg c4] at H;exact absurd H (by simp)
    ·rw [if_neg c3] at H;have c3b0 : decide (x4_1 < 4000) = false:=decide_eq_false c3;clear c3;simp only [Option.some.injEq,Prod.mk.injEq] at H;obtain ⟨rfl,rfl,rfl⟩:=H
     go_wp2_with (first|((with_reducible refine gate_dst (N:=31) rfl ?_);refine box_event ?hg (N:=31) ?hd (cs:=#[.slice A0 l0.length c0,.int .i64 0,.int .i64 x3_1]) (t:=155) ?hr ?_;(case hd => rfl);(case hg => rfl);(case hr => exact gx_);intro gb227 hg w5 hbox hb;replace HB:=A_ (bs_ (bq_ HB) hb);have BK227:=A_ (hbox);have GW227:=A_ ((by rw [hg];exact (bz_ (by repeat (first|(with_reducible first|exact HBW.out|apply pa_|apply pn_|apply pd_)|exact HBW.out))) : w.heap.size ≤ gb227));have GE227:=A_ ((Nat.le_trans HW0.out (by rw [hg];exact (bz_ (by repeat (first|(with_reducible first|exact HBW.out|apply pa_|apply pn_|apply pd_)|exact HBW.out))) : w.heap.size ≤ gb227) : w0.heap.size ≤ gb227));replace HBW:=A_ (bs_ HBW.out hb);clear hb hbox hg))
     go_ret;exact ⟨_,rfl,(show IsS155 w0 _ gb227 l0 0 x3_1 from ⟨_,_,by (with_reducible repeat (first|refine kn_ ?_ _|refine kd_ ?_|refine ka_ ?_ _));exact BK227.out,GE227.out,HR0.out⟩),bq_ HB,by repeat (first|(with_reducible first|exact HBW.out|apply pa_|apply pn_|apply pd_|refine ps_ ?_ GW227.out)|exact HBW.out)⟩
   ·rw [if_neg c2] at H;have c2b0 : decide (x4_1 < (l0.length : Int)) = false:=decide_eq_false c2;clear c2;simp only [Option.some.injEq,Prod.mk.injEq] at H;obtain ⟨rfl,rfl,rfl⟩:=H
    go_wp2_with (first|((with_reducible refine gate_dst (N:=31) rfl ?_);refine box_event ?hg (N:=31) ?hd (cs:=#[.slice A0 l0.length c0,.int .i64 0,.int .i64 x3_1]) (t:=155) ?hr ?_;(case hd => rfl);(case hg => rfl);(case hr => exact gx_);intro gb228 hg w6 hbox hb;replace HB:=A_ (bs_ (bq_ HB) hb);have BK228:=A_ (hbox);have GW228:=A_ ((by rw [hg];exact (bz_ (by repeat (first|(with_reducible first|exact HBW.out|apply pa_|apply pn_|apply pd_)|exact HBW.out))) : w.heap.size ≤ gb228));have GE228:=A_ ((Nat.le_trans HW0.out (by rw [hg];exact (bz_ (by repeat (first|(with_reducible first|exact HBW.out|apply pa_|apply pn_|apply pd_)|exact HBW.out))) : w.heap.size ≤ gb228) : w0.heap.size ≤ gb228));replace HBW:=A_ (bs_ HBW.out hb);clear hb hbox hg))
    go_ret;exact ⟨_,rfl,(show IsS155 w0 _ gb228 l0 0 x3_1 from ⟨_,_,by (with_reducible repeat (first|refine kn_ ?_ _|refine kd_ ?_|refine ka_ ?_ _));exact BK228.out,GE228.out,HR0.out⟩),bq_ HB,by repeat (first|(with_reducible first|exact HBW.out|apply pa_|apply pn_|apply pd_|refine ps_ ?_ GW228.out)|exact HBW.out)⟩
def spec_l01Byte.f (s0_0 : List Int) (s0_1 : Int) (s0_2 : Int) : Option (Int × Int × Int) := if s0_1 < (s0_0.length : Int) then (if 0 ≤ s0_1 then (some (Go.bits .and .i64 (wrap64 ((Go.bits .and .i64 (Go.bits .xor .i64 ((wrap64 ((wrap64 (s0_2 * 6364136223846793005)) + 1442695040888963407)) / 8589934592) ((wrap64 ((wrap64 (s0_2 * 6364136223846793005)) + 1442695040888963407)) / 35184372088832)) 255) + (wrap64 (rd s0_0 s0_1)))) 255, wrap64 (s0_1 + 1), wrap64 ((wrap64 (s0_2 * 6364136223846793005)) + 1442695040888963407))) else (none)) else (some (Go.bits .and .i64 (Go.bits .xor .i64 ((wrap64 ((wrap64 (s0_2 * 6364136223846793005)) + 1442695040888963407)) / 8589934592) ((wrap64 ((wrap64 (s0_2 * 6364136223846793005)) + 1442695040888963407)) / 35184372088832)) 255, s0_1, wrap64 ((wrap64 (s0_2 * 6364136223846793005)) + 1442695040888963407)))
set_option maxHeartbeats 8000000 in
set_option maxRecDepth 100000 in
theorem spec_l01Byte.calls (g : Nat) (s0_0 : List Int) (s0_1 : Int) (s0_2 : Int) (r1 : Int) (r2 : Int) (r3 : Int) (w0 w : World) (hI : IsS155 w0 w g s0_0 s0_1 s0_2) (hB : Below w0.heap.size w0 w) (h : spec_l01Byte.f s0_0 s0_1 s0_2 = some (r1, r2, r3)) :
  Calls Try.prog 135 #[.pointer (some ⟨g,0,none⟩)] w fun e w' => e = .returned (.int .i64 r1) ∧ IsS155 w0 w' g s0_0 r2 r3 ∧ Below w0.heap.size w0 w' ∧ KeepBut w w' g none:=by
 have HI0:=A_ hI;have HK:=A_ (KeepBut.refl w g none);have HL:=A_ hB.size;clear hI;have HW0:=A_ hB.size;have HB:=A_ hB;clear hB;have H : (if s0_1 < (s0_0.length : Int) then (if 0 ≤ s0_1 then (some (Go.bits .and .i64 (wrap64 ((Go.bits .and .i64 (Go.bits .xor .i64 ((wrap64 ((wrap64 (s0_2 * 6364136223846793005)) + 1442695040888963407)) / 8589934592) ((wrap64 ((wrap64 (s0_2 * 6364136223846793005)) + 1442695040888963407)) / 35184372088832)) 255) + (wrap64 (rd s0_0 s0_1)))) 255,wrap64 (s0_1 + 1),wrap64 ((wrap64 (s0_2 * 6364136223846793005)) + 1442695040888963407))) else (none)) else (some (Go.bits .and .i64 (Go.bits .xor .i64 ((wrap64 ((wrap64 (s0_2 * 6364136223846793005)) + 1442695040888963407)) / 8589934592) ((wrap64 ((wrap64 (s0_2 * 6364136223846793005)) + 1442695040888963407)) / 35184372088832)) 255,s0_1,wrap64 ((wrap64 (s0_2 * 6364136223846793005)) + 1442695040888963407)))) = some (r1,r2,r3):=h;clear h
 by_cases c2 : s0_1 < (s0_0.length : Int)
 ·rw [if_pos c2] at H;have c2b0 : decide (s0_1 < (s0_0.length : Int)) = true:=de_ c2;clear c2
  by_cases c3 : 0 ≤ s0_1
  ·rw [if_pos c3] at H;have c3b0 : decide (0 ≤ s0_1) = true:=de_ c3;clear c3;simp only [Option.some.injEq,Prod.mk.injEq] at H;obtain ⟨rfl,rfl,rfl⟩:=H;obtain ⟨ASz4_0,cSz4_0,HGz4,hgz4,HSz4_0⟩:=HI0.out;have hcz4_0:=cellS155_0 HGz4;have hcz4_1:=cellS155_1 HGz4;have hcz4_2:=cellS155_2 HGz4;have hfz4_1:=kf_ HGz4 1;have hfz4_2:=kf_ HGz4 2;clear HGz4 hgz4;have p229 : 0 ≤ (s0_1 : Int):=oda_;have q229 : s0_1 < (s0_0.length : Int):=oda_;obtain ⟨ad229,e229,hx229_0⟩:=Kd.at_int HSz4_0 s0_1 p229 q229
   cases e229
   have hn229_0 : ad229.block ≠ g:=nl_ (Nat.lt_of_lt_of_le (by have:=wb_ _ _ hx229_0;first|rwa [add_block] at this|exact this) (IsS155.ge HI0.out));replace hx229_0:=pw_cell_below HB.out hx229_0;replace hx229_0:=(cell_far (p:=⟨g,2,none⟩) (by first|(rw [add_block];exact hn229_0)|(show (Addr.add _ _).block ≠ _;rw [add_block];exact hn229_0)|exact hn229_0) (.int .i64 (wrap64 ((wrap64 (s0_2 * 6364136223846793005)) + 1442695040888963407)))).trans hx229_0
   (try have hy229_0:=fun (n_ : Nat) => (show (((w.drewN n_).setCell ⟨g,2,none⟩ (.int .i64 (wrap64 ((wrap64 (s0_2 * 6364136223846793005)) + 1442695040888963407))))).cell? _ = some _ from hx229_0))
   clear hn229_0;replace p229:=eq_true p229;replace q229:=eq_true q229;go_enter Try.func135,Try.ntmps135;go_wp2
   repeat (go_quiet (fail);try go_wp2)
   go_ret;exact ⟨ex_,iq155_ HI0,bi_ HB (IsS155.ge HI0.out),hq_ HK⟩
  ·rw [if_neg c3] at H;exact absurd H (by simp)
 ·rw [if_neg c2] at H;have c2b0 : decide (s0_1 < (s0_0.length : Int)) = false:=decide_eq_false c2;clear c2;simp only [Option.some.injEq,Prod.mk.injEq] at H;obtain ⟨rfl,rfl,rfl⟩:=H;obtain ⟨ASz5_0,cSz5_0,HGz5,hgz5,HSz5_0⟩:=HI0.out;have hcz5_0:=cellS155_0 HGz5;have hcz5_1:=cellS155_1 HGz5;have hcz5_2:=cellS155_2 HGz5;have hfz5_1:=kf_ HGz5 1;have hfz5_2:=kf_ HGz5 2;clear HGz5 hgz5;go_enter Try.func135,Try.ntmps135;go_wp2
  repeat (go_quiet (fail);try go_wp2)
  go_ret;exact ⟨ex_,iq155_ HI0,bi_ HB (IsS155.ge HI0.out),hq_ HK⟩
end Go.Proofs.Ytgpafelepkhdoaa.PFnBehind
