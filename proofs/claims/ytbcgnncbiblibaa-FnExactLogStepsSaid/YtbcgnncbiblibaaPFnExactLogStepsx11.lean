/- The contracts of the Go functions that this law reaches: what each call returns, by a plain Lean function of its arguments. No conditions but those each contract names. By the kit's print.py, run by this session's wip/gen/pp.py with facts and hand proofs beside it: not to the letter what print.sh prints. -/
import Derived.Test.YtbcgnncbiblibaaPFnExactLogStepsx0
import Derived.Test.YtbcgnncbiblibaaPFnExactLogStepsx3
import Derived.Test.YtbcgnncbiblibaaPFnExactLogStepsx8
import Derived.Test.YtbcgnncbiblibaaPFnExactLogStepsx9
namespace Go.Proofs.Ytbcgnncbiblibaa.PFnExactLogSteps
open Go.RowKit Go.Proofs.YtbcgnncbiblibaaW.PrintWords Go.Proofs.YtbcgnncbiblibaaW.PrintLast Go.Proofs.YtbcgnncbiblibaaW.PrintMore
attribute [local go_sem] max2_int min2_int max_two min_two max_three min_three max_four min_four
set_option linter.unusedVariables false
set_option linter.unusedSimpArgs false
theorem conv_below (w : World) (e : TypeId) (s : ByteArray) : Below w.heap.size w (Lib.bytesWorld w e s) := by
 refine ⟨rfl,rfl,rfl,?_,fun i hi => Lib.bytesWorld_at_old w e s i hi⟩;rw [Lib.bytesWorld_size];omega
theorem conv_bytes {P : Program} {ops : Array Oper} {rest : List Oper} {o : Oper} {a : Act} {Q : Exit → Act → World → Prop} {W : World} (hgd : o.guard = none) {N : Tmp} (_hd : o.dst = some N) (src dst e : TypeId) (x : Operand) (ho : o.op = .convert src dst x) (s : ByteArray) (hx : a.eval x = .string s)
  (hs : P.underlying src = some .string) (hdd : P.underlying dst = some (.slice e)) (he : P.underlying e = some (.int .u8)) (hz : s.size ≤ 9223372036854775807)
  (h : ∀ ad cap w1,ReadsInt w1 .u8 (some ad) s.size (bytesOf s) → Below W.heap.size W w1 → wpList P ops Q rest (a.put o.dst (.slice (some ad) s.size cap)) w1) :
  wpList P ops Q (o :: rest) a W:=by
 have hr:=Lib.run_convert_string_bytes (P:=P) W src dst e s hs hdd he
 refine wpList_plain hgd fun K hK => ?_
 unfold Oper.wp execOp
 simp only [ho,Sem.run_bind,Sem.run_pure,Result.andThen_ok,hx,hr];refine hK _ _ (h ⟨W.heap.size,0,none⟩ _ _ ⟨bytesOf_length s,hz,fun hn => ⟨_,rfl,fun j hj => ?_⟩⟩ (conv_below W e s));rw [add_plain,Lib.bytesWorld_cell W e s j hj]
 simp [bytesOf,List.getD_eq_getElem?_getD]
 cases s.data[j]? <;> rfl
def spec_l12Frames.l0 : Nat → List Int → Int → Int → Int → List (S69) → Option (ByteArray)
 | 0,_,_,_,_,_ => none
 | k + 1,x5,x6,x283000,x283001,x283002 => if x6 < (x283002.length : Int) then (if 0 ≤ x6 then ((spec_EntryText.f k (wrap64 ((wrap64 (x283000 + 1)) + x6)) ((rd_T69 x283002 x6).f0) ((rd_T69 x283002 x6).f1) ((rd_T69 x283002 x6).f2)).bind fun bt287 => ((spec_Frame.f k bt287.1).bind fun bt289 => (if x5.length + bt289.1.size < 140737488355328 then (spec_l12Frames.l0 k (x5 ++ bytesOf bt289.1) (wrap64 (x6 + 1)) x283000 x283001 x283002) else (none)))) else (none)) else (some (strOfNums x5))
def spec_l12Frames.f (k : Nat) (a0_0 : Int) (a0_1 : Int) (l0_2 : List (S69)) (a1 : Int) : Option (ByteArray) := spec_l12Frames.l0 k (([] : List Int)) a1 a0_0 a0_1 l0_2
theorem spec_l12Frames.mono_l : ∀ k, (∀ y0 y1 y2 y3 y4, LeO (spec_l12Frames.l0 k y0 y1 y2 y3 y4) (spec_l12Frames.l0 (k + 1) y0 y1 y2 y3 y4))
 | 0 => fun _ _ _ _ _ r h => by simp [spec_l12Frames.l0] at h
 | k + 1 => by
  have ih0:=spec_l12Frames.mono_l k
  ·intro y0 y1 y2 y3 y4
   unfold spec_l12Frames.l0
   repeat' first
   | (with_reducible exact ih0 _ _ _ _ _)
   | (with_reducible exact spec_EntryText.mono _ _ _ _ _)
   | (with_reducible exact spec_Frame.mono _ _)
   | (with_reducible exact LeO.refl _)
   | (with_reducible refine LeO.ite ?_ ?_)
   | (with_reducible refine LeO.bind ?_ (fun _ => ?_))
theorem spec_l12Frames.mono : ∀ a0 a1 a2 a3 k, LeO (spec_l12Frames.f k a0 a1 a2 a3) (spec_l12Frames.f (k + 1) a0 a1 a2 a3) := by
 intro a0 a1 a2 a3 k;have ih0:=spec_l12Frames.mono_l k
 unfold spec_l12Frames.f
 repeat' first
   | (with_reducible exact ih0 _ _ _ _ _)
def spec_l12Frames.T5 : Bool × List (List Nat × List Nat) := (true, [([], []), ([0], [0]), ([1], [1]), ([], []), ([2, 3], [2, 3]), ([], []), ([5], [5]), ([], []), ([6, 7], [6, 7]), ([8], [8]), ([4, 9], [4, 9]), ([10], [10]), ([11], [11]), ([11], [11]), ([12, 10, 0, 1, 2, 3, 4, 5, 6, 7, 8, 9, 10, 11, 12], [12]), ([13, 14, 0, 1, 2, 3, 4, 5, 6, 7, 8, 9, 10, 11, 12, 13, 14], [13])])
def spec_l12Frames.B5 : List Nat := [0, 1, 3, 0, 15, 0, 32, 0, 224, 480, 1023, 2047, 4095, 4095, 8191, 32767]
theorem spec_l12Frames.tab5 : rtab .any (opsOf Try.f89 5) = spec_l12Frames.T5 := by kernel_rfl
theorem spec_l12Frames.bits5 : waitsOk spec_l12Frames.T5.2 spec_l12Frames.B5 = true := by kernel_rfl
set_option maxHeartbeats 8000000 in
set_option maxRecDepth 100000 in
theorem spec_l12Frames.calls (k : Nat) (a0_0 : Int) (a0_1 : Int) (A0_2 : Option Addr) (c0_2 : Nat) (l0_2 : List (S69)) (a1 : Int) (r : ByteArray) (w : World) (hr0_2 : Kd.C k69 w A0_2 l0_2.length l0_2) (hc0_2 : l0_2.length ≤ c0_2) (h : spec_l12Frames.f k a0_0 a0_1 l0_2 a1 = some r) :
  Calls Try.prog 89 #[.agg #[.int .i64 a0_0,.int .i64 a0_1,.slice A0_2 l0_2.length c0_2],.int .i64 a1] w fun e w' => e = .returned (.string r) ∧ Below w.heap.size w w':=by
 have hu24:=Try.underlying24;have hu69:=Try.underlying69;have HR0_2:=A_ hr0_2;have HC0_2:=A_ hc0_2;clear hr0_2 hc0_2;have HB:=A_ (Below.refl w.heap.size w);unfold spec_l12Frames.f at h;have H:=h;clear h;obtain ⟨y283,hy283⟩ : ∃ y_ : List Int,y_ = (([] : List Int)):=⟨_,rfl⟩
 replace H : (spec_l12Frames.l0 k y283 a1 a0_0 a0_1 l0_2) = some r:=by (rw [hy283];with_reducible exact H)
 have Ny283:=A_ hy283;clear hy283;have H':=A_ H;clear H;go_enter Try.func89,Try.ntmps89
 go_wp2_with (first|((with_reducible refine gate_dst (N:=2) rfl ?_);refine bE_ 2 #[.int .i64 a0_0,.int .i64 a0_1,.slice A0_2 l0_2.length c0_2] 24 ?_;intro gb282 hg w3 hbox hb;have BK282:=A_ (hbox);have GW282:=gE_ hg HB;have GE282:=gE_ hg HB;replace HB:=bS_ HB hb;clear hb hbox hg)|((with_reducible refine gate_dst (N:=11) rfl ?_);refine rX_ (d:=(Kd.int .u8)) (e:=5) (xs:=([] : List Int)) (inner:=[]) (ok:=fun _ => True) (okp:=fun _ => True) 11 (Reps.none _ _) ?_;intro v284 w4 ho5 hb hg_ hnew_;clear hg_ hnew_;(rw [← Ny283.out] at ho5);have HO285:=A_ (rw_ ho5 (bz_ (bq_ HB)));replace BK282:=kB_ BK282 hb;replace HB:=bS_ HB hb;clear hb ho5))
 go_loopg [5,6] k (fun kq v5 v6 w' => ∃ (x5_1 : List Int) (x6_1 : Int),v6 = .int .i64 x6_1 ∧ Aside0 (spec_l12Frames.l0 kq x5_1 x6_1 a0_0 a0_1 l0_2 = some r) ∧ Aside0 (kq ≤ k) ∧ Aside0 (Kd.R (Kd.int .u8) 5 w' w.heap.size (fun _ => True) v5 x5_1) ∧ Aside0 (w'.heap[gb282]? = some (.cells #[.int .i64 a0_0,.int .i64 a0_1,(.slice A0_2 l0_2.length c0_2)] 24 (0,0))) ∧ Aside0 (Below w.heap.size w w'))
 case atStart => exact ⟨(y283),(a1),(by rfl),H',⟨Nat.le_refl _⟩,⟨HO285.out⟩,⟨kq_ BK282⟩,⟨bq_ HB⟩⟩
 case round =>
  clear H'
  try clear p2
  obtain ⟨x5_1,x6_1,rfl,HA,HK1,HO_5,BK282,HB⟩:=hrel
  cases gk with
  | zero => exact absurd HA.out (by simp [spec_l12Frames.l0])
  | succ k1 =>
   have H:=HA.out;clear HA;simp only [spec_l12Frames.l0] at H
   by_cases c6 : x6_1 < (l0_2.length : Int)
   ·rw [if_pos c6] at H;have c6b0 : decide (x6_1 < (l0_2.length : Int)) = true:=de_ c6;clear c6
    by_cases c7 : 0 ≤ x6_1
    ·rw [if_pos c7] at H;have c7b0 : decide (0 ≤ x6_1) = true:=de_ c7;clear c7;replace H:=ob_.mp H;obtain ⟨⟨t287,t288⟩,A80,H⟩:=H;(try dsimp only at H);have A8:=A_ A80;clear A80;replace H:=ob_.mp H;obtain ⟨⟨t289,t290⟩,A90,H⟩:=H;(try dsimp only at H);have A9:=A_ A90;clear A90
     by_cases c10 : x5_1.length + t289.size < 140737488355328
     ·rw [if_pos c10] at H;have LMc10:=A_ c10;clear c10;obtain ⟨y291,hy291⟩ : ∃ y_ : List Int,y_ = (x5_1 ++ bytesOf t289):=⟨_,rfl⟩
      replace H : (spec_l12Frames.l0 k1 y291 (wrap64 (x6_1 + 1)) a0_0 a0_1 l0_2) = some r:=by (rw [hy291];with_reducible exact H)
      have Ny291:=A_ hy291;clear hy291;have H':=A_ H;clear H;obtain ⟨hcz11_0,hcz11_1,hcz11_2,hfz11_0,hfz11_1,hfz11_2⟩:=k3f_ BK282
      try go_wp2
      replace HO_5:=A_ (Rd_ HO_5.out);replace BK282:=A_ (kd_ BK282.out);replace HB:=A_ (pd_ HB.out);have p286 : 0 ≤ (x6_1 : Int):=oda_;have q286 : x6_1 < (l0_2.length : Int):=oda_;obtain ⟨ad286,e286,hx286_0,hx286_1,hx286_2⟩:=at_T69 HR0_2.out x6_1 p286 q286;have hw286_2:=hx286_2;have hw286_1:=hx286_1;have hw286_0:=hx286_0
      cases e286
      replace hx286_0:=(HB.out.cell (wb_ w _ hx286_0)).trans hx286_0;replace hx286_1:=(HB.out.cell (wb_ w _ hx286_1)).trans hx286_1;replace hx286_2:=(HB.out.cell (wb_ w _ hx286_2)).trans hx286_2;replace p286:=eq_true p286;replace q286:=eq_true q286;refine start_ (n:=16) (S:=fun w' => w'.cell? ⟨gb282,0,none⟩ = some (.int .i64 a0_0) ∧ w'.cell? ⟨gb282,1,none⟩ = some (.int .i64 a0_1) ∧ w'.cell? ⟨gb282,2,none⟩ = some (.slice (some ad286) l0_2.length c0_2) ∧ w'.cell? (ad286.add ((x6_1).toNat * 3)) = some (.int .i64 ((rd_T69 l0_2 x6_1).f0)) ∧ w'.cell? ⟨(ad286.add ((x6_1).toNat * 3)).block,(ad286.add ((x6_1).toNat * 3)).off + 1,none⟩ = some (.int .i64 ((rd_T69 l0_2 x6_1).f1)) ∧ w'.cell? ⟨(ad286.add ((x6_1).toNat * 3)).block,(ad286.add ((x6_1).toNat * 3)).off + 2,none⟩ = some (.string ((rd_T69 l0_2 x6_1).f2))) (ds:=[]) #[false,false,false,false,false,false,false,false,false,false,false,false,false,false,false,false] (by kernel_rfl) rfl rfl ⟨kC_ BK282 0,kC_ BK282 1,kC_ BK282 2,((HB.out.cell (wb_ w _ hw286_0)).trans hw286_0),((HB.out.cell (wb_ w _ hw286_1)).trans hw286_1),((HB.out.cell (wb_ w _ hw286_2)).trans hw286_2)⟩ (fun hHeld => ?_);refine with_tabW spec_l12Frames.tab5 spec_l12Frames.bits5 (fun HT_ HW_ => ?_);generalize wr.drew = w12 at HO_5 BK282 HB hx286_0 hx286_1 hx286_2 hHeld ⊢;refine pU_ 0 (some 21) ?_
      refine pU_ 3 (some 24) ?_
      refine pU_ 5 (some 26) ?_
      refine pU_ 7 (some 28) ?_
      refine tK_ 1 (some 22) hHeld ?_
      refine pU_ 2 (some 23) ?_
      refine pU_ 4 (some 25) ?_
      refine tK_ 6 (some 27) hHeld ?_
      refine pU_ 8 (some 29) ?_
      refine tK_ 9 (some 30) hHeld ?_
      refine oN_ 10 (some 31) (fun K hK => ?_);refine gs_ Try.func96 #[.int .i64 (wrap64 ((wrap64 (a0_0 + 1)) + x6_1)),.agg #[.int .i64 ((rd_T69 l0_2 x6_1).f0),.int .i64 ((rd_T69 l0_2 x6_1).f1),.string ((rd_T69 l0_2 x6_1).f2)]] ?_;with_reducible refine (spec_EntryText.calls k1 (wrap64 ((wrap64 (a0_0 + 1)) + x6_1)) ((rd_T69 l0_2 x6_1).f0) ((rd_T69 l0_2 x6_1).f1) ((rd_T69 l0_2 x6_1).f2) t287 t288 _ A8.out).mono ?_;rintro e w13 ⟨rfl,hb⟩;refine ⟨_,rfl,?_⟩;replace HO_5:=rB_ HO_5 hb;replace BK282:=kB_ BK282 hb;replace HB:=bS_ HB hb
      (try clear hb)
      refine hK.out _ _ ⟨kC_ BK282 0,kC_ BK282 1,kC_ BK282 2,((HB.out.cell (wb_ w _ hw286_0)).trans hw286_0),((HB.out.cell (wb_ w _ hw286_1)).trans hw286_1),((HB.out.cell (wb_ w _ hw286_2)).trans hw286_2)⟩ (fun hHeld => ?_);clear hK K;refine nX_ (some 31) ?_
      refine pU_ 11 (some 20) ?_
      refine pU_ 12 (some 32) ?_
      refine pU_ 13 (some 33) ?_
      refine pU_ 14 (some 7) ?_
      refine pU_ 15 (some 8) ?_
      refine done_ (done_of HT_.out (by kernel_rfl)) ?_
      try go_wp2_with (first|((with_reducible refine gate_callee (f:=53) rfl ?_);refine gL_ (some 36) Try.func53 #[.string t287] ?_;(with_reducible refine (spec_Frame.calls k1 t287 t289 t290 _ A9.out).mono ?_);rintro e w14 ⟨rfl,hb⟩;refine ⟨_,rfl,?_⟩;replace HO_5:=rB_ HO_5 hb;replace BK282:=kB_ BK282 hb;replace HB:=bS_ HB hb;(try clear hb))|((with_reducible refine gate_dst (N:=41) rfl ?_);refine conv_bytes (N:=41) rfl rfl 9 46 5 _ rfl t289 rfl Try.underlying9 Try.underlying46 Try.underlying5 (by have:=LMc10.out;omega) ?_;intro adC_ capC_ wC_ hrd_ hb;have HRD_:=A_ hrd_;clear hrd_;replace HO_5:=rB_ HO_5 hb;replace BK282:=kB_ BK282 hb;replace HB:=bS_ HB hb;clear hb)|(at_builtin;refine print_append_row (w0:=w) w.heap.size rfl (.tmp 39) _ 46 5 .u8 1 rfl Try.underlying46 info5 (by decide) u5 x5_1 (bytesOf t289) (some adC_) t289.size capC_ rfl rfl ?aO ?aR ?aB ?aS ?aL ?_;(case aR => exact HRD_.out);(case aB => exact (bq_ HB));(case aO => exact (Kd.own_of_R (rq_ HO_5)));(case aS => exact (bz_ (bq_ HB)));(case aL => have:=LMc10.out;omega);intro v292 w15 ho0 hb hg hat_;clear hat_;have ho:=Kd.R_of_own (h1:=fun _ => rfl) (ok:=fun _ => True) ho0 (fun _ _ => trivial);clear ho0;have hat:=True.intro;rw [← Ny291.out] at ho;change Kd.R (Kd.int .u8) 5 w15 w.heap.size (fun _ => True) v292 y291 at ho;replace BK282:=kG_ BK282 hg HO_5;replace HB:=A_ (hb);have HO293:=A_ (ho);clear HO_5;clear ho hb hg hat))
      go_roundg k1
      case measure => have:=HK1.out;omega
      case rel => exact ⟨(y291),(wrap64 (x6_1 + 1)),(by rfl),H',⟨by have:=HK1.out;omega⟩,⟨HO293.out⟩,⟨kq_ BK282⟩,⟨bq_ HB⟩⟩
     ·rw [if_neg c10] at H;exact absurd H (by simp)
    ·rw [if_neg c7] at H;exact absurd H (by simp)
   ·rw [if_neg c6] at H;have c6b0 : decide (x6_1 < (l0_2.length : Int)) = false:=decide_eq_false c6;clear c6;obtain rfl:=Option.some.inj H;obtain ⟨hcz16_0,hcz16_1,hcz16_2,hfz16_0,hfz16_1,hfz16_2⟩:=k3f_ BK282;have hcv17:=own_string (P:=Try.prog) Try.underlying46 Try.underlying5 Try.underlying9 (Kd.own_of_R HO_5.out);go_wp2;go_ret;exact ⟨ex_,bq_ HB⟩
def spec_l12Head.f (k : Nat) (a0_0 : Int) (a0_1 : Int) (l0_2 : List (S69)) : Option (ByteArray) := (spec_l01Var.f k a0_0).bind fun t295 => (if 1 + t295.size ≤ 9223372036854775807 then ((spec_l01Var.f k a0_1).bind fun t296 => (if ((⟨#[83]⟩ : ByteArray) ++ t295).size + t296.size ≤ 9223372036854775807 then ((spec_Frame.f k (((⟨#[83]⟩ : ByteArray) ++ t295) ++ t296)).bind fun bt297 => (some bt297.1)) else (none))) else (none))
theorem spec_l12Head.mono : ∀ a0 a1 a2 k, LeO (spec_l12Head.f k a0 a1 a2) (spec_l12Head.f (k + 1) a0 a1 a2) := by
 intro a0 a1 a2 k
 unfold spec_l12Head.f
 repeat' first
   | (with_reducible exact spec_Frame.mono _ _)
   | (with_reducible exact spec_l01Var.mono _ _)
   | (with_reducible exact LeO.refl _)
   | (with_reducible refine LeO.ite ?_ ?_)
   | (with_reducible refine LeO.bind ?_ (fun _ => ?_))
def spec_l12Head.T1 : Bool × List (List Nat × List Nat) := (true, [([], []), ([0], [0]), ([1], [1]), ([2], [2]), ([], []), ([4], [4]), ([5, 2], [5]), ([3, 6], [3, 6]), ([7, 6], [7]), ([8], [8]), ([9], [9]), ([9], [9]), ([10, 8, 0, 1, 2, 3, 4, 5, 6, 7, 8, 9, 10], [10]), ([11, 12, 0, 1, 2, 3, 4, 5, 6, 7, 8, 9, 10, 11, 12], [11])])
def spec_l12Head.B1 : List Nat := [0, 1, 3, 7, 0, 16, 55, 127, 255, 511, 1023, 1023, 2047, 8191]
theorem spec_l12Head.tab1 : rtab .any (opsOf Try.f120 1) = spec_l12Head.T1 := by kernel_rfl
theorem spec_l12Head.bits1 : waitsOk spec_l12Head.T1.2 spec_l12Head.B1 = true := by kernel_rfl
set_option maxHeartbeats 8000000 in
set_option maxRecDepth 100000 in
theorem spec_l12Head.calls (k : Nat) (a0_0 : Int) (a0_1 : Int) (A0_2 : Option Addr) (c0_2 : Nat) (l0_2 : List (S69)) (r : ByteArray) (w : World) (hr0_2 : Kd.C k69 w A0_2 l0_2.length l0_2) (hc0_2 : l0_2.length ≤ c0_2) (h : spec_l12Head.f k a0_0 a0_1 l0_2 = some r) :
  Calls Try.prog 120 #[.agg #[.int .i64 a0_0,.int .i64 a0_1,.slice A0_2 l0_2.length c0_2]] w fun e w' => e = .returned (.string r) ∧ Below w.heap.size w w':=by
 have hu24:=Try.underlying24;have HR0_2:=A_ hr0_2;have HC0_2:=A_ hc0_2;clear hr0_2 hc0_2;have HB:=A_ (Below.refl w.heap.size w);unfold spec_l12Head.f at h;have H:=h;clear h;replace H:=ob_.mp H;obtain ⟨t295,A20,H⟩:=H;have A2:=A_ A20;clear A20
 by_cases c3 : 1 + t295.size ≤ 9223372036854775807
 ·rw [if_pos c3] at H;have c3b0:=eq_true c3;have c3b1 : decide (1 + t295.size ≤ 9223372036854775807) = true:=de_ c3
  try have c3b2 : (9223372036854775807 < 1 + t295.size) = False:=eq_false (Nat.not_lt.2 c3)
  replace H:=ob_.mp H;obtain ⟨t296,A40,H⟩:=H;have A4:=A_ A40;clear A40
  by_cases c5 : ((⟨#[83]⟩ : ByteArray) ++ t295).size + t296.size ≤ 9223372036854775807
  ·rw [if_pos c5] at H;have c5b0:=eq_true c5;have c5b1 : decide (((⟨#[83]⟩ : ByteArray) ++ t295).size + t296.size ≤ 9223372036854775807) = true:=de_ c5
   try have c5b2 : (9223372036854775807 < ((⟨#[83]⟩ : ByteArray) ++ t295).size + t296.size) = False:=eq_false (Nat.not_lt.2 c5)
   try have c5b3 : (9223372036854775807 < 1 + t295.size + t296.size) = False:=eq_false (by have h_:=c5;simp only [ByteArray.size_append,show ∀ x_ : UInt8,(⟨#[x_]⟩ : ByteArray).size = 1 from fun _ => rfl] at h_;omega)
   replace H:=ob_.mp H;obtain ⟨⟨t297,t298⟩,A60,H⟩:=H;(try dsimp only at H);have A6:=A_ A60;clear A60;obtain rfl:=Option.some.inj H;go_enter Try.func120,Try.ntmps120
   try go_wp2_with (((with_reducible refine gate_dst (N:=1) rfl ?_);refine bE_ 1 #[.int .i64 a0_0,.int .i64 a0_1,.slice A0_2 l0_2.length c0_2] 24 ?_;intro gb294 hg w7 hbox hb;have BK294:=A_ (hbox);have GW294:=gE_ hg HB;have GE294:=gE_ hg HB;replace HB:=bS_ HB hb;clear hb hbox hg))
   replace BK294:=A_ (kd_ BK294.out);replace HB:=A_ (pd_ HB.out);refine start_ (n:=14) (S:=fun w' => w'.cell? ⟨gb294,0,none⟩ = some (.int .i64 a0_0) ∧ w'.cell? ⟨gb294,1,none⟩ = some (.int .i64 a0_1) ∧ w'.cell? ⟨gb294,2,none⟩ = some (.slice A0_2 l0_2.length c0_2)) (ds:=[]) #[false,false,false,false,false,false,false,false,false,false,false,false,false,false] (by kernel_rfl) rfl rfl ⟨kC_ BK294 0,kC_ BK294 1,kC_ BK294 2⟩ (fun hHeld => ?_);refine with_tabW spec_l12Head.tab1 spec_l12Head.bits1 (fun HT_ HW_ => ?_);generalize w7.drew = w8 at BK294 HB hHeld ⊢;refine pU_ 0 (some 6) ?_
   refine pU_ 4 (some 10) ?_
   refine tK_ 1 (some 7) hHeld ?_
   refine tK_ 5 (some 11) hHeld ?_
   refine oN_ 2 (some 8) (fun K hK => ?_);refine gs_ Try.func54 #[.int .i64 a0_0] ?_;with_reducible refine (spec_l01Var.calls k a0_0 t295 _ A2.out).mono ?_;rintro e w9 ⟨rfl,hb⟩;refine ⟨_,rfl,?_⟩;replace BK294:=kB_ BK294 hb;replace HB:=bS_ HB hb
   (try clear hb)
   refine hK.out _ _ ⟨kC_ BK294 0,kC_ BK294 1,kC_ BK294 2⟩ (fun hHeld => ?_);clear hK K;refine nX_ (some 8) ?_
   refine pU_ 3 (some 9) ?_
   refine oN_ 6 (some 12) (fun K hK => ?_);refine gs_ Try.func54 #[.int .i64 a0_1] ?_;with_reducible refine (spec_l01Var.calls k a0_1 t296 _ A4.out).mono ?_;rintro e w10 ⟨rfl,hb⟩;refine ⟨_,rfl,?_⟩;replace BK294:=kB_ BK294 hb;replace HB:=bS_ HB hb
   (try clear hb)
   refine hK.out _ _ ⟨kC_ BK294 0,kC_ BK294 1,kC_ BK294 2⟩ (fun hHeld => ?_);clear hK K;refine nX_ (some 12) ?_
   refine pU_ 7 (some 13) ?_
   refine oN_ 8 (some 14) (fun K hK => ?_);refine gs_ Try.func53 #[.string (((⟨#[83]⟩ : ByteArray) ++ t295) ++ t296)] ?_;with_reducible refine (spec_Frame.calls k (((⟨#[83]⟩ : ByteArray) ++ t295) ++ t296) t297 t298 _ A6.out).mono ?_;rintro e w11 ⟨rfl,hb⟩;refine ⟨_,rfl,?_⟩;replace BK294:=kB_ BK294 hb;replace HB:=bS_ HB hb
   (try clear hb)
   refine hK.out _ _ ⟨kC_ BK294 0,kC_ BK294 1,kC_ BK294 2⟩ (fun hHeld => ?_);clear hK K;refine nX_ (some 14) ?_
   refine pU_ 9 (some 5) ?_
   refine pU_ 10 (some 15) ?_
   refine pU_ 11 (some 16) ?_
   refine pU_ 12 (some 3) ?_
   refine pU_ 13 (some 4) ?_
   refine done_ (done_of HT_.out (by kernel_rfl)) ?_
   try go_wp2
   go_ret;exact ⟨ex_,bq_ HB⟩
  ·rw [if_neg c5] at H;exact absurd H (by simp)
 ·rw [if_neg c3] at H;exact absurd H (by simp)
def spec_LogFile.f (k : Nat) (a0_0 : Int) (a0_1 : Int) (l0_2 : List (S69)) : Option (ByteArray × Bool) := (spec_LogOk.f k a0_0 a0_1 l0_2).bind fun t300 => (if t300 = true then ((spec_l12Head.f k a0_0 a0_1 l0_2).bind fun t301 => ((spec_l12Frames.f k a0_0 a0_1 l0_2 0).bind fun t302 => (if t301.size + t302.size ≤ 9223372036854775807 then (if ((t301 ++ t302).size : Int) > 20000 then (some ((⟨#[]⟩ : ByteArray), false)) else (some (t301 ++ t302, true))) else (none)))) else (some ((⟨#[]⟩ : ByteArray), false)))
theorem spec_LogFile.mono : ∀ a0 a1 a2 k, LeO (spec_LogFile.f k a0 a1 a2) (spec_LogFile.f (k + 1) a0 a1 a2) := by
 intro a0 a1 a2 k
 unfold spec_LogFile.f
 repeat' first
   | (with_reducible exact spec_LogOk.mono _ _ _ _)
   | (with_reducible exact spec_l12Frames.mono _ _ _ _ _)
   | (with_reducible exact spec_l12Head.mono _ _ _ _)
   | (with_reducible exact LeO.refl _)
   | (with_reducible refine LeO.ite ?_ ?_)
   | (with_reducible refine LeO.bind ?_ (fun _ => ?_))
set_option maxHeartbeats 8000000 in
set_option maxRecDepth 100000 in
theorem spec_LogFile.calls (k : Nat) (a0_0 : Int) (a0_1 : Int) (A0_2 : Option Addr) (c0_2 : Nat) (l0_2 : List (S69)) (r1 : ByteArray) (r2 : Bool) (w : World) (hr0_2 : Kd.C k69 w A0_2 l0_2.length l0_2) (hc0_2 : l0_2.length ≤ c0_2) (h : spec_LogFile.f k a0_0 a0_1 l0_2 = some (r1, r2)) :
  Calls Try.prog 87 #[.agg #[.int .i64 a0_0,.int .i64 a0_1,.slice A0_2 l0_2.length c0_2]] w fun e w' => e = .returned (.tuple #[.string r1,.bool r2]) ∧ Below w.heap.size w w':=by
 have hu24:=Try.underlying24;have HR0_2:=A_ hr0_2;have HC0_2:=A_ hc0_2;clear hr0_2 hc0_2;have HB:=A_ (Below.refl w.heap.size w);unfold spec_LogFile.f at h;have H:=h;clear h;replace H:=ob_.mp H;obtain ⟨t300,A20,H⟩:=H;have A2:=A_ A20;clear A20
 by_cases c3 : t300 = true
 ·subst c3
  rw [if_pos rfl] at H;replace H:=ob_.mp H;obtain ⟨t301,A40,H⟩:=H;have A4:=A_ A40;clear A40;replace H:=ob_.mp H;obtain ⟨t302,A50,H⟩:=H;have A5:=A_ A50;clear A50
  by_cases c6 : t301.size + t302.size ≤ 9223372036854775807
  ·rw [if_pos c6] at H;have c6b0:=eq_true c6;have c6b1 : decide (t301.size + t302.size ≤ 9223372036854775807) = true:=de_ c6
   try have c6b2 : (9223372036854775807 < t301.size + t302.size) = False:=eq_false (Nat.not_lt.2 c6)
   by_cases c7 : ((t301 ++ t302).size : Int) > 20000
   ·rw [if_pos c7] at H;have c7b0 : decide (20000 < ((t301 ++ t302).size : Int)) = true:=de_ c7;have c7b9:=c7b0
    try simp only [ByteArray.size_append,Int.natCast_add] at c7b9
    have c7b1 : decide (20000 < (t301 ++ t302).size) = true:=de_ (by omega);clear c7;simp only [Option.some.injEq,Prod.mk.injEq] at H;obtain ⟨rfl,rfl⟩:=H;go_enter Try.func87,Try.ntmps87
    try go_wp2_with (first|((with_reducible refine gate_dst (N:=1) rfl ?_);refine bE_ 1 #[.int .i64 a0_0,.int .i64 a0_1,.slice A0_2 l0_2.length c0_2] 24 ?_;intro gb299 hg w8 hbox hb;have BK299:=A_ (hbox);have GW299:=gE_ hg HB;have GE299:=gE_ hg HB;replace HB:=bS_ HB hb;clear hb hbox hg;obtain ⟨hcz9_0,hcz9_1,hcz9_2,hfz9_0,hfz9_1,hfz9_2⟩:=k3f_ BK299)|((with_reducible refine gate_callee (f:=43) rfl ?_);refine gL_ (some 6) Try.func43 #[.agg #[.int .i64 a0_0,.int .i64 a0_1,.slice A0_2 l0_2.length c0_2]] ?_;(with_reducible refine (spec_LogOk.calls k a0_0 a0_1 _ _ l0_2 true _ ?side1 ?side2 A2.out).mono ?_);(case side1 => repeat (exact (Kd.C_below HR0_2.out HB.out)));(case side2 => exact HC0_2.out);rintro e w10 ⟨rfl,hb⟩;refine ⟨_,rfl,?_⟩;replace BK299:=kB_ BK299 hb;replace HB:=bS_ HB hb;(try clear hb)))
    replace BK299:=A_ (kd_ BK299.out);replace HB:=A_ (pd_ HB.out);refine start_ (n:=6) (S:=fun w' => w'.cell? ⟨gb299,0,none⟩ = some (.int .i64 a0_0) ∧ w'.cell? ⟨gb299,1,none⟩ = some (.int .i64 a0_1) ∧ w'.cell? ⟨gb299,2,none⟩ = some (.slice A0_2 l0_2.length c0_2)) (ds:=[]) #[false,false,false,false,false,false] (by kernel_rfl) rfl rfl ⟨kC_ BK299 0,kC_ BK299 1,kC_ BK299 2⟩ (fun hHeld => ?_);generalize w10.drew = w11 at BK299 HB hHeld ⊢;refine take_ (i:=0) (N:=some 8) (v:=?_) (a':=?_) #[true,false,false,false,false,false] rfl rfl (by kernel_rfl) (fun _ _ _ h => h) (Or.inl ⟨by rfl,?_⟩) hHeld ?_ ?_;rotate_left
    ·rintro w' ⟨s0,s1,s2⟩;go_simp;with_reducible rfl
    rotate_left
    ·exact ux_
    refine take_ (i:=2) (N:=some 10) (v:=?_) (a':=?_) #[true,false,true,false,false,false] rfl rfl (by kernel_rfl) (fun _ _ _ h => h) (Or.inl ⟨by rfl,?_⟩) hHeld ?_ ?_;rotate_left
    ·rintro w' ⟨s0,s1,s2⟩;go_simp;with_reducible rfl
    rotate_left
    ·exact ux_
    refine one_ (i:=1) (N:=some 9) #[true,true,true,false,false,false] rfl rfl (by kernel_rfl) (by decide) (fun K hK => ?_);refine gs_ Try.func120 #[.agg #[.int .i64 a0_0,.int .i64 a0_1,.slice A0_2 l0_2.length c0_2]] ?_;with_reducible refine (spec_l12Head.calls k a0_0 a0_1 _ _ l0_2 t301 _ ?side1 ?side2 A4.out).mono ?_
    (case side1 => repeat (exact (Kd.C_below HR0_2.out HB.out)))
    (case side2 => exact HC0_2.out)
    rintro e w12 ⟨rfl,hb⟩;refine ⟨_,rfl,?_⟩;replace BK299:=kB_ BK299 hb;replace HB:=bS_ HB hb
    (try clear hb)
    refine hK.out _ _ ⟨kC_ BK299 0,kC_ BK299 1,kC_ BK299 2⟩ (fun hHeld => ?_);clear hK K;refine nX_ (some 9) ?_
    refine one_ (i:=3) (N:=some 11) #[true,true,true,true,false,false] rfl rfl (by kernel_rfl) (by decide) (fun K hK => ?_);refine gs_ Try.func89 #[.agg #[.int .i64 a0_0,.int .i64 a0_1,.slice A0_2 l0_2.length c0_2],.int .i64 0] ?_;with_reducible refine (spec_l12Frames.calls k a0_0 a0_1 _ _ l0_2 0 t302 _ ?side1 ?side2 A5.out).mono ?_
    (case side1 => repeat (exact (Kd.C_below HR0_2.out HB.out)))
    (case side2 => exact HC0_2.out)
    rintro e w13 ⟨rfl,hb⟩;refine ⟨_,rfl,?_⟩;replace BK299:=kB_ BK299 hb;replace HB:=bS_ HB hb
    (try clear hb)
    refine hK.out _ _ ⟨kC_ BK299 0,kC_ BK299 1,kC_ BK299 2⟩ (fun hHeld => ?_);clear hK K;refine nX_ (some 11) ?_
    refine pure_ (i:=4) (N:=some 12) (v:=?_) (a':=?_) #[true,true,true,true,true,false] rfl rfl (by kernel_rfl) (fun _ _ _ h => h) (Or.inl ⟨by rfl,?_⟩) ?_ ?_;rotate_left
    ·intro w';go_simp;with_reducible rfl
    rotate_left
    ·exact ux_
    refine pure_ (i:=5) (N:=some 4) (v:=?_) (a':=?_) #[true,true,true,true,true,true] rfl rfl (by kernel_rfl) (fun _ _ _ h => h) (Or.inl ⟨by rfl,?_⟩) ?_ ?_;rotate_left
    ·intro w';go_simp;with_reducible rfl
    rotate_left
    ·exact ux_
    refine done_ (by kernel_rfl) ?_
    try go_wp2
    go_ret2;exact ⟨ex_,bq_ HB⟩
   ·rw [if_neg c7] at H;have c7b0 : decide (20000 < ((t301 ++ t302).size : Int)) = false:=decide_eq_false c7;have c7b9:=c7b0
    try simp only [ByteArray.size_append,Int.natCast_add] at c7b9
    have c7b1 : decide (20000 < (t301 ++ t302).size) = false:=decide_eq_false (by omega);clear c7;simp only [Option.some.injEq,Prod.mk.injEq] at H;obtain ⟨rfl,rfl⟩:=H;go_enter Try.func87,Try.ntmps87
    try go_wp2_with (first|((with_reducible refine gate_dst (N:=1) rfl ?_);refine bE_ 1 #[.int .i64 a0_0,.int .i64 a0_1,.slice A0_2 l0_2.length c0_2] 24 ?_;intro gb299 hg w14 hbox hb;have BK299:=A_ (hbox);have GW299:=gE_ hg HB;have GE299:=gE_ hg HB;replace HB:=bS_ HB hb;clear hb hbox hg;obtain ⟨hcz15_0,hcz15_1,hcz15_2,hfz15_0,hfz15_1,hfz15_2⟩:=k3f_ BK299)|((with_reducible refine gate_callee (f:=43) rfl ?_);refine gL_ (some 6) Try.func43 #[.agg #[.int .i64 a0_0,.int .i64 a0_1,.slice A0_2 l0_2.length c0_2]] ?_;(with_reducible refine (spec_LogOk.calls k a0_0 a0_1 _ _ l0_2 true _ ?side1 ?side2 A2.out).mono ?_);(case side1 => repeat (exact (Kd.C_below HR0_2.out HB.out)));(case side2 => exact HC0_2.out);rintro e w16 ⟨rfl,hb⟩;refine ⟨_,rfl,?_⟩;replace BK299:=kB_ BK299 hb;replace HB:=bS_ HB hb;(try clear hb)))
    replace BK299:=A_ (kd_ BK299.out);replace HB:=A_ (pd_ HB.out);refine start_ (n:=6) (S:=fun w' => w'.cell? ⟨gb299,0,none⟩ = some (.int .i64 a0_0) ∧ w'.cell? ⟨gb299,1,none⟩ = some (.int .i64 a0_1) ∧ w'.cell? ⟨gb299,2,none⟩ = some (.slice A0_2 l0_2.length c0_2)) (ds:=[]) #[false,false,false,false,false,false] (by kernel_rfl) rfl rfl ⟨kC_ BK299 0,kC_ BK299 1,kC_ BK299 2⟩ (fun hHeld => ?_);generalize w16.drew = w17 at BK299 HB hHeld ⊢;refine take_ (i:=0) (N:=some 8) (v:=?_) (a':=?_) #[true,false,false,false,false,false] rfl rfl (by kernel_rfl) (fun _ _ _ h => h) (Or.inl ⟨by rfl,?_⟩) hHeld ?_ ?_;rotate_left
    ·rintro w' ⟨s0,s1,s2⟩;go_simp;with_reducible rfl
    rotate_left
    ·exact ux_
    refine take_ (i:=2) (N:=some 10) (v:=?_) (a':=?_) #[true,false,true,false,false,false] rfl rfl (by kernel_rfl) (fun _ _ _ h => h) (Or.inl ⟨by rfl,?_⟩) hHeld ?_ ?_;rotate_left
    ·rintro w' ⟨s0,s1,s2⟩;go_simp;with_reducible rfl
    rotate_left
    ·exact ux_
    refine one_ (i:=1) (N:=some 9) #[true,true,true,false,false,false] rfl rfl (by kernel_rfl) (by decide) (fun K hK => ?_);refine gs_ Try.func120 #[.agg #[.int .i64 a0_0,.int .i64 a0_1,.slice A0_2 l0_2.length c0_2]] ?_;with_reducible refine (spec_l12Head.calls k a0_0 a0_1 _ _ l0_2 t301 _ ?side1 ?side2 A4.out).mono ?_
    (case side1 => repeat (exact (Kd.C_below HR0_2.out HB.out)))
    (case side2 => exact HC0_2.out)
    rintro e w18 ⟨rfl,hb⟩;refine ⟨_,rfl,?_⟩;replace BK299:=kB_ BK299 hb;replace HB:=bS_ HB hb
    (try clear hb)
    refine hK.out _ _ ⟨kC_ BK299 0,kC_ BK299 1,kC_ BK299 2⟩ (fun hHeld => ?_);clear hK K;refine nX_ (some 9) ?_
    refine one_ (i:=3) (N:=some 11) #[true,true,true,true,false,false] rfl rfl (by kernel_rfl) (by decide) (fun K hK => ?_);refine gs_ Try.func89 #[.agg #[.int .i64 a0_0,.int .i64 a0_1,.slice A0_2 l0_2.length c0_2],.int .i64 0] ?_;with_reducible refine (spec_l12Frames.calls k a0_0 a0_1 _ _ l0_2 0 t302 _ ?side1 ?side2 A5.out).mono ?_
    (case side1 => repeat (exact (Kd.C_below HR0_2.out HB.out)))
    (case side2 => exact HC0_2.out)
    rintro e w19 ⟨rfl,hb⟩;refine ⟨_,rfl,?_⟩;replace BK299:=kB_ BK299 hb;replace HB:=bS_ HB hb
    (try clear hb)
    refine hK.out _ _ ⟨kC_ BK299 0,kC_ BK299 1,kC_ BK299 2⟩ (fun hHeld => ?_);clear hK K;refine nX_ (some 11) ?_
    refine pure_ (i:=4) (N:=some 12) (v:=?_) (a':=?_) #[true,true,true,true,true,false] rfl rfl (by kernel_rfl) (fun _ _ _ h => h) (Or.inl ⟨by rfl,?_⟩) ?_ ?_;rotate_left
    ·intro w';go_simp;with_reducible rfl
    rotate_left
    ·exact ux_
    refine pure_ (i:=5) (N:=some 4) (v:=?_) (a':=?_) #[true,true,true,true,true,true] rfl rfl (by kernel_rfl) (fun _ _ _ h => h) (Or.inl ⟨by rfl,?_⟩) ?_ ?_;rotate_left
    ·intro w';go_simp;with_reducible rfl
    rotate_left
    ·exact ux_
    refine done_ (by kernel_rfl) ?_
    try go_wp2
    go_ret2;exact ⟨ex_,bq_ HB⟩
  ·rw [if_neg c6] at H;exact absurd H (by simp)
 ·replace c3:=Bool.eq_false_iff.mpr c3;subst c3
  have H1 : (some ((⟨#[]⟩ : ByteArray),false)) = some (r1,r2):=by rw [if_neg (show ¬ (false = true) by decide)] at H;exact H
  clear H;have H:=H1;clear H1;simp only [Option.some.injEq,Prod.mk.injEq] at H;obtain ⟨rfl,rfl⟩:=H;go_enter Try.func87,Try.ntmps87
  go_wp2_with (first|((with_reducible refine gate_dst (N:=1) rfl ?_);refine bE_ 1 #[.int .i64 a0_0,.int .i64 a0_1,.slice A0_2 l0_2.length c0_2] 24 ?_;intro gb299 hg w20 hbox hb;have BK299:=A_ (hbox);have GW299:=gE_ hg HB;have GE299:=gE_ hg HB;replace HB:=bS_ HB hb;clear hb hbox hg;obtain ⟨hcz21_0,hcz21_1,hcz21_2,hfz21_0,hfz21_1,hfz21_2⟩:=k3f_ BK299)|((with_reducible refine gate_callee (f:=43) rfl ?_);refine gL_ (some 6) Try.func43 #[.agg #[.int .i64 a0_0,.int .i64 a0_1,.slice A0_2 l0_2.length c0_2]] ?_;(with_reducible refine (spec_LogOk.calls k a0_0 a0_1 _ _ l0_2 false _ ?side1 ?side2 A2.out).mono ?_);(case side1 => repeat (exact (Kd.C_below HR0_2.out HB.out)));(case side2 => exact HC0_2.out);rintro e w22 ⟨rfl,hb⟩;refine ⟨_,rfl,?_⟩;replace BK299:=kB_ BK299 hb;replace HB:=bS_ HB hb;(try clear hb)))
  go_ret2;exact ⟨ex_,bq_ HB⟩
end Go.Proofs.Ytbcgnncbiblibaa.PFnExactLogSteps
