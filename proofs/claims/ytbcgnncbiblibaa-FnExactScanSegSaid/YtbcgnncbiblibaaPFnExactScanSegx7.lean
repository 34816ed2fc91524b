/- The contracts of the Go functions that this law reaches: what each call returns, by a plain Lean function of its arguments. No conditions but those each contract names. By the kit's print.py, run by this session's wip/gen/pp.py with facts and hand proofs beside it: not to the letter what print.sh prints. -/
import Derived.Test.YtbcgnncbiblibaaPFnExactScanSegx0
import Derived.Test.YtbcgnncbiblibaaPFnExactScanSegx1
import Derived.Test.YtbcgnncbiblibaaPFnExactScanSegx2
import Derived.Test.YtbcgnncbiblibaaPFnExactScanSegx3
import Derived.Test.YtbcgnncbiblibaaPFnExactScanSegx6
namespace Go.Proofs.Ytbcgnncbiblibaa.PFnExactScanSeg
open Go.RowKit Go.Proofs.YtbcgnncbiblibaaW.PrintWords Go.Proofs.YtbcgnncbiblibaaW.PrintLast Go.Proofs.YtbcgnncbiblibaaW.PrintMore
attribute [local go_sem] max2_int min2_int max_two min_two max_three min_three max_four min_four
set_option linter.unusedVariables false
set_option linter.unusedSimpArgs false
mutual
def spec_ScanSeg.l0 : Nat → Int → List (S88) → List ByteArray → Int → List ByteArray → Int → Int → Option ((List (S88)) × List ByteArray × Int)
 | 0,_,_,_,_,_,_,_ => none
 | k + 1,x1,x7,x8,x9,x10,x12,x13 => if x13 < (x10.length : Int) then (if 0 ≤ x13 then ((spec_ReadBatch.f k (rdOf ByteArray.empty x10 x13)).bind fun bt203 => (if bt203.2.2 = true then ((spec_Frame.f k (rdOf ByteArray.empty x10 x13)).bind fun bt210 => ((spec_l01Var.f k bt203.1).bind fun t213 => ((spec_l01Var.f k (bt203.2.1.length : Int)).bind fun t214 => (spec_ScanSeg.l1 k x1 x7 x8 x9 x10 x12 x13 bt210.1 (wrap64 ((wrap64 ((wrap64 ((wrap64 (x12 + (bt210.1.size : Int))) - ((rdOf ByteArray.empty x10 x13).size : Int))) + (t213.size : Int))) + (t214.size : Int))) 0 bt203.1 bt203.2.1)))) else (some (x7,x8,x9)))) else (none)) else (some (x7,x8,x9))
def spec_ScanSeg.l1 : Nat → Int → List (S88) → List ByteArray → Int → List ByteArray → Int → Int → ByteArray → Int → Int → Int → List (S85) → Option ((List (S88)) × List ByteArray × Int)
 | 0,_,_,_,_,_,_,_,_,_,_,_,_ => none
 | k + 1,x1,x7,x8,x9,x10,x12,x13,x16,x18,x19,x209000,x209001 => if x19 < (x209001.length : Int) then (if 0 ≤ x19 then ((spec_l05Short.f k ((rd_T85 x209001 x19).f0)).bind fun t225 => ((spec_l01Var.f k (((rd_T85 x209001 x19).f1).size : Int)).bind fun t226 => (if (rd_T85 x209001 x19).f2 = true then (if x7.length < 3518437208883 then (spec_ScanSeg.l1 k x1 (x7 ++ [(⟨(rd_T85 x209001 x19).f0,x1,0,(-1)⟩ : S88)]) x8 x9 x10 x12 x13 x16 (wrap64 ((wrap64 ((wrap64 ((wrap64 (x18 + (t225.size : Int))) + 1)) + (t226.size : Int))) + (((rd_T85 x209001 x19).f1).size : Int))) (wrap64 (x19 + 1)) x209000 x209001) else (none)) else (if x7.length < 3518437208883 then (spec_ScanSeg.l1 k x1 (x7 ++ [(⟨(rd_T85 x209001 x19).f0,x1,wrap64 ((wrap64 ((wrap64 (x18 + (t225.size : Int))) + 1)) + (t226.size : Int)),(((rd_T85 x209001 x19).f1).size : Int)⟩ : S88)]) x8 x9 x10 x12 x13 x16 (wrap64 ((wrap64 ((wrap64 ((wrap64 (x18 + (t225.size : Int))) + 1)) + (t226.size : Int))) + (((rd_T85 x209001 x19).f1).size : Int))) (wrap64 (x19 + 1)) x209000 x209001) else (none))))) else (none)) else (if x209000 > x9 then (if 0 ≤ x13 then (if x13 < (x10.length : Int) then (if x8.length < 8796093022208 then (spec_ScanSeg.l0 k x1 x7 (x8 ++ [rdOf ByteArray.empty x10 x13]) x209000 x10 (wrap64 (x12 + (x16.size : Int))) (wrap64 (x13 + 1))) else (none)) else (none)) else (none)) else (if 0 ≤ x13 then (if x13 < (x10.length : Int) then (if x8.length < 8796093022208 then (spec_ScanSeg.l0 k x1 x7 (x8 ++ [rdOf ByteArray.empty x10 x13]) x9 x10 (wrap64 (x12 + (x16.size : Int))) (wrap64 (x13 + 1))) else (none)) else (none)) else (none)))
end
def spec_ScanSeg.f (k : Nat) (a0 : ByteArray) (a1 : Int) : Option ((List (S88)) × List ByteArray × Int) := (spec_Unframe.f k a0).bind fun bt198 => (spec_ScanSeg.l0 k a1 (([] : List (S88))) (([] : List ByteArray)) (-1) bt198.1 0 0)
theorem spec_ScanSeg.mono_l : ∀ k, (∀ y0 y1 y2 y3 y4 y5 y6, LeO (spec_ScanSeg.l0 k y0 y1 y2 y3 y4 y5 y6) (spec_ScanSeg.l0 (k + 1) y0 y1 y2 y3 y4 y5 y6)) ∧ (∀ y0 y1 y2 y3 y4 y5 y6 y7 y8 y9 y10 y11, LeO (spec_ScanSeg.l1 k y0 y1 y2 y3 y4 y5 y6 y7 y8 y9 y10 y11) (spec_ScanSeg.l1 (k + 1) y0 y1 y2 y3 y4 y5 y6 y7 y8 y9 y10 y11))
 | 0 => ⟨fun _ _ _ _ _ _ _ r h => by simp [spec_ScanSeg.l0] at h,fun _ _ _ _ _ _ _ _ _ _ _ _ r h => by simp [spec_ScanSeg.l1] at h⟩
 | k + 1 => by
  obtain ⟨ih0,ih1⟩:=spec_ScanSeg.mono_l k;refine ⟨?_,?_⟩
  ·intro y0 y1 y2 y3 y4 y5 y6
   unfold spec_ScanSeg.l0
   repeat' first
   | (with_reducible exact ih0 _ _ _ _ _ _ _)
   | (with_reducible exact ih1 _ _ _ _ _ _ _ _ _ _ _ _)
   | (with_reducible exact spec_Frame.mono _ _)
   | (with_reducible exact spec_ReadBatch.mono _ _)
   | (with_reducible exact spec_Unframe.mono _ _)
   | (with_reducible exact spec_l01Var.mono _ _)
   | (with_reducible exact spec_l05Short.mono _ _)
   | (with_reducible exact LeO.refl _)
   | (with_reducible exact LeO.none _)
   | (with_reducible refine LeO.ite ?_ ?_)
   | (with_reducible refine LeO.bind ?_ (fun _ => ?_))
  ·intro y0 y1 y2 y3 y4 y5 y6 y7 y8 y9 y10 y11
   unfold spec_ScanSeg.l1
   repeat' first
   | (with_reducible exact ih0 _ _ _ _ _ _ _)
   | (with_reducible exact ih1 _ _ _ _ _ _ _ _ _ _ _ _)
   | (with_reducible exact spec_Frame.mono _ _)
   | (with_reducible exact spec_ReadBatch.mono _ _)
   | (with_reducible exact spec_Unframe.mono _ _)
   | (with_reducible exact spec_l01Var.mono _ _)
   | (with_reducible exact spec_l05Short.mono _ _)
   | (with_reducible exact LeO.refl _)
   | (with_reducible exact LeO.none _)
   | (with_reducible refine LeO.ite ?_ ?_)
   | (with_reducible refine LeO.bind ?_ (fun _ => ?_))
theorem spec_ScanSeg.mono : ∀ a0 a1 k, LeO (spec_ScanSeg.f k a0 a1) (spec_ScanSeg.f (k + 1) a0 a1) := by
 intro a0 a1 k;obtain ⟨ih0,ih1⟩:=spec_ScanSeg.mono_l k
 unfold spec_ScanSeg.f
 repeat' first
   | (with_reducible exact ih0 _ _ _ _ _ _ _)
   | (with_reducible exact ih1 _ _ _ _ _ _ _ _ _ _ _ _)
   | (with_reducible exact spec_Frame.mono _ _)
   | (with_reducible exact spec_ReadBatch.mono _ _)
   | (with_reducible exact spec_Unframe.mono _ _)
   | (with_reducible exact spec_l01Var.mono _ _)
   | (with_reducible exact spec_l05Short.mono _ _)
   | (with_reducible exact LeO.refl _)
   | (with_reducible exact LeO.none _)
   | (with_reducible refine LeO.ite ?_ ?_)
   | (with_reducible refine LeO.bind ?_ (fun _ => ?_))
def spec_ScanSeg.T13 : Bool × List (List Nat × List Nat) := (true, [([], []), ([], []), ([1], [1]), ([0, 2], [0, 2]), ([], []), ([], []), ([4, 5], [4, 5]), ([6], [6]), ([7], [7]), ([3, 8], [3, 8]), ([], []), ([10], [10]), ([11], [11]), ([12], [12]), ([9, 13], [9, 13]), ([], []), ([15], [15]), ([16], [16]), ([17, 12], [17]), ([18], [18]), ([14, 19], [14, 19]), ([20, 18, 0, 1, 2, 3, 4, 5, 6, 7, 8, 9, 10, 11, 12, 13, 14, 15, 16, 17, 18, 19, 20], [20])])
def spec_ScanSeg.B13 : List Nat := [0, 0, 2, 7, 0, 0, 48, 112, 240, 511, 0, 1024, 3072, 7168, 16383, 0, 32768, 98304, 236544, 498688, 1048575, 2097151]
theorem spec_ScanSeg.tab13 : rtab .any (opsOf Try.f13 13) = spec_ScanSeg.T13 := by kernel_rfl
theorem spec_ScanSeg.bits13 : waitsOk spec_ScanSeg.T13.2 spec_ScanSeg.B13 = true := by kernel_rfl
def spec_ScanSeg.T18 : Bool × List (List Nat × List Nat) := (true, [([], []), ([], []), ([1], [1]), ([2], [2]), ([3], [3]), ([0, 4], [0, 4]), ([5], [5]), ([], []), ([7], [7]), ([8], [8]), ([9, 3], [9]), ([10], [10]), ([6, 11], [6, 11]), ([12, 10, 0, 1, 2, 3, 4, 5, 6, 7, 8, 9, 10, 11, 12], [0, 12])])
def spec_ScanSeg.B18 : List Nat := [0, 0, 2, 6, 14, 31, 63, 0, 128, 384, 910, 1934, 4095, 8191]
theorem spec_ScanSeg.tab18 : rtab .any (opsOf Try.f13 18) = spec_ScanSeg.T18 := by kernel_rfl
theorem spec_ScanSeg.bits18 : waitsOk spec_ScanSeg.T18.2 spec_ScanSeg.B18 = true := by kernel_rfl
set_option maxHeartbeats 8000000 in
set_option maxRecDepth 100000 in
theorem spec_ScanSeg.calls (k : Nat) (a0 : ByteArray) (a1 : Int) (r1 : List (S88)) (r2 : List ByteArray) (r3 : Int) (w : World) (h : spec_ScanSeg.f k a0 a1 = some (r1, r2, r3)) :
  Calls Try.prog 13 #[.string a0,.int .i64 a1] w fun e w' => ∃ v0_ v1_ : Value,e = .returned (.tuple #[v0_,v1_,.int .i64 r3]) ∧ Kd.R k88 88 w' w.heap.size (fun _ => True) v0_ r1 ∧ Kd.R Kd.string 9 w' w.heap.size (fun _ => True) v1_ r2 ∧ Below w.heap.size w w':=by
 have hu79:=Try.underlying79;have hu85:=Try.underlying85;have hu88:=Try.underlying88;have HB:=A_ (Below.refl w.heap.size w);unfold spec_ScanSeg.f at h;have H:=h;clear h;obtain ⟨y192,hy192⟩ : ∃ y_ : List (S88),y_ = (([] : List (S88))):=⟨_,rfl⟩
 replace H : ((spec_Unframe.f k a0).bind fun bt198 => (spec_ScanSeg.l0 k a1 y192 (([] : List ByteArray)) (-1) bt198.1 0 0)) = some (r1,r2,r3):=by first|(rw [hy192];with_reducible exact H)|(have H2_:=(Option.bind_some _ _).symm.trans H;rw [hy192];with_reducible exact H2_)|(have H2_:=(Option.bind_some _ _).symm.trans H;with_reducible exact H2_)|with_reducible exact H|(rw [hy192];exact H)|exact H
 have Ny192:=A_ hy192;clear hy192;obtain ⟨y195,hy195⟩ : ∃ y_ : List ByteArray,y_ = (([] : List ByteArray)):=⟨_,rfl⟩
 replace H : ((spec_Unframe.f k a0).bind fun bt198 => (spec_ScanSeg.l0 k a1 y192 y195 (-1) bt198.1 0 0)) = some (r1,r2,r3):=by first|(rw [hy195];with_reducible exact H)|(have H2_:=(Option.bind_some _ _).symm.trans H;rw [hy195];with_reducible exact H2_)|(have H2_:=(Option.bind_some _ _).symm.trans H;with_reducible exact H2_)|with_reducible exact H|(rw [hy195];exact H)|exact H
 have Ny195:=A_ hy195;clear hy195;replace H:=ob_.mp H;obtain ⟨⟨t198,t199⟩,A30,H⟩:=H;(try dsimp only at H);have A3:=A_ A30;clear A30;have H':=A_ H;clear H;go_enter Try.func13,Try.ntmps13
 go_wp2_with (first|((with_reducible refine gate_dst (N:=21) rfl ?_);refine rX_ (d:=k88) (e:=88) (xs:=([] : List (S88))) (inner:=[]) (ok:=fun _ => True) (okp:=fun _ => True) 21 (Reps.none _ _) ?_;intro v193 w4 ho5 hb hg_ hnew_;clear hg_ hnew_;(first|rw [← Ny192.out] at ho5|(simp only [Int.reduceToNat] at ho5;rw [← Ny192.out] at ho5));have HO194:=A_ (rw_ ho5 (bz_ (bq_ HB)));replace HB:=bS_ HB hb;clear hb ho5)|((with_reducible refine gate_dst (N:=22) rfl ?_);refine Kd.R_lit Kd.string _ 9 ?hg (N:=22) ?hd (xs:=([] : List ByteArray)) (inner:=[]) (ok:=fun _ => True) (okp:=fun _ => True) ?hr ?hp (fun _ hk => hk) trivial (Below.refl _ _) (Nat.le_refl _) (by simp) ?_;(case hd => rfl);(case hg => rfl);(case hr => exact gx_);(case hp => exact (Reps.none _ _));intro v196 w6 ho7 hb hg_ hnew_;clear hg_ hnew_;(first|rw [← Ny195.out] at ho7|(simp only [Int.reduceToNat] at ho7;rw [← Ny195.out] at ho7));replace HO194:=rB_ HO194 hb;have HO197:=A_ (rw_ ho7 (bz_ (bq_ HB)));replace HB:=bS_ HB hb;clear hb ho7)|((with_reducible refine gate_callee (f:=39) rfl ?_);refine gL_ (some 25) Try.func39 #[.string a0] ?_;(with_reducible refine (spec_Unframe.calls k a0 t198 t199 _ A3.out).mono ?_);rintro e w8 ⟨v200,rfl,ho0,hb⟩;refine ⟨_,rfl,?_⟩;replace HO194:=rB_ HO194 hb;have HO201:=A_ (rw_ (Kd.R_new' ho0 (Kd.R_lt (rq_ HO197))) (bz_ (bq_ HB)));replace HO197:=A_ (Kd.R_elder' (rq_ HO197) (Kd.R_base ho0) hb);replace HB:=bS_ HB hb;(try clear hb);(try clear ho0)))
 go_loopg [7,8,9,12,13] k (fun kq v7 v8 v9 v12 v13 w' => ∃ (x7_1 : List (S88)) (x8_1 : List ByteArray) (x9_1 : Int) (x12_1 : Int) (x13_1 : Int),v9 = .int .i64 x9_1 ∧ v12 = .int .i64 x12_1 ∧ v13 = .int .i64 x13_1 ∧ Aside0 (spec_ScanSeg.l0 kq a1 x7_1 x8_1 x9_1 t198 x12_1 x13_1 = some (r1,r2,r3)) ∧ Aside0 (kq ≤ k) ∧ Aside0 (Kd.R k88 88 w' w.heap.size (fun _ => True) v7 x7_1) ∧ Aside0 (Kd.R Kd.string 9 w' w.heap.size (fun k_ => some k_ ≠ (v200 : Value).ownBlock) v8 x8_1) ∧ Aside0 (Kd.R Kd.string 9 w' w.heap.size (fun k_ => some k_ ≠ (v8 : Value).ownBlock) v200 t198) ∧ Aside0 (Below w.heap.size w w'))
 case atStart => exact ⟨(y192),(y195),((-1)),(0),(0),(by first|rfl|(simp;done)|(simp [*];done)),(by first|rfl|(simp;done)|(simp [*];done)),(by first|rfl|(simp;done)|(simp [*];done)),H',⟨Nat.le_refl _⟩,⟨by (with_reducible repeat (first|apply ra_|apply rn_|apply Rd_));exact HO194.out⟩,⟨by (with_reducible repeat (first|apply ra_|apply rn_|apply Rd_));exact rm_ HO197.out (fun _ hk => hk.2)⟩,⟨by (with_reducible repeat (first|apply ra_|apply rn_|apply Rd_));exact rm_ HO201.out (fun _ hk => hk.2)⟩,⟨bq_ HB⟩⟩
 case round =>
  clear H'
  try clear c1
  try clear p2
  try clear c3
  obtain ⟨x7_1,x8_1,x9_1,x12_1,x13_1,rfl,rfl,rfl,HA,HK1,HO_7,HO_8,HO_10,HB⟩:=hrel
  cases gk with
  | zero => exact absurd HA.out (by simp [spec_ScanSeg.l0])
  | succ k1 =>
   have H:=HA.out;clear HA;simp only [spec_ScanSeg.l0] at H
   by_cases c9 : x13_1 < (t198.length : Int)
   ·rw [if_pos c9] at H;have c9b0 : decide (x13_1 < (t198.length : Int)) = true:=de_ c9;clear c9
    by_cases c10 : 0 ≤ x13_1
    ·rw [if_pos c10] at H;have c10b0 : decide (0 ≤ x13_1) = true:=de_ c10;clear c10;replace H:=ob_.mp H;obtain ⟨⟨t203,t204,t207⟩,A110,H⟩:=H;(try dsimp only at H);have A11:=A_ A110;clear A110
     by_cases c12 : t207 = true
     ·subst c12
      rw [if_pos rfl] at H;replace H:=ob_.mp H;obtain ⟨⟨t210,t211⟩,A130,H⟩:=H;(try dsimp only at H);have A13:=A_ A130;clear A130;replace H:=ob_.mp H;obtain ⟨t213,A140,H⟩:=H;(try dsimp only at H);have A14:=A_ A140;clear A140;replace H:=ob_.mp H;obtain ⟨t214,A150,H⟩:=H;(try dsimp only at H);have A15:=A_ A150;clear A150;have H':=A_ H;clear H;obtain ⟨Ao16,co16,eo16⟩:=Kd.R_slice HO_10.out;subst eo16;have p202 : 0 ≤ (x13_1 : Int):=oda_;have q202 : x13_1 < (t198.length : Int):=oda_;obtain ⟨ad202,e202,hx202_0⟩:=Kd.at_string (Kd.R_reads' HO_10.out).2.2 x13_1 p202 q202
      cases e202
      replace p202:=eq_true p202;replace q202:=eq_true q202
      try go_wp2_with (first|((with_reducible refine gate_callee (f:=52) rfl ?_);refine gL_ (some 39) Try.func52 #[.string (rdOf ByteArray.empty t198 x13_1)] ?_;(with_reducible refine (spec_ReadBatch.calls k1 (rdOf ByteArray.empty t198 x13_1) t203 t204 true _ A11.out).mono ?_);rintro e w17 ⟨v205,rfl,ho0,hb⟩;refine ⟨_,rfl,?_⟩;replace HO_7:=rB_ HO_7 hb;replace HO_8:=rB_ HO_8 hb;replace HO_10:=rB_ HO_10 hb;have HO206:=A_ (rw_ ho0 (bz_ (bq_ HB)));replace HB:=bS_ HB hb;(try clear hb);(try clear ho0))|((with_reducible refine gate_dst (N:=14) rfl ?_);refine bE_ 14 #[.int .i64 0,.slice none 0 0] 79 ?_;intro gb208 hg w18 hbox hb;replace HO_7:=rB_ HO_7 hb;replace HO_8:=rB_ HO_8 hb;replace HO_10:=rB_ HO_10 hb;replace HO206:=rB_ HO206 hb;have BK208:=A_ (hbox);have GW208:=gE_ hg HB;have GE208:=gE_ hg HB;replace HB:=bS_ HB hb;clear hb hbox hg;obtain ⟨hcz19_0,hcz19_1,hfz19_0,hfz19_1⟩:=k2f_ BK208;obtain ⟨Ao20,co20,eo20⟩:=Kd.R_slice HO206.out;subst eo20;have p209 : 0 ≤ (x13_1 : Int):=oda_;have q209 : x13_1 < (t198.length : Int):=oda_;obtain ⟨ad209,e209,hx209_0⟩:=Kd.at_string (Kd.R_reads' HO_10.out).2.2 x13_1 p209 q209;obtain rfl : ad202 = ad209:=(by injection e209);have hn209_0 : ad202.block ≠ gb208:=Kd.own_blk (re_ HO_10.out BK208.out (by decide));have hn209_1 : ad202.block ≠ gb208:=Kd.own_blk (re_ HO_10.out BK208.out (by decide));replace hx209_0:=(cell_far (p:=⟨gb208,0,none⟩) (by first|(rw [add_block];exact hn209_0)|(show (Addr.add _ _).block ≠ _;rw [add_block];exact hn209_0)|exact hn209_0) (.int .i64 t203)).trans hx209_0;replace hx209_0:=(cell_far (p:=⟨gb208,1,none⟩) (by first|(rw [add_block];exact hn209_1)|(show (Addr.add _ _).block ≠ _;rw [add_block];exact hn209_1)|exact hn209_1) (.slice Ao20 t204.length co20)).trans hx209_0;clear hn209_0;clear hn209_1;replace p209:=eq_true p209;replace q209:=eq_true q209)|((with_reducible refine gate_callee (f:=53) rfl ?_);refine gL_ (some 52) Try.func53 #[.string (rdOf ByteArray.empty t198 x13_1)] ?_;(with_reducible refine (spec_Frame.calls k1 (rdOf ByteArray.empty t198 x13_1) t210 t211 _ A13.out).mono ?_);rintro e w21 ⟨rfl,hb⟩;refine ⟨_,rfl,?_⟩;replace HO_7:=A_ (rb_ (by (with_reducible repeat (first|apply ra_|apply rn_|apply Rd_));exact (rm_ (rf_ (p:=⟨gb208,1,none⟩) (rf_ (p:=⟨gb208,0,none⟩) (Kd.R_types HO_7.out BK208.out (by decide)) (fun _ hk => hk.2) (.int .i64 t203)) (fun _ hk => hk.2) (.slice Ao20 t204.length co20)) (fun _ h_ => h_.1))) hb);replace HO_8:=A_ (rb_ (by (with_reducible repeat (first|apply ra_|apply rn_|apply Rd_));exact (rm_ (rf_ (p:=⟨gb208,1,none⟩) (rf_ (p:=⟨gb208,0,none⟩) (Kd.R_types HO_8.out BK208.out (by decide)) (fun _ hk => hk.2) (.int .i64 t203)) (fun _ hk => hk.2) (.slice Ao20 t204.length co20)) (fun _ h_ => h_.1))) hb);replace HO_10:=A_ (rb_ (by (with_reducible repeat (first|apply ra_|apply rn_|apply Rd_));exact (rm_ (rf_ (p:=⟨gb208,1,none⟩) (rf_ (p:=⟨gb208,0,none⟩) (Kd.R_types HO_10.out BK208.out (by decide)) (fun _ hk => hk.2) (.int .i64 t203)) (fun _ hk => hk.2) (.slice Ao20 t204.length co20)) (fun _ h_ => h_.1))) hb);replace HO206:=A_ (rb_ (by (with_reducible repeat (first|apply ra_|apply rn_|apply Rd_));exact (rm_ (rf_ (p:=⟨gb208,1,none⟩) (rf_ (p:=⟨gb208,0,none⟩) (Kd.R_types HO206.out BK208.out (by decide)) (fun _ hk => hk.2) (.int .i64 t203)) (fun _ hk => hk.2) (.slice Ao20 t204.length co20)) (fun _ h_ => h_.1))) hb);replace BK208:=A_ (kb_ (g:=gb208) (o:=.cells #[.int .i64 t203,.slice Ao20 t204.length co20] 79 (0,0)) (kz_ BK208) hb);replace HB:=bS_ HB hb;(try clear hb)))
      replace HO_7:=A_ (Rd_ HO_7.out);replace HO_8:=A_ (Rd_ HO_8.out);replace HO_10:=A_ (Rd_ HO_10.out);replace HO206:=A_ (Rd_ HO206.out);replace BK208:=A_ (kd_ BK208.out);replace HB:=A_ (pd_ HB.out);have p212 : 0 ≤ (x13_1 : Int):=oda_;have q212 : x13_1 < (t198.length : Int):=oda_;obtain ⟨ad212,e212,hx212_0⟩:=Kd.at_string (Kd.R_reads' HO_10.out).2.2 x13_1 p212 q212;obtain rfl : ad202 = ad212:=(by injection e212);replace p212:=eq_true p212;replace q212:=eq_true q212;refine start_ (n:=22) (S:=fun w' => w'.cell? ⟨gb208,0,none⟩ = some (.int .i64 t203) ∧ w'.cell? ⟨gb208,1,none⟩ = some (.slice Ao20 t204.length co20) ∧ w'.cell? (ad202.add (x13_1).toNat) = some (.string (rdOf ByteArray.empty t198 x13_1))) (ds:=[]) #[false,false,false,false,false,false,false,false,false,false,false,false,false,false,false,false,false,false,false,false,false,false] (by kernel_rfl) rfl rfl ⟨kC_ BK208 0,kC_ BK208 1,hx212_0⟩ (fun hHeld => ?_);refine with_tabW spec_ScanSeg.tab13 spec_ScanSeg.bits13 (fun HT_ HW_ => ?_);generalize w21.drew = w22 at HO_7 HO_8 HO_10 HO206 BK208 HB hx212_0 hHeld ⊢;refine pU_ 0 (some 55) ?_
      refine pU_ 1 (some 56) ?_
      refine pU_ 2 (some 57) ?_
      refine pU_ 3 (some 58) ?_
      refine pU_ 4 (some 59) ?_
      refine pU_ 5 (some 60) ?_
      refine pU_ 6 (some 61) ?_
      refine pU_ 10 (some 65) ?_
      refine pU_ 15 (some 70) ?_
      refine tK_ 7 (some 62) hHeld ?_
      refine pU_ 8 (some 63) ?_
      refine pU_ 9 (some 64) ?_
      refine tK_ 11 (some 66) hHeld ?_
      refine tK_ 16 (some 71) hHeld ?_
      refine pU_ 17 (some 72) ?_
      refine oN_ 12 (some 67) (fun K hK => ?_);refine gs_ Try.func54 #[.int .i64 t203] ?_;with_reducible refine (spec_l01Var.calls k1 t203 t213 _ A14.out).mono ?_;rintro e w23 ⟨rfl,hb⟩;have HS2_:=(hb.cell (wb_ _ _ (hHeld.2.2))).trans (hHeld.2.2);refine ⟨_,rfl,?_⟩;replace HO_7:=rB_ HO_7 hb;replace HO_8:=rB_ HO_8 hb;replace HO_10:=rB_ HO_10 hb;replace HO206:=rB_ HO206 hb;replace BK208:=kB_ BK208 hb;replace HB:=bS_ HB hb
      (try clear hb)
      refine hK.out _ _ ⟨kC_ BK208 0,kC_ BK208 1,HS2_⟩ (fun hHeld => ?_);clear hK K;refine nX_ (some 67) ?_
      refine pU_ 13 (some 68) ?_
      refine pU_ 14 (some 69) ?_
      refine oN_ 18 (some 73) (fun K hK => ?_);refine gs_ Try.func54 #[.int .i64 (t204.length : Int)] ?_;with_reducible refine (spec_l01Var.calls k1 (t204.length : Int) t214 _ A15.out).mono ?_;rintro e w24 ⟨rfl,hb⟩;have HS2_:=(hb.cell (wb_ _ _ (hHeld.2.2))).trans (hHeld.2.2);refine ⟨_,rfl,?_⟩;replace HO_7:=rB_ HO_7 hb;replace HO_8:=rB_ HO_8 hb;replace HO_10:=rB_ HO_10 hb;replace HO206:=rB_ HO206 hb;replace BK208:=kB_ BK208 hb;replace HB:=bS_ HB hb
      (try clear hb)
      refine hK.out _ _ ⟨kC_ BK208 0,kC_ BK208 1,HS2_⟩ (fun hHeld => ?_);clear hK K;refine nX_ (some 73) ?_
      refine pU_ 19 (some 74) ?_
      refine pU_ 20 (some 75) ?_
      refine pU_ 21 (some 18) ?_
      refine done_ (done_of HT_.out (by kernel_rfl)) ?_
      try go_wp2
      go_loopg [7,18,19] k1 (fun kq v7 v18 v19 w' => ∃ (x7_2 : List (S88)) (x18_2 : Int) (x19_2 : Int),v18 = .int .i64 x18_2 ∧ v19 = .int .i64 x19_2 ∧ Aside0 (spec_ScanSeg.l1 kq a1 x7_2 x8_1 x9_1 t198 x12_1 x13_1 t210 x18_2 x19_2 t203 t204 = some (r1,r2,r3)) ∧ Aside0 (kq ≤ k1) ∧ Aside0 (Kd.R k88 88 w' w.heap.size (fun _ => True) v7 x7_2) ∧ Aside0 (Kd.R Kd.string 9 w' w.heap.size (fun k_ => some k_ ≠ ((.slice (some ad202) t198.length co16) : Value).ownBlock) u8 x8_1) ∧ Aside0 (Kd.R Kd.string 9 w' w.heap.size (fun k_ => some k_ ≠ (u8 : Value).ownBlock) (.slice (some ad202) t198.length co16) t198) ∧ Aside0 (Kd.R k85 85 w' w.heap.size (fun _ => True) (.slice Ao20 t204.length co20) t204) ∧ Aside0 (w'.heap[gb208]? = some (.cells #[.int .i64 t203,(.slice Ao20 t204.length co20)] 79 (0,0))) ∧ Aside0 (Below w.heap.size w w'))
      case atStart => exact ⟨(x7_1),(wrap64 ((wrap64 ((wrap64 ((wrap64 (x12_1 + (t210.size : Int))) - ((rdOf ByteArray.empty t198 x13_1).size : Int))) + (t213.size : Int))) + (t214.size : Int))),(0),(by first|rfl|(simp;done)|(simp [*];done)),(by first|rfl|(simp;done)|(simp [*];done)),H',⟨Nat.le_refl _⟩,⟨by (with_reducible repeat (first|apply ra_|apply rn_|apply Rd_));exact HO_7.out⟩,⟨by (with_reducible repeat (first|apply ra_|apply rn_|apply Rd_));exact HO_8.out⟩,⟨by (with_reducible repeat (first|apply ra_|apply rn_|apply Rd_));exact HO_10.out⟩,⟨by (with_reducible repeat (first|apply ra_|apply rn_|apply Rd_));exact HO206.out⟩,⟨kq_ BK208⟩,⟨bq_ HB⟩⟩
      case round =>
       clear H'
       try clear c1
       try clear p2
       try clear q2
       try clear hx2
       try clear c3
       try clear c5
       try clear p6
       try clear c9
       try clear c9b0
       try clear c10
       try clear c10b0
       try clear c12
       try clear c13
       try clear p20
       try clear q20
       try clear hx20
       try clear p21
       try clear q21
       try clear hx21
       try clear hcz19_0
       try clear hcz19_1
       try clear hfz19_0
       try clear hfz19_1
       try clear hx202_0
       try clear hx209_0
       try clear hx212_0
       try clear p2
       try clear p202
       try clear p209
       try clear p212
       try clear q202
       try clear q209
       try clear q212
       obtain ⟨x7_2,x18_2,x19_2,rfl,rfl,HA,HK2,HO_7,HO_8,HO_10,HO_209001,BK208,HB⟩:=hrel
       cases gk with
       | zero => exact absurd HA.out (by simp [spec_ScanSeg.l1])
       | succ k2 =>
        have H:=HA.out;clear HA;simp only [spec_ScanSeg.l1] at H
        by_cases c25 : x19_2 < (t204.length : Int)
        ·rw [if_pos c25] at H;have c25b0 : decide (x19_2 < (t204.length : Int)) = true:=de_ c25;clear c25
         by_cases c26 : 0 ≤ x19_2
         ·rw [if_pos c26] at H;have c26b0 : decide (0 ≤ x19_2) = true:=de_ c26;clear c26;replace H:=ob_.mp H;obtain ⟨t225,A270,H⟩:=H;(try dsimp only at H);have A27:=A_ A270;clear A270;replace H:=ob_.mp H;obtain ⟨t226,A280,H⟩:=H;(try dsimp only at H);have A28:=A_ A280;clear A280;obtain ⟨bq29,hbq29⟩ : ∃ b_ : Bool,b_ = ((rd_T85 t204 x19_2).f2):=⟨_,rfl⟩
          replace H : (if bq29 = true then (if x7_2.length < 3518437208883 then (spec_ScanSeg.l1 k2 a1 (x7_2 ++ [(⟨(rd_T85 t204 x19_2).f0,a1,0,(-1)⟩ : S88)]) x8_1 x9_1 t198 x12_1 x13_1 t210 (wrap64 ((wrap64 ((wrap64 ((wrap64 (x18_2 + (t225.size : Int))) + 1)) + (t226.size : Int))) + (((rd_T85 t204 x19_2).f1).size : Int))) (wrap64 (x19_2 + 1)) t203 t204) else (none)) else (if x7_2.length < 3518437208883 then (spec_ScanSeg.l1 k2 a1 (x7_2 ++ [(⟨(rd_T85 t204 x19_2).f0,a1,wrap64 ((wrap64 ((wrap64 (x18_2 + (t225.size : Int))) + 1)) + (t226.size : Int)),(((rd_T85 t204 x19_2).f1).size : Int)⟩ : S88)]) x8_1 x9_1 t198 x12_1 x13_1 t210 (wrap64 ((wrap64 ((wrap64 ((wrap64 (x18_2 + (t225.size : Int))) + 1)) + (t226.size : Int))) + (((rd_T85 t204 x19_2).f1).size : Int))) (wrap64 (x19_2 + 1)) t203 t204) else (none))) = some (r1,r2,r3):=by rw [← hbq29] at H;exact H
          have Nbq29:=A_ hbq29;clear hbq29
          by_cases c30 : bq29 = true
          ·subst c30
           rw [if_pos rfl] at H
           by_cases c31 : x7_2.length < 3518437208883
           ·rw [if_pos c31] at H;have LMc31:=A_ c31;clear c31;obtain ⟨y227,hy227⟩ : ∃ y_ : List (S88),y_ = (x7_2 ++ [(⟨(rd_T85 t204 x19_2).f0,a1,0,(-1)⟩ : S88)]):=⟨_,rfl⟩
            replace H : (spec_ScanSeg.l1 k2 a1 y227 x8_1 x9_1 t198 x12_1 x13_1 t210 (wrap64 ((wrap64 ((wrap64 ((wrap64 (x18_2 + (t225.size : Int))) + 1)) + (t226.size : Int))) + (((rd_T85 t204 x19_2).f1).size : Int))) (wrap64 (x19_2 + 1)) t203 t204) = some (r1,r2,r3):=by first|(rw [hy227];with_reducible exact H)|(have H2_:=(Option.bind_some _ _).symm.trans H;rw [hy227];with_reducible exact H2_)|(have H2_:=(Option.bind_some _ _).symm.trans H;with_reducible exact H2_)|with_reducible exact H|(rw [hy227];exact H)|exact H
            have Ny227:=A_ hy227;clear hy227;have H':=A_ H;clear H;obtain ⟨hcz32_0,hcz32_1,hfz32_0,hfz32_1⟩:=k2f_ BK208;have p223 : 0 ≤ (x19_2 : Int):=oda_;have q223 : x19_2 < (t204.length : Int):=oda_;obtain ⟨ad223,e223,hx223_0,hx223_1,hx223_2⟩:=at_T85 (Kd.R_reads' HO_209001.out).2.2 x19_2 p223 q223
            (try rw [← Nbq29.out] at hx223_2)
            cases e223
            replace p223:=eq_true p223;replace q223:=eq_true q223
            try go_wp2_with (first|((with_reducible refine gate_dst (N:=20) rfl ?_);refine bE_ 20 #[.string (⟨#[]⟩ : ByteArray),.string (⟨#[]⟩ : ByteArray),.bool false] 85 ?_;intro gb224 hg w33 hbox hb;replace HO_7:=rB_ HO_7 hb;replace HO_8:=rB_ HO_8 hb;replace HO_10:=rB_ HO_10 hb;replace HO_209001:=A_ (rb_ (Kd.R_elderB (rq_ HO_209001) gb224 (Nat.le_of_eq hg.symm)) hb);have BK224:=A_ (hbox);have GW224:=gE_ hg HB;have GE224:=gE_ hg HB;replace HB:=bS_ HB hb;have NB208_224:=nB_ hg BK208;have NB224_208:=nC_ hg BK208;replace BK208:=kB_ BK208 hb;clear hb hbox hg;have hnb34:=NB224_208.out;have hnc34:=NB208_224.out;obtain ⟨hcz35_0,hcz35_1,hcz35_2,hfz35_0,hfz35_1,hfz35_2⟩:=k3f_ BK224))
            have n0_ : Aside0 (Kd.R k88 88 (((w33.setCell ⟨gb224,0,none⟩ (.string ((rd_T85 t204 x19_2).f0))).setCell ⟨gb224,1,none⟩ (.string ((rd_T85 t204 x19_2).f1))).setCell ⟨gb224,2,none⟩ (.bool true)) w.heap.size (fun _ => True) u7 x7_2):=⟨by (with_reducible repeat (first|apply ra_|apply rn_|apply Rd_));exact rm_ (rf_ (p:=⟨gb224,2,none⟩) (rf_ (p:=⟨gb224,1,none⟩) (rf_ (p:=⟨gb224,0,none⟩) (Kd.R_types HO_7.out BK224.out (by decide)) (fun _ hk => hk.2) (.string ((rd_T85 t204 x19_2).f0))) (fun _ hk => hk.2) (.string ((rd_T85 t204 x19_2).f1))) (fun _ hk => hk.2) (.bool true)) (fun _ hk => trivial)⟩;have n1_ : Aside0 (Kd.R Kd.string 9 (((w33.setCell ⟨gb224,0,none⟩ (.string ((rd_T85 t204 x19_2).f0))).setCell ⟨gb224,1,none⟩ (.string ((rd_T85 t204 x19_2).f1))).setCell ⟨gb224,2,none⟩ (.bool true)) w.heap.size (fun k_ => some k_ ≠ (.slice (some ad202) t198.length co16 : Value).ownBlock) u8 x8_1):=⟨by (with_reducible repeat (first|apply ra_|apply rn_|apply Rd_));exact rm_ (rf_ (p:=⟨gb224,2,none⟩) (rf_ (p:=⟨gb224,1,none⟩) (rf_ (p:=⟨gb224,0,none⟩) (Kd.R_types HO_8.out BK224.out (by decide)) (fun _ hk => hk.2) (.string ((rd_T85 t204 x19_2).f0))) (fun _ hk => hk.2) (.string ((rd_T85 t204 x19_2).f1))) (fun _ hk => hk.2) (.bool true)) (fun _ hk => hk.1)⟩;have n2_ : Aside0 (Kd.R Kd.string 9 (((w33.setCell ⟨gb224,0,none⟩ (.string ((rd_T85 t204 x19_2).f0))).setCell ⟨gb224,1,none⟩ (.string ((rd_T85 t204 x19_2).f1))).setCell ⟨gb224,2,none⟩ (.bool true)) w.heap.size (fun k_ => some k_ ≠ (u8 : Value).ownBlock) (.slice (some ad202) t198.length co16) t198):=⟨by (with_reducible repeat (first|apply ra_|apply rn_|apply Rd_));exact rm_ (rf_ (p:=⟨gb224,2,none⟩) (rf_ (p:=⟨gb224,1,none⟩) (rf_ (p:=⟨gb224,0,none⟩) (Kd.R_types HO_10.out BK224.out (by decide)) (fun _ hk => hk.2) (.string ((rd_T85 t204 x19_2).f0))) (fun _ hk => hk.2) (.string ((rd_T85 t204 x19_2).f1))) (fun _ hk => hk.2) (.bool true)) (fun _ hk => hk.1)⟩;have n3_ : Aside0 (Kd.R k85 85 (((w33.setCell ⟨gb224,0,none⟩ (.string ((rd_T85 t204 x19_2).f0))).setCell ⟨gb224,1,none⟩ (.string ((rd_T85 t204 x19_2).f1))).setCell ⟨gb224,2,none⟩ (.bool true)) w.heap.size (fun k_ => k_ ≠ gb224) (.slice (some ad223) t204.length co20) t204):=⟨by (with_reducible repeat (first|apply ra_|apply rn_|apply Rd_));exact rm_ (rf_ (p:=⟨gb224,2,none⟩) (rf_ (p:=⟨gb224,1,none⟩) (rf_ (p:=⟨gb224,0,none⟩) (rm_ HO_209001.out (fun k_ hk => (⟨hk,hk.2⟩ : _ ∧ k_ ≠ gb224))) (fun _ hk => hk.2) (.string ((rd_T85 t204 x19_2).f0))) (fun _ hk => hk.2) (.string ((rd_T85 t204 x19_2).f1))) (fun _ hk => hk.2) (.bool true)) (fun _ hk => hk.1.2)⟩;have n4_ : Aside0 ((((w33.setCell ⟨gb224,0,none⟩ (.string ((rd_T85 t204 x19_2).f0))).setCell ⟨gb224,1,none⟩ (.string ((rd_T85 t204 x19_2).f1))).setCell ⟨gb224,2,none⟩ (.bool true)).heap[gb208]? = some (.cells #[.int .i64 t203,.slice (some ad223) t204.length co20] 79 (0,0))):=⟨kz_ BK208⟩;have n5_ : Aside0 ((((w33.setCell ⟨gb224,0,none⟩ (.string ((rd_T85 t204 x19_2).f0))).setCell ⟨gb224,1,none⟩ (.string ((rd_T85 t204 x19_2).f1))).setCell ⟨gb224,2,none⟩ (.bool true)).heap[gb224]? = some (.cells #[.string ((rd_T85 t204 x19_2).f0),.string ((rd_T85 t204 x19_2).f1),.bool true] 85 (0,0))):=⟨kz_ BK224⟩;have n6_ : Aside0 (Below w.heap.size w (((w33.setCell ⟨gb224,0,none⟩ (.string ((rd_T85 t204 x19_2).f0))).setCell ⟨gb224,1,none⟩ (.string ((rd_T85 t204 x19_2).f1))).setCell ⟨gb224,2,none⟩ (.bool true))):=⟨bq_ HB⟩
            (try clear HO_7)
            (try clear HO_8)
            (try clear HO_10)
            (try clear HO_209001)
            (try clear BK208)
            (try clear BK224)
            (try clear HB)
            generalize (((w33.setCell ⟨gb224,0,none⟩ (.string ((rd_T85 t204 x19_2).f0))).setCell ⟨gb224,1,none⟩ (.string ((rd_T85 t204 x19_2).f1))).setCell ⟨gb224,2,none⟩ (.bool true)) = w36 at n0_ n1_ n2_ n3_ n4_ n5_ n6_ ⊢;have HO_7:=n0_;have HO_8:=n1_;have HO_10:=n2_;have HO_209001:=n3_;have BK208:=n4_;have BK224:=n5_;have HB:=n6_;clear n0_ n1_ n2_ n3_ n4_ n5_ n6_;replace HO_7:=A_ (Rd_ HO_7.out);replace HO_8:=A_ (Rd_ HO_8.out);replace HO_10:=A_ (Rd_ HO_10.out);replace HO_209001:=A_ (Rd_ HO_209001.out);replace BK208:=A_ (kd_ BK208.out);replace BK224:=A_ (kd_ BK224.out);replace HB:=A_ (pd_ HB.out);refine start_ (n:=14) (S:=fun w' => w'.cell? ⟨gb224,0,none⟩ = some (.string ((rd_T85 t204 x19_2).f0)) ∧ w'.cell? ⟨gb224,1,none⟩ = some (.string ((rd_T85 t204 x19_2).f1)) ∧ w'.cell? ⟨gb224,2,none⟩ = some (.bool true)) (ds:=[]) #[false,false,false,false,false,false,false,false,false,false,false,false,false,false] (by kernel_rfl) rfl rfl ⟨kC_ BK224 0,kC_ BK224 1,kC_ BK224 2⟩ (fun hHeld => ?_);refine with_tabW spec_ScanSeg.tab18 spec_ScanSeg.bits18 (fun HT_ HW_ => ?_);generalize w36.drew = w37 at HO_7 HO_8 HO_10 HO_209001 BK208 BK224 HB hHeld ⊢;refine pU_ 0 (some 88) ?_
            refine pU_ 1 (some 89) ?_
            refine pU_ 7 (some 95) ?_
            refine tK_ 2 (some 90) hHeld ?_
            refine tK_ 8 (some 96) hHeld ?_
            refine pU_ 9 (some 97) ?_
            refine oN_ 3 (some 91) (fun K hK => ?_);refine gs_ Try.func55 #[.string ((rd_T85 t204 x19_2).f0)] ?_;with_reducible refine (spec_l05Short.calls k2 ((rd_T85 t204 x19_2).f0) t225 _ A27.out).mono ?_;rintro e w38 ⟨rfl,hb⟩;refine ⟨_,rfl,?_⟩;replace HO_7:=rB_ HO_7 hb;replace HO_8:=rB_ HO_8 hb;replace HO_10:=rB_ HO_10 hb;replace HO_209001:=rB_ HO_209001 hb;replace BK208:=kB_ BK208 hb;replace BK224:=kB_ BK224 hb;replace HB:=bS_ HB hb
            (try clear hb)
            refine hK.out _ _ ⟨kC_ BK224 0,kC_ BK224 1,kC_ BK224 2⟩ (fun hHeld => ?_);clear hK K;refine nX_ (some 91) ?_
            refine pU_ 4 (some 92) ?_
            refine pU_ 5 (some 93) ?_
            refine pU_ 6 (some 94) ?_
            refine oN_ 10 (some 98) (fun K hK => ?_);refine gs_ Try.func54 #[.int .i64 (((rd_T85 t204 x19_2).f1).size : Int)] ?_;with_reducible refine (spec_l01Var.calls k2 (((rd_T85 t204 x19_2).f1).size : Int) t226 _ A28.out).mono ?_;rintro e w39 ⟨rfl,hb⟩;refine ⟨_,rfl,?_⟩;replace HO_7:=rB_ HO_7 hb;replace HO_8:=rB_ HO_8 hb;replace HO_10:=rB_ HO_10 hb;replace HO_209001:=rB_ HO_209001 hb;replace BK208:=kB_ BK208 hb;replace BK224:=kB_ BK224 hb;replace HB:=bS_ HB hb
            (try clear hb)
            refine hK.out _ _ ⟨kC_ BK224 0,kC_ BK224 1,kC_ BK224 2⟩ (fun hHeld => ?_);clear hK K;refine nX_ (some 98) ?_
            refine pU_ 11 (some 99) ?_
            refine pU_ 12 (some 100) ?_
            refine pU_ 13 (some 18) ?_
            refine done_ (done_of HT_.out (by kernel_rfl)) ?_;obtain ⟨hcz40_0,hcz40_1,hcz40_2,hfz40_0,hfz40_1,hfz40_2⟩:=k3f_ BK224
            try go_wp2_with (first|((with_reducible refine gate_builtin (b:=.append) (xs:=#[.tmp 103,.tmp 108]) rfl ?_);at_builtin;refine Kd.R_append k88 (w0:=w) w.heap.size rfl (.tmp 103) (.tmp 108) 30 88 (.agg #[(.string ⟨#[]⟩),(.int .i64 0),(.int .i64 0),(.int .i64 0)]) 40 rfl Try.underlying30 info88 rfl (by decide) (by omega) u7 x7_2 (⟨(rd_T85 t204 x19_2).f0,a1,0,(-1)⟩ : S88) [.string ((rd_T85 t204 x19_2).f0),.int .i64 a1,.int .i64 0,.int .i64 (-1)] (fun _ => True) (fun _ => False) rfl rfl ?aP (fun _ hk => hk.elim) ?aF ?aO ?aB ?aS ?aL ?_;(case aP => exact k88_mkM _ _ _ (⟨(rd_T85 t204 x19_2).f0,a1,0,(-1)⟩ : S88));(case aB => exact (bq_ HB));(case aF => exact (fun _ _ => trivial));(case aO => exact (rq_ HO_7));(case aS => exact (bz_ (bq_ HB)));(case aL => have:=LMc31.out;omega);intro v228 w41 ho hb hg hat;rw [← Ny227.out] at ho;replace HO_8:=A_ (ro_ (rq_ HO_8) (ry_ (rq_ HO_7)) (by decide) hg);replace HO_10:=A_ (ro_ (rq_ HO_10) (ry_ (rq_ HO_7)) (by decide) hg);replace HO_209001:=A_ (ro_ (rq_ HO_209001) (ry_ (rq_ HO_7)) (by decide) hg);replace BK208:=kG_ BK208 hg HO_7;replace BK224:=kG_ BK224 hg HO_7;replace HB:=A_ (hb);have HO229:=A_ (ho);clear HO_7;clear ho hb hg hat;obtain ⟨hcz42_0,hcz42_1,hcz42_2,hfz42_0,hfz42_1,hfz42_2⟩:=k3f_ BK224))
            go_roundg k2
            case measure => have:=HK1.out;have:=HK2.out;omega
            case rel => exact ⟨(y227),(wrap64 ((wrap64 ((wrap64 ((wrap64 (x18_2 + (t225.size : Int))) + 1)) + (t226.size : Int))) + (((rd_T85 t204 x19_2).f1).size : Int))),(wrap64 (x19_2 + 1)),(by first|rfl|(simp;done)|(simp [*];done)),(by first|rfl|(simp;done)|(simp [*];done)),H',⟨by have:=HK1.out;have:=HK2.out;omega⟩,⟨by (with_reducible repeat (first|apply ra_|apply rn_|apply Rd_));exact HO229.out⟩,⟨by (with_reducible repeat (first|apply ra_|apply rn_|apply Rd_));exact HO_8.out⟩,⟨by (with_reducible repeat (first|apply ra_|apply rn_|apply Rd_));exact HO_10.out⟩,⟨by (with_reducible repeat (first|apply ra_|apply rn_|apply Rd_));exact rm_ HO_209001.out (fun _ hk => trivial)⟩,⟨kq_ BK208⟩,⟨bq_ HB⟩⟩
           ·rw [if_neg c31] at H;exact absurd H (by simp)
          ·replace c30:=Bool.eq_false_iff.mpr c30;subst c30
           have H1 : (if x7_2.length < 3518437208883 then (spec_ScanSeg.l1 k2 a1 (x7_2 ++ [(⟨(rd_T85 t204 x19_2).f0,a1,wrap64 ((wrap64 ((wrap64 (x18_2 + (t225.size : Int))) + 1)) + (t226.size : Int)),(((rd_T85 t204 x19_2).f1).size : Int)⟩ : S88)]) x8_1 x9_1 t198 x12_1 x13_1 t210 (wrap64 ((wrap64 ((wrap64 ((wrap64 (x18_2 + (t225.size : Int))) + 1)) + (t226.size : Int))) + (((rd_T85 t204 x19_2).f1).size : Int))) (wrap64 (x19_2 + 1)) t203 t204) else (none)) = some (r1,r2,r3):=by rw [if_neg (show ¬ (false = true) by decide)] at H;exact H
           clear H;have H:=H1;clear H1
           by_cases c43 : x7_2.length < 3518437208883
           ·rw [if_pos c43] at H;have LMc43:=A_ c43;clear c43;obtain ⟨y230,hy230⟩ : ∃ y_ : List (S88),y_ = (x7_2 ++ [(⟨(rd_T85 t204 x19_2).f0,a1,wrap64 ((wrap64 ((wrap64 (x18_2 + (t225.size : Int))) + 1)) + (t226.size : Int)),(((rd_T85 t204 x19_2).f1).size : Int)⟩ : S88)]):=⟨_,rfl⟩
            replace H : (spec_ScanSeg.l1 k2 a1 y230 x8_1 x9_1 t198 x12_1 x13_1 t210 (wrap64 ((wrap64 ((wrap64 ((wrap64 (x18_2 + (t225.size : Int))) + 1)) + (t226.size : Int))) + (((rd_T85 t204 x19_2).f1).size : Int))) (wrap64 (x19_2 + 1)) t203 t204) = some (r1,r2,r3):=by first|(rw [hy230];with_reducible exact H)|(have H2_:=(Option.bind_some _ _).symm.trans H;rw [hy230];with_reducible exact H2_)|(have H2_:=(Option.bind_some _ _).symm.trans H;with_reducible exact H2_)|with_reducible exact H|(rw [hy230];exact H)|exact H
            have Ny230:=A_ hy230;clear hy230;have H':=A_ H;clear H;obtain ⟨hcz44_0,hcz44_1,hfz44_0,hfz44_1⟩:=k2f_ BK208;have p223 : 0 ≤ (x19_2 : Int):=oda_;have q223 : x19_2 < (t204.length : Int):=oda_;obtain ⟨ad223,e223,hx223_0,hx223_1,hx223_2⟩:=at_T85 (Kd.R_reads' HO_209001.out).2.2 x19_2 p223 q223
            (try rw [← Nbq29.out] at hx223_2)
            cases e223
            replace p223:=eq_true p223;replace q223:=eq_true q223
            try go_wp2_with (first|((with_reducible refine gate_dst (N:=20) rfl ?_);refine bE_ 20 #[.string (⟨#[]⟩ : ByteArray),.string (⟨#[]⟩ : ByteArray),.bool false] 85 ?_;intro gb224 hg w45 hbox hb;replace HO_7:=rB_ HO_7 hb;replace HO_8:=rB_ HO_8 hb;replace HO_10:=rB_ HO_10 hb;replace HO_209001:=A_ (rb_ (Kd.R_elderB (rq_ HO_209001) gb224 (Nat.le_of_eq hg.symm)) hb);have BK224:=A_ (hbox);have GW224:=gE_ hg HB;have GE224:=gE_ hg HB;replace HB:=bS_ HB hb;have NB208_224:=nB_ hg BK208;have NB224_208:=nC_ hg BK208;replace BK208:=kB_ BK208 hb;clear hb hbox hg;have hnb46:=NB224_208.out;have hnc46:=NB208_224.out;obtain ⟨hcz47_0,hcz47_1,hcz47_2,hfz47_0,hfz47_1,hfz47_2⟩:=k3f_ BK224))
            have n0_ : Aside0 (Kd.R k88 88 (((w45.setCell ⟨gb224,0,none⟩ (.string ((rd_T85 t204 x19_2).f0))).setCell ⟨gb224,1,none⟩ (.string ((rd_T85 t204 x19_2).f1))).setCell ⟨gb224,2,none⟩ (.bool false)) w.heap.size (fun _ => True) u7 x7_2):=⟨by (with_reducible repeat (first|apply ra_|apply rn_|apply Rd_));exact rm_ (rf_ (p:=⟨gb224,2,none⟩) (rf_ (p:=⟨gb224,1,none⟩) (rf_ (p:=⟨gb224,0,none⟩) (Kd.R_types HO_7.out BK224.out (by decide)) (fun _ hk => hk.2) (.string ((rd_T85 t204 x19_2).f0))) (fun _ hk => hk.2) (.string ((rd_T85 t204 x19_2).f1))) (fun _ hk => hk.2) (.bool false)) (fun _ hk => trivial)⟩;have n1_ : Aside0 (Kd.R Kd.string 9 (((w45.setCell ⟨gb224,0,none⟩ (.string ((rd_T85 t204 x19_2).f0))).setCell ⟨gb224,1,none⟩ (.string ((rd_T85 t204 x19_2).f1))).setCell ⟨gb224,2,none⟩ (.bool false)) w.heap.size (fun k_ => some k_ ≠ (.slice (some ad202) t198.length co16 : Value).ownBlock) u8 x8_1):=⟨by (with_reducible repeat (first|apply ra_|apply rn_|apply Rd_));exact rm_ (rf_ (p:=⟨gb224,2,none⟩) (rf_ (p:=⟨gb224,1,none⟩) (rf_ (p:=⟨gb224,0,none⟩) (Kd.R_types HO_8.out BK224.out (by decide)) (fun _ hk => hk.2) (.string ((rd_T85 t204 x19_2).f0))) (fun _ hk => hk.2) (.string ((rd_T85 t204 x19_2).f1))) (fun _ hk => hk.2) (.bool false)) (fun _ hk => hk.1)⟩;have n2_ : Aside0 (Kd.R Kd.string 9 (((w45.setCell ⟨gb224,0,none⟩ (.string ((rd_T85 t204 x19_2).f0))).setCell ⟨gb224,1,none⟩ (.string ((rd_T85 t204 x19_2).f1))).setCell ⟨gb224,2,none⟩ (.bool false)) w.heap.size (fun k_ => some k_ ≠ (u8 : Value).ownBlock) (.slice (some ad202) t198.length co16) t198):=⟨by (with_reducible repeat (first|apply ra_|apply rn_|apply Rd_));exact rm_ (rf_ (p:=⟨gb224,2,none⟩) (rf_ (p:=⟨gb224,1,none⟩) (rf_ (p:=⟨gb224,0,none⟩) (Kd.R_types HO_10.out BK224.out (by decide)) (fun _ hk => hk.2) (.string ((rd_T85 t204 x19_2).f0))) (fun _ hk => hk.2) (.string ((rd_T85 t204 x19_2).f1))) (fun _ hk => hk.2) (.bool false)) (fun _ hk => hk.1)⟩;have n3_ : Aside0 (Kd.R k85 85 (((w45.setCell ⟨gb224,0,none⟩ (.string ((rd_T85 t204 x19_2).f0))).setCell ⟨gb224,1,none⟩ (.string ((rd_T85 t204 x19_2).f1))).setCell ⟨gb224,2,none⟩ (.bool false)) w.heap.size (fun k_ => k_ ≠ gb224) (.slice (some ad223) t204.length co20) t204):=⟨by (with_reducible repeat (first|apply ra_|apply rn_|apply Rd_));exact rm_ (rf_ (p:=⟨gb224,2,none⟩) (rf_ (p:=⟨gb224,1,none⟩) (rf_ (p:=⟨gb224,0,none⟩) (rm_ HO_209001.out (fun k_ hk => (⟨hk,hk.2⟩ : _ ∧ k_ ≠ gb224))) (fun _ hk => hk.2) (.string ((rd_T85 t204 x19_2).f0))) (fun _ hk => hk.2) (.string ((rd_T85 t204 x19_2).f1))) (fun _ hk => hk.2) (.bool false)) (fun _ hk => hk.1.2)⟩;have n4_ : Aside0 ((((w45.setCell ⟨gb224,0,none⟩ (.string ((rd_T85 t204 x19_2).f0))).setCell ⟨gb224,1,none⟩ (.string ((rd_T85 t204 x19_2).f1))).setCell ⟨gb224,2,none⟩ (.bool false)).heap[gb208]? = some (.cells #[.int .i64 t203,.slice (some ad223) t204.length co20] 79 (0,0))):=⟨kz_ BK208⟩;have n5_ : Aside0 ((((w45.setCell ⟨gb224,0,none⟩ (.string ((rd_T85 t204 x19_2).f0))).setCell ⟨gb224,1,none⟩ (.string ((rd_T85 t204 x19_2).f1))).setCell ⟨gb224,2,none⟩ (.bool false)).heap[gb224]? = some (.cells #[.string ((rd_T85 t204 x19_2).f0),.string ((rd_T85 t204 x19_2).f1),.bool false] 85 (0,0))):=⟨kz_ BK224⟩;have n6_ : Aside0 (Below w.heap.size w (((w45.setCell ⟨gb224,0,none⟩ (.string ((rd_T85 t204 x19_2).f0))).setCell ⟨gb224,1,none⟩ (.string ((rd_T85 t204 x19_2).f1))).setCell ⟨gb224,2,none⟩ (.bool false))):=⟨bq_ HB⟩
            (try clear HO_7)
            (try clear HO_8)
            (try clear HO_10)
            (try clear HO_209001)
            (try clear BK208)
            (try clear BK224)
            (try clear HB)
            generalize (((w45.setCell ⟨gb224,0,none⟩ (.string ((rd_T85 t204 x19_2).f0))).setCell ⟨gb224,1,none⟩ (.string ((rd_T85 t204 x19_2).f1))).setCell ⟨gb224,2,none⟩ (.bool false)) = w48 at n0_ n1_ n2_ n3_ n4_ n5_ n6_ ⊢;have HO_7:=n0_;have HO_8:=n1_;have HO_10:=n2_;have HO_209001:=n3_;have BK208:=n4_;have BK224:=n5_;have HB:=n6_;clear n0_ n1_ n2_ n3_ n4_ n5_ n6_;replace HO_7:=A_ (Rd_ HO_7.out);replace HO_8:=A_ (Rd_ HO_8.out);replace HO_10:=A_ (Rd_ HO_10.out);replace HO_209001:=A_ (Rd_ HO_209001.out);replace BK208:=A_ (kd_ BK208.out);replace BK224:=A_ (kd_ BK224.out);replace HB:=A_ (pd_ HB.out);refine start_ (n:=14) (S:=fun w' => w'.cell? ⟨gb224,0,none⟩ = some (.string ((rd_T85 t204 x19_2).f0)) ∧ w'.cell? ⟨gb224,1,none⟩ = some (.string ((rd_T85 t204 x19_2).f1)) ∧ w'.cell? ⟨gb224,2,none⟩ = some (.bool false)) (ds:=[]) #[false,false,false,false,false,false,false,false,false,false,false,false,false,false] (by kernel_rfl) rfl rfl ⟨kC_ BK224 0,kC_ BK224 1,kC_ BK224 2⟩ (fun hHeld => ?_);refine with_tabW spec_ScanSeg.tab18 spec_ScanSeg.bits18 (fun HT_ HW_ => ?_);generalize w48.drew = w49 at HO_7 HO_8 HO_10 HO_209001 BK208 BK224 HB hHeld ⊢;refine pU_ 0 (some 88) ?_
            refine pU_ 1 (some 89) ?_
            refine pU_ 7 (some 95) ?_
            refine tK_ 2 (some 90) hHeld ?_
            refine tK_ 8 (some 96) hHeld ?_
            refine pU_ 9 (some 97) ?_
            refine oN_ 3 (some 91) (fun K hK => ?_);refine gs_ Try.func55 #[.string ((rd_T85 t204 x19_2).f0)] ?_;with_reducible refine (spec_l05Short.calls k2 ((rd_T85 t204 x19_2).f0) t225 _ A27.out).mono ?_;rintro e w50 ⟨rfl,hb⟩;refine ⟨_,rfl,?_⟩;replace HO_7:=rB_ HO_7 hb;replace HO_8:=rB_ HO_8 hb;replace HO_10:=rB_ HO_10 hb;replace HO_209001:=rB_ HO_209001 hb;replace BK208:=kB_ BK208 hb;replace BK224:=kB_ BK224 hb;replace HB:=bS_ HB hb
            (try clear hb)
            refine hK.out _ _ ⟨kC_ BK224 0,kC_ BK224 1,kC_ BK224 2⟩ (fun hHeld => ?_);clear hK K;refine nX_ (some 91) ?_
            refine pU_ 4 (some 92) ?_
            refine pU_ 5 (some 93) ?_
            refine pU_ 6 (some 94) ?_
            refine oN_ 10 (some 98) (fun K hK => ?_);refine gs_ Try.func54 #[.int .i64 (((rd_T85 t204 x19_2).f1).size : Int)] ?_;with_reducible refine (spec_l01Var.calls k2 (((rd_T85 t204 x19_2).f1).size : Int) t226 _ A28.out).mono ?_;rintro e w51 ⟨rfl,hb⟩;refine ⟨_,rfl,?_⟩;replace HO_7:=rB_ HO_7 hb;replace HO_8:=rB_ HO_8 hb;replace HO_10:=rB_ HO_10 hb;replace HO_209001:=rB_ HO_209001 hb;replace BK208:=kB_ BK208 hb;replace BK224:=kB_ BK224 hb;replace HB:=bS_ HB hb
            (try clear hb)
            refine hK.out _ _ ⟨kC_ BK224 0,kC_ BK224 1,kC_ BK224 2⟩ (fun hHeld => ?_);clear hK K;refine nX_ (some 98) ?_
            refine pU_ 11 (some 99) ?_
            refine pU_ 12 (some 100) ?_
            refine pU_ 13 (some 18) ?_
            refine done_ (done_of HT_.out (by kernel_rfl)) ?_;obtain ⟨hcz52_0,hcz52_1,hcz52_2,hfz52_0,hfz52_1,hfz52_2⟩:=k3f_ BK224
            try go_wp2_with (first|((with_reducible refine gate_builtin (b:=.append) (xs:=#[.tmp 110,.tmp 119]) rfl ?_);at_builtin;refine Kd.R_append k88 (w0:=w) w.heap.size rfl (.tmp 110) (.tmp 119) 30 88 (.agg #[(.string ⟨#[]⟩),(.int .i64 0),(.int .i64 0),(.int .i64 0)]) 40 rfl Try.underlying30 info88 rfl (by decide) (by omega) u7 x7_2 (⟨(rd_T85 t204 x19_2).f0,a1,wrap64 ((wrap64 ((wrap64 (x18_2 + (t225.size : Int))) + 1)) + (t226.size : Int)),(((rd_T85 t204 x19_2).f1).size : Int)⟩ : S88) [.string ((rd_T85 t204 x19_2).f0),.int .i64 a1,.int .i64 (wrap64 ((wrap64 ((wrap64 (x18_2 + (t225.size : Int))) + 1)) + (t226.size : Int))),.int .i64 (((rd_T85 t204 x19_2).f1).size : Int)] (fun _ => True) (fun _ => False) rfl rfl ?aP (fun _ hk => hk.elim) ?aF ?aO ?aB ?aS ?aL ?_;(case aP => exact k88_mkM _ _ _ (⟨(rd_T85 t204 x19_2).f0,a1,wrap64 ((wrap64 ((wrap64 (x18_2 + (t225.size : Int))) + 1)) + (t226.size : Int)),(((rd_T85 t204 x19_2).f1).size : Int)⟩ : S88));(case aB => exact (bq_ HB));(case aF => exact (fun _ _ => trivial));(case aO => exact (rq_ HO_7));(case aS => exact (bz_ (bq_ HB)));(case aL => have:=LMc43.out;omega);intro v231 w53 ho hb hg hat;rw [← Ny230.out] at ho;replace HO_8:=A_ (ro_ (rq_ HO_8) (ry_ (rq_ HO_7)) (by decide) hg);replace HO_10:=A_ (ro_ (rq_ HO_10) (ry_ (rq_ HO_7)) (by decide) hg);replace HO_209001:=A_ (ro_ (rq_ HO_209001) (ry_ (rq_ HO_7)) (by decide) hg);replace BK208:=kG_ BK208 hg HO_7;replace BK224:=kG_ BK224 hg HO_7;replace HB:=A_ (hb);have HO232:=A_ (ho);clear HO_7;clear ho hb hg hat;obtain ⟨hcz54_0,hcz54_1,hcz54_2,hfz54_0,hfz54_1,hfz54_2⟩:=k3f_ BK224))
            go_roundg k2
            case measure => have:=HK1.out;have:=HK2.out;omega
            case rel => exact ⟨(y230),(wrap64 ((wrap64 ((wrap64 ((wrap64 (x18_2 + (t225.size : Int))) + 1)) + (t226.size : Int))) + (((rd_T85 t204 x19_2).f1).size : Int))),(wrap64 (x19_2 + 1)),(by first|rfl|(simp;done)|(simp [*];done)),(by first|rfl|(simp;done)|(simp [*];done)),H',⟨by have:=HK1.out;have:=HK2.out;omega⟩,⟨by (with_reducible repeat (first|apply ra_|apply rn_|apply Rd_));exact HO232.out⟩,⟨by (with_reducible repeat (first|apply ra_|apply rn_|apply Rd_));exact HO_8.out⟩,⟨by (with_reducible repeat (first|apply ra_|apply rn_|apply Rd_));exact HO_10.out⟩,⟨by (with_reducible repeat (first|apply ra_|apply rn_|apply Rd_));exact rm_ HO_209001.out (fun _ hk => trivial)⟩,⟨kq_ BK208⟩,⟨bq_ HB⟩⟩
           ·rw [if_neg c43] at H;exact absurd H (by simp)
         ·rw [if_neg c26] at H;exact absurd H (by simp)
        ·rw [if_neg c25] at H;have c25b0 : decide (x19_2 < (t204.length : Int)) = false:=decide_eq_false c25;clear c25
         by_cases c55 : t203 > x9_1
         ·rw [if_pos c55] at H;have c55b0 : decide (x9_1 < t203) = true:=de_ c55;clear c55
          by_cases c56 : 0 ≤ x13_1
          ·rw [if_pos c56] at H;have c56b0 : decide (0 ≤ x13_1) = true:=de_ c56;clear c56
           by_cases c57 : x13_1 < (t198.length : Int)
           ·rw [if_pos c57] at H;have c57b0 : decide (x13_1 < (t198.length : Int)) = true:=de_ c57;clear c57
            by_cases c58 : x8_1.length < 8796093022208
            ·rw [if_pos c58] at H;have LMc58:=A_ c58;clear c58;obtain ⟨y216,hy216⟩ : ∃ y_ : List ByteArray,y_ = (x8_1 ++ [rdOf ByteArray.empty t198 x13_1]):=⟨_,rfl⟩
             replace H : (spec_ScanSeg.l0 k2 a1 x7_2 y216 t203 t198 (wrap64 (x12_1 + (t210.size : Int))) (wrap64 (x13_1 + 1))) = some (r1,r2,r3):=by first|(rw [hy216];with_reducible exact H)|(have H2_:=(Option.bind_some _ _).symm.trans H;rw [hy216];with_reducible exact H2_)|(have H2_:=(Option.bind_some _ _).symm.trans H;with_reducible exact H2_)|with_reducible exact H|(rw [hy216];exact H)|exact H
             have Ny216:=A_ hy216;clear hy216;have H':=A_ H;clear H;obtain ⟨hcz59_0,hcz59_1,hfz59_0,hfz59_1⟩:=k2f_ BK208;have p215 : 0 ≤ (x13_1 : Int):=oda_;have q215 : x13_1 < (t198.length : Int):=oda_;obtain ⟨ad215,e215,hx215_0⟩:=Kd.at_string (Kd.R_reads' HO_10.out).2.2 x13_1 p215 q215;obtain rfl : ad202 = ad215:=(by injection e215);replace p215:=eq_true p215;replace q215:=eq_true q215
             go_wp2_with (first|((with_reducible refine gate_builtin (b:=.append) (xs:=#[.tmp 132,.tmp 137]) rfl ?_);at_builtin;refine Kd.R_append Kd.string (w0:=w) w.heap.size rfl (.tmp 132) (.tmp 137) 31 9 (.string ⟨#[]⟩) 16 rfl Try.underlying31 info9 rfl (by decide) (by omega) u8 x8_1 (rdOf ByteArray.empty t198 x13_1) [.string (rdOf ByteArray.empty t198 x13_1)] (fun k_ => some k_ ≠ (.slice (some ad202) t198.length co16 : Value).ownBlock) (fun _ => False) rfl rfl ?aP (fun _ hk => hk.elim) ?aF ?aO ?aB ?aS ?aL ?_;(case aP => exact rfl);(case aB => exact (bq_ HB));(case aF => exact (fun k_ hk => Kd.fresh' (Kd.R_lt (rq_ HO_10)) k_ hk));(case aO => exact (rq_ HO_8));(case aS => exact (bz_ (bq_ HB)));(case aL => have:=LMc58.out;omega);intro v217 w60 ho hb hg hat;rw [← Ny216.out] at ho;replace HO_7:=A_ (ro_ (rq_ HO_7) (ry_ (rq_ HO_8)) (by decide) hg);replace HO_10:=A_ (rt_ (ok:=(fun _ => True)) (by (with_reducible repeat (first|apply ra_|apply rn_|apply Rd_));exact rm_ HO_10.out (fun _ hk => ⟨trivial,hk⟩)) hg hat);replace HO_209001:=A_ (ro_ (rq_ HO_209001) (ry_ (rq_ HO_8)) (by decide) hg);replace BK208:=kG_ BK208 hg HO_8;replace HB:=A_ (hb);have HO218:=A_ (ho);clear HO_8;clear ho hb hg hat))
             go_roundg k2
             case measure => have:=HK1.out;have:=HK2.out;omega
             case rel => exact ⟨(x7_2),(y216),(t203),(wrap64 (x12_1 + (t210.size : Int))),(wrap64 (x13_1 + 1)),(by first|rfl|(simp;done)|(simp [*];done)),(by first|rfl|(simp;done)|(simp [*];done)),(by first|rfl|(simp;done)|(simp [*];done)),H',⟨by have:=HK1.out;have:=HK2.out;omega⟩,⟨by (with_reducible repeat (first|apply ra_|apply rn_|apply Rd_));exact HO_7.out⟩,⟨by (with_reducible repeat (first|apply ra_|apply rn_|apply Rd_));exact HO218.out⟩,⟨by (with_reducible repeat (first|apply ra_|apply rn_|apply Rd_));exact rm_ HO_10.out (fun _ hk => hk.2)⟩,⟨bq_ HB⟩⟩
            ·rw [if_neg c58] at H;exact absurd H (by simp)
           ·rw [if_neg c57] at H;exact absurd H (by simp)
          ·rw [if_neg c56] at H;exact absurd H (by simp)
         ·rw [if_neg c55] at H;have c55b0 : decide (x9_1 < t203) = false:=decide_eq_false c55;clear c55
          by_cases c61 : 0 ≤ x13_1
          ·rw [if_pos c61] at H;have c61b0 : decide (0 ≤ x13_1) = true:=de_ c61;clear c61
           by_cases c62 : x13_1 < (t198.length : Int)
           ·rw [if_pos c62] at H;have c62b0 : decide (x13_1 < (t198.length : Int)) = true:=de_ c62;clear c62
            by_cases c63 : x8_1.length < 8796093022208
            ·rw [if_pos c63] at H;have LMc63:=A_ c63;clear c63;obtain ⟨y220,hy220⟩ : ∃ y_ : List ByteArray,y_ = (x8_1 ++ [rdOf ByteArray.empty t198 x13_1]):=⟨_,rfl⟩
             replace H : (spec_ScanSeg.l0 k2 a1 x7_2 y220 x9_1 t198 (wrap64 (x12_1 + (t210.size : Int))) (wrap64 (x13_1 + 1))) = some (r1,r2,r3):=by first|(rw [hy220];with_reducible exact H)|(have H2_:=(Option.bind_some _ _).symm.trans H;rw [hy220];with_reducible exact H2_)|(have H2_:=(Option.bind_some _ _).symm.trans H;with_reducible exact H2_)|with_reducible exact H|(rw [hy220];exact H)|exact H
             have Ny220:=A_ hy220;clear hy220;have H':=A_ H;clear H;obtain ⟨hcz64_0,hcz64_1,hfz64_0,hfz64_1⟩:=k2f_ BK208;have p219 : 0 ≤ (x13_1 : Int):=oda_;have q219 : x13_1 < (t198.length : Int):=oda_;obtain ⟨ad219,e219,hx219_0⟩:=Kd.at_string (Kd.R_reads' HO_10.out).2.2 x13_1 p219 q219;obtain rfl : ad202 = ad219:=(by injection e219);replace p219:=eq_true p219;replace q219:=eq_true q219
             go_wp2_with (first|((with_reducible refine gate_builtin (b:=.append) (xs:=#[.tmp 132,.tmp 137]) rfl ?_);at_builtin;refine Kd.R_append Kd.string (w0:=w) w.heap.size rfl (.tmp 132) (.tmp 137) 31 9 (.string ⟨#[]⟩) 16 rfl Try.underlying31 info9 rfl (by decide) (by omega) u8 x8_1 (rdOf ByteArray.empty t198 x13_1) [.string (rdOf ByteArray.empty t198 x13_1)] (fun k_ => some k_ ≠ (.slice (some ad202) t198.length co16 : Value).ownBlock) (fun _ => False) rfl rfl ?aP (fun _ hk => hk.elim) ?aF ?aO ?aB ?aS ?aL ?_;(case aP => exact rfl);(case aB => exact (bq_ HB));(case aF => exact (fun k_ hk => Kd.fresh' (Kd.R_lt (rq_ HO_10)) k_ hk));(case aO => exact (rq_ HO_8));(case aS => exact (bz_ (bq_ HB)));(case aL => have:=LMc63.out;omega);intro v221 w65 ho hb hg hat;rw [← Ny220.out] at ho;replace HO_7:=A_ (ro_ (rq_ HO_7) (ry_ (rq_ HO_8)) (by decide) hg);replace HO_10:=A_ (rt_ (ok:=(fun _ => True)) (by (with_reducible repeat (first|apply ra_|apply rn_|apply Rd_));exact rm_ HO_10.out (fun _ hk => ⟨trivial,hk⟩)) hg hat);replace HO_209001:=A_ (ro_ (rq_ HO_209001) (ry_ (rq_ HO_8)) (by decide) hg);replace BK208:=kG_ BK208 hg HO_8;replace HB:=A_ (hb);have HO222:=A_ (ho);clear HO_8;clear ho hb hg hat))
             go_roundg k2
             case measure => have:=HK1.out;have:=HK2.out;omega
             case rel => exact ⟨(x7_2),(y220),(x9_1),(wrap64 (x12_1 + (t210.size : Int))),(wrap64 (x13_1 + 1)),(by first|rfl|(simp;done)|(simp [*];done)),(by first|rfl|(simp;done)|(simp [*];done)),(by first|rfl|(simp;done)|(simp [*];done)),H',⟨by have:=HK1.out;have:=HK2.out;omega⟩,⟨by (with_reducible repeat (first|apply ra_|apply rn_|apply Rd_));exact HO_7.out⟩,⟨by (with_reducible repeat (first|apply ra_|apply rn_|apply Rd_));exact HO222.out⟩,⟨by (with_reducible repeat (first|apply ra_|apply rn_|apply Rd_));exact rm_ HO_10.out (fun _ hk => hk.2)⟩,⟨bq_ HB⟩⟩
            ·rw [if_neg c63] at H;exact absurd H (by simp)
           ·rw [if_neg c62] at H;exact absurd H (by simp)
          ·rw [if_neg c61] at H;exact absurd H (by simp)
     ·replace c12:=Bool.eq_false_iff.mpr c12;subst c12
      have H1 : (some (x7_1,x8_1,x9_1)) = some (r1,r2,r3):=by rw [if_neg (show ¬ (false = true) by decide)] at H;exact H
      clear H;have H:=H1;clear H1;simp only [Option.some.injEq,Prod.mk.injEq] at H;obtain ⟨rfl,rfl,rfl⟩:=H;obtain ⟨Ao66,co66,eo66⟩:=Kd.R_slice HO_10.out;subst eo66;have p202 : 0 ≤ (x13_1 : Int):=oda_;have q202 : x13_1 < (t198.length : Int):=oda_;obtain ⟨ad202,e202,hx202_0⟩:=Kd.at_string (Kd.R_reads' HO_10.out).2.2 x13_1 p202 q202
      cases e202
      replace p202:=eq_true p202;replace q202:=eq_true q202
      go_wp2_with (first|((with_reducible refine gate_callee (f:=52) rfl ?_);refine gL_ (some 39) Try.func52 #[.string (rdOf ByteArray.empty t198 x13_1)] ?_;(with_reducible refine (spec_ReadBatch.calls k1 (rdOf ByteArray.empty t198 x13_1) t203 t204 false _ A11.out).mono ?_);rintro e w67 ⟨v205,rfl,ho0,hb⟩;refine ⟨_,rfl,?_⟩;replace HO_7:=rB_ HO_7 hb;replace HO_8:=rB_ HO_8 hb;replace HO_10:=rB_ HO_10 hb;have HO206:=A_ (rw_ ho0 (bz_ (bq_ HB)));replace HB:=bS_ HB hb;(try clear hb);(try clear ho0))|((with_reducible refine gate_dst (N:=14) rfl ?_);refine bE_ 14 #[.int .i64 0,.slice none 0 0] 79 ?_;intro gb208 hg w68 hbox hb;replace HO_7:=rB_ HO_7 hb;replace HO_8:=rB_ HO_8 hb;replace HO_10:=rB_ HO_10 hb;replace HO206:=rB_ HO206 hb;have BK208:=A_ (hbox);have GW208:=gE_ hg HB;have GE208:=gE_ hg HB;replace HB:=bS_ HB hb;clear hb hbox hg;obtain ⟨hcz69_0,hcz69_1,hfz69_0,hfz69_1⟩:=k2f_ BK208;obtain ⟨Ao70,co70,eo70⟩:=Kd.R_slice HO206.out;subst eo70))
      go_ret3;exact ⟨_,_,by first|rfl|(simp [*,errW_none,errW_some] <;> rfl),by (with_reducible repeat (first|apply ra_|apply rn_|apply Rd_));exact rm_ (rf_ (p:=⟨gb208,1,none⟩) (rf_ (p:=⟨gb208,0,none⟩) (Kd.R_types HO_7.out BK208.out (by decide)) (fun _ hk => hk.2) (.int .i64 t203)) (fun _ hk => hk.2) (.slice Ao70 t204.length co70)) (fun _ hk => trivial),by (with_reducible repeat (first|apply ra_|apply rn_|apply Rd_));exact rm_ (rf_ (p:=⟨gb208,1,none⟩) (rf_ (p:=⟨gb208,0,none⟩) (Kd.R_types HO_8.out BK208.out (by decide)) (fun _ hk => hk.2) (.int .i64 t203)) (fun _ hk => hk.2) (.slice Ao70 t204.length co70)) (fun _ hk => trivial),bq_ HB⟩
    ·rw [if_neg c10] at H;exact absurd H (by simp)
   ·rw [if_neg c9] at H;have c9b0 : decide (x13_1 < (t198.length : Int)) = false:=decide_eq_false c9;clear c9;simp only [Option.some.injEq,Prod.mk.injEq] at H;obtain ⟨rfl,rfl,rfl⟩:=H;obtain ⟨Ao71,co71,eo71⟩:=Kd.R_slice HO_10.out;subst eo71;go_wp2;go_ret3;exact ⟨_,_,by first|rfl|(simp [*,errW_none,errW_some] <;> rfl),by (with_reducible repeat (first|apply ra_|apply rn_|apply Rd_));exact HO_7.out,by (with_reducible repeat (first|apply ra_|apply rn_|apply Rd_));exact rm_ HO_8.out (fun _ hk => trivial),bq_ HB⟩
end Go.Proofs.Ytbcgnncbiblibaa.PFnExactScanSeg
