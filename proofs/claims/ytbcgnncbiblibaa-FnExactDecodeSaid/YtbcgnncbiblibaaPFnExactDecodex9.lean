/- The contracts of the Go functions that this law reaches: what each call returns, by a plain Lean function of its arguments. No conditions but those each contract names. By the kit's print.py, run by this session's wip/gen/pp.py with facts and hand proofs beside it: not to the letter what print.sh prints. -/
import Derived.Test.YtbcgnncbiblibaaPFnExactDecodex0
import Derived.Test.YtbcgnncbiblibaaPFnExactDecodex1
import Derived.Test.YtbcgnncbiblibaaPFnExactDecodex2
import Derived.Test.YtbcgnncbiblibaaPFnExactDecodex3
import Derived.Test.YtbcgnncbiblibaaPFnExactDecodex5
import Derived.Test.YtbcgnncbiblibaaPFnExactDecodex8
namespace Go.Proofs.Ytbcgnncbiblibaa.PFnExactDecode
open Go.RowKit Go.Proofs.YtbcgnncbiblibaaW.PrintWords Go.Proofs.YtbcgnncbiblibaaW.PrintLast Go.Proofs.YtbcgnncbiblibaaW.PrintMore
attribute [local go_sem] max2_int min2_int max_two min_two max_three min_three max_four min_four
set_option linter.unusedVariables false
set_option linter.unusedSimpArgs false
mutual
def spec_Decode.l0 : Nat → ByteArray → Int → Int → ByteArray → Int → Bool → Int → Int → Int → Int → Int → Int → Int → Bool → List (S69) → ByteArray → Bool → Option (Int × Int × Int × Int × Int × Int × Int × Bool × (List (S69)) × List Int × ByteArray × Bool × Bool)
 | 0,_,_,_,_,_,_,_,_,_,_,_,_,_,_,_,_,_ => none
 | k + 1,x0,x7,x8,x229000,x229001,x229002,x234000,x234001,x234002,x234003,x234004,x234005,x234006,x234007,x234008,x234010,x234011 => if x8 < x7 then (if x229002 = true then (spec_Decode.j1 k x0 x7 x8 false x229000 x229001 x229002 x234000 x234001 x234002 x234003 x234004 x234005 x234006 x234007 x234008 x234010 x234011) else (spec_Decode.j1 k x0 x7 x8 (decide (x8 ≤ 4)) x229000 x229001 x229002 x234000 x234001 x234002 x234003 x234004 x234005 x234006 x234007 x234008 x234010 x234011)) else (spec_Decode.j1 k x0 x7 x8 false x229000 x229001 x229002 x234000 x234001 x234002 x234003 x234004 x234005 x234006 x234007 x234008 x234010 x234011)
def spec_Decode.j1 : Nat → ByteArray → Int → Int → Bool → ByteArray → Int → Bool → Int → Int → Int → Int → Int → Int → Int → Bool → List (S69) → ByteArray → Bool → Option (Int × Int × Int × Int × Int × Int × Int × Bool × (List (S69)) × List Int × ByteArray × Bool × Bool)
 | 0,_,_,_,_,_,_,_,_,_,_,_,_,_,_,_,_,_,_ => none
 | k + 1,x0,x7,x8,x69,x229000,x229001,x229002,x234000,x234001,x234002,x234003,x234004,x234005,x234006,x234007,x234008,x234010,x234011 => if x69 = true then ((spec_l05ReadShort.f k x229000 x229001 x229002).bind fun bt262 => ((spec_ReadEntry.f k bt262.1).bind fun bt266 => (if x234008.length < 4398046511104 then (spec_Decode.l0 k x0 x7 (wrap64 (x8 + 1)) bt262.2.1 bt262.2.2.1 bt262.2.2.2 x234000 x234001 x234002 x234003 x234004 x234005 x234006 x234007 (x234008 ++ [(⟨bt266.2.1,bt266.2.2.1,bt266.2.2.2.1⟩ : S69)]) x234010 x234011) else (none)))) else ((spec_l05ReadShort.f k x229000 x229001 x229002).bind fun bt275 => ((spec_ReadConf.f k bt275.1).bind fun bt279 => ((spec_l05ReadShort.f k bt275.2.1 bt275.2.2.1 bt275.2.2.2).bind fun bt283 => ((spec_Encode.f k x234000 x234001 x234002 x234003 x234004 x234005 x234006 x234007 x234008 bt279.1 bt283.1 x234011).bind fun bt287 => (if bt283.2.2.2 = true then (some (0,0,0,0,0,0,0,false,([] : List (S69)),([] : List Int),(⟨#[]⟩ : ByteArray),false,false)) else (if bt287.2 = true then (if bt287.1.toList = x0.toList then (some (x234000,x234001,x234002,x234003,x234004,x234005,x234006,x234007,x234008,bt279.1,bt283.1,x234011,true)) else (some (0,0,0,0,0,0,0,false,([] : List (S69)),([] : List Int),(⟨#[]⟩ : ByteArray),false,false))) else (some (0,0,0,0,0,0,0,false,([] : List (S69)),([] : List Int),(⟨#[]⟩ : ByteArray),false,false))))))))
end
def spec_Decode.f (k : Nat) (a0 : ByteArray) : Option (Int × Int × Int × Int × Int × Int × Int × Bool × (List (S69)) × List Int × ByteArray × Bool × Bool) := (spec_l05Take.f a0 0 false 3).bind fun bt229 => (if bt229.2.2.2 = true then (some (0, 0, 0, 0, 0, 0, 0, false, ([] : List (S69)), ([] : List Int), (⟨#[]⟩ : ByteArray), false,false)) else (if 0 < (bt229.1.size : Int) then (if 1 < (bt229.1.size : Int) then (if 2 < (bt229.1.size : Int) then ((spec_l05Var.f k bt229.2.1 bt229.2.2.1 bt229.2.2.2).bind fun bt234 => ((spec_l05Var.f k bt234.2.1 bt234.2.2.1 bt234.2.2.2).bind fun bt238 => ((spec_l05Var.f k bt238.2.1 bt238.2.2.1 bt238.2.2.2).bind fun bt242 => ((spec_l05Var.f k bt242.2.1 bt242.2.2.1 bt242.2.2.2).bind fun bt246 => ((spec_l05Take.f bt246.2.1 bt246.2.2.1 bt246.2.2.2 1).bind fun bt250 => ((spec_l05Take.f bt250.2.1 bt250.2.2.1 bt250.2.2.2 1).bind fun bt254 => ((spec_l05Var.f k bt254.2.1 bt254.2.2.1 bt254.2.2.2).bind fun bt258 => (spec_Decode.l0 k a0 bt258.1 0 bt258.2.1 bt258.2.2.1 bt258.2.2.2 (wrap64 (bt bt229.1 0)) (wrap64 (bt bt229.1 1)) (wrap64 (bt bt229.1 2)) bt234.1 bt238.1 bt242.1 bt246.1 (bt250.1.toList == ([1] : List UInt8)) ([] : List (S69)) (⟨#[]⟩ : ByteArray) (bt254.1.toList == ([1] : List UInt8)))))))))) else (none)) else (none)) else (none)))
theorem spec_Decode.mono_l : ∀ k, (∀ y0 y1 y2 y3 y4 y5 y6 y7 y8 y9 y10 y11 y12 y13 y14 y15 y16, LeO (spec_Decode.l0 k y0 y1 y2 y3 y4 y5 y6 y7 y8 y9 y10 y11 y12 y13 y14 y15 y16) (spec_Decode.l0 (k + 1) y0 y1 y2 y3 y4 y5 y6 y7 y8 y9 y10 y11 y12 y13 y14 y15 y16)) ∧ (∀ y0 y1 y2 y3 y4 y5 y6 y7 y8 y9 y10 y11 y12 y13 y14 y15 y16 y17, LeO (spec_Decode.j1 k y0 y1 y2 y3 y4 y5 y6 y7 y8 y9 y10 y11 y12 y13 y14 y15 y16 y17) (spec_Decode.j1 (k + 1) y0 y1 y2 y3 y4 y5 y6 y7 y8 y9 y10 y11 y12 y13 y14 y15 y16 y17))
 | 0 => ⟨fun _ _ _ _ _ _ _ _ _ _ _ _ _ _ _ _ _ r h => by simp [spec_Decode.l0] at h,fun _ _ _ _ _ _ _ _ _ _ _ _ _ _ _ _ _ _ r h => by simp [spec_Decode.j1] at h⟩
 | k + 1 => by
  obtain ⟨ih0,ih1⟩:=spec_Decode.mono_l k;refine ⟨?_,?_⟩
  ·intro y0 y1 y2 y3 y4 y5 y6 y7 y8 y9 y10 y11 y12 y13 y14 y15 y16
   unfold spec_Decode.l0
   repeat' first
   | (with_reducible exact ih0 _ _ _ _ _ _ _ _ _ _ _ _ _ _ _ _ _)
   | (with_reducible exact ih1 _ _ _ _ _ _ _ _ _ _ _ _ _ _ _ _ _ _)
   | (with_reducible exact spec_Encode.mono _ _ _ _ _ _ _ _ _ _ _ _ _)
   | (with_reducible exact spec_ReadConf.mono _ _)
   | (with_reducible exact spec_ReadEntry.mono _ _)
   | (with_reducible exact spec_l05ReadShort.mono _ _ _ _)
   | (with_reducible exact spec_l05Var.mono _ _ _ _)
   | (with_reducible exact LeO.refl _)
   | (with_reducible exact LeO.none _)
   | (with_reducible refine LeO.ite ?_ ?_)
   | (with_reducible refine LeO.bind ?_ (fun _ => ?_))
  ·intro y0 y1 y2 y3 y4 y5 y6 y7 y8 y9 y10 y11 y12 y13 y14 y15 y16 y17
   unfold spec_Decode.j1
   repeat' first
   | (with_reducible exact ih0 _ _ _ _ _ _ _ _ _ _ _ _ _ _ _ _ _)
   | (with_reducible exact ih1 _ _ _ _ _ _ _ _ _ _ _ _ _ _ _ _ _ _)
   | (with_reducible exact spec_Encode.mono _ _ _ _ _ _ _ _ _ _ _ _ _)
   | (with_reducible exact spec_ReadConf.mono _ _)
   | (with_reducible exact spec_ReadEntry.mono _ _)
   | (with_reducible exact spec_l05ReadShort.mono _ _ _ _)
   | (with_reducible exact spec_l05Var.mono _ _ _ _)
   | (with_reducible exact LeO.refl _)
   | (with_reducible exact LeO.none _)
   | (with_reducible refine LeO.ite ?_ ?_)
   | (with_reducible refine LeO.bind ?_ (fun _ => ?_))
theorem spec_Decode.mono : ∀ a0 k, LeO (spec_Decode.f k a0) (spec_Decode.f (k + 1) a0) := by
 intro a0 k;obtain ⟨ih0,ih1⟩:=spec_Decode.mono_l k
 unfold spec_Decode.f
 repeat' first
   | (with_reducible exact ih0 _ _ _ _ _ _ _ _ _ _ _ _ _ _ _ _ _)
   | (with_reducible exact ih1 _ _ _ _ _ _ _ _ _ _ _ _ _ _ _ _ _ _)
   | (with_reducible exact spec_Encode.mono _ _ _ _ _ _ _ _ _ _ _ _ _)
   | (with_reducible exact spec_ReadConf.mono _ _)
   | (with_reducible exact spec_ReadEntry.mono _ _)
   | (with_reducible exact spec_l05ReadShort.mono _ _ _ _)
   | (with_reducible exact spec_l05Var.mono _ _ _ _)
   | (with_reducible exact LeO.refl _)
   | (with_reducible exact LeO.none _)
   | (with_reducible refine LeO.ite ?_ ?_)
   | (with_reducible refine LeO.bind ?_ (fun _ => ?_))
def spec_Decode.T5 : Bool × List (List Nat × List Nat) := (true, [([], []), ([0], [0]), ([1], [1]), ([], []), ([3], [3]), ([4], [4]), ([], []), ([6], [6]), ([7], [7]), ([2, 5, 8], [2, 5, 8]), ([], []), ([10, 9, 0, 1, 2, 3, 4, 5, 6, 7, 8, 9, 10], [9, 10])])
def spec_Decode.B5 : List Nat := [0, 1, 3, 0, 8, 24, 0, 64, 192, 511, 0, 2047]
theorem spec_Decode.tab5 : rtab .any (opsOf Try.f21 5) = spec_Decode.T5 := by kernel_rfl
theorem spec_Decode.bits5 : waitsOk spec_Decode.T5.2 spec_Decode.B5 = true := by kernel_rfl
set_option maxHeartbeats 8000000 in
set_option maxRecDepth 100000 in
theorem spec_Decode.calls (k : Nat) (a0 : ByteArray) (r1 : Int) (r2 : Int) (r3 : Int) (r4 : Int) (r5 : Int) (r6 : Int) (r7 : Int) (r8 : Bool) (r9 : List (S69)) (r10 : List Int) (r11 : ByteArray) (r12 : Bool) (r13 : Bool) (w : World) (h : spec_Decode.f k a0 = some (r1, r2, r3, r4, r5, r6, r7, r8, r9, r10, r11, r12, r13)) :
  Calls Try.prog 21 #[.string a0] w fun e w' => ∃ v8_ v9_ : Value,e = .returned (.tuple #[.agg #[.int .i64 r1,.int .i64 r2,.int .i64 r3,.int .i64 r4,.int .i64 r5,.int .i64 r6,.int .i64 r7,.bool r8,v8_,v9_,.string r11,.bool r12],.bool r13]) ∧ Kd.R k69 69 w' w.heap.size (fun _ => True) v8_ r9 ∧ Kd.R (Kd.int .i64) 3 w' w.heap.size (fun _ => True) v9_ r10 ∧ Below w.heap.size w w':=by
 have hu41:=Try.underlying41;have hu98:=Try.underlying98;have hu69:=Try.underlying69;have HB:=A_ (Below.refl w.heap.size w);unfold spec_Decode.f at h;have H:=h;clear h;replace H:=ob_.mp H;obtain ⟨⟨t229,t230,t231,t232⟩,A20,H⟩:=H;(try dsimp only at H);have A2:=A_ A20;clear A20
 by_cases c3 : t232 = true
 ·subst c3
  rw [if_pos rfl] at H;simp only [Option.some.injEq,Prod.mk.injEq] at H;obtain ⟨rfl,rfl,rfl,rfl,rfl,rfl,rfl,rfl,rfl,rfl,rfl,rfl,rfl⟩:=H;go_enter Try.func21,Try.ntmps21
  go_wp2_with (first|((with_reducible refine gate_dst (N:=2) rfl ?_);refine bE_ 2 #[.int .i64 0,.int .i64 0,.int .i64 0,.int .i64 0,.int .i64 0,.int .i64 0,.int .i64 0,.bool false,.slice none 0 0,.slice none 0 0,.string (⟨#[]⟩ : ByteArray),.bool false] 41 ?_;intro gb227 hg w4 hbox hb;have BK227:=A_ (hbox);have GW227:=gE_ hg HB;have GE227:=gE_ hg HB;replace HB:=bS_ HB hb;clear hb hbox hg)|((with_reducible refine gate_dst (N:=16) rfl ?_);refine bE_ 16 #[.string a0,.int .i64 0,.bool false] 98 ?_;intro gb228 hg w5 hbox hb;have HI228:=A_ ((show IsS98 w w5 gb228 a0 0 false from ⟨hbox,(by rw [hg];exact (bz_ (bq_ HB)) : w.heap.size ≤ gb228)⟩));replace HB:=bS_ HB hb;have NB227_228:=nB_ hg BK227;have NB228_227:=nC_ hg BK227;replace BK227:=kB_ BK227 hb;clear hb hbox hg)|((with_reducible refine gate_callee (f:=60) rfl ?_);refine gL_ (some 18) Try.func60 #[.pointer (some ⟨gb228,0,none⟩),.int .i64 3] ?_;(with_reducible refine (spec_l05Take.calls gb228 a0 0 false 3 t229 t230 t231 true w _ ?side1 ?side2 A2.out).mono ?_);(case side1 => exact iq98_ HI228);(case side2 => exact bi_ HB (IsS98.ge HI228.out));rintro e w6 ⟨rfl,hi,hb,hk⟩;refine ⟨_,rfl,?_⟩;replace BK227:=A_ (KeepBut.blk hk (g':=gb227) (o:=.cells #[.int .i64 0,.int .i64 0,.int .i64 0,.int .i64 0,.int .i64 0,.int .i64 0,.int .i64 0,.bool false,.slice none 0 0,.slice none 0 0,.string (⟨#[]⟩ : ByteArray),.bool false] 41 (0,0)) (kq_ BK227) NB227_228.out (by simp));replace HB:=A_ (hb);replace HI228:=A_ (hi);(try clear hb);(try clear hk);(try clear hi);obtain ⟨HGz7,hgz7⟩:=HI228.out;have hcz7_0:=cellS98_0 HGz7;have hcz7_1:=cellS98_1 HGz7;have hcz7_2:=cellS98_2 HGz7;have hfz7_0:=kf_ HGz7 0;have hfz7_1:=kf_ HGz7 1;have hfz7_2:=kf_ HGz7 2;clear HGz7 hgz7;have hnb8:=NB227_228.out;have hnc8:=NB228_227.out;obtain ⟨hcz9_0,hcz9_1,hcz9_2,hcz9_3,hcz9_4,hcz9_5,hcz9_6,hcz9_7,hcz9_8,hcz9_9,hcz9_10,hcz9_11,hfz9_0,hfz9_1,hfz9_2,hfz9_3,hfz9_4,hfz9_5,hfz9_6,hfz9_7,hfz9_8,hfz9_9,hfz9_10,hfz9_11⟩:=k12f_ BK227))
  refine bodyPost_ret (results_ct rfl _ _ gb227 41 #[.int .i64 0,.int .i64 0,.int .i64 0,.int .i64 0,.int .i64 0,.int .i64 0,.int .i64 0,.bool false,.slice none 0 0,.slice none 0 0,.string (⟨#[]⟩ : ByteArray),.bool false] (0,0) _ rfl (kz_ BK227) Try.underlying41 rfl (by kernel_rfl)) rfl ?_;exact ⟨_,_,by first|rfl|(simp [*,errW_none,errW_some] <;> rfl),by first|exact Kd.R_nil _ _ _ _ _|exact Kd.N_nil _ _ _ _ _|exact Kd.V_nil _ _ _ _ _|exact Kd.Q_nil _ _ _ _ _|exact Kd.S_nil _ _ _ _ _,by first|exact Kd.R_nil _ _ _ _ _|exact Kd.N_nil _ _ _ _ _|exact Kd.V_nil _ _ _ _ _|exact Kd.Q_nil _ _ _ _ _|exact Kd.S_nil _ _ _ _ _,bi_ HB (IsS98.ge HI228.out)⟩
 ·replace c3:=Bool.eq_false_iff.mpr c3;subst c3
  have H1 : (if 0 < (t229.size : Int) then (if 1 < (t229.size : Int) then (if 2 < (t229.size : Int) then ((spec_l05Var.f k t230 t231 false).bind fun bt234 => ((spec_l05Var.f k bt234.2.1 bt234.2.2.1 bt234.2.2.2).bind fun bt238 => ((spec_l05Var.f k bt238.2.1 bt238.2.2.1 bt238.2.2.2).bind fun bt242 => ((spec_l05Var.f k bt242.2.1 bt242.2.2.1 bt242.2.2.2).bind fun bt246 => ((spec_l05Take.f bt246.2.1 bt246.2.2.1 bt246.2.2.2 1).bind fun bt250 => ((spec_l05Take.f bt250.2.1 bt250.2.2.1 bt250.2.2.2 1).bind fun bt254 => ((spec_l05Var.f k bt254.2.1 bt254.2.2.1 bt254.2.2.2).bind fun bt258 => (spec_Decode.l0 k a0 bt258.1 0 bt258.2.1 bt258.2.2.1 bt258.2.2.2 (wrap64 (bt t229 0)) (wrap64 (bt t229 1)) (wrap64 (bt t229 2)) bt234.1 bt238.1 bt242.1 bt246.1 (bt250.1.toList == ([1] : List UInt8)) ([] : List (S69)) (⟨#[]⟩ : ByteArray) (bt254.1.toList == ([1] : List UInt8)))))))))) else (none)) else (none)) else (none)) = some (r1,r2,r3,r4,r5,r6,r7,r8,r9,r10,r11,r12,r13):=by rw [if_neg (show ¬ (false = true) by decide)] at H;exact H
  clear H;have H:=H1;clear H1
  by_cases c10 : 0 < (t229.size : Int)
  ·rw [if_pos c10] at H;have c10b0 : decide (0 < (t229.size : Int)) = true:=de_ c10;have c10b1 : decide (0 < t229.size) = true:=de_ (by omega);clear c10
   by_cases c12 : 1 < (t229.size : Int)
   ·rw [if_pos c12] at H;have c12b0 : decide (1 < (t229.size : Int)) = true:=de_ c12;have c12b1 : decide (1 < t229.size) = true:=de_ (by omega);clear c12
    by_cases c14 : 2 < (t229.size : Int)
    ·rw [if_pos c14] at H;have c14b0 : decide (2 < (t229.size : Int)) = true:=de_ c14;have c14b1 : decide (2 < t229.size) = true:=de_ (by omega);clear c14;replace H:=ob_.mp H;obtain ⟨⟨t234,t235,t236,t237⟩,A160,H⟩:=H;(try dsimp only at H);have A16:=A_ A160;clear A160;replace H:=ob_.mp H;obtain ⟨⟨t238,t239,t240,t241⟩,A170,H⟩:=H;(try dsimp only at H);have A17:=A_ A170;clear A170;replace H:=ob_.mp H;obtain ⟨⟨t242,t243,t244,t245⟩,A180,H⟩:=H;(try dsimp only at H);have A18:=A_ A180;clear A180;replace H:=ob_.mp H;obtain ⟨⟨t246,t247,t248,t249⟩,A190,H⟩:=H;(try dsimp only at H);have A19:=A_ A190;clear A190;replace H:=ob_.mp H;obtain ⟨⟨t250,t251,t252,t253⟩,A200,H⟩:=H;(try dsimp only at H);have A20:=A_ A200;clear A200;replace H:=ob_.mp H;obtain ⟨⟨t254,t255,t256,t257⟩,A210,H⟩:=H;(try dsimp only at H);have A21:=A_ A210;clear A210;replace H:=ob_.mp H;obtain ⟨⟨t258,t259,t260,t261⟩,A220,H⟩:=H;(try dsimp only at H);have A22:=A_ A220;clear A220;have H':=A_ H;clear H;go_enter Try.func21,Try.ntmps21
     try go_wp2_with (first|((with_reducible refine gate_dst (N:=2) rfl ?_);refine bE_ 2 #[.int .i64 0,.int .i64 0,.int .i64 0,.int .i64 0,.int .i64 0,.int .i64 0,.int .i64 0,.bool false,.slice none 0 0,.slice none 0 0,.string (⟨#[]⟩ : ByteArray),.bool false] 41 ?_;intro gb227 hg w23 hbox hb;have BK227:=A_ (hbox);have GW227:=gE_ hg HB;have GE227:=gE_ hg HB;replace HB:=bS_ HB hb;clear hb hbox hg)|((with_reducible refine gate_dst (N:=16) rfl ?_);refine bE_ 16 #[.string a0,.int .i64 0,.bool false] 98 ?_;intro gb228 hg w24 hbox hb;have HI228:=A_ ((show IsS98 w w24 gb228 a0 0 false from ⟨hbox,(by rw [hg];exact (bz_ (bq_ HB)) : w.heap.size ≤ gb228)⟩));replace HB:=bS_ HB hb;have NB227_228:=nB_ hg BK227;have NB228_227:=nC_ hg BK227;replace BK227:=kB_ BK227 hb;clear hb hbox hg)|((with_reducible refine gate_callee (f:=60) rfl ?_);refine gL_ (some 18) Try.func60 #[.pointer (some ⟨gb228,0,none⟩),.int .i64 3] ?_;(with_reducible refine (spec_l05Take.calls gb228 a0 0 false 3 t229 t230 t231 false w _ ?side1 ?side2 A2.out).mono ?_);(case side1 => exact iq98_ HI228);(case side2 => exact bi_ HB (IsS98.ge HI228.out));rintro e w25 ⟨rfl,hi,hb,hk⟩;refine ⟨_,rfl,?_⟩;replace BK227:=A_ (KeepBut.blk hk (g':=gb227) (o:=.cells #[.int .i64 0,.int .i64 0,.int .i64 0,.int .i64 0,.int .i64 0,.int .i64 0,.int .i64 0,.bool false,.slice none 0 0,.slice none 0 0,.string (⟨#[]⟩ : ByteArray),.bool false] 41 (0,0)) (kq_ BK227) NB227_228.out (by simp));replace HB:=A_ (hb);replace HI228:=A_ (hi);(try clear hb);(try clear hk);(try clear hi);obtain ⟨HGz26,hgz26⟩:=HI228.out;have hcz26_0:=cellS98_0 HGz26;have hcz26_1:=cellS98_1 HGz26;have hcz26_2:=cellS98_2 HGz26;have hfz26_0:=kf_ HGz26 0;have hfz26_1:=kf_ HGz26 1;have hfz26_2:=kf_ HGz26 2;clear HGz26 hgz26))
     replace BK227:=A_ (kd_ BK227.out);replace HI228:=A_ (IsS98.drew HI228.out);replace HB:=A_ (pd_ HB.out);have p11 : 0 ≤ (0 : Int):=(by omega);have q11 : 0 < t229.size:=(by have : (0 : Int) < (t229.size : Int):=oda_;omega);have hx11 : ∀ h : 0 < t229.size,((t229[0]'h).toNat : Int) = bt t229 0:=bt_at t229 0;clear p11;have qi11 : (0 < (t229.size : Int)) = True:=eq_true (oda_);replace q11:=eq_true q11;have p13 : 0 ≤ (1 : Int):=(by omega);have q13 : 1 < t229.size:=(by have : (1 : Int) < (t229.size : Int):=oda_;omega);have hx13 : ∀ h : 1 < t229.size,((t229[1]'h).toNat : Int) = bt t229 1:=bt_at t229 1;clear p13;have qi13 : (1 < (t229.size : Int)) = True:=eq_true (oda_);replace q13:=eq_true q13;have p15 : 0 ≤ (2 : Int):=(by omega);have q15 : 2 < t229.size:=(by have : (2 : Int) < (t229.size : Int):=oda_;omega);have hx15 : ∀ h : 2 < t229.size,((t229[2]'h).toNat : Int) = bt t229 2:=bt_at t229 2;clear p15;have qi15 : (2 < (t229.size : Int)) = True:=eq_true (oda_);replace q15:=eq_true q15;refine start_ (n:=12) (S:=fun w' => True) (ds:=[]) #[false,false,false,false,false,false,false,false,false,false,false,false] (by kernel_rfl) rfl rfl trivial (fun hHeld => ?_);refine with_tabW spec_Decode.tab5 spec_Decode.bits5 (fun HT_ HW_ => ?_);generalize w25.drew = w27 at BK227 HI228 HB hHeld ⊢;refine pU_ 0 (some 24) ?_
     refine pU_ 3 (some 27) ?_
     refine pU_ 6 (some 30) ?_
     refine take_ (i:=1) (N:=some 25) (v:=?_) (a':=?_) #[true,true,false,true,false,false,true,false,false,false,false,false] rfl rfl (take_ofW HT_.out HW_.out (by kernel_rfl)) (fun _ _ _ h => h) (Or.inl ⟨by rfl,?_⟩) hHeld ?_ ?_;rotate_left
     ·intro w' _;go_simp;with_reducible rfl
     rotate_left
     ·exact ux_
     refine pU_ 2 (some 26) ?_
     refine take_ (i:=4) (N:=some 28) (v:=?_) (a':=?_) #[true,true,true,true,true,false,true,false,false,false,false,false] rfl rfl (take_ofW HT_.out HW_.out (by kernel_rfl)) (fun _ _ _ h => h) (Or.inl ⟨by rfl,?_⟩) hHeld ?_ ?_;rotate_left
     ·intro w' _;go_simp;with_reducible rfl
     rotate_left
     ·exact ux_
     refine pU_ 5 (some 29) ?_
     refine take_ (i:=7) (N:=some 31) (v:=?_) (a':=?_) #[true,true,true,true,true,true,true,true,false,false,false,false] rfl rfl (take_ofW HT_.out HW_.out (by kernel_rfl)) (fun _ _ _ h => h) (Or.inl ⟨by rfl,?_⟩) hHeld ?_ ?_;rotate_left
     ·intro w' _;go_simp;with_reducible rfl
     rotate_left
     ·exact ux_
     refine pU_ 8 (some 32) ?_
     refine pU_ 9 (some 33) ?_
     refine oN_ 10 (some 6) (fun K hK => ?_);refine box_step ?hg (N:=6) ?hd (cs:=#[.int .i64 0,.int .i64 0,.int .i64 0,.int .i64 0,.int .i64 0,.int .i64 0,.int .i64 0,.bool false,.slice none 0 0,.slice none 0 0,.string (⟨#[]⟩ : ByteArray),.bool false]) (t:=41) ?hr ?_;(case hd => rfl);(case hg => rfl);(case hr => exact gx_);intro gb233 hg w28 hbox hb;have BK233:=A_ (hbox);have GW233:=A_ ((by rw [hg];exact (bz_ (bi_ HB (IsS98.ge HI228.out))) : w.heap.size ≤ gb233));have GE233:=A_ ((by rw [hg];exact (bz_ (bi_ HB (IsS98.ge HI228.out))) : w.heap.size ≤ gb233));replace HB:=A_ (bs_ (bi_ HB (IsS98.ge HI228.out)) hb);have NB227_233:=nB_ hg BK227;have NB233_227:=nC_ hg BK227;replace BK227:=kB_ BK227 hb;have NB228_233:=A_ ((by rw [hg];exact nl_ (IsS98.lt (show IsS98 w _ gb228 t230 t231 false from iq98_ HI228)) : gb228 ≠ gb233));have NB233_228:=A_ ((by rw [hg];exact ng_ (IsS98.lt (show IsS98 w _ gb228 t230 t231 false from iq98_ HI228)) : gb233 ≠ gb228));replace HI228:=A_ (IsS98.below (iq98_ HI228) hb);clear hb hbox hg;refine hK.out _ _ trivial (fun hHeld => ?_);clear hK K;refine nX_ (some 6) ?_
     refine oN_ 11 none (fun K hK => ?_);have hs29 : w28.cell? ⟨gb233,0,none⟩ = some (.int .i64 0):=(kc_ BK233.out 0).trans rfl;have hfs29:=kf_ BK233.out 0;have hns29_0:=NB227_233.out;have hms29_0:=NB233_227.out;have hs30 : w28.cell? ⟨gb233,1,none⟩ = some (.int .i64 0):=(kc_ BK233.out 1).trans rfl;have hfs30:=kf_ BK233.out 1;have hns30_0:=NB227_233.out;have hms30_0:=NB233_227.out;have hs31 : w28.cell? ⟨gb233,2,none⟩ = some (.int .i64 0):=(kc_ BK233.out 2).trans rfl;have hfs31:=kf_ BK233.out 2;have hns31_0:=NB227_233.out;have hms31_0:=NB233_227.out;have hs32 : w28.cell? ⟨gb233,3,none⟩ = some (.int .i64 0):=(kc_ BK233.out 3).trans rfl;have hfs32:=kf_ BK233.out 3;have hns32_0:=NB227_233.out;have hms32_0:=NB233_227.out;have hs33 : w28.cell? ⟨gb233,4,none⟩ = some (.int .i64 0):=(kc_ BK233.out 4).trans rfl;have hfs33:=kf_ BK233.out 4;have hns33_0:=NB227_233.out;have hms33_0:=NB233_227.out;have hs34 : w28.cell? ⟨gb233,5,none⟩ = some (.int .i64 0):=(kc_ BK233.out 5).trans rfl;have hfs34:=kf_ BK233.out 5;have hns34_0:=NB227_233.out;have hms34_0:=NB233_227.out;have hs35 : w28.cell? ⟨gb233,6,none⟩ = some (.int .i64 0):=(kc_ BK233.out 6).trans rfl;have hfs35:=kf_ BK233.out 6;have hns35_0:=NB227_233.out;have hms35_0:=NB233_227.out;have hs36 : w28.cell? ⟨gb233,7,none⟩ = some (.bool false):=(kc_ BK233.out 7).trans rfl;have hfs36:=kf_ BK233.out 7;have hns36_0:=NB227_233.out;have hms36_0:=NB233_227.out;have hs37 : w28.cell? ⟨gb233,8,none⟩ = some (.slice none 0 0):=(kc_ BK233.out 8).trans rfl;have hfs37:=kf_ BK233.out 8;have hns37_0:=NB227_233.out;have hms37_0:=NB233_227.out;have hs38 : w28.cell? ⟨gb233,9,none⟩ = some (.slice none 0 0):=(kc_ BK233.out 9).trans rfl;have hfs38:=kf_ BK233.out 9;have hns38_0:=NB227_233.out;have hms38_0:=NB233_227.out;have hs39 : w28.cell? ⟨gb233,10,none⟩ = some (.string (⟨#[]⟩ : ByteArray)):=(kc_ BK233.out 10).trans rfl;have hfs39:=kf_ BK233.out 10;have hns39_0:=NB227_233.out;have hms39_0:=NB233_227.out;have hs40 : w28.cell? ⟨gb233,11,none⟩ = some (.bool false):=(kc_ BK233.out 11).trans rfl;have hfs40:=kf_ BK233.out 11;have hns40_0:=NB227_233.out;have hms40_0:=NB233_227.out;refine skip_ (w1:=?_) (by rfl) rfl ?_ ?_;rotate_left
     ·go_simp;rfl
     refine hK.out _ _ trivial (fun hHeld => ?_);clear hK K;refine done_ (done_of HT_.out (by kernel_rfl)) ?_
     try go_wp2_with (first|((with_reducible refine gate_callee (f:=61) rfl ?_);refine gL_ (some 35) Try.func61 #[.pointer (some ⟨gb228,0,none⟩)] ?_;(with_reducible refine (spec_l05Var.calls k gb228 t230 t231 false t234 t235 t236 t237 w _ ?side1 ?side2 A16.out).mono ?_);(case side1 => exact iq98_ HI228);(case side2 => exact bi_ HB (IsS98.ge HI228.out));rintro e w41 ⟨rfl,hi,hb,hk⟩;refine ⟨_,rfl,?_⟩;replace BK227:=A_ (KeepBut.blk hk (g':=gb227) (o:=.cells #[.int .i64 0,.int .i64 0,.int .i64 0,.int .i64 0,.int .i64 0,.int .i64 0,.int .i64 0,.bool false,.slice none 0 0,.slice none 0 0,.string (⟨#[]⟩ : ByteArray),.bool false] 41 (0,0)) (kz_ BK227) NB227_228.out (by simp));replace BK233:=A_ (KeepBut.blk hk (g':=gb233) (o:=.cells #[.int .i64 (wrap64 (bt t229 0)),.int .i64 (wrap64 (bt t229 1)),.int .i64 (wrap64 (bt t229 2)),.int .i64 0,.int .i64 0,.int .i64 0,.int .i64 0,.bool false,.slice none 0 0,.slice none 0 0,.string (⟨#[]⟩ : ByteArray),.bool false] 41 (0,0)) (kz_ BK233) NB233_228.out (by simp));replace HB:=A_ (hb);replace HI228:=A_ (hi);(try clear hb);(try clear hk);(try clear hi);have hnb42:=NB233_227.out;have hnc42:=NB227_233.out;have hnb43:=NB233_228.out;have hnc43:=NB228_233.out;obtain ⟨hcz44_0,hcz44_1,hcz44_2,hcz44_3,hcz44_4,hcz44_5,hcz44_6,hcz44_7,hcz44_8,hcz44_9,hcz44_10,hcz44_11,hfz44_0,hfz44_1,hfz44_2,hfz44_3,hfz44_4,hfz44_5,hfz44_6,hfz44_7,hfz44_8,hfz44_9,hfz44_10,hfz44_11⟩:=k12f_ BK233)|((with_reducible refine gate_callee (f:=61) rfl ?_);refine gL_ (some 38) Try.func61 #[.pointer (some ⟨gb228,0,none⟩)] ?_;(with_reducible refine (spec_l05Var.calls k gb228 t235 t236 t237 t238 t239 t240 t241 w _ ?side1 ?side2 A17.out).mono ?_);(case side1 => exact iq98_ HI228);(case side2 => exact bi_ HB (IsS98.ge HI228.out));rintro e w45 ⟨rfl,hi,hb,hk⟩;refine ⟨_,rfl,?_⟩;replace BK227:=A_ (KeepBut.blk hk (g':=gb227) (o:=.cells #[.int .i64 0,.int .i64 0,.int .i64 0,.int .i64 0,.int .i64 0,.int .i64 0,.int .i64 0,.bool false,.slice none 0 0,.slice none 0 0,.string (⟨#[]⟩ : ByteArray),.bool false] 41 (0,0)) (kz_ BK227) NB227_228.out (by simp));replace BK233:=A_ (KeepBut.blk hk (g':=gb233) (o:=.cells #[.int .i64 (wrap64 (bt t229 0)),.int .i64 (wrap64 (bt t229 1)),.int .i64 (wrap64 (bt t229 2)),.int .i64 t234,.int .i64 0,.int .i64 0,.int .i64 0,.bool false,.slice none 0 0,.slice none 0 0,.string (⟨#[]⟩ : ByteArray),.bool false] 41 (0,0)) (kz_ BK233) NB233_228.out (by simp));replace HB:=A_ (hb);replace HI228:=A_ (hi);(try clear hb);(try clear hk);(try clear hi);obtain ⟨hcz46_0,hcz46_1,hcz46_2,hcz46_3,hcz46_4,hcz46_5,hcz46_6,hcz46_7,hcz46_8,hcz46_9,hcz46_10,hcz46_11,hfz46_0,hfz46_1,hfz46_2,hfz46_3,hfz46_4,hfz46_5,hfz46_6,hfz46_7,hfz46_8,hfz46_9,hfz46_10,hfz46_11⟩:=k12f_ BK233)|((with_reducible refine gate_callee (f:=61) rfl ?_);refine gL_ (some 41) Try.func61 #[.pointer (some ⟨gb228,0,none⟩)] ?_;(with_reducible refine (spec_l05Var.calls k gb228 t239 t240 t241 t242 t243 t244 t245 w _ ?side1 ?side2 A18.out).mono ?_);(case side1 => exact iq98_ HI228);(case side2 => exact bi_ HB (IsS98.ge HI228.out));rintro e w47 ⟨rfl,hi,hb,hk⟩;refine ⟨_,rfl,?_⟩;replace BK227:=A_ (KeepBut.blk hk (g':=gb227) (o:=.cells #[.int .i64 0,.int .i64 0,.int .i64 0,.int .i64 0,.int .i64 0,.int .i64 0,.int .i64 0,.bool false,.slice none 0 0,.slice none 0 0,.string (⟨#[]⟩ : ByteArray),.bool false] 41 (0,0)) (kz_ BK227) NB227_228.out (by simp));replace BK233:=A_ (KeepBut.blk hk (g':=gb233) (o:=.cells #[.int .i64 (wrap64 (bt t229 0)),.int .i64 (wrap64 (bt t229 1)),.int .i64 (wrap64 (bt t229 2)),.int .i64 t234,.int .i64 t238,.int .i64 0,.int .i64 0,.bool false,.slice none 0 0,.slice none 0 0,.string (⟨#[]⟩ : ByteArray),.bool false] 41 (0,0)) (kz_ BK233) NB233_228.out (by simp));replace HB:=A_ (hb);replace HI228:=A_ (hi);(try clear hb);(try clear hk);(try clear hi);obtain ⟨hcz48_0,hcz48_1,hcz48_2,hcz48_3,hcz48_4,hcz48_5,hcz48_6,hcz48_7,hcz48_8,hcz48_9,hcz48_10,hcz48_11,hfz48_0,hfz48_1,hfz48_2,hfz48_3,hfz48_4,hfz48_5,hfz48_6,hfz48_7,hfz48_8,hfz48_9,hfz48_10,hfz48_11⟩:=k12f_ BK233)|((with_reducible refine gate_callee (f:=61) rfl ?_);refine gL_ (some 44) Try.func61 #[.pointer (some ⟨gb228,0,none⟩)] ?_;(with_reducible refine (spec_l05Var.calls k gb228 t243 t244 t245 t246 t247 t248 t249 w _ ?side1 ?side2 A19.out).mono ?_);(case side1 => exact iq98_ HI228);(case side2 => exact bi_ HB (IsS98.ge HI228.out));rintro e w49 ⟨rfl,hi,hb,hk⟩;refine ⟨_,rfl,?_⟩;replace BK227:=A_ (KeepBut.blk hk (g':=gb227) (o:=.cells #[.int .i64 0,.int .i64 0,.int .i64 0,.int .i64 0,.int .i64 0,.int .i64 0,.int .i64 0,.bool false,.slice none 0 0,.slice none 0 0,.string (⟨#[]⟩ : ByteArray),.bool false] 41 (0,0)) (kz_ BK227) NB227_228.out (by simp));replace BK233:=A_ (KeepBut.blk hk (g':=gb233) (o:=.cells #[.int .i64 (wrap64 (bt t229 0)),.int .i64 (wrap64 (bt t229 1)),.int .i64 (wrap64 (bt t229 2)),.int .i64 t234,.int .i64 t238,.int .i64 t242,.int .i64 0,.bool false,.slice none 0 0,.slice none 0 0,.string (⟨#[]⟩ : ByteArray),.bool false] 41 (0,0)) (kz_ BK233) NB233_228.out (by simp));replace HB:=A_ (hb);replace HI228:=A_ (hi);(try clear hb);(try clear hk);(try clear hi);obtain ⟨hcz50_0,hcz50_1,hcz50_2,hcz50_3,hcz50_4,hcz50_5,hcz50_6,hcz50_7,hcz50_8,hcz50_9,hcz50_10,hcz50_11,hfz50_0,hfz50_1,hfz50_2,hfz50_3,hfz50_4,hfz50_5,hfz50_6,hfz50_7,hfz50_8,hfz50_9,hfz50_10,hfz50_11⟩:=k12f_ BK233)|((with_reducible refine gate_callee (f:=60) rfl ?_);refine gL_ (some 47) Try.func60 #[.pointer (some ⟨gb228,0,none⟩),.int .i64 1] ?_;(with_reducible refine (spec_l05Take.calls gb228 t247 t248 t249 1 t250 t251 t252 t253 w _ ?side1 ?side2 A20.out).mono ?_);(case side1 => exact iq98_ HI228);(case side2 => exact bi_ HB (IsS98.ge HI228.out));rintro e w51 ⟨rfl,hi,hb,hk⟩;refine ⟨_,rfl,?_⟩;replace BK227:=A_ (KeepBut.blk hk (g':=gb227) (o:=.cells #[.int .i64 0,.int .i64 0,.int .i64 0,.int .i64 0,.int .i64 0,.int .i64 0,.int .i64 0,.bool false,.slice none 0 0,.slice none 0 0,.string (⟨#[]⟩ : ByteArray),.bool false] 41 (0,0)) (kz_ BK227) NB227_228.out (by simp));replace BK233:=A_ (KeepBut.blk hk (g':=gb233) (o:=.cells #[.int .i64 (wrap64 (bt t229 0)),.int .i64 (wrap64 (bt t229 1)),.int .i64 (wrap64 (bt t229 2)),.int .i64 t234,.int .i64 t238,.int .i64 t242,.int .i64 t246,.bool false,.slice none 0 0,.slice none 0 0,.string (⟨#[]⟩ : ByteArray),.bool false] 41 (0,0)) (kz_ BK233) NB233_228.out (by simp));replace HB:=A_ (hb);replace HI228:=A_ (hi);(try clear hb);(try clear hk);(try clear hi);obtain ⟨hcz52_0,hcz52_1,hcz52_2,hcz52_3,hcz52_4,hcz52_5,hcz52_6,hcz52_7,hcz52_8,hcz52_9,hcz52_10,hcz52_11,hfz52_0,hfz52_1,hfz52_2,hfz52_3,hfz52_4,hfz52_5,hfz52_6,hfz52_7,hfz52_8,hfz52_9,hfz52_10,hfz52_11⟩:=k12f_ BK233)|((with_reducible refine gate_callee (f:=60) rfl ?_);refine gL_ (some 51) Try.func60 #[.pointer (some ⟨gb228,0,none⟩),.int .i64 1] ?_;(with_reducible refine (spec_l05Take.calls gb228 t251 t252 t253 1 t254 t255 t256 t257 w _ ?side1 ?side2 A21.out).mono ?_);(case side1 => exact iq98_ HI228);(case side2 => exact bi_ HB (IsS98.ge HI228.out));rintro e w53 ⟨rfl,hi,hb,hk⟩;refine ⟨_,rfl,?_⟩;replace BK227:=A_ (KeepBut.blk hk (g':=gb227) (o:=.cells #[.int .i64 0,.int .i64 0,.int .i64 0,.int .i64 0,.int .i64 0,.int .i64 0,.int .i64 0,.bool false,.slice none 0 0,.slice none 0 0,.string (⟨#[]⟩ : ByteArray),.bool false] 41 (0,0)) (kz_ BK227) NB227_228.out (by simp));replace BK233:=A_ (KeepBut.blk hk (g':=gb233) (o:=.cells #[.int .i64 (wrap64 (bt t229 0)),.int .i64 (wrap64 (bt t229 1)),.int .i64 (wrap64 (bt t229 2)),.int .i64 t234,.int .i64 t238,.int .i64 t242,.int .i64 t246,.bool (t250.toList == ([1] : List UInt8)),.slice none 0 0,.slice none 0 0,.string (⟨#[]⟩ : ByteArray),.bool false] 41 (0,0)) (kz_ BK233) NB233_228.out (by simp));replace HB:=A_ (hb);replace HI228:=A_ (hi);(try clear hb);(try clear hk);(try clear hi);obtain ⟨hcz54_0,hcz54_1,hcz54_2,hcz54_3,hcz54_4,hcz54_5,hcz54_6,hcz54_7,hcz54_8,hcz54_9,hcz54_10,hcz54_11,hfz54_0,hfz54_1,hfz54_2,hfz54_3,hfz54_4,hfz54_5,hfz54_6,hfz54_7,hfz54_8,hfz54_9,hfz54_10,hfz54_11⟩:=k12f_ BK233)|((with_reducible refine gate_callee (f:=61) rfl ?_);refine gL_ (some 55) Try.func61 #[.pointer (some ⟨gb228,0,none⟩)] ?_;(with_reducible refine (spec_l05Var.calls k gb228 t255 t256 t257 t258 t259 t260 t261 w _ ?side1 ?side2 A22.out).mono ?_);(case side1 => exact iq98_ HI228);(case side2 => exact bi_ HB (IsS98.ge HI228.out));rintro e w55 ⟨rfl,hi,hb,hk⟩;refine ⟨_,rfl,?_⟩;replace BK227:=A_ (KeepBut.blk hk (g':=gb227) (o:=.cells #[.int .i64 0,.int .i64 0,.int .i64 0,.int .i64 0,.int .i64 0,.int .i64 0,.int .i64 0,.bool false,.slice none 0 0,.slice none 0 0,.string (⟨#[]⟩ : ByteArray),.bool false] 41 (0,0)) (kz_ BK227) NB227_228.out (by simp));replace BK233:=A_ (KeepBut.blk hk (g':=gb233) (o:=.cells #[.int .i64 (wrap64 (bt t229 0)),.int .i64 (wrap64 (bt t229 1)),.int .i64 (wrap64 (bt t229 2)),.int .i64 t234,.int .i64 t238,.int .i64 t242,.int .i64 t246,.bool (t250.toList == ([1] : List UInt8)),.slice none 0 0,.slice none 0 0,.string (⟨#[]⟩ : ByteArray),.bool (t254.toList == ([1] : List UInt8))] 41 (0,0)) (kz_ BK233) NB233_228.out (by simp));replace HB:=A_ (hb);replace HI228:=A_ (hi);(try clear hb);(try clear hk);(try clear hi)))
     go_loopg [8] k (fun kq v8 w' => ∃ (x8_1 : Int) (x229000_1 : ByteArray) (x229001_1 : Int) (x229002_1 : Bool) (x234008_1 : List (S69)) (u234008 : Value),v8 = .int .i64 x8_1 ∧ Aside0 (spec_Decode.l0 kq a0 t258 x8_1 x229000_1 x229001_1 x229002_1 (wrap64 (bt t229 0)) (wrap64 (bt t229 1)) (wrap64 (bt t229 2)) t234 t238 t242 t246 (t250.toList == ([1] : List UInt8)) x234008_1 (⟨#[]⟩ : ByteArray) (t254.toList == ([1] : List UInt8)) = some (r1,r2,r3,r4,r5,r6,r7,r8,r9,r10,r11,r12,r13)) ∧ Aside0 (kq ≤ k) ∧ Aside0 (Kd.R k69 69 w' w.heap.size (fun _ => True) u234008 x234008_1) ∧ Aside0 (w'.heap[gb227]? = some (.cells #[.int .i64 0,.int .i64 0,.int .i64 0,.int .i64 0,.int .i64 0,.int .i64 0,.int .i64 0,.bool false,(.slice none 0 0),(.slice none 0 0),.string (⟨#[]⟩ : ByteArray),.bool false] 41 (0,0))) ∧ Aside0 (w'.heap[gb233]? = some (.cells #[.int .i64 (wrap64 (bt t229 0)),.int .i64 (wrap64 (bt t229 1)),.int .i64 (wrap64 (bt t229 2)),.int .i64 t234,.int .i64 t238,.int .i64 t242,.int .i64 t246,.bool (t250.toList == ([1] : List UInt8)),u234008,(.slice none 0 0),.string (⟨#[]⟩ : ByteArray),.bool (t254.toList == ([1] : List UInt8))] 41 (0,0))) ∧ Aside0 (IsS98 w w' gb228 x229000_1 x229001_1 x229002_1) ∧ Aside0 (Below w.heap.size w w'))
     case atStart => exact ⟨(0),(t259),(t260),(t261),(([] : List (S69))),(.slice none 0 0),(by first|rfl|(simp;done)|(simp [*];done)),H',⟨Nat.le_refl _⟩,⟨by first|exact Kd.R_nil _ _ _ _ _|exact Kd.N_nil _ _ _ _ _|exact Kd.V_nil _ _ _ _ _|exact Kd.Q_nil _ _ _ _ _|exact Kd.S_nil _ _ _ _ _⟩,⟨kq_ BK227⟩,⟨kq_ BK233⟩,⟨iq98_ HI228⟩,⟨bi_ HB (IsS98.ge HI228.out)⟩⟩
     case round =>
      clear H'
      try clear c1
      try clear p1
      try clear q1
      try clear hx1
      try clear qi1
      try clear c2
      try clear p2
      try clear c3
      try clear c4
      try clear c6
      try clear p6
      try clear c8
      try clear c10
      try clear c10b0
      try clear c10b1
      try clear p11
      try clear q11
      try clear hx11
      try clear qi11
      try clear c12
      try clear c12b0
      try clear c12b1
      try clear p13
      try clear q13
      try clear hx13
      try clear qi13
      try clear c14
      try clear c14b0
      try clear c14b1
      try clear p15
      try clear q15
      try clear hx15
      try clear qi15
      try clear c21
      try clear c42
      try clear c43
      try clear hcz26_0
      try clear hcz26_1
      try clear hcz26_2
      try clear hcz44_0
      try clear hcz44_1
      try clear hcz44_10
      try clear hcz44_11
      try clear hcz44_2
      try clear hcz44_3
      try clear hcz44_4
      try clear hcz44_5
      try clear hcz44_6
      try clear hcz44_7
      try clear hcz44_8
      try clear hcz44_9
      try clear hcz46_0
      try clear hcz46_1
      try clear hcz46_10
      try clear hcz46_11
      try clear hcz46_2
      try clear hcz46_3
      try clear hcz46_4
      try clear hcz46_5
      try clear hcz46_6
      try clear hcz46_7
      try clear hcz46_8
      try clear hcz46_9
      try clear hcz48_0
      try clear hcz48_1
      try clear hcz48_10
      try clear hcz48_11
      try clear hcz48_2
      try clear hcz48_3
      try clear hcz48_4
      try clear hcz48_5
      try clear hcz48_6
      try clear hcz48_7
      try clear hcz48_8
      try clear hcz48_9
      try clear hcz50_0
      try clear hcz50_1
      try clear hcz50_10
      try clear hcz50_11
      try clear hcz50_2
      try clear hcz50_3
      try clear hcz50_4
      try clear hcz50_5
      try clear hcz50_6
      try clear hcz50_7
      try clear hcz50_8
      try clear hcz50_9
      try clear hcz52_0
      try clear hcz52_1
      try clear hcz52_10
      try clear hcz52_11
      try clear hcz52_2
      try clear hcz52_3
      try clear hcz52_4
      try clear hcz52_5
      try clear hcz52_6
      try clear hcz52_7
      try clear hcz52_8
      try clear hcz52_9
      try clear hcz54_0
      try clear hcz54_1
      try clear hcz54_10
      try clear hcz54_11
      try clear hcz54_2
      try clear hcz54_3
      try clear hcz54_4
      try clear hcz54_5
      try clear hcz54_6
      try clear hcz54_7
      try clear hcz54_8
      try clear hcz54_9
      try clear hcz7_0
      try clear hcz7_1
      try clear hcz7_2
      try clear hcz9_0
      try clear hcz9_1
      try clear hcz9_10
      try clear hcz9_11
      try clear hcz9_2
      try clear hcz9_3
      try clear hcz9_4
      try clear hcz9_5
      try clear hcz9_6
      try clear hcz9_7
      try clear hcz9_8
      try clear hcz9_9
      try clear hfz26_0
      try clear hfz26_1
      try clear hfz26_2
      try clear hfz44_0
      try clear hfz44_1
      try clear hfz44_10
      try clear hfz44_11
      try clear hfz44_2
      try clear hfz44_3
      try clear hfz44_4
      try clear hfz44_5
      try clear hfz44_6
      try clear hfz44_7
      try clear hfz44_8
      try clear hfz44_9
      try clear hfz46_0
      try clear hfz46_1
      try clear hfz46_10
      try clear hfz46_11
      try clear hfz46_2
      try clear hfz46_3
      try clear hfz46_4
      try clear hfz46_5
      try clear hfz46_6
      try clear hfz46_7
      try clear hfz46_8
      try clear hfz46_9
      try clear hfz48_0
      try clear hfz48_1
      try clear hfz48_10
      try clear hfz48_11
      try clear hfz48_2
      try clear hfz48_3
      try clear hfz48_4
      try clear hfz48_5
      try clear hfz48_6
      try clear hfz48_7
      try clear hfz48_8
      try clear hfz48_9
      try clear hfz50_0
      try clear hfz50_1
      try clear hfz50_10
      try clear hfz50_11
      try clear hfz50_2
      try clear hfz50_3
      try clear hfz50_4
      try clear hfz50_5
      try clear hfz50_6
      try clear hfz50_7
      try clear hfz50_8
      try clear hfz50_9
      try clear hfz52_0
      try clear hfz52_1
      try clear hfz52_10
      try clear hfz52_11
      try clear hfz52_2
      try clear hfz52_3
      try clear hfz52_4
      try clear hfz52_5
      try clear hfz52_6
      try clear hfz52_7
      try clear hfz52_8
      try clear hfz52_9
      try clear hfz54_0
      try clear hfz54_1
      try clear hfz54_10
      try clear hfz54_11
      try clear hfz54_2
      try clear hfz54_3
      try clear hfz54_4
      try clear hfz54_5
      try clear hfz54_6
      try clear hfz54_7
      try clear hfz54_8
      try clear hfz54_9
      try clear hfz7_0
      try clear hfz7_1
      try clear hfz7_2
      try clear hfz9_0
      try clear hfz9_1
      try clear hfz9_10
      try clear hfz9_11
      try clear hfz9_2
      try clear hfz9_3
      try clear hfz9_4
      try clear hfz9_5
      try clear hfz9_6
      try clear hfz9_7
      try clear hfz9_8
      try clear hfz9_9
      try clear p11
      try clear p13
      try clear p15
      try clear q11
      try clear q13
      try clear q15
      obtain ⟨x8_1,x229000_1,x229001_1,x229002_1,x234008_1,u234008,rfl,HA,HK1,HO_234008,BK227,BK233,HI228,HB⟩:=hrel
      cases gk with
      | zero => exact absurd HA.out (by simp [spec_Decode.l0])
      | succ k1 =>
       have H:=HA.out;clear HA;simp only [spec_Decode.l0] at H;have HC56:=A_ H;clear H
       go_upto_region 14 with (fail)
       go_cut [69] (fun v69 wc => ∃ (kq : Nat) (x69_55 : Bool),v69 = .bool x69_55 ∧ Aside0 (spec_Decode.j1 kq a0 t258 x8_1 x69_55 x229000_1 x229001_1 x229002_1 (wrap64 (bt t229 0)) (wrap64 (bt t229 1)) (wrap64 (bt t229 2)) t234 t238 t242 t246 (t250.toList == ([1] : List UInt8)) x234008_1 (⟨#[]⟩ : ByteArray) (t254.toList == ([1] : List UInt8)) = some (r1,r2,r3,r4,r5,r6,r7,r8,r9,r10,r11,r12,r13)) ∧ Aside0 (kq ≤ k1) ∧ Aside0 (Kd.R k69 69 wc w.heap.size (fun _ => True) u234008 x234008_1) ∧ Aside0 (wc.heap[gb227]? = some (.cells #[.int .i64 0,.int .i64 0,.int .i64 0,.int .i64 0,.int .i64 0,.int .i64 0,.int .i64 0,.bool false,(.slice none 0 0),(.slice none 0 0),.string (⟨#[]⟩ : ByteArray),.bool false] 41 (0,0))) ∧ Aside0 (wc.heap[gb233]? = some (.cells #[.int .i64 (wrap64 (bt t229 0)),.int .i64 (wrap64 (bt t229 1)),.int .i64 (wrap64 (bt t229 2)),.int .i64 t234,.int .i64 t238,.int .i64 t242,.int .i64 t246,.bool (t250.toList == ([1] : List UInt8)),u234008,(.slice none 0 0),.string (⟨#[]⟩ : ByteArray),.bool (t254.toList == ([1] : List UInt8))] 41 (0,0))) ∧ Aside0 (IsS98 w wc gb228 x229000_1 x229001_1 x229002_1) ∧ Aside0 (Below w.heap.size w wc))
       case first =>
        have H:=HC56.out;clear HC56
        by_cases c57 : x8_1 < t258
        ·rw [if_pos c57] at H;have c57b0 : decide (x8_1 < t258) = true:=de_ c57;clear c57
         (first|rw [c57b0]|(simp only [i64_w,i32_w];rw [c57b0])|skip)
         by_cases c58 : x229002_1 = true
         ·subst c58
          rw [if_pos rfl] at H;have H':=A_ H;clear H;obtain ⟨HGz59,hgz59⟩:=HI228.out;have hcz59_0:=cellS98_0 HGz59;have hcz59_1:=cellS98_1 HGz59;have hcz59_2:=cellS98_2 HGz59;have hfz59_0:=kf_ HGz59 0;have hfz59_1:=kf_ HGz59 1;have hfz59_2:=kf_ HGz59 2;clear HGz59 hgz59;go_wp2
          go_meet
          case rel => exact ⟨_,(false),(by first|rfl|(simp;done)|(simp [*];done)),H',⟨by have:=HK1.out;first|omega|exact Nat.le_refl _⟩,⟨by (with_reducible repeat (first|apply ra_|apply rn_|apply Rd_));exact HO_234008.out⟩,⟨kq_ BK227⟩,⟨kq_ BK233⟩,⟨iq98_ HI228⟩,⟨bi_ HB (IsS98.ge HI228.out)⟩⟩
         ·replace c58:=Bool.eq_false_iff.mpr c58;subst c58
          have H1 : (spec_Decode.j1 k1 a0 t258 x8_1 (decide (x8_1 ≤ 4)) x229000_1 x229001_1 false (wrap64 (bt t229 0)) (wrap64 (bt t229 1)) (wrap64 (bt t229 2)) t234 t238 t242 t246 (t250.toList == ([1] : List UInt8)) x234008_1 (⟨#[]⟩ : ByteArray) (t254.toList == ([1] : List UInt8))) = some (r1,r2,r3,r4,r5,r6,r7,r8,r9,r10,r11,r12,r13):=by rw [if_neg (show ¬ (false = true) by decide)] at H;exact H
          clear H;have H:=H1;clear H1;have H':=A_ H;clear H;obtain ⟨HGz60,hgz60⟩:=HI228.out;have hcz60_0:=cellS98_0 HGz60;have hcz60_1:=cellS98_1 HGz60;have hcz60_2:=cellS98_2 HGz60;have hfz60_0:=kf_ HGz60 0;have hfz60_1:=kf_ HGz60 1;have hfz60_2:=kf_ HGz60 2;clear HGz60 hgz60;go_wp2
          go_meet
          case rel => exact ⟨_,(decide (x8_1 ≤ 4)),(by first|rfl|(simp;done)|(simp [*];done)),H',⟨by have:=HK1.out;first|omega|exact Nat.le_refl _⟩,⟨by (with_reducible repeat (first|apply ra_|apply rn_|apply Rd_));exact HO_234008.out⟩,⟨kq_ BK227⟩,⟨kq_ BK233⟩,⟨iq98_ HI228⟩,⟨bi_ HB (IsS98.ge HI228.out)⟩⟩
        ·rw [if_neg c57] at H;have c57b0 : decide (x8_1 < t258) = false:=decide_eq_false c57;clear c57
         (first|rw [c57b0]|(simp only [i64_w,i32_w];rw [c57b0])|skip)
         have H':=A_ H;clear H;go_wp2
         go_meet
         case rel => exact ⟨_,(false),(by first|rfl|(simp;done)|(simp [*];done)),H',⟨by have:=HK1.out;first|omega|exact Nat.le_refl _⟩,⟨by (with_reducible repeat (first|apply ra_|apply rn_|apply Rd_));exact HO_234008.out⟩,⟨kq_ BK227⟩,⟨kq_ BK233⟩,⟨iq98_ HI228⟩,⟨bi_ HB (IsS98.ge HI228.out)⟩⟩
       case rest =>
        clear HC56
        try clear c1
        try clear p1
        try clear q1
        try clear hx1
        try clear qi1
        try clear c2
        try clear p2
        try clear c3
        try clear c4
        try clear c5
        try clear c6
        try clear p6
        try clear c8
        try clear c10
        try clear c10b0
        try clear c10b1
        try clear p11
        try clear q11
        try clear hx11
        try clear qi11
        try clear c12
        try clear c12b0
        try clear c12b1
        try clear p13
        try clear q13
        try clear hx13
        try clear qi13
        try clear c14
        try clear c14b0
        try clear c14b1
        try clear p15
        try clear q15
        try clear hx15
        try clear qi15
        try clear c21
        try clear c42
        try clear c43
        try clear c57
        try clear c57b0
        try clear c58
        try clear c60
        try clear hcz26_0
        try clear hcz26_1
        try clear hcz26_2
        try clear hcz44_0
        try clear hcz44_1
        try clear hcz44_10
        try clear hcz44_11
        try clear hcz44_2
        try clear hcz44_3
        try clear hcz44_4
        try clear hcz44_5
        try clear hcz44_6
        try clear hcz44_7
        try clear hcz44_8
        try clear hcz44_9
        try clear hcz46_0
        try clear hcz46_1
        try clear hcz46_10
        try clear hcz46_11
        try clear hcz46_2
        try clear hcz46_3
        try clear hcz46_4
        try clear hcz46_5
        try clear hcz46_6
        try clear hcz46_7
        try clear hcz46_8
        try clear hcz46_9
        try clear hcz48_0
        try clear hcz48_1
        try clear hcz48_10
        try clear hcz48_11
        try clear hcz48_2
        try clear hcz48_3
        try clear hcz48_4
        try clear hcz48_5
        try clear hcz48_6
        try clear hcz48_7
        try clear hcz48_8
        try clear hcz48_9
        try clear hcz50_0
        try clear hcz50_1
        try clear hcz50_10
        try clear hcz50_11
        try clear hcz50_2
        try clear hcz50_3
        try clear hcz50_4
        try clear hcz50_5
        try clear hcz50_6
        try clear hcz50_7
        try clear hcz50_8
        try clear hcz50_9
        try clear hcz52_0
        try clear hcz52_1
        try clear hcz52_10
        try clear hcz52_11
        try clear hcz52_2
        try clear hcz52_3
        try clear hcz52_4
        try clear hcz52_5
        try clear hcz52_6
        try clear hcz52_7
        try clear hcz52_8
        try clear hcz52_9
        try clear hcz54_0
        try clear hcz54_1
        try clear hcz54_10
        try clear hcz54_11
        try clear hcz54_2
        try clear hcz54_3
        try clear hcz54_4
        try clear hcz54_5
        try clear hcz54_6
        try clear hcz54_7
        try clear hcz54_8
        try clear hcz54_9
        try clear hcz59_0
        try clear hcz59_1
        try clear hcz59_2
        try clear hcz60_0
        try clear hcz60_1
        try clear hcz60_2
        try clear hcz7_0
        try clear hcz7_1
        try clear hcz7_2
        try clear hcz9_0
        try clear hcz9_1
        try clear hcz9_10
        try clear hcz9_11
        try clear hcz9_2
        try clear hcz9_3
        try clear hcz9_4
        try clear hcz9_5
        try clear hcz9_6
        try clear hcz9_7
        try clear hcz9_8
        try clear hcz9_9
        try clear hfz26_0
        try clear hfz26_1
        try clear hfz26_2
        try clear hfz44_0
        try clear hfz44_1
        try clear hfz44_10
        try clear hfz44_11
        try clear hfz44_2
        try clear hfz44_3
        try clear hfz44_4
        try clear hfz44_5
        try clear hfz44_6
        try clear hfz44_7
        try clear hfz44_8
        try clear hfz44_9
        try clear hfz46_0
        try clear hfz46_1
        try clear hfz46_10
        try clear hfz46_11
        try clear hfz46_2
        try clear hfz46_3
        try clear hfz46_4
        try clear hfz46_5
        try clear hfz46_6
        try clear hfz46_7
        try clear hfz46_8
        try clear hfz46_9
        try clear hfz48_0
        try clear hfz48_1
        try clear hfz48_10
        try clear hfz48_11
        try clear hfz48_2
        try clear hfz48_3
        try clear hfz48_4
        try clear hfz48_5
        try clear hfz48_6
        try clear hfz48_7
        try clear hfz48_8
        try clear hfz48_9
        try clear hfz50_0
        try clear hfz50_1
        try clear hfz50_10
        try clear hfz50_11
        try clear hfz50_2
        try clear hfz50_3
        try clear hfz50_4
        try clear hfz50_5
        try clear hfz50_6
        try clear hfz50_7
        try clear hfz50_8
        try clear hfz50_9
        try clear hfz52_0
        try clear hfz52_1
        try clear hfz52_10
        try clear hfz52_11
        try clear hfz52_2
        try clear hfz52_3
        try clear hfz52_4
        try clear hfz52_5
        try clear hfz52_6
        try clear hfz52_7
        try clear hfz52_8
        try clear hfz52_9
        try clear hfz54_0
        try clear hfz54_1
        try clear hfz54_10
        try clear hfz54_11
        try clear hfz54_2
        try clear hfz54_3
        try clear hfz54_4
        try clear hfz54_5
        try clear hfz54_6
        try clear hfz54_7
        try clear hfz54_8
        try clear hfz54_9
        try clear hfz59_0
        try clear hfz59_1
        try clear hfz59_2
        try clear hfz60_0
        try clear hfz60_1
        try clear hfz60_2
        try clear hfz7_0
        try clear hfz7_1
        try clear hfz7_2
        try clear hfz9_0
        try clear hfz9_1
        try clear hfz9_10
        try clear hfz9_11
        try clear hfz9_2
        try clear hfz9_3
        try clear hfz9_4
        try clear hfz9_5
        try clear hfz9_6
        try clear hfz9_7
        try clear hfz9_8
        try clear hfz9_9
        try clear p1
        try clear p11
        try clear p13
        try clear p15
        try clear p2
        try clear p6
        try clear q1
        try clear q11
        try clear q13
        try clear q15
        obtain ⟨kq,x69_55,rfl,HA,HJ55,HO_234008,BK227,BK233,HI228,HB⟩:=hcut
        cases kq with
        | zero => exact absurd HA.out (by simp [spec_Decode.j1])
        | succ kj55 =>
         have H:=HA.out;clear HA;simp only [spec_Decode.j1] at H
         by_cases c61 : x69_55 = true
         ·subst c61
          rw [if_pos rfl] at H;replace H:=ob_.mp H;obtain ⟨⟨t262,t263,t264,t265⟩,A620,H⟩:=H;(try dsimp only at H);have A62:=A_ A620;clear A620;replace H:=ob_.mp H;obtain ⟨⟨t266,t267,t268,t269,t270⟩,A630,H⟩:=H;(try dsimp only at H);have A63:=A_ A630;clear A630
          by_cases c64 : x234008_1.length < 4398046511104
          ·rw [if_pos c64] at H;have LMc64:=A_ c64;clear c64;obtain ⟨y272,hy272⟩ : ∃ y_ : List (S69),y_ = (x234008_1 ++ [(⟨t267,t268,t269⟩ : S69)]):=⟨_,rfl⟩
           replace H : (spec_Decode.l0 kj55 a0 t258 (wrap64 (x8_1 + 1)) t263 t264 t265 (wrap64 (bt t229 0)) (wrap64 (bt t229 1)) (wrap64 (bt t229 2)) t234 t238 t242 t246 (t250.toList == ([1] : List UInt8)) y272 (⟨#[]⟩ : ByteArray) (t254.toList == ([1] : List UInt8))) = some (r1,r2,r3,r4,r5,r6,r7,r8,r9,r10,r11,r12,r13):=by first|(rw [hy272];with_reducible exact H)|(have H2_:=(Option.bind_some _ _).symm.trans H;rw [hy272];with_reducible exact H2_)|(have H2_:=(Option.bind_some _ _).symm.trans H;with_reducible exact H2_)|with_reducible exact H|(rw [hy272];exact H)|exact H
           have Ny272:=A_ hy272;clear hy272;have H':=A_ H;clear H
           go_wp2_with (first|((with_reducible refine gate_callee (f:=62) rfl ?_);refine gL_ (some 74) Try.func62 #[.pointer (some ⟨gb228,0,none⟩)] ?_;(with_reducible refine (spec_l05ReadShort.calls kj55 gb228 x229000_1 x229001_1 x229002_1 t262 t263 t264 t265 w _ ?side1 ?side2 A62.out).mono ?_);(case side1 => exact iq98_ HI228);(case side2 => exact bi_ HB (IsS98.ge HI228.out));rintro e w65 ⟨rfl,hi,hb,hk⟩;refine ⟨_,rfl,?_⟩;replace HO_234008:=A_ (rm_ (Kd.R_keep (IsS98.apart (show IsS98 w _ gb228 x229000_1 x229001_1 x229002_1 from iq98_ HI228) (rq_ HO_234008) (by decide)) hk (fun _ h => h.2)) (fun _ h => h.1));replace BK227:=A_ (KeepBut.blk hk (g':=gb227) (o:=.cells #[.int .i64 0,.int .i64 0,.int .i64 0,.int .i64 0,.int .i64 0,.int .i64 0,.int .i64 0,.bool false,.slice none 0 0,.slice none 0 0,.string (⟨#[]⟩ : ByteArray),.bool false] 41 (0,0)) (kq_ BK227) NB227_228.out (by simp));replace BK233:=A_ (KeepBut.blk hk (g':=gb233) (o:=.cells #[.int .i64 (wrap64 (bt t229 0)),.int .i64 (wrap64 (bt t229 1)),.int .i64 (wrap64 (bt t229 2)),.int .i64 t234,.int .i64 t238,.int .i64 t242,.int .i64 t246,.bool (t250.toList == ([1] : List UInt8)),u234008,.slice none 0 0,.string (⟨#[]⟩ : ByteArray),.bool (t254.toList == ([1] : List UInt8))] 41 (0,0)) (kq_ BK233) NB233_228.out (by simp));replace HB:=A_ (hb);replace HI228:=A_ (hi);(try clear hb);(try clear hk);(try clear hi))|((with_reducible refine gate_callee (f:=41) rfl ?_);refine gL_ (some 75) Try.func41 #[.string t262] ?_;(with_reducible refine (spec_ReadEntry.calls kj55 t262 t266 t267 t268 t269 t270 _ A63.out).mono ?_);rintro e w66 ⟨rfl,hb⟩;refine ⟨_,rfl,?_⟩;replace HO_234008:=rB_ HO_234008 hb;replace BK227:=kB_ BK227 hb;replace BK233:=kB_ BK233 hb;replace HB:=A_ (bs_ (bi_ HB (IsS98.ge HI228.out)) hb);replace HI228:=A_ (IsS98.below (iq98_ HI228) hb);(try clear hb))|((with_reducible refine gate_dst (N:=10) rfl ?_);refine bE_ 10 #[.int .i64 0,.int .i64 0,.string (⟨#[]⟩ : ByteArray)] 69 ?_;intro gb271 hg w67 hbox hb;replace HO_234008:=A_ (rb_ (Kd.R_elderB (rq_ HO_234008) gb271 (Nat.le_of_eq hg.symm)) hb);have BK271:=A_ (hbox);have GW271:=A_ ((by rw [hg];exact (bz_ (bi_ HB (IsS98.ge HI228.out))) : w.heap.size ≤ gb271));have GE271:=A_ ((by rw [hg];exact (bz_ (bi_ HB (IsS98.ge HI228.out))) : w.heap.size ≤ gb271));replace HB:=A_ (bs_ (bi_ HB (IsS98.ge HI228.out)) hb);have NB227_271:=nB_ hg BK227;have NB271_227:=nC_ hg BK227;replace BK227:=kB_ BK227 hb;have NB233_271:=nB_ hg BK233;have NB271_233:=nC_ hg BK233;replace BK233:=kB_ BK233 hb;have NB228_271:=A_ ((by rw [hg];exact nl_ (IsS98.lt (show IsS98 w _ gb228 t263 t264 t265 from iq98_ HI228)) : gb228 ≠ gb271));have NB271_228:=A_ ((by rw [hg];exact ng_ (IsS98.lt (show IsS98 w _ gb228 t263 t264 t265 from iq98_ HI228)) : gb271 ≠ gb228));replace HI228:=A_ (IsS98.below (iq98_ HI228) hb);clear hb hbox hg;have hnb68:=NB271_227.out;have hnc68:=NB227_271.out;have hnb69:=NB271_233.out;have hnc69:=NB233_271.out;have hnb70:=NB271_228.out;have hnc70:=NB228_271.out;obtain ⟨hcz71_0,hcz71_1,hcz71_2,hfz71_0,hfz71_1,hfz71_2⟩:=k3f_ BK271;have hnb72:=NB233_227.out;have hnc72:=NB227_233.out;have hnb73:=NB233_228.out;have hnc73:=NB228_233.out;obtain ⟨hcz74_0,hcz74_1,hcz74_2,hcz74_3,hcz74_4,hcz74_5,hcz74_6,hcz74_7,hcz74_8,hcz74_9,hcz74_10,hcz74_11,hfz74_0,hfz74_1,hfz74_2,hfz74_3,hfz74_4,hfz74_5,hfz74_6,hfz74_7,hfz74_8,hfz74_9,hfz74_10,hfz74_11⟩:=k12f_ BK233)|((with_reducible refine gate_builtin (b:=.append) (xs:=#[.tmp 80,.tmp 82]) rfl ?_);at_builtin;refine Kd.R_append k69 (w0:=w) w.heap.size rfl (.tmp 80) (.tmp 82) 22 69 (.agg #[(.int .i64 0),(.int .i64 0),(.string ⟨#[]⟩)]) 32 rfl Try.underlying22 info69 rfl (by decide) (by omega) u234008 x234008_1 (⟨t267,t268,t269⟩ : S69) [.int .i64 t267,.int .i64 t268,.string t269] (fun k_ => k_ ≠ gb271) (fun _ => False) rfl (by first|(go_simp;done)|(go_simp;rfl)) ?aP (fun _ hk => hk.elim) ?aF ?aO ?aB ?aS ?aL ?_;(case aP => exact k69_mkM _ _ _ (⟨t267,t268,t269⟩ : S69));(case aB => exact (bi_ HB (IsS98.ge HI228.out)));(case aF => exact (fun k_ hk => Kd.freshB (g:=gb271) (o:=.cells #[.int .i64 t267,.int .i64 t268,.string t269] 69 (0,0)) (kz_ BK271) k_ hk));(case aO => exact (by (with_reducible repeat (first|apply ra_|apply rn_|apply Rd_));exact rm_ (rf_ (p:=⟨gb271,2,none⟩) (rf_ (p:=⟨gb271,1,none⟩) (rf_ (p:=⟨gb271,0,none⟩) (rm_ HO_234008.out (fun k_ hk => (⟨hk,hk.2⟩ : _ ∧ k_ ≠ gb271))) (fun _ hk => hk.2) (.int .i64 t267)) (fun _ hk => hk.2) (.int .i64 t268)) (fun _ hk => hk.2) (.string t269)) (fun _ hk => hk.1.2)));(case aS => exact (bz_ (bi_ HB (IsS98.ge HI228.out))));(case aL => have:=LMc64.out;omega);intro v273 w75 ho hb hg hat;rw [← Ny272.out] at ho;replace BK227:=A_ (kg_ (g:=gb227) (o:=.cells #[.int .i64 0,.int .i64 0,.int .i64 0,.int .i64 0,.int .i64 0,.int .i64 0,.int .i64 0,.bool false,.slice none 0 0,.slice none 0 0,.string (⟨#[]⟩ : ByteArray),.bool false] 41 (0,0)) (kz_ BK227) hg (re_ HO_234008.out BK227.out (by decide)));replace BK233:=A_ (kg_ (g:=gb233) (o:=.cells #[.int .i64 (wrap64 (bt t229 0)),.int .i64 (wrap64 (bt t229 1)),.int .i64 (wrap64 (bt t229 2)),.int .i64 t234,.int .i64 t238,.int .i64 t242,.int .i64 t246,.bool (t250.toList == ([1] : List UInt8)),u234008,.slice none 0 0,.string (⟨#[]⟩ : ByteArray),.bool (t254.toList == ([1] : List UInt8))] 41 (0,0)) (kz_ BK233) hg (re_ HO_234008.out BK233.out (by decide)));replace HI228:=A_ (IsS98.grown (IsS98.far (IsS98.far (IsS98.far HI228.out NB228_271.out _) NB228_271.out _) NB228_271.out _) hg (IsS98.own_ne HI228.out HO_234008.out (by decide)));replace BK271:=A_ (kg_ (g:=gb271) (o:=.cells #[.int .i64 t267,.int .i64 t268,.string t269] 69 (0,0)) (kz_ BK271) hg (Kd.R_away HO_234008.out (fun _ hk => hk.2)));replace HB:=A_ (hb);have HO274:=A_ (ho);clear HO_234008;clear ho hb hg hat;obtain ⟨Ao76,co76,eo76⟩:=Kd.R_slice HO274.out;subst eo76;obtain ⟨hcz77_0,hcz77_1,hcz77_2,hcz77_3,hcz77_4,hcz77_5,hcz77_6,hcz77_7,hcz77_8,hcz77_9,hcz77_10,hcz77_11,hfz77_0,hfz77_1,hfz77_2,hfz77_3,hfz77_4,hfz77_5,hfz77_6,hfz77_7,hfz77_8,hfz77_9,hfz77_10,hfz77_11⟩:=k12f_ BK233))
           go_roundg kj55
           case measure => have:=HK1.out;have:=HJ55.out;omega
           case rel => exact ⟨(wrap64 (x8_1 + 1)),(t263),(t264),(t265),(y272),(.slice Ao76 y272.length co76),(by first|rfl|(simp;done)|(simp [*];done)),H',⟨by have:=HK1.out;have:=HJ55.out;omega⟩,⟨by (with_reducible repeat (first|apply ra_|apply rn_|apply Rd_));exact rm_ (rf_ (p:=⟨gb233,8,none⟩) (Kd.R_types HO274.out BK233.out (by decide)) (fun _ hk => hk.2) (.slice Ao76 y272.length co76)) (fun _ hk => trivial)⟩,⟨kz_ BK227⟩,⟨kz_ BK233⟩,⟨iq98_ HI228⟩,⟨bi_ HB (IsS98.ge HI228.out)⟩⟩
          ·rw [if_neg c64] at H;exact absurd H (by simp)
         ·replace c61:=Bool.eq_false_iff.mpr c61;subst c61
          have H1 : ((spec_l05ReadShort.f kj55 x229000_1 x229001_1 x229002_1).bind fun bt275 => ((spec_ReadConf.f kj55 bt275.1).bind fun bt279 => ((spec_l05ReadShort.f kj55 bt275.2.1 bt275.2.2.1 bt275.2.2.2).bind fun bt283 => ((spec_Encode.f kj55 (wrap64 (bt t229 0)) (wrap64 (bt t229 1)) (wrap64 (bt t229 2)) t234 t238 t242 t246 (t250.toList == ([1] : List UInt8)) x234008_1 bt279.1 bt283.1 (t254.toList == ([1] : List UInt8))).bind fun bt287 => (if bt283.2.2.2 = true then (some (0,0,0,0,0,0,0,false,([] : List (S69)),([] : List Int),(⟨#[]⟩ : ByteArray),false,false)) else (if bt287.2 = true then (if bt287.1.toList = a0.toList then (some ((wrap64 (bt t229 0)),(wrap64 (bt t229 1)),(wrap64 (bt t229 2)),t234,t238,t242,t246,(t250.toList == ([1] : List UInt8)),x234008_1,bt279.1,bt283.1,(t254.toList == ([1] : List UInt8)),true)) else (some (0,0,0,0,0,0,0,false,([] : List (S69)),([] : List Int),(⟨#[]⟩ : ByteArray),false,false))) else (some (0,0,0,0,0,0,0,false,([] : List (S69)),([] : List Int),(⟨#[]⟩ : ByteArray),false,false)))))))) = some (r1,r2,r3,r4,r5,r6,r7,r8,r9,r10,r11,r12,r13):=by rw [if_neg (show ¬ (false = true) by decide)] at H;exact H
          clear H;have H:=H1;clear H1;replace H:=ob_.mp H;obtain ⟨⟨t275,t276,t277,t278⟩,A780,H⟩:=H;(try dsimp only at H);have A78:=A_ A780;clear A780;replace H:=ob_.mp H;obtain ⟨⟨t279,t280⟩,A790,H⟩:=H;(try dsimp only at H);have A79:=A_ A790;clear A790;replace H:=ob_.mp H;obtain ⟨⟨t283,t284,t285,t286⟩,A800,H⟩:=H;(try dsimp only at H);have A80:=A_ A800;clear A800;replace H:=ob_.mp H;obtain ⟨⟨t287,t288⟩,A810,H⟩:=H;(try dsimp only at H);have A81:=A_ A810;clear A810
          by_cases c82 : t286 = true
          ·subst c82
           rw [if_pos rfl] at H;simp only [Option.some.injEq,Prod.mk.injEq] at H;obtain ⟨rfl,rfl,rfl,rfl,rfl,rfl,rfl,rfl,rfl,rfl,rfl,rfl,rfl⟩:=H
           go_wp2_with (first|((with_reducible refine gate_callee (f:=62) rfl ?_);refine gL_ (some 87) Try.func62 #[.pointer (some ⟨gb228,0,none⟩)] ?_;(with_reducible refine (spec_l05ReadShort.calls kj55 gb228 x229000_1 x229001_1 x229002_1 t275 t276 t277 t278 w _ ?side1 ?side2 A78.out).mono ?_);(case side1 => exact iq98_ HI228);(case side2 => exact bi_ HB (IsS98.ge HI228.out));rintro e w83 ⟨rfl,hi,hb,hk⟩;refine ⟨_,rfl,?_⟩;replace HO_234008:=A_ (rm_ (Kd.R_keep (IsS98.apart (show IsS98 w _ gb228 x229000_1 x229001_1 x229002_1 from iq98_ HI228) (rq_ HO_234008) (by decide)) hk (fun _ h => h.2)) (fun _ h => h.1));replace BK227:=A_ (KeepBut.blk hk (g':=gb227) (o:=.cells #[.int .i64 0,.int .i64 0,.int .i64 0,.int .i64 0,.int .i64 0,.int .i64 0,.int .i64 0,.bool false,.slice none 0 0,.slice none 0 0,.string (⟨#[]⟩ : ByteArray),.bool false] 41 (0,0)) (kq_ BK227) NB227_228.out (by simp));replace BK233:=A_ (KeepBut.blk hk (g':=gb233) (o:=.cells #[.int .i64 (wrap64 (bt t229 0)),.int .i64 (wrap64 (bt t229 1)),.int .i64 (wrap64 (bt t229 2)),.int .i64 t234,.int .i64 t238,.int .i64 t242,.int .i64 t246,.bool (t250.toList == ([1] : List UInt8)),u234008,.slice none 0 0,.string (⟨#[]⟩ : ByteArray),.bool (t254.toList == ([1] : List UInt8))] 41 (0,0)) (kq_ BK233) NB233_228.out (by simp));replace HB:=A_ (hb);replace HI228:=A_ (hi);(try clear hb);(try clear hk);(try clear hi))|((with_reducible refine gate_callee (f:=63) rfl ?_);refine gL_ (some 88) Try.func63 #[.string t275] ?_;(with_reducible refine (spec_ReadConf.calls kj55 t275 t279 t280 _ A79.out).mono ?_);rintro e w84 ⟨v281,rfl,ho0,hb⟩;refine ⟨_,rfl,?_⟩;replace HO_234008:=rB_ HO_234008 hb;have HO282:=A_ (rw_ ho0 (bz_ (bi_ HB (IsS98.ge HI228.out))));replace BK227:=kB_ BK227 hb;replace BK233:=kB_ BK233 hb;replace HB:=A_ (bs_ (bi_ HB (IsS98.ge HI228.out)) hb);replace HI228:=A_ (IsS98.below (iq98_ HI228) hb);(try clear hb);(try clear ho0);obtain ⟨Ao85,co85,eo85⟩:=Kd.R_slice HO282.out;subst eo85;have hnb86:=NB233_227.out;have hnc86:=NB227_233.out;have hnb87:=NB233_228.out;have hnc87:=NB228_233.out;obtain ⟨hcz88_0,hcz88_1,hcz88_2,hcz88_3,hcz88_4,hcz88_5,hcz88_6,hcz88_7,hcz88_8,hcz88_9,hcz88_10,hcz88_11,hfz88_0,hfz88_1,hfz88_2,hfz88_3,hfz88_4,hfz88_5,hfz88_6,hfz88_7,hfz88_8,hfz88_9,hfz88_10,hfz88_11⟩:=k12f_ BK233)|((with_reducible refine gate_callee (f:=62) rfl ?_);refine gL_ (some 93) Try.func62 #[.pointer (some ⟨gb228,0,none⟩)] ?_;(with_reducible refine (spec_l05ReadShort.calls kj55 gb228 t276 t277 t278 t283 t284 t285 true w _ ?side1 ?side2 A80.out).mono ?_);(case side1 => exact iq98_ HI228);(case side2 => exact bi_ HB (IsS98.ge HI228.out));rintro e w89 ⟨rfl,hi,hb,hk⟩;refine ⟨_,rfl,?_⟩;replace HO_234008:=A_ (rm_ (Kd.R_keep (IsS98.apart (show IsS98 w _ gb228 t276 t277 t278 from iq98_ HI228) (by (with_reducible repeat (first|apply ra_|apply rn_|apply Rd_));exact (rm_ (rf_ (p:=⟨gb233,9,none⟩) (Kd.R_types HO_234008.out BK233.out (by decide)) (fun _ hk => hk.2) (.slice Ao85 t279.length co85)) (fun _ h_ => h_.1))) (by decide)) hk (fun _ h => h.2)) (fun _ h => h.1));replace BK227:=A_ (KeepBut.blk hk (g':=gb227) (o:=.cells #[.int .i64 0,.int .i64 0,.int .i64 0,.int .i64 0,.int .i64 0,.int .i64 0,.int .i64 0,.bool false,.slice none 0 0,.slice none 0 0,.string (⟨#[]⟩ : ByteArray),.bool false] 41 (0,0)) (kz_ BK227) NB227_228.out (by simp));replace HO282:=A_ (rm_ (Kd.R_keep (IsS98.apart (show IsS98 w _ gb228 t276 t277 t278 from iq98_ HI228) (by (with_reducible repeat (first|apply ra_|apply rn_|apply Rd_));exact (rm_ (rf_ (p:=⟨gb233,9,none⟩) (Kd.R_types HO282.out BK233.out (by decide)) (fun _ hk => hk.2) (.slice Ao85 t279.length co85)) (fun _ h_ => h_.1))) (by decide)) hk (fun _ h => h.2)) (fun _ h => h.1));replace BK233:=A_ (KeepBut.blk hk (g':=gb233) (o:=.cells #[.int .i64 (wrap64 (bt t229 0)),.int .i64 (wrap64 (bt t229 1)),.int .i64 (wrap64 (bt t229 2)),.int .i64 t234,.int .i64 t238,.int .i64 t242,.int .i64 t246,.bool (t250.toList == ([1] : List UInt8)),u234008,.slice Ao85 t279.length co85,.string (⟨#[]⟩ : ByteArray),.bool (t254.toList == ([1] : List UInt8))] 41 (0,0)) (kz_ BK233) NB233_228.out (by simp));replace HB:=A_ (hb);replace HI228:=A_ (hi);(try clear hb);(try clear hk);(try clear hi);obtain ⟨hcz90_0,hcz90_1,hcz90_2,hcz90_3,hcz90_4,hcz90_5,hcz90_6,hcz90_7,hcz90_8,hcz90_9,hcz90_10,hcz90_11,hfz90_0,hfz90_1,hfz90_2,hfz90_3,hfz90_4,hfz90_5,hfz90_6,hfz90_7,hfz90_8,hfz90_9,hfz90_10,hfz90_11⟩:=k12f_ BK233;obtain ⟨Ao91,co91,eo91⟩:=Kd.R_slice HO_234008.out;subst eo91)|((with_reducible refine gate_callee (f:=64) rfl ?_);refine gL_ (some 97) Try.func64 #[.agg #[.int .i64 (wrap64 (bt t229 0)),.int .i64 (wrap64 (bt t229 1)),.int .i64 (wrap64 (bt t229 2)),.int .i64 t234,.int .i64 t238,.int .i64 t242,.int .i64 t246,.bool (t250.toList == ([1] : List UInt8)),.slice Ao91 x234008_1.length co91,.slice Ao85 t279.length co85,.string t283,.bool (t254.toList == ([1] : List UInt8))]] ?_;(with_reducible refine (spec_Encode.calls kj55 (wrap64 (bt t229 0)) (wrap64 (bt t229 1)) (wrap64 (bt t229 2)) t234 t238 t242 t246 (t250.toList == ([1] : List UInt8)) _ _ x234008_1 _ _ t279 t283 (t254.toList == ([1] : List UInt8)) t287 t288 _ ?side1 ?side2 ?side3 ?side4 A81.out).mono ?_);(case side1 => refine (Kd.R_reads' (e:=69) (base:=w.heap.size) (ok:=fun k_ => True) (n:=x234008_1.length) (c:=co91) ?_).2.2;exact (by (with_reducible repeat (first|apply ra_|apply rn_|apply Rd_));exact (rm_ (rf_ (p:=⟨gb233,10,none⟩) (Kd.R_types HO_234008.out BK233.out (by decide)) (fun _ hk => hk.2) (.string t283)) (fun _ h_ => h_.1))));(case side2 => exact (Kd.R_reads' HO_234008.out).2.1);(case side3 => refine (Kd.R_reads' (e:=3) (base:=w.heap.size) (ok:=fun k_ => True) (n:=t279.length) (c:=co85) ?_).2.2;exact (by (with_reducible repeat (first|apply ra_|apply rn_|apply Rd_));exact (rm_ (rf_ (p:=⟨gb233,10,none⟩) (Kd.R_types HO282.out BK233.out (by decide)) (fun _ hk => hk.2) (.string t283)) (fun _ h_ => h_.1))));(case side4 => exact (Kd.R_reads' HO282.out).2.1);rintro e w92 ⟨rfl,hb⟩;refine ⟨_,rfl,?_⟩;replace HO_234008:=A_ (rb_ (by (with_reducible repeat (first|apply ra_|apply rn_|apply Rd_));exact (rm_ (rf_ (p:=⟨gb233,10,none⟩) (Kd.R_types HO_234008.out BK233.out (by decide)) (fun _ hk => hk.2) (.string t283)) (fun _ h_ => h_.1))) hb);replace HO282:=A_ (rb_ (by (with_reducible repeat (first|apply ra_|apply rn_|apply Rd_));exact (rm_ (rf_ (p:=⟨gb233,10,none⟩) (Kd.R_types HO282.out BK233.out (by decide)) (fun _ hk => hk.2) (.string t283)) (fun _ h_ => h_.1))) hb);replace BK227:=A_ (kb_ (g:=gb227) (o:=.cells #[.int .i64 0,.int .i64 0,.int .i64 0,.int .i64 0,.int .i64 0,.int .i64 0,.int .i64 0,.bool false,.slice none 0 0,.slice none 0 0,.string (⟨#[]⟩ : ByteArray),.bool false] 41 (0,0)) (kz_ BK227) hb);replace BK233:=A_ (kb_ (g:=gb233) (o:=.cells #[.int .i64 (wrap64 (bt t229 0)),.int .i64 (wrap64 (bt t229 1)),.int .i64 (wrap64 (bt t229 2)),.int .i64 t234,.int .i64 t238,.int .i64 t242,.int .i64 t246,.bool (t250.toList == ([1] : List UInt8)),.slice Ao91 x234008_1.length co91,.slice Ao85 t279.length co85,.string t283,.bool (t254.toList == ([1] : List UInt8))] 41 (0,0)) (kz_ BK233) hb);replace HB:=A_ (bs_ (bi_ HB (IsS98.ge HI228.out)) hb);replace HI228:=A_ (IsS98.below (show IsS98 w (w89.setCell ⟨gb233,10,none⟩ (.string t283)) gb228 t284 t285 true from iq98_ HI228) hb);(try clear hb);obtain ⟨HGz93,hgz93⟩:=HI228.out;have hcz93_0:=cellS98_0 HGz93;have hcz93_1:=cellS98_1 HGz93;have hcz93_2:=cellS98_2 HGz93;have hfz93_0:=kf_ HGz93 0;have hfz93_1:=kf_ HGz93 1;have hfz93_2:=kf_ HGz93 2;clear HGz93 hgz93;have hnb94:=NB227_228.out;have hnc94:=NB228_227.out;obtain ⟨hcz95_0,hcz95_1,hcz95_2,hcz95_3,hcz95_4,hcz95_5,hcz95_6,hcz95_7,hcz95_8,hcz95_9,hcz95_10,hcz95_11,hfz95_0,hfz95_1,hfz95_2,hfz95_3,hfz95_4,hfz95_5,hfz95_6,hfz95_7,hfz95_8,hfz95_9,hfz95_10,hfz95_11⟩:=k12f_ BK227))
           refine bodyPost_ret (results_ct rfl _ _ gb227 41 #[.int .i64 0,.int .i64 0,.int .i64 0,.int .i64 0,.int .i64 0,.int .i64 0,.int .i64 0,.bool false,.slice none 0 0,.slice none 0 0,.string (⟨#[]⟩ : ByteArray),.bool false] (0,0) _ rfl (kz_ BK227) Try.underlying41 rfl (by kernel_rfl)) rfl ?_;exact ⟨_,_,by first|rfl|(simp [*,errW_none,errW_some] <;> rfl),by first|exact Kd.R_nil _ _ _ _ _|exact Kd.N_nil _ _ _ _ _|exact Kd.V_nil _ _ _ _ _|exact Kd.Q_nil _ _ _ _ _|exact Kd.S_nil _ _ _ _ _,by first|exact Kd.R_nil _ _ _ _ _|exact Kd.N_nil _ _ _ _ _|exact Kd.V_nil _ _ _ _ _|exact Kd.Q_nil _ _ _ _ _|exact Kd.S_nil _ _ _ _ _,bi_ HB (IsS98.ge HI228.out)⟩
          ·replace c82:=Bool.eq_false_iff.mpr c82;subst c82
           have H1 : (if t288 = true then (if t287.toList = a0.toList then (some ((wrap64 (bt t229 0)),(wrap64 (bt t229 1)),(wrap64 (bt t229 2)),t234,t238,t242,t246,(t250.toList == ([1] : List UInt8)),x234008_1,t279,t283,(t254.toList == ([1] : List UInt8)),true)) else (some (0,0,0,0,0,0,0,false,([] : List (S69)),([] : List Int),(⟨#[]⟩ : ByteArray),false,false))) else (some (0,0,0,0,0,0,0,false,([] : List (S69)),([] : List Int),(⟨#[]⟩ : ByteArray),false,false))) = some (r1,r2,r3,r4,r5,r6,r7,r8,r9,r10,r11,r12,r13):=by rw [if_neg (show ¬ (false = true) by decide)] at H;exact H
           clear H;have H:=H1;clear H1
           by_cases c96 : t288 = true
           ·subst c96
            rw [if_pos rfl] at H
            by_cases c97 : t287.toList = a0.toList
            ·rw [if_pos c97] at H;have c97b0 : (t287.toList == a0.toList) = true:=beq_iff_eq.mpr c97;have c97b1 : (t287.toList != a0.toList) = false:=bne_eq_false_iff_eq.mpr c97;clear c97;simp only [Option.some.injEq,Prod.mk.injEq] at H;obtain ⟨rfl,rfl,rfl,rfl,rfl,rfl,rfl,rfl,rfl,rfl,rfl,rfl,rfl⟩:=H
             go_wp2_with (first|((with_reducible refine gate_callee (f:=62) rfl ?_);refine gL_ (some 87) Try.func62 #[.pointer (some ⟨gb228,0,none⟩)] ?_;(with_reducible refine (spec_l05ReadShort.calls kj55 gb228 x229000_1 x229001_1 x229002_1 t275 t276 t277 t278 w _ ?side1 ?side2 A78.out).mono ?_);(case side1 => exact iq98_ HI228);(case side2 => exact bi_ HB (IsS98.ge HI228.out));rintro e w98 ⟨rfl,hi,hb,hk⟩;refine ⟨_,rfl,?_⟩;replace HO_234008:=A_ (rm_ (Kd.R_keep (IsS98.apart (show IsS98 w _ gb228 x229000_1 x229001_1 x229002_1 from iq98_ HI228) (rq_ HO_234008) (by decide)) hk (fun _ h => h.2)) (fun _ h => h.1));replace BK227:=A_ (KeepBut.blk hk (g':=gb227) (o:=.cells #[.int .i64 0,.int .i64 0,.int .i64 0,.int .i64 0,.int .i64 0,.int .i64 0,.int .i64 0,.bool false,.slice none 0 0,.slice none 0 0,.string (⟨#[]⟩ : ByteArray),.bool false] 41 (0,0)) (kq_ BK227) NB227_228.out (by simp));replace BK233:=A_ (KeepBut.blk hk (g':=gb233) (o:=.cells #[.int .i64 (wrap64 (bt t229 0)),.int .i64 (wrap64 (bt t229 1)),.int .i64 (wrap64 (bt t229 2)),.int .i64 t234,.int .i64 t238,.int .i64 t242,.int .i64 t246,.bool (t250.toList == ([1] : List UInt8)),u234008,.slice none 0 0,.string (⟨#[]⟩ : ByteArray),.bool (t254.toList == ([1] : List UInt8))] 41 (0,0)) (kq_ BK233) NB233_228.out (by simp));replace HB:=A_ (hb);replace HI228:=A_ (hi);(try clear hb);(try clear hk);(try clear hi))|((with_reducible refine gate_callee (f:=63) rfl ?_);refine gL_ (some 88) Try.func63 #[.string t275] ?_;(with_reducible refine (spec_ReadConf.calls kj55 t275 t279 t280 _ A79.out).mono ?_);rintro e w99 ⟨v281,rfl,ho0,hb⟩;refine ⟨_,rfl,?_⟩;replace HO_234008:=rB_ HO_234008 hb;have HO282:=A_ (rw_ ho0 (bz_ (bi_ HB (IsS98.ge HI228.out))));replace BK227:=kB_ BK227 hb;replace BK233:=kB_ BK233 hb;replace HB:=A_ (bs_ (bi_ HB (IsS98.ge HI228.out)) hb);replace HI228:=A_ (IsS98.below (iq98_ HI228) hb);(try clear hb);(try clear ho0);obtain ⟨Ao100,co100,eo100⟩:=Kd.R_slice HO282.out;subst eo100;have hnb101:=NB233_227.out;have hnc101:=NB227_233.out;have hnb102:=NB233_228.out;have hnc102:=NB228_233.out;obtain ⟨hcz103_0,hcz103_1,hcz103_2,hcz103_3,hcz103_4,hcz103_5,hcz103_6,hcz103_7,hcz103_8,hcz103_9,hcz103_10,hcz103_11,hfz103_0,hfz103_1,hfz103_2,hfz103_3,hfz103_4,hfz103_5,hfz103_6,hfz103_7,hfz103_8,hfz103_9,hfz103_10,hfz103_11⟩:=k12f_ BK233)|((with_reducible refine gate_callee (f:=62) rfl ?_);refine gL_ (some 93) Try.func62 #[.pointer (some ⟨gb228,0,none⟩)] ?_;(with_reducible refine (spec_l05ReadShort.calls kj55 gb228 t276 t277 t278 t283 t284 t285 false w _ ?side1 ?side2 A80.out).mono ?_);(case side1 => exact iq98_ HI228);(case side2 => exact bi_ HB (IsS98.ge HI228.out));rintro e w104 ⟨rfl,hi,hb,hk⟩;refine ⟨_,rfl,?_⟩;replace HO_234008:=A_ (rm_ (Kd.R_keep (IsS98.apart (show IsS98 w _ gb228 t276 t277 t278 from iq98_ HI228) (by (with_reducible repeat (first|apply ra_|apply rn_|apply Rd_));exact (rm_ (rf_ (p:=⟨gb233,9,none⟩) (Kd.R_types HO_234008.out BK233.out (by decide)) (fun _ hk => hk.2) (.slice Ao100 t279.length co100)) (fun _ h_ => h_.1))) (by decide)) hk (fun _ h => h.2)) (fun _ h => h.1));replace BK227:=A_ (KeepBut.blk hk (g':=gb227) (o:=.cells #[.int .i64 0,.int .i64 0,.int .i64 0,.int .i64 0,.int .i64 0,.int .i64 0,.int .i64 0,.bool false,.slice none 0 0,.slice none 0 0,.string (⟨#[]⟩ : ByteArray),.bool false] 41 (0,0)) (kz_ BK227) NB227_228.out (by simp));replace HO282:=A_ (rm_ (Kd.R_keep (IsS98.apart (show IsS98 w _ gb228 t276 t277 t278 from iq98_ HI228) (by (with_reducible repeat (first|apply ra_|apply rn_|apply Rd_));exact (rm_ (rf_ (p:=⟨gb233,9,none⟩) (Kd.R_types HO282.out BK233.out (by decide)) (fun _ hk => hk.2) (.slice Ao100 t279.length co100)) (fun _ h_ => h_.1))) (by decide)) hk (fun _ h => h.2)) (fun _ h => h.1));replace BK233:=A_ (KeepBut.blk hk (g':=gb233) (o:=.cells #[.int .i64 (wrap64 (bt t229 0)),.int .i64 (wrap64 (bt t229 1)),.int .i64 (wrap64 (bt t229 2)),.int .i64 t234,.int .i64 t238,.int .i64 t242,.int .i64 t246,.bool (t250.toList == ([1] : List UInt8)),u234008,.slice Ao100 t279.length co100,.string (⟨#[]⟩ : ByteArray),.bool (t254.toList == ([1] : List UInt8))] 41 (0,0)) (kz_ BK233) NB233_228.out (by simp));replace HB:=A_ (hb);replace HI228:=A_ (hi);(try clear hb);(try clear hk);(try clear hi);obtain ⟨hcz105_0,hcz105_1,hcz105_2,hcz105_3,hcz105_4,hcz105_5,hcz105_6,hcz105_7,hcz105_8,hcz105_9,hcz105_10,hcz105_11,hfz105_0,hfz105_1,hfz105_2,hfz105_3,hfz105_4,hfz105_5,hfz105_6,hfz105_7,hfz105_8,hfz105_9,hfz105_10,hfz105_11⟩:=k12f_ BK233;obtain ⟨Ao106,co106,eo106⟩:=Kd.R_slice HO_234008.out;subst eo106)|((with_reducible refine gate_callee (f:=64) rfl ?_);refine gL_ (some 97) Try.func64 #[.agg #[.int .i64 (wrap64 (bt t229 0)),.int .i64 (wrap64 (bt t229 1)),.int .i64 (wrap64 (bt t229 2)),.int .i64 t234,.int .i64 t238,.int .i64 t242,.int .i64 t246,.bool (t250.toList == ([1] : List UInt8)),.slice Ao106 x234008_1.length co106,.slice Ao100 t279.length co100,.string t283,.bool (t254.toList == ([1] : List UInt8))]] ?_;(with_reducible refine (spec_Encode.calls kj55 (wrap64 (bt t229 0)) (wrap64 (bt t229 1)) (wrap64 (bt t229 2)) t234 t238 t242 t246 (t250.toList == ([1] : List UInt8)) _ _ x234008_1 _ _ t279 t283 (t254.toList == ([1] : List UInt8)) t287 true _ ?side1 ?side2 ?side3 ?side4 A81.out).mono ?_);(case side1 => refine (Kd.R_reads' (e:=69) (base:=w.heap.size) (ok:=fun k_ => True) (n:=x234008_1.length) (c:=co106) ?_).2.2;exact (by (with_reducible repeat (first|apply ra_|apply rn_|apply Rd_));exact (rm_ (rf_ (p:=⟨gb233,10,none⟩) (Kd.R_types HO_234008.out BK233.out (by decide)) (fun _ hk => hk.2) (.string t283)) (fun _ h_ => h_.1))));(case side2 => exact (Kd.R_reads' HO_234008.out).2.1);(case side3 => refine (Kd.R_reads' (e:=3) (base:=w.heap.size) (ok:=fun k_ => True) (n:=t279.length) (c:=co100) ?_).2.2;exact (by (with_reducible repeat (first|apply ra_|apply rn_|apply Rd_));exact (rm_ (rf_ (p:=⟨gb233,10,none⟩) (Kd.R_types HO282.out BK233.out (by decide)) (fun _ hk => hk.2) (.string t283)) (fun _ h_ => h_.1))));(case side4 => exact (Kd.R_reads' HO282.out).2.1);rintro e w107 ⟨rfl,hb⟩;refine ⟨_,rfl,?_⟩;replace HO_234008:=A_ (rb_ (by (with_reducible repeat (first|apply ra_|apply rn_|apply Rd_));exact (rm_ (rf_ (p:=⟨gb233,10,none⟩) (Kd.R_types HO_234008.out BK233.out (by decide)) (fun _ hk => hk.2) (.string t283)) (fun _ h_ => h_.1))) hb);replace HO282:=A_ (rb_ (by (with_reducible repeat (first|apply ra_|apply rn_|apply Rd_));exact (rm_ (rf_ (p:=⟨gb233,10,none⟩) (Kd.R_types HO282.out BK233.out (by decide)) (fun _ hk => hk.2) (.string t283)) (fun _ h_ => h_.1))) hb);replace BK227:=A_ (kb_ (g:=gb227) (o:=.cells #[.int .i64 0,.int .i64 0,.int .i64 0,.int .i64 0,.int .i64 0,.int .i64 0,.int .i64 0,.bool false,.slice none 0 0,.slice none 0 0,.string (⟨#[]⟩ : ByteArray),.bool false] 41 (0,0)) (kz_ BK227) hb);replace BK233:=A_ (kb_ (g:=gb233) (o:=.cells #[.int .i64 (wrap64 (bt t229 0)),.int .i64 (wrap64 (bt t229 1)),.int .i64 (wrap64 (bt t229 2)),.int .i64 t234,.int .i64 t238,.int .i64 t242,.int .i64 t246,.bool (t250.toList == ([1] : List UInt8)),.slice Ao106 x234008_1.length co106,.slice Ao100 t279.length co100,.string t283,.bool (t254.toList == ([1] : List UInt8))] 41 (0,0)) (kz_ BK233) hb);replace HB:=A_ (bs_ (bi_ HB (IsS98.ge HI228.out)) hb);replace HI228:=A_ (IsS98.below (show IsS98 w (w104.setCell ⟨gb233,10,none⟩ (.string t283)) gb228 t284 t285 false from iq98_ HI228) hb);(try clear hb);obtain ⟨HGz108,hgz108⟩:=HI228.out;have hcz108_0:=cellS98_0 HGz108;have hcz108_1:=cellS98_1 HGz108;have hcz108_2:=cellS98_2 HGz108;have hfz108_0:=kf_ HGz108 0;have hfz108_1:=kf_ HGz108 1;have hfz108_2:=kf_ HGz108 2;clear HGz108 hgz108;obtain ⟨hcz109_0,hcz109_1,hcz109_2,hcz109_3,hcz109_4,hcz109_5,hcz109_6,hcz109_7,hcz109_8,hcz109_9,hcz109_10,hcz109_11,hfz109_0,hfz109_1,hfz109_2,hfz109_3,hfz109_4,hfz109_5,hfz109_6,hfz109_7,hfz109_8,hfz109_9,hfz109_10,hfz109_11⟩:=k12f_ BK233;have hnb110:=NB227_228.out;have hnc110:=NB228_227.out;obtain ⟨hcz111_0,hcz111_1,hcz111_2,hcz111_3,hcz111_4,hcz111_5,hcz111_6,hcz111_7,hcz111_8,hcz111_9,hcz111_10,hcz111_11,hfz111_0,hfz111_1,hfz111_2,hfz111_3,hfz111_4,hfz111_5,hfz111_6,hfz111_7,hfz111_8,hfz111_9,hfz111_10,hfz111_11⟩:=k12f_ BK227))
             refine bodyPost_ret (results_ct rfl _ _ gb227 41 #[.int .i64 (wrap64 (bt t229 0)),.int .i64 (wrap64 (bt t229 1)),.int .i64 (wrap64 (bt t229 2)),.int .i64 t234,.int .i64 t238,.int .i64 t242,.int .i64 t246,.bool (t250.toList == ([1] : List UInt8)),.slice Ao106 x234008_1.length co106,.slice Ao100 t279.length co100,.string t283,.bool (t254.toList == ([1] : List UInt8))] (0,0) _ rfl (kz_ BK227) Try.underlying41 rfl (by kernel_rfl)) rfl ?_;exact ⟨_,_,by first|rfl|(simp [*,errW_none,errW_some] <;> rfl),by (with_reducible repeat (first|apply ra_|apply rn_|apply Rd_));exact rm_ (rf_ (p:=⟨gb227,11,none⟩) (rf_ (p:=⟨gb227,10,none⟩) (rf_ (p:=⟨gb227,9,none⟩) (rf_ (p:=⟨gb227,8,none⟩) (rf_ (p:=⟨gb227,7,none⟩) (rf_ (p:=⟨gb227,6,none⟩) (rf_ (p:=⟨gb227,5,none⟩) (rf_ (p:=⟨gb227,4,none⟩) (rf_ (p:=⟨gb227,3,none⟩) (rf_ (p:=⟨gb227,2,none⟩) (rf_ (p:=⟨gb227,1,none⟩) (rf_ (p:=⟨gb227,0,none⟩) (Kd.R_types HO_234008.out BK227.out (by decide)) (fun _ hk => hk.2) (.int .i64 (wrap64 (bt t229 0)))) (fun _ hk => hk.2) (.int .i64 (wrap64 (bt t229 1)))) (fun _ hk => hk.2) (.int .i64 (wrap64 (bt t229 2)))) (fun _ hk => hk.2) (.int .i64 t234)) (fun _ hk => hk.2) (.int .i64 t238)) (fun _ hk => hk.2) (.int .i64 t242)) (fun _ hk => hk.2) (.int .i64 t246)) (fun _ hk => hk.2) (.bool (t250.toList == ([1] : List UInt8)))) (fun _ hk => hk.2) (.slice Ao106 x234008_1.length co106)) (fun _ hk => hk.2) (.slice Ao100 t279.length co100)) (fun _ hk => hk.2) (.string t283)) (fun _ hk => hk.2) (.bool (t254.toList == ([1] : List UInt8)))) (fun _ hk => trivial),by (with_reducible repeat (first|apply ra_|apply rn_|apply Rd_));exact rm_ (rf_ (p:=⟨gb227,11,none⟩) (rf_ (p:=⟨gb227,10,none⟩) (rf_ (p:=⟨gb227,9,none⟩) (rf_ (p:=⟨gb227,8,none⟩) (rf_ (p:=⟨gb227,7,none⟩) (rf_ (p:=⟨gb227,6,none⟩) (rf_ (p:=⟨gb227,5,none⟩) (rf_ (p:=⟨gb227,4,none⟩) (rf_ (p:=⟨gb227,3,none⟩) (rf_ (p:=⟨gb227,2,none⟩) (rf_ (p:=⟨gb227,1,none⟩) (rf_ (p:=⟨gb227,0,none⟩) (Kd.R_types HO282.out BK227.out (by decide)) (fun _ hk => hk.2) (.int .i64 (wrap64 (bt t229 0)))) (fun _ hk => hk.2) (.int .i64 (wrap64 (bt t229 1)))) (fun _ hk => hk.2) (.int .i64 (wrap64 (bt t229 2)))) (fun _ hk => hk.2) (.int .i64 t234)) (fun _ hk => hk.2) (.int .i64 t238)) (fun _ hk => hk.2) (.int .i64 t242)) (fun _ hk => hk.2) (.int .i64 t246)) (fun _ hk => hk.2) (.bool (t250.toList == ([1] : List UInt8)))) (fun _ hk => hk.2) (.slice Ao106 x234008_1.length co106)) (fun _ hk => hk.2) (.slice Ao100 t279.length co100)) (fun _ hk => hk.2) (.string t283)) (fun _ hk => hk.2) (.bool (t254.toList == ([1] : List UInt8)))) (fun _ hk => trivial),bi_ HB (IsS98.ge HI228.out)⟩
            ·rw [if_neg c97] at H;have c97b0 : (t287.toList == a0.toList) = false:=beq_eq_false_iff_ne.mpr c97;have c97b1 : (t287.toList != a0.toList) = true:=bne_iff_ne.mpr c97;simp only [Option.some.injEq,Prod.mk.injEq] at H;obtain ⟨rfl,rfl,rfl,rfl,rfl,rfl,rfl,rfl,rfl,rfl,rfl,rfl,rfl⟩:=H
             go_wp2_with (first|((with_reducible refine gate_callee (f:=62) rfl ?_);refine gL_ (some 87) Try.func62 #[.pointer (some ⟨gb228,0,none⟩)] ?_;(with_reducible refine (spec_l05ReadShort.calls kj55 gb228 x229000_1 x229001_1 x229002_1 t275 t276 t277 t278 w _ ?side1 ?side2 A78.out).mono ?_);(case side1 => exact iq98_ HI228);(case side2 => exact bi_ HB (IsS98.ge HI228.out));rintro e w112 ⟨rfl,hi,hb,hk⟩;refine ⟨_,rfl,?_⟩;replace HO_234008:=A_ (rm_ (Kd.R_keep (IsS98.apart (show IsS98 w _ gb228 x229000_1 x229001_1 x229002_1 from iq98_ HI228) (rq_ HO_234008) (by decide)) hk (fun _ h => h.2)) (fun _ h => h.1));replace BK227:=A_ (KeepBut.blk hk (g':=gb227) (o:=.cells #[.int .i64 0,.int .i64 0,.int .i64 0,.int .i64 0,.int .i64 0,.int .i64 0,.int .i64 0,.bool false,.slice none 0 0,.slice none 0 0,.string (⟨#[]⟩ : ByteArray),.bool false] 41 (0,0)) (kq_ BK227) NB227_228.out (by simp));replace BK233:=A_ (KeepBut.blk hk (g':=gb233) (o:=.cells #[.int .i64 (wrap64 (bt t229 0)),.int .i64 (wrap64 (bt t229 1)),.int .i64 (wrap64 (bt t229 2)),.int .i64 t234,.int .i64 t238,.int .i64 t242,.int .i64 t246,.bool (t250.toList == ([1] : List UInt8)),u234008,.slice none 0 0,.string (⟨#[]⟩ : ByteArray),.bool (t254.toList == ([1] : List UInt8))] 41 (0,0)) (kq_ BK233) NB233_228.out (by simp));replace HB:=A_ (hb);replace HI228:=A_ (hi);(try clear hb);(try clear hk);(try clear hi))|((with_reducible refine gate_callee (f:=63) rfl ?_);refine gL_ (some 88) Try.func63 #[.string t275] ?_;(with_reducible refine (spec_ReadConf.calls kj55 t275 t279 t280 _ A79.out).mono ?_);rintro e w113 ⟨v281,rfl,ho0,hb⟩;refine ⟨_,rfl,?_⟩;replace HO_234008:=rB_ HO_234008 hb;have HO282:=A_ (rw_ ho0 (bz_ (bi_ HB (IsS98.ge HI228.out))));replace BK227:=kB_ BK227 hb;replace BK233:=kB_ BK233 hb;replace HB:=A_ (bs_ (bi_ HB (IsS98.ge HI228.out)) hb);replace HI228:=A_ (IsS98.below (iq98_ HI228) hb);(try clear hb);(try clear ho0);obtain ⟨Ao114,co114,eo114⟩:=Kd.R_slice HO282.out;subst eo114;have hnb115:=NB233_227.out;have hnc115:=NB227_233.out;have hnb116:=NB233_228.out;have hnc116:=NB228_233.out;obtain ⟨hcz117_0,hcz117_1,hcz117_2,hcz117_3,hcz117_4,hcz117_5,hcz117_6,hcz117_7,hcz117_8,hcz117_9,hcz117_10,hcz117_11,hfz117_0,hfz117_1,hfz117_2,hfz117_3,hfz117_4,hfz117_5,hfz117_6,hfz117_7,hfz117_8,hfz117_9,hfz117_10,hfz117_11⟩:=k12f_ BK233)|((with_reducible refine gate_callee (f:=62) rfl ?_);refine gL_ (some 93) Try.func62 #[.pointer (some ⟨gb228,0,none⟩)] ?_;(with_reducible refine (spec_l05ReadShort.calls kj55 gb228 t276 t277 t278 t283 t284 t285 false w _ ?side1 ?side2 A80.out).mono ?_);(case side1 => exact iq98_ HI228);(case side2 => exact bi_ HB (IsS98.ge HI228.out));rintro e w118 ⟨rfl,hi,hb,hk⟩;refine ⟨_,rfl,?_⟩;replace HO_234008:=A_ (rm_ (Kd.R_keep (IsS98.apart (show IsS98 w _ gb228 t276 t277 t278 from iq98_ HI228) (by (with_reducible repeat (first|apply ra_|apply rn_|apply Rd_));exact (rm_ (rf_ (p:=⟨gb233,9,none⟩) (Kd.R_types HO_234008.out BK233.out (by decide)) (fun _ hk => hk.2) (.slice Ao114 t279.length co114)) (fun _ h_ => h_.1))) (by decide)) hk (fun _ h => h.2)) (fun _ h => h.1));replace BK227:=A_ (KeepBut.blk hk (g':=gb227) (o:=.cells #[.int .i64 0,.int .i64 0,.int .i64 0,.int .i64 0,.int .i64 0,.int .i64 0,.int .i64 0,.bool false,.slice none 0 0,.slice none 0 0,.string (⟨#[]⟩ : ByteArray),.bool false] 41 (0,0)) (kz_ BK227) NB227_228.out (by simp));replace HO282:=A_ (rm_ (Kd.R_keep (IsS98.apart (show IsS98 w _ gb228 t276 t277 t278 from iq98_ HI228) (by (with_reducible repeat (first|apply ra_|apply rn_|apply Rd_));exact (rm_ (rf_ (p:=⟨gb233,9,none⟩) (Kd.R_types HO282.out BK233.out (by decide)) (fun _ hk => hk.2) (.slice Ao114 t279.length co114)) (fun _ h_ => h_.1))) (by decide)) hk (fun _ h => h.2)) (fun _ h => h.1));replace BK233:=A_ (KeepBut.blk hk (g':=gb233) (o:=.cells #[.int .i64 (wrap64 (bt t229 0)),.int .i64 (wrap64 (bt t229 1)),.int .i64 (wrap64 (bt t229 2)),.int .i64 t234,.int .i64 t238,.int .i64 t242,.int .i64 t246,.bool (t250.toList == ([1] : List UInt8)),u234008,.slice Ao114 t279.length co114,.string (⟨#[]⟩ : ByteArray),.bool (t254.toList == ([1] : List UInt8))] 41 (0,0)) (kz_ BK233) NB233_228.out (by simp));replace HB:=A_ (hb);replace HI228:=A_ (hi);(try clear hb);(try clear hk);(try clear hi);obtain ⟨hcz119_0,hcz119_1,hcz119_2,hcz119_3,hcz119_4,hcz119_5,hcz119_6,hcz119_7,hcz119_8,hcz119_9,hcz119_10,hcz119_11,hfz119_0,hfz119_1,hfz119_2,hfz119_3,hfz119_4,hfz119_5,hfz119_6,hfz119_7,hfz119_8,hfz119_9,hfz119_10,hfz119_11⟩:=k12f_ BK233;obtain ⟨Ao120,co120,eo120⟩:=Kd.R_slice HO_234008.out;subst eo120)|((with_reducible refine gate_callee (f:=64) rfl ?_);refine gL_ (some 97) Try.func64 #[.agg #[.int .i64 (wrap64 (bt t229 0)),.int .i64 (wrap64 (bt t229 1)),.int .i64 (wrap64 (bt t229 2)),.int .i64 t234,.int .i64 t238,.int .i64 t242,.int .i64 t246,.bool (t250.toList == ([1] : List UInt8)),.slice Ao120 x234008_1.length co120,.slice Ao114 t279.length co114,.string t283,.bool (t254.toList == ([1] : List UInt8))]] ?_;(with_reducible refine (spec_Encode.calls kj55 (wrap64 (bt t229 0)) (wrap64 (bt t229 1)) (wrap64 (bt t229 2)) t234 t238 t242 t246 (t250.toList == ([1] : List UInt8)) _ _ x234008_1 _ _ t279 t283 (t254.toList == ([1] : List UInt8)) t287 true _ ?side1 ?side2 ?side3 ?side4 A81.out).mono ?_);(case side1 => refine (Kd.R_reads' (e:=69) (base:=w.heap.size) (ok:=fun k_ => True) (n:=x234008_1.length) (c:=co120) ?_).2.2;exact (by (with_reducible repeat (first|apply ra_|apply rn_|apply Rd_));exact (rm_ (rf_ (p:=⟨gb233,10,none⟩) (Kd.R_types HO_234008.out BK233.out (by decide)) (fun _ hk => hk.2) (.string t283)) (fun _ h_ => h_.1))));(case side2 => exact (Kd.R_reads' HO_234008.out).2.1);(case side3 => refine (Kd.R_reads' (e:=3) (base:=w.heap.size) (ok:=fun k_ => True) (n:=t279.length) (c:=co114) ?_).2.2;exact (by (with_reducible repeat (first|apply ra_|apply rn_|apply Rd_));exact (rm_ (rf_ (p:=⟨gb233,10,none⟩) (Kd.R_types HO282.out BK233.out (by decide)) (fun _ hk => hk.2) (.string t283)) (fun _ h_ => h_.1))));(case side4 => exact (Kd.R_reads' HO282.out).2.1);rintro e w121 ⟨rfl,hb⟩;refine ⟨_,rfl,?_⟩;replace HO_234008:=A_ (rb_ (by (with_reducible repeat (first|apply ra_|apply rn_|apply Rd_));exact (rm_ (rf_ (p:=⟨gb233,10,none⟩) (Kd.R_types HO_234008.out BK233.out (by decide)) (fun _ hk => hk.2) (.string t283)) (fun _ h_ => h_.1))) hb);replace HO282:=A_ (rb_ (by (with_reducible repeat (first|apply ra_|apply rn_|apply Rd_));exact (rm_ (rf_ (p:=⟨gb233,10,none⟩) (Kd.R_types HO282.out BK233.out (by decide)) (fun _ hk => hk.2) (.string t283)) (fun _ h_ => h_.1))) hb);replace BK227:=A_ (kb_ (g:=gb227) (o:=.cells #[.int .i64 0,.int .i64 0,.int .i64 0,.int .i64 0,.int .i64 0,.int .i64 0,.int .i64 0,.bool false,.slice none 0 0,.slice none 0 0,.string (⟨#[]⟩ : ByteArray),.bool false] 41 (0,0)) (kz_ BK227) hb);replace BK233:=A_ (kb_ (g:=gb233) (o:=.cells #[.int .i64 (wrap64 (bt t229 0)),.int .i64 (wrap64 (bt t229 1)),.int .i64 (wrap64 (bt t229 2)),.int .i64 t234,.int .i64 t238,.int .i64 t242,.int .i64 t246,.bool (t250.toList == ([1] : List UInt8)),.slice Ao120 x234008_1.length co120,.slice Ao114 t279.length co114,.string t283,.bool (t254.toList == ([1] : List UInt8))] 41 (0,0)) (kz_ BK233) hb);replace HB:=A_ (bs_ (bi_ HB (IsS98.ge HI228.out)) hb);replace HI228:=A_ (IsS98.below (show IsS98 w (w118.setCell ⟨gb233,10,none⟩ (.string t283)) gb228 t284 t285 false from iq98_ HI228) hb);(try clear hb);obtain ⟨HGz122,hgz122⟩:=HI228.out;have hcz122_0:=cellS98_0 HGz122;have hcz122_1:=cellS98_1 HGz122;have hcz122_2:=cellS98_2 HGz122;have hfz122_0:=kf_ HGz122 0;have hfz122_1:=kf_ HGz122 1;have hfz122_2:=kf_ HGz122 2;clear HGz122 hgz122;have hnb123:=NB227_228.out;have hnc123:=NB228_227.out;obtain ⟨hcz124_0,hcz124_1,hcz124_2,hcz124_3,hcz124_4,hcz124_5,hcz124_6,hcz124_7,hcz124_8,hcz124_9,hcz124_10,hcz124_11,hfz124_0,hfz124_1,hfz124_2,hfz124_3,hfz124_4,hfz124_5,hfz124_6,hfz124_7,hfz124_8,hfz124_9,hfz124_10,hfz124_11⟩:=k12f_ BK227))
             refine bodyPost_ret (results_ct rfl _ _ gb227 41 #[.int .i64 0,.int .i64 0,.int .i64 0,.int .i64 0,.int .i64 0,.int .i64 0,.int .i64 0,.bool false,.slice none 0 0,.slice none 0 0,.string (⟨#[]⟩ : ByteArray),.bool false] (0,0) _ rfl (kz_ BK227) Try.underlying41 rfl (by kernel_rfl)) rfl ?_;exact ⟨_,_,by first|rfl|(simp [*,errW_none,errW_some] <;> rfl),by first|exact Kd.R_nil _ _ _ _ _|exact Kd.N_nil _ _ _ _ _|exact Kd.V_nil _ _ _ _ _|exact Kd.Q_nil _ _ _ _ _|exact Kd.S_nil _ _ _ _ _,by first|exact Kd.R_nil _ _ _ _ _|exact Kd.N_nil _ _ _ _ _|exact Kd.V_nil _ _ _ _ _|exact Kd.Q_nil _ _ _ _ _|exact Kd.S_nil _ _ _ _ _,bi_ HB (IsS98.ge HI228.out)⟩
           ·replace c96:=Bool.eq_false_iff.mpr c96;subst c96
            have H1 : (some (0,0,0,0,0,0,0,false,([] : List (S69)),([] : List Int),(⟨#[]⟩ : ByteArray),false,false)) = some (r1,r2,r3,r4,r5,r6,r7,r8,r9,r10,r11,r12,r13):=by rw [if_neg (show ¬ (false = true) by decide)] at H;exact H
            clear H;have H:=H1;clear H1;simp only [Option.some.injEq,Prod.mk.injEq] at H;obtain ⟨rfl,rfl,rfl,rfl,rfl,rfl,rfl,rfl,rfl,rfl,rfl,rfl,rfl⟩:=H
            go_wp2_with (first|((with_reducible refine gate_callee (f:=62) rfl ?_);refine gL_ (some 87) Try.func62 #[.pointer (some ⟨gb228,0,none⟩)] ?_;(with_reducible refine (spec_l05ReadShort.calls kj55 gb228 x229000_1 x229001_1 x229002_1 t275 t276 t277 t278 w _ ?side1 ?side2 A78.out).mono ?_);(case side1 => exact iq98_ HI228);(case side2 => exact bi_ HB (IsS98.ge HI228.out));rintro e w125 ⟨rfl,hi,hb,hk⟩;refine ⟨_,rfl,?_⟩;replace HO_234008:=A_ (rm_ (Kd.R_keep (IsS98.apart (show IsS98 w _ gb228 x229000_1 x229001_1 x229002_1 from iq98_ HI228) (rq_ HO_234008) (by decide)) hk (fun _ h => h.2)) (fun _ h => h.1));replace BK227:=A_ (KeepBut.blk hk (g':=gb227) (o:=.cells #[.int .i64 0,.int .i64 0,.int .i64 0,.int .i64 0,.int .i64 0,.int .i64 0,.int .i64 0,.bool false,.slice none 0 0,.slice none 0 0,.string (⟨#[]⟩ : ByteArray),.bool false] 41 (0,0)) (kq_ BK227) NB227_228.out (by simp));replace BK233:=A_ (KeepBut.blk hk (g':=gb233) (o:=.cells #[.int .i64 (wrap64 (bt t229 0)),.int .i64 (wrap64 (bt t229 1)),.int .i64 (wrap64 (bt t229 2)),.int .i64 t234,.int .i64 t238,.int .i64 t242,.int .i64 t246,.bool (t250.toList == ([1] : List UInt8)),u234008,.slice none 0 0,.string (⟨#[]⟩ : ByteArray),.bool (t254.toList == ([1] : List UInt8))] 41 (0,0)) (kq_ BK233) NB233_228.out (by simp));replace HB:=A_ (hb);replace HI228:=A_ (hi);(try clear hb);(try clear hk);(try clear hi))|((with_reducible refine gate_callee (f:=63) rfl ?_);refine gL_ (some 88) Try.func63 #[.string t275] ?_;(with_reducible refine (spec_ReadConf.calls kj55 t275 t279 t280 _ A79.out).mono ?_);rintro e w126 ⟨v281,rfl,ho0,hb⟩;refine ⟨_,rfl,?_⟩;replace HO_234008:=rB_ HO_234008 hb;have HO282:=A_ (rw_ ho0 (bz_ (bi_ HB (IsS98.ge HI228.out))));replace BK227:=kB_ BK227 hb;replace BK233:=kB_ BK233 hb;replace HB:=A_ (bs_ (bi_ HB (IsS98.ge HI228.out)) hb);replace HI228:=A_ (IsS98.below (iq98_ HI228) hb);(try clear hb);(try clear ho0);obtain ⟨Ao127,co127,eo127⟩:=Kd.R_slice HO282.out;subst eo127;have hnb128:=NB233_227.out;have hnc128:=NB227_233.out;have hnb129:=NB233_228.out;have hnc129:=NB228_233.out;obtain ⟨hcz130_0,hcz130_1,hcz130_2,hcz130_3,hcz130_4,hcz130_5,hcz130_6,hcz130_7,hcz130_8,hcz130_9,hcz130_10,hcz130_11,hfz130_0,hfz130_1,hfz130_2,hfz130_3,hfz130_4,hfz130_5,hfz130_6,hfz130_7,hfz130_8,hfz130_9,hfz130_10,hfz130_11⟩:=k12f_ BK233)|((with_reducible refine gate_callee (f:=62) rfl ?_);refine gL_ (some 93) Try.func62 #[.pointer (some ⟨gb228,0,none⟩)] ?_;(with_reducible refine (spec_l05ReadShort.calls kj55 gb228 t276 t277 t278 t283 t284 t285 false w _ ?side1 ?side2 A80.out).mono ?_);(case side1 => exact iq98_ HI228);(case side2 => exact bi_ HB (IsS98.ge HI228.out));rintro e w131 ⟨rfl,hi,hb,hk⟩;refine ⟨_,rfl,?_⟩;replace HO_234008:=A_ (rm_ (Kd.R_keep (IsS98.apart (show IsS98 w _ gb228 t276 t277 t278 from iq98_ HI228) (by (with_reducible repeat (first|apply ra_|apply rn_|apply Rd_));exact (rm_ (rf_ (p:=⟨gb233,9,none⟩) (Kd.R_types HO_234008.out BK233.out (by decide)) (fun _ hk => hk.2) (.slice Ao127 t279.length co127)) (fun _ h_ => h_.1))) (by decide)) hk (fun _ h => h.2)) (fun _ h => h.1));replace BK227:=A_ (KeepBut.blk hk (g':=gb227) (o:=.cells #[.int .i64 0,.int .i64 0,.int .i64 0,.int .i64 0,.int .i64 0,.int .i64 0,.int .i64 0,.bool false,.slice none 0 0,.slice none 0 0,.string (⟨#[]⟩ : ByteArray),.bool false] 41 (0,0)) (kz_ BK227) NB227_228.out (by simp));replace HO282:=A_ (rm_ (Kd.R_keep (IsS98.apart (show IsS98 w _ gb228 t276 t277 t278 from iq98_ HI228) (by (with_reducible repeat (first|apply ra_|apply rn_|apply Rd_));exact (rm_ (rf_ (p:=⟨gb233,9,none⟩) (Kd.R_types HO282.out BK233.out (by decide)) (fun _ hk => hk.2) (.slice Ao127 t279.length co127)) (fun _ h_ => h_.1))) (by decide)) hk (fun _ h => h.2)) (fun _ h => h.1));replace BK233:=A_ (KeepBut.blk hk (g':=gb233) (o:=.cells #[.int .i64 (wrap64 (bt t229 0)),.int .i64 (wrap64 (bt t229 1)),.int .i64 (wrap64 (bt t229 2)),.int .i64 t234,.int .i64 t238,.int .i64 t242,.int .i64 t246,.bool (t250.toList == ([1] : List UInt8)),u234008,.slice Ao127 t279.length co127,.string (⟨#[]⟩ : ByteArray),.bool (t254.toList == ([1] : List UInt8))] 41 (0,0)) (kz_ BK233) NB233_228.out (by simp));replace HB:=A_ (hb);replace HI228:=A_ (hi);(try clear hb);(try clear hk);(try clear hi);obtain ⟨hcz132_0,hcz132_1,hcz132_2,hcz132_3,hcz132_4,hcz132_5,hcz132_6,hcz132_7,hcz132_8,hcz132_9,hcz132_10,hcz132_11,hfz132_0,hfz132_1,hfz132_2,hfz132_3,hfz132_4,hfz132_5,hfz132_6,hfz132_7,hfz132_8,hfz132_9,hfz132_10,hfz132_11⟩:=k12f_ BK233;obtain ⟨Ao133,co133,eo133⟩:=Kd.R_slice HO_234008.out;subst eo133)|((with_reducible refine gate_callee (f:=64) rfl ?_);refine gL_ (some 97) Try.func64 #[.agg #[.int .i64 (wrap64 (bt t229 0)),.int .i64 (wrap64 (bt t229 1)),.int .i64 (wrap64 (bt t229 2)),.int .i64 t234,.int .i64 t238,.int .i64 t242,.int .i64 t246,.bool (t250.toList == ([1] : List UInt8)),.slice Ao133 x234008_1.length co133,.slice Ao127 t279.length co127,.string t283,.bool (t254.toList == ([1] : List UInt8))]] ?_;(with_reducible refine (spec_Encode.calls kj55 (wrap64 (bt t229 0)) (wrap64 (bt t229 1)) (wrap64 (bt t229 2)) t234 t238 t242 t246 (t250.toList == ([1] : List UInt8)) _ _ x234008_1 _ _ t279 t283 (t254.toList == ([1] : List UInt8)) t287 false _ ?side1 ?side2 ?side3 ?side4 A81.out).mono ?_);(case side1 => refine (Kd.R_reads' (e:=69) (base:=w.heap.size) (ok:=fun k_ => True) (n:=x234008_1.length) (c:=co133) ?_).2.2;exact (by (with_reducible repeat (first|apply ra_|apply rn_|apply Rd_));exact (rm_ (rf_ (p:=⟨gb233,10,none⟩) (Kd.R_types HO_234008.out BK233.out (by decide)) (fun _ hk => hk.2) (.string t283)) (fun _ h_ => h_.1))));(case side2 => exact (Kd.R_reads' HO_234008.out).2.1);(case side3 => refine (Kd.R_reads' (e:=3) (base:=w.heap.size) (ok:=fun k_ => True) (n:=t279.length) (c:=co127) ?_).2.2;exact (by (with_reducible repeat (first|apply ra_|apply rn_|apply Rd_));exact (rm_ (rf_ (p:=⟨gb233,10,none⟩) (Kd.R_types HO282.out BK233.out (by decide)) (fun _ hk => hk.2) (.string t283)) (fun _ h_ => h_.1))));(case side4 => exact (Kd.R_reads' HO282.out).2.1);rintro e w134 ⟨rfl,hb⟩;refine ⟨_,rfl,?_⟩;replace HO_234008:=A_ (rb_ (by (with_reducible repeat (first|apply ra_|apply rn_|apply Rd_));exact (rm_ (rf_ (p:=⟨gb233,10,none⟩) (Kd.R_types HO_234008.out BK233.out (by decide)) (fun _ hk => hk.2) (.string t283)) (fun _ h_ => h_.1))) hb);replace HO282:=A_ (rb_ (by (with_reducible repeat (first|apply ra_|apply rn_|apply Rd_));exact (rm_ (rf_ (p:=⟨gb233,10,none⟩) (Kd.R_types HO282.out BK233.out (by decide)) (fun _ hk => hk.2) (.string t283)) (fun _ h_ => h_.1))) hb);replace BK227:=A_ (kb_ (g:=gb227) (o:=.cells #[.int .i64 0,.int .i64 0,.int .i64 0,.int .i64 0,.int .i64 0,.int .i64 0,.int .i64 0,.bool false,.slice none 0 0,.slice none 0 0,.string (⟨#[]⟩ : ByteArray),.bool false] 41 (0,0)) (kz_ BK227) hb);replace BK233:=A_ (kb_ (g:=gb233) (o:=.cells #[.int .i64 (wrap64 (bt t229 0)),.int .i64 (wrap64 (bt t229 1)),.int .i64 (wrap64 (bt t229 2)),.int .i64 t234,.int .i64 t238,.int .i64 t242,.int .i64 t246,.bool (t250.toList == ([1] : List UInt8)),.slice Ao133 x234008_1.length co133,.slice Ao127 t279.length co127,.string t283,.bool (t254.toList == ([1] : List UInt8))] 41 (0,0)) (kz_ BK233) hb);replace HB:=A_ (bs_ (bi_ HB (IsS98.ge HI228.out)) hb);replace HI228:=A_ (IsS98.below (show IsS98 w (w131.setCell ⟨gb233,10,none⟩ (.string t283)) gb228 t284 t285 false from iq98_ HI228) hb);(try clear hb);obtain ⟨HGz135,hgz135⟩:=HI228.out;have hcz135_0:=cellS98_0 HGz135;have hcz135_1:=cellS98_1 HGz135;have hcz135_2:=cellS98_2 HGz135;have hfz135_0:=kf_ HGz135 0;have hfz135_1:=kf_ HGz135 1;have hfz135_2:=kf_ HGz135 2;clear HGz135 hgz135;have hnb136:=NB227_228.out;have hnc136:=NB228_227.out;obtain ⟨hcz137_0,hcz137_1,hcz137_2,hcz137_3,hcz137_4,hcz137_5,hcz137_6,hcz137_7,hcz137_8,hcz137_9,hcz137_10,hcz137_11,hfz137_0,hfz137_1,hfz137_2,hfz137_3,hfz137_4,hfz137_5,hfz137_6,hfz137_7,hfz137_8,hfz137_9,hfz137_10,hfz137_11⟩:=k12f_ BK227))
            refine bodyPost_ret (results_ct rfl _ _ gb227 41 #[.int .i64 0,.int .i64 0,.int .i64 0,.int .i64 0,.int .i64 0,.int .i64 0,.int .i64 0,.bool false,.slice none 0 0,.slice none 0 0,.string (⟨#[]⟩ : ByteArray),.bool false] (0,0) _ rfl (kz_ BK227) Try.underlying41 rfl (by kernel_rfl)) rfl ?_;exact ⟨_,_,by first|rfl|(simp [*,errW_none,errW_some] <;> rfl),by first|exact Kd.R_nil _ _ _ _ _|exact Kd.N_nil _ _ _ _ _|exact Kd.V_nil _ _ _ _ _|exact Kd.Q_nil _ _ _ _ _|exact Kd.S_nil _ _ _ _ _,by first|exact Kd.R_nil _ _ _ _ _|exact Kd.N_nil _ _ _ _ _|exact Kd.V_nil _ _ _ _ _|exact Kd.Q_nil _ _ _ _ _|exact Kd.S_nil _ _ _ _ _,bi_ HB (IsS98.ge HI228.out)⟩
    ·rw [if_neg c14] at H;exact absurd H (by simp)
   ·rw [if_neg c12] at H;exact absurd H (by simp)
  ·rw [if_neg c10] at H;exact absurd H (by simp)
end Go.Proofs.Ytbcgnncbiblibaa.PFnExactDecode
