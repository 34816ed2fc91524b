/- Contracts of the Go functions that this law reaches: what each call returns, by its plain function. No conditions but those that each statement names. By this repo's programs; comments are taken out. -/
import Derived.Test.YtlmicldpfnmeaaaGreatDoorVFnExactInstallShelfD
import Derived.Test.YtlmicldpfnmeaaaGreatDoorVFnExactInstallShelfK
import Derived.Test.YtlmicldpfnmeaaaGreatDoorVFnExactInstallShelfC5
set_option linter.all false
namespace Go.Ev
open Go.RowKit Go.Proofs Go.Proofs.YtlmicldpfnmeaaaGreatDoorW.PrintWords Go.Proofs.YtlmicldpfnmeaaaGreatDoorW.PrintLast Go.Proofs.YtlmicldpfnmeaaaGreatDoorW.PrintMore
set_option maxRecDepth 100000
set_option maxHeartbeats 4000000
theorem impl_flag.con (E:En) (hE:E = E0) {a0 r} (H:impl_flag.f a0 = some (r)) :
  Cn 182 [.c (.bool a0)] [] (.c (.str r)) [] []:=by
 refine co_ Tryz.func182 tabOk [] fun F hF Q hQ => ?_
 simp only [impl_flag.f] at H
 (conv => cbv)
 repeat' first
  | replace H:=s_ H
  | (exfalso;with_reducible assumption)
  | (rw [itn_iff] at H;obtain ⟨hc,H⟩:=H)
  | (rw [itn2_iff] at H;obtain ⟨hc,H⟩:=H)
  | ((with_reducible refine br2 hF H ?_ ?_) <;> (clear H;intro hb H;(try (conv => cbv))))
  | (refine w_ hF ?_;(try (conv => cbv)))
  | ((with_reducible show Q _ _);exact en_ ⟨[2],[],[],[]⟩ 4 hQ)
  | contradiction
theorem impl_BatchText.con (E:En) (hE:E = E0) {k a0_0 l0_1 r1 r2} (H:impl_BatchText.f k a0_0 l0_1 = some (r1,r2)) :
  Cn 99 [.agg [.c (.int .i64 a0_0),.c (.sl [.str,.str,.bool] (E.e162 l0_1))]] [] (.tup [.c (.str r1),.c (.bool r2)]) [] []:=by
 refine co_ Tryz.func99 tabOk [] fun F hF Q hQ => ?_
 simp only [impl_BatchText.f] at H
 (conv => cbv)
 repeat' first
  | replace H:=s_ H
  | (exfalso;with_reducible assumption)
  | (rw [itn_iff] at H;obtain ⟨hc,H⟩:=H)
  | (rw [itn2_iff] at H;obtain ⟨hc,H⟩:=H)
  | ((with_reducible refine br2 hF H ?_ ?_) <;> (clear H;intro hb H;(try (conv => cbv))))
  | (refine w_ hF ?_;(try (conv => cbv)))
  | ((with_reducible refine k1_ 179 H ?_);clear H;intro _ hy H;refine ca_ hF (impl_BatchOk.con E hE hy) ?_;(try (conv => cbv)))
  | ((with_reducible refine k2_ 180 H ?_);clear H;intro _ _ hy H;refine ca_ hF (impl_vars.con E hE hy) ?_;(try (conv => cbv)))
  | ((with_reducible refine k1_ 181 H ?_);clear H;intro _ hy H;refine ca_ hF (impl_short.con E hE hy) ?_;(try (conv => cbv)))
  | ((with_reducible refine k1_ 182 H ?_);clear H;intro _ hy H;refine ca_ hF (impl_flag.con E hE hy) ?_;(try (conv => cbv)))
  | ((with_reducible refine lo_ hF (fun n t => n≤k∧∃ x4 x22 x23 x24,t = At 43 [(4,.c (.str x4)),(22,.c (.sl [.str,.str,.bool] (E.e162 x22))),(23,.c (.int .i64 x23)),(24,.c (.int .i64 x24))] []∧impl_BatchText.l0 n x4 x22 x23 x24 = some (r1,r2)) ⟨[4,22,23,24],[],[],[]⟩ fun n0 t ht Q0 hN0 hX0 => ?_);obtain ⟨hl,_,_,_,_,rfl,H⟩:=ht;rcases n0 with _ | n0;cases H;simp only [impl_BatchText.l0] at H;(try (conv => cbv)))
  | ((with_reducible show Q0 _ _);first | exact nx_ hN0 | (refine xt_ hX0 ?_;(try (conv => cbv))))
  | ((with_reducible show Q _ _);exact en_ ⟨[2,3],[],[],[]⟩ 43 hQ)
  | contradiction
theorem impl_ReadBatch.con (E:En) (hE:E = E0) {k a0 r1 r2 r3} (H:impl_ReadBatch.f k a0 = some (r1,r2,r3)) :
  Cn 147 [.c (.str a0)] [] (.tup [.agg [.c (.int .i64 r1),.own 0],.c (.bool r3)]) [.row false 162 [.str,.str,.bool] (E.e162 r2)] []:=by
 refine co_ Tryz.func147 tabOkM [400041] fun F hF Q hQ => ?_
 simp only [impl_ReadBatch.f] at H
 (conv => cbv)
 repeat' first
  | replace H:=s_ H
  | (exfalso;with_reducible assumption)
  | (rw [itn_iff] at H;obtain ⟨hc,H⟩:=H)
  | (rw [itn2_iff] at H;obtain ⟨hc,H⟩:=H)
  | ((with_reducible refine br2 hF H ?_ ?_) <;> (clear H;intro hb H;(try (conv => cbv))))
  | (refine w_ hF ?_;(try (conv => cbv)))
  | ((with_reducible refine k4_ 158 H ?_);clear H;intro _ _ _ _ hy H;refine ca_ hF (impl_reader_num.con E hE hy) ?_;(try (conv => cbv)))
  | ((with_reducible refine k5_ 156 H ?_);clear H;intro _ _ _ _ _ hy H;refine ca_ hF (each_ReadBatch_c1.con E hE hy) ?_;(try (conv => cbv)))
  | ((with_reducible refine k2_ 99 H ?_);clear H;intro _ _ hy H;refine ca_ hF (impl_BatchText.con E hE hy) ?_;(try (conv => cbv)))
  | ((with_reducible show Q _ _);exact en_ ⟨[2,3],[2],[],[(2,1,162)]⟩ 37 hQ)
  | contradiction
theorem impl_batchesOf.con (E:En) (hE:E = E0) {k a0 r1 r2} (H:impl_batchesOf.f k a0 = some (r1,r2)) :
  Cn 70 [.c (.str a0)] [] (.tup [.own 0,.c (.int .i64 r2)]) [.row false 113 [.int .i64,.sl [.str,.str,.bool],.str,.int .i64] (E.e113 r1)] []:=by
 refine co_ Tryz.func70 tabOk [20002] fun F hF Q hQ => ?_
 simp only [impl_batchesOf.f] at H
 (conv => cbv)
 repeat' first
  | replace H:=s_ H
  | (exfalso;with_reducible assumption)
  | (rw [itn_iff] at H;obtain ⟨hc,H⟩:=H)
  | (rw [itn2_iff] at H;obtain ⟨hc,H⟩:=H)
  | ((with_reducible refine br2 hF H ?_ ?_) <;> (clear H;intro hb H;(try (conv => cbv))))
  | (refine w_ hF ?_;(try (conv => cbv)))
  | ((with_reducible refine k2_ 100 H ?_);clear H;intro _ _ hy H;refine ca_ hF (impl_Frame.con E hE hy) ?_;(try (conv => cbv)))
  | ((with_reducible refine k2_ 146 H ?_);clear H;intro _ _ hy H;refine ca_ hF (impl_Unframe.con E hE hy) ?_;(try (conv => cbv)))
  | ((with_reducible refine k3_ 147 H ?_);clear H;intro _ _ _ hy H;refine ca_ hF (impl_ReadBatch.con E hE hy) ?_;(try (conv => cbv)))
  | ((with_reducible refine lo_ hF (fun n t => n≤k∧∃ x6 x7 x19 x20 x21,t = At 54 [(6,.own 20006),(7,.c (.int .i64 x7)),(19,.c (.sl [.str] (E.eS x19))),(20,.c (.int .i64 x20)),(21,.c (.int .i64 x21))] [(20006,.row false 113 [.int .i64,.sl [.str,.str,.bool],.str,.int .i64] (E.e113 x6))]∧impl_batchesOf.l0 n x6 x7 x19 x20 x21 = some (r1,r2)) ⟨[6,7,19,20,21],[],[(6,113)],[]⟩ fun n0 t ht Q0 hN0 hX0 => ?_);obtain ⟨hl,_,_,_,_,_,rfl,H⟩:=ht;rcases n0 with _ | n0;cases H;simp only [impl_batchesOf.l0] at H;(try (conv => cbv)))
  | ((with_reducible show Q0 _ _);first | exact nx_ hN0 | (refine xt_ hX0 ?_;(try (conv => cbv))))
  | ((with_reducible show Q _ _);exact en_ ⟨[2,3],[],[(2,113)],[]⟩ 54 hQ)
  | contradiction
theorem impl_DiskOk.con (E:En) (hE:E = E0) {k l0_0 r} (H:impl_DiskOk.f k l0_0 = some (r)) :
  Cn 78 [.agg [.c (.sl [.str,.str] (E.e122 l0_0))]] [] (.c (.bool r)) [] []:=by
 refine co_ Tryz.func78 tabOk [] fun F hF Q hQ => ?_
 simp only [impl_DiskOk.f] at H
 (conv => cbv)
 repeat' first
  | replace H:=s_ H
  | (exfalso;with_reducible assumption)
  | (rw [itn_iff] at H;obtain ⟨hc,H⟩:=H)
  | (rw [itn2_iff] at H;obtain ⟨hc,H⟩:=H)
  | ((with_reducible refine br2 hF H ?_ ?_) <;> (clear H;intro hb H;(try (conv => cbv))))
  | (refine w_ hF ?_;(try (conv => cbv)))
  | ((with_reducible refine k1_ 144 H ?_);clear H;intro _ hy H;refine ca_ hF (impl_within.con E hE hy) ?_;(try (conv => cbv)))
  | ((with_reducible refine lo_ hF (fun n t => n≤k∧∃ x6 x7 x8 v0,t = At 45 [(1,.ptr 1 0),(6,.c (.sl [.str,.str] (E.e122 x6))),(7,.c (.int .i64 x7)),(8,.c (.int .i64 x8))] [(1,.box [.c (.sl [.str,.str] (E.e122 v0))])]∧impl_DiskOk.l0 n x6 x7 x8 v0 = some (r)) ⟨[1,6,7,8],[1],[],[]⟩ fun n0 t ht Q0 hN0 hX0 => ?_);obtain ⟨hl,_,_,_,_,rfl,H⟩:=ht;rcases n0 with _ | n0;cases H;simp only [impl_DiskOk.l0] at H;(try (conv => cbv)))
  | ((with_reducible show Q0 _ _);first | exact nx_ hN0 | (refine xt_ hX0 ?_;(try (conv => cbv))))
  | ((with_reducible show Q _ _);exact en_ ⟨[2],[],[],[]⟩ 45 hQ)
  | contradiction
theorem impl_fileNo_c1.con (E:En) (hE:E = E0) {a0_0 a0_1 a1 r} (H:impl_fileNo_c1.f a0_0 a0_1 a1 = some r) :
  Cn 201 [.agg [.c (.str a0_0),.c (.str a0_1)],.c (.str a1)] [] (.c (.int .i64 r)) [] []:=by
 refine co_ Tryz.func201 tabOkM [] fun F hF Q hQ => ?_
 simp only [impl_fileNo_c1.f] at H
 (conv => cbv)
 repeat' first
  | replace H:=s_ H
  | (exfalso;with_reducible assumption)
  | (rw [itn_iff] at H;obtain ⟨hc,H⟩:=H)
  | (rw [itn2_iff] at H;obtain ⟨hc,H⟩:=H)
  | ((with_reducible refine br2 hF H ?_ ?_) <;> (clear H;intro hb H;(try (conv => cbv))))
  | (refine w_ hF ?_;(try (conv => cbv)))
  | ((with_reducible refine k1_ 168 H ?_);clear H;intro _ hy H;refine ca_ hF (strings_Compare.con E hE hy) ?_;(try (conv => cbv)))
  | ((with_reducible show Q _ _);exact en_ ⟨[4],[],[],[]⟩ 9 hQ)
  | contradiction
theorem slices_BinarySearchFunc_impl_File_impl_File_string.con (E:En) (hE:E = E0) {k l0 a1 r1 r2} (H:slices_BinarySearchFunc_impl_File_impl_File_string.f k l0 a1 = some (r1,r2)) :
  Cn 200 [.c (.sl [.str,.str] (E.e122 l0)),.c (.str a1),.c (.fn 201)] [] (.tup [.c (.int .i64 r1),.c (.bool r2)]) [] []:=by
 refine co_ Tryz.func200 tabOkM [] fun F hF Q hQ => ?_
 simp only [slices_BinarySearchFunc_impl_File_impl_File_string.f] at H
 (conv => cbv)
 repeat' first
  | replace H:=s_ H
  | (exfalso;with_reducible assumption)
  | (rw [itn_iff] at H;obtain ⟨hc,H⟩:=H)
  | (rw [itn2_iff] at H;obtain ⟨hc,H⟩:=H)
  | ((with_reducible refine br2 hF H ?_ ?_) <;> (clear H;intro hb H;(try (conv => cbv))))
  | (refine w_ hF ?_;(try (conv => cbv)))
  | ((with_reducible refine k1_ 201 H ?_);clear H;intro _ hy H;refine ca_ hF (impl_fileNo_c1.con E hE hy) ?_;(try (conv => cbv)))
  | ((with_reducible refine lo_ hF (fun n t => n≤k∧∃ x0 x1 x8 x9 x10,t = At 49 [(0,.c (.sl [.str,.str] (E.e122 x0))),(1,.c (.str x1)),(2,.c (.fn 201)),(8,.c (.int .i64 x8)),(9,.c (.int .i64 x9)),(10,.c (.int .i64 x10))] []∧slices_BinarySearchFunc_impl_File_impl_File_string.l0 n x0 x1 x8 x9 x10 = some (r1,r2)) ⟨[0,1,2,8,9,10],[],[],[]⟩ fun n0 t ht Q0 hN0 hX0 => ?_);obtain ⟨hl,_,_,_,_,_,rfl,H⟩:=ht;rcases n0 with _ | n0;cases H;simp only [slices_BinarySearchFunc_impl_File_impl_File_string.l0] at H;(try (conv => cbv)))
  | ((with_reducible show Q0 _ _);first | exact nx_ hN0 | (refine xt_ hX0 ?_;(try (conv => cbv))))
  | ((with_reducible show Q _ _);exact en_ ⟨[6,7],[],[],[]⟩ 49 hQ)
  | contradiction
theorem impl_fileNo.con (E:En) (hE:E = E0) {k l0_0 a1 r1 r2} (H:impl_fileNo.f k l0_0 a1 = some (r1,r2)) :
  Cn 143 [.agg [.c (.sl [.str,.str] (E.e122 l0_0))],.c (.str a1)] [] (.tup [.c (.int .i64 r1),.c (.bool r2)]) [] []:=by
 refine co_ Tryz.func143 tabOkM [] fun F hF Q hQ => ?_
 simp only [impl_fileNo.f] at H
 (conv => cbv)
 repeat' first
  | replace H:=s_ H
  | (exfalso;with_reducible assumption)
  | (rw [itn_iff] at H;obtain ⟨hc,H⟩:=H)
  | (rw [itn2_iff] at H;obtain ⟨hc,H⟩:=H)
  | ((with_reducible refine br2 hF H ?_ ?_) <;> (clear H;intro hb H;(try (conv => cbv))))
  | (refine w_ hF ?_;(try (conv => cbv)))
  | ((with_reducible refine k2_ 200 H ?_);clear H;intro _ _ hy H;refine ca_ hF (slices_BinarySearchFunc_impl_File_impl_File_string.con E hE hy) ?_;(try (conv => cbv)))
  | ((with_reducible show Q _ _);exact en_ ⟨[4,5],[],[],[]⟩ 12 hQ)
  | contradiction
theorem impl_FileAt.con (E:En) (hE:E = E0) {k l0_0 a1 r1 r2} (H:impl_FileAt.f k l0_0 a1 = some (r1,r2)) :
  Cn 68 [.agg [.c (.sl [.str,.str] (E.e122 l0_0))],.c (.str a1)] [] (.tup [.c (.str r1),.c (.bool r2)]) [] []:=by
 refine co_ Tryz.func68 tabOkM [] fun F hF Q hQ => ?_
 simp only [impl_FileAt.f] at H
 (conv => cbv)
 repeat' first
  | replace H:=s_ H
  | (exfalso;with_reducible assumption)
  | (rw [itn_iff] at H;obtain ⟨hc,H⟩:=H)
  | (rw [itn2_iff] at H;obtain ⟨hc,H⟩:=H)
  | ((with_reducible refine br2 hF H ?_ ?_) <;> (clear H;intro hb H;(try (conv => cbv))))
  | (refine w_ hF ?_;(try (conv => cbv)))
  | ((with_reducible refine k1_ 78 H ?_);clear H;intro _ hy H;refine ca_ hF (impl_DiskOk.con E hE hy) ?_;(try (conv => cbv)))
  | ((with_reducible refine k2_ 143 H ?_);clear H;intro _ _ hy H;refine ca_ hF (impl_fileNo.con E hE hy) ?_;(try (conv => cbv)))
  | ((with_reducible show Q _ _);exact en_ ⟨[4,5],[],[],[]⟩ 25 hQ)
  | contradiction
theorem impl_Sealed.con (E:En) (hE:E = E0) {k a0 r1 r2} (H:impl_Sealed.f k a0 = some (r1,r2)) :
  Cn 208 [.c (.str a0)] [] (.tup [.c (.str r1),.c (.bool r2)]) [] []:=by
 refine co_ Tryz.func208 tabOk [] fun F hF Q hQ => ?_
 simp only [impl_Sealed.f] at H
 (conv => cbv)
 repeat' first
  | replace H:=s_ H
  | (exfalso;with_reducible assumption)
  | (rw [itn_iff] at H;obtain ⟨hc,H⟩:=H)
  | (rw [itn2_iff] at H;obtain ⟨hc,H⟩:=H)
  | ((with_reducible refine br2 hF H ?_ ?_) <;> (clear H;intro hb H;(try (conv => cbv))))
  | (refine w_ hF ?_;(try (conv => cbv)))
  | ((with_reducible refine k1_ 184 H ?_);clear H;intro _ hy H;refine ca_ hF (impl_SumOf.con E hE hy) ?_;(try (conv => cbv)))
  | ((with_reducible show Q _ _);exact en_ ⟨[2,3],[],[],[]⟩ 25 hQ)
  | contradiction
theorem impl_Unsealed.con (E:En) (hE:E = E0) {k a0 r1 r2} (H:impl_Unsealed.f k a0 = some (r1,r2)) :
  Cn 155 [.c (.str a0)] [] (.tup [.c (.str r1),.c (.bool r2)]) [] []:=by
 refine co_ Tryz.func155 tabOk [] fun F hF Q hQ => ?_
 simp only [impl_Unsealed.f] at H
 (conv => cbv)
 repeat' first
  | replace H:=s_ H
  | (exfalso;with_reducible assumption)
  | (rw [itn_iff] at H;obtain ⟨hc,H⟩:=H)
  | (rw [itn2_iff] at H;obtain ⟨hc,H⟩:=H)
  | ((with_reducible refine br2 hF H ?_ ?_) <;> (clear H;intro hb H;(try (conv => cbv))))
  | (refine w_ hF ?_;(try (conv => cbv)))
  | ((with_reducible refine k2_ 208 H ?_);clear H;intro _ _ hy H;refine ca_ hF (impl_Sealed.con E hE hy) ?_;(try (conv => cbv)))
  | ((with_reducible show Q _ _);exact en_ ⟨[2,3],[],[],[]⟩ 28 hQ)
  | contradiction
theorem impl_ReadManifest_c1.con (E:En) (hE:E = E0) {k l0_0 s0_1 s0_2 s0_3 l0_4 s1_0_0 s1_0_1 s1_0_2 r1 r2 r3 r4 r5 r6 r7 r8} (H:impl_ReadManifest_c1.f k l0_0 s0_1 s0_2 s0_3 l0_4 s1_0_0 s1_0_1 s1_0_2 = some (r1,r2,r3,r4,r5,r6,r7,r8)) :
  Cn 157 [.ptr 10000 0,.ptr 10001 0] [.box [.own 10002,.c (.int .i64 s0_1),.c (.int .i64 s0_2),.c (.int .i64 s0_3),.own 10003],.box [.ptr 10004 0],.row false 3 [.int .i64] (E.eI .i64 l0_0),.row false 3 [.int .i64] (E.eI .i64 l0_4),.box [.c (.str s1_0_0),.c (.int .i64 s1_0_1),.c (.bool s1_0_2)]] (.tup []) [.row false 3 [.int .i64] (E.eI .i64 r1)] [.box [.own 0,.c (.int .i64 r2),.c (.int .i64 r3),.c (.int .i64 r4),.own 10003],.box [.ptr 10004 0],.gone,.row false 3 [.int .i64] (E.eI .i64 r5),.box [.c (.str r6),.c (.int .i64 r7),.c (.bool r8)]]:=by
 refine co_ Tryz.func157 tabOkM [600000] fun F hF Q hQ => ?_
 simp only [impl_ReadManifest_c1.f] at H
 (conv => cbv)
 repeat' first
  | replace H:=s_ H
  | (exfalso;with_reducible assumption)
  | (rw [itn_iff] at H;obtain ⟨hc,H⟩:=H)
  | (rw [itn2_iff] at H;obtain ⟨hc,H⟩:=H)
  | ((with_reducible refine br2 hF H ?_ ?_) <;> (clear H;intro hb H;(try (conv => cbv))))
  | (refine w_ hF ?_;(try (conv => cbv)))
  | ((with_reducible refine k4_ 158 H ?_);clear H;intro _ _ _ _ hy H;refine ca_ hF (impl_reader_num.con E hE hy) ?_;(try (conv => cbv)))
  | ((with_reducible show Q _ _);exact en_ ⟨[],[],[],[(10000,0,3)]⟩ 9 hQ)
  | contradiction
theorem each_ReadManifest_c1.con (E:En) (hE:E = E0) {k s0_0 s0_1 s0_2 s1_0_1 s1_0_2 s1_0_3 r1 r2 r3 r4 r5 r6 r7 r8} (H:each_ReadManifest_c1.f k s0_0 s0_1 s0_2 s1_0_1 s1_0_2 s1_0_3 = some (r1,r2,r3,r4,r5,r6,r7,r8)) :
  Cn 156 [.ptr 10000 0,.clo 157 [.ptr 10001 0,.ptr 10002 0]] [.box [.c (.str s0_0),.c (.int .i64 s0_1),.c (.bool s0_2)],.box [.nil [.int .i64],.c (.int .i64 s1_0_1),.c (.int .i64 s1_0_2),.c (.int .i64 s1_0_3),.nil [.int .i64]],.box [.ptr 10000 0]] (.tup []) [.row false 3 [.int .i64] (E.eI .i64 r4),.row false 3 [.int .i64] (E.eI .i64 r8)] [.box [.c (.str r1),.c (.int .i64 r2),.c (.bool r3)],.box [.own 0,.c (.int .i64 r5),.c (.int .i64 r6),.c (.int .i64 r7),.own 1],.box [.ptr 10000 0]]:=by
 refine co_ Tryz.func156 tabOkM [600020,600024] fun F hF Q hQ => ?_
 simp only [each_ReadManifest_c1.f] at H
 (conv => cbv)
 repeat' first
  | replace H:=s_ H
  | (exfalso;with_reducible assumption)
  | (rw [itn_iff] at H;obtain ⟨hc,H⟩:=H)
  | (rw [itn2_iff] at H;obtain ⟨hc,H⟩:=H)
  | ((with_reducible refine br2 hF H ?_ ?_) <;> (clear H;intro hb H;(try (conv => cbv))))
  | (refine w_ hF ?_;(try (conv => cbv)))
  | ((with_reducible refine k4_ 158 H ?_);clear H;intro _ _ _ _ hy H;refine ca_ hF (impl_reader_num.con E hE hy) ?_;(try (conv => cbv)))
  | ((with_reducible refine k8_ 157 H ?_);clear H;intro _ _ _ _ _ _ _ _ hy H;refine ca_ hF (impl_ReadManifest_c1.con E hE hy) ?_;(try (conv => cbv)))
  | ((with_reducible refine lo_ hF (fun n t => n≤k∧∃ x4 x5 v0 v1 v2 v3 v4 v5 v6 v7,t = At 22 [(0,.ptr 10000 0),(1,.clo 157 [.ptr 10001 0,.ptr 10002 0]),(4,.c (.int .i64 x4)),(5,.c (.int .i64 x5))] [(10000,.box [.c (.str v0),.c (.int .i64 v1),.c (.bool v2)]),(10001,.box [.own 600020,.c (.int .i64 v4),.c (.int .i64 v5),.c (.int .i64 v6),.own 600024]),(10002,.box [.ptr 10000 0]),(600020,.row false 3 [.int .i64] (E.eI .i64 v3)),(600024,.row false 3 [.int .i64] (E.eI .i64 v7))]∧each_ReadManifest_c1.l0 n x4 x5 v0 v1 v2 v3 v4 v5 v6 v7 = some (r1,r2,r3,r4,r5,r6,r7,r8)) ⟨[0,1,4,5],[],[],[(10001,0,3),(10001,4,3)]⟩ fun n0 t ht Q0 hN0 hX0 => ?_);obtain ⟨hl,_,_,_,_,_,_,_,_,_,_,rfl,H⟩:=ht;rcases n0 with _ | n0;cases H;simp only [each_ReadManifest_c1.l0] at H;(try (conv => cbv)))
  | ((with_reducible show Q0 _ _);first | exact nx_ hN0 | (refine xt_ hX0 ?_;(try (conv => cbv))))
  | ((with_reducible show Q _ _);exact en_ ⟨[],[],[],[(10001,0,3),(10001,4,3)]⟩ 22 hQ)
  | contradiction
theorem impl_ReadManifest_c2.con (E:En) (hE:E = E0) {k l0_0 s0_1 s0_2 s0_3 l0_4 s1_0_0 s1_0_1 s1_0_2 r1 r2 r3 r4 r5 r6 r7 r8} (H:impl_ReadManifest_c2.f k l0_0 s0_1 s0_2 s0_3 l0_4 s1_0_0 s1_0_1 s1_0_2 = some (r1,r2,r3,r4,r5,r6,r7,r8)) :
  Cn 159 [.ptr 10000 0,.ptr 10001 0] [.box [.own 10002,.c (.int .i64 s0_1),.c (.int .i64 s0_2),.c (.int .i64 s0_3),.own 10003],.box [.ptr 10004 0],.row false 3 [.int .i64] (E.eI .i64 l0_0),.row false 3 [.int .i64] (E.eI .i64 l0_4),.box [.c (.str s1_0_0),.c (.int .i64 s1_0_1),.c (.bool s1_0_2)]] (.tup []) [.row false 3 [.int .i64] (E.eI .i64 r4)] [.box [.own 10002,.c (.int .i64 r1),.c (.int .i64 r2),.c (.int .i64 r3),.own 0],.box [.ptr 10004 0],.row false 3 [.int .i64] (E.eI .i64 r5),.gone,.box [.c (.str r6),.c (.int .i64 r7),.c (.bool r8)]]:=by
 refine co_ Tryz.func159 tabOkM [600004] fun F hF Q hQ => ?_
 simp only [impl_ReadManifest_c2.f] at H
 (conv => cbv)
 repeat' first
  | replace H:=s_ H
  | (exfalso;with_reducible assumption)
  | (rw [itn_iff] at H;obtain ⟨hc,H⟩:=H)
  | (rw [itn2_iff] at H;obtain ⟨hc,H⟩:=H)
  | ((with_reducible refine br2 hF H ?_ ?_) <;> (clear H;intro hb H;(try (conv => cbv))))
  | (refine w_ hF ?_;(try (conv => cbv)))
  | ((with_reducible refine k4_ 158 H ?_);clear H;intro _ _ _ _ hy H;refine ca_ hF (impl_reader_num.con E hE hy) ?_;(try (conv => cbv)))
  | ((with_reducible show Q _ _);exact en_ ⟨[],[],[],[(10000,4,3)]⟩ 9 hQ)
  | contradiction
theorem each_ReadManifest_c2.con (E:En) (hE:E = E0) {k s0_0 s0_1 s0_2 l1_0_0 s1_0_1 s1_0_2 s1_0_3 l1_0_4 r1 r2 r3 r4 r5 r6 r7 r8} (H:each_ReadManifest_c2.f k s0_0 s0_1 s0_2 l1_0_0 s1_0_1 s1_0_2 s1_0_3 l1_0_4 = some (r1,r2,r3,r4,r5,r6,r7,r8)) :
  Cn 156 [.ptr 10000 0,.clo 159 [.ptr 10001 0,.ptr 10002 0]] [.box [.c (.str s0_0),.c (.int .i64 s0_1),.c (.bool s0_2)],.box [.own 10003,.c (.int .i64 s1_0_1),.c (.int .i64 s1_0_2),.c (.int .i64 s1_0_3),.own 10004],.box [.ptr 10000 0],.row false 3 [.int .i64] (E.eI .i64 l1_0_0),.row false 3 [.int .i64] (E.eI .i64 l1_0_4)] (.tup []) [.row false 3 [.int .i64] (E.eI .i64 r7)] [.box [.c (.str r1),.c (.int .i64 r2),.c (.bool r3)],.box [.own 10003,.c (.int .i64 r4),.c (.int .i64 r5),.c (.int .i64 r6),.own 0],.box [.ptr 10000 0],.row false 3 [.int .i64] (E.eI .i64 r8),.gone]:=by
 refine co_ Tryz.func156 tabOkM [600024] fun F hF Q hQ => ?_
 simp only [each_ReadManifest_c2.f] at H
 (conv => cbv)
 repeat' first
  | replace H:=s_ H
  | (exfalso;with_reducible assumption)
  | (rw [itn_iff] at H;obtain ⟨hc,H⟩:=H)
  | (rw [itn2_iff] at H;obtain ⟨hc,H⟩:=H)
  | ((with_reducible refine br2 hF H ?_ ?_) <;> (clear H;intro hb H;(try (conv => cbv))))
  | (refine w_ hF ?_;(try (conv => cbv)))
  | ((with_reducible refine k4_ 158 H ?_);clear H;intro _ _ _ _ hy H;refine ca_ hF (impl_reader_num.con E hE hy) ?_;(try (conv => cbv)))
  | ((with_reducible refine k8_ 159 H ?_);clear H;intro _ _ _ _ _ _ _ _ hy H;refine ca_ hF (impl_ReadManifest_c2.con E hE hy) ?_;(try (conv => cbv)))
  | ((with_reducible refine lo_ hF (fun n t => n≤k∧∃ x4 x5 v0 v1 v2 w3 v3 v4 v5 v6,t = At 22 [(0,.ptr 10000 0),(1,.clo 159 [.ptr 10001 0,.ptr 10002 0]),(4,.c (.int .i64 x4)),(5,.c (.int .i64 x5))] [(10000,.box [.c (.str v0),.c (.int .i64 v1),.c (.bool v2)]),(10001,.box [.own 10003,.c (.int .i64 v3),.c (.int .i64 v4),.c (.int .i64 v5),.own 600024]),(10002,.box [.ptr 10000 0]),(10003,.row false 3 [.int .i64] (E.eI .i64 w3)),(10004,.gone),(600024,.row false 3 [.int .i64] (E.eI .i64 v6))]∧each_ReadManifest_c2.l0 n x4 x5 v0 v1 v2 w3 v3 v4 v5 v6 = some (r1,r2,r3,r4,r5,r6,r7,r8)) ⟨[0,1,4,5],[],[],[(10001,4,3)]⟩ fun n0 t ht Q0 hN0 hX0 => ?_);obtain ⟨hl,_,_,_,_,_,_,_,_,_,_,rfl,H⟩:=ht;rcases n0 with _ | n0;cases H;simp only [each_ReadManifest_c2.l0] at H;(try (conv => cbv)))
  | ((with_reducible show Q0 _ _);first | exact nx_ hN0 | (refine xt_ hX0 ?_;(try (conv => cbv))))
  | ((with_reducible show Q _ _);exact en_ ⟨[],[],[],[(10001,4,3)]⟩ 22 hQ)
  | contradiction
theorem impl_reader_done.con (E:En) (hE:E = E0) {s0_0 s0_1 s0_2 r1 r2 r3 r4} (H:impl_reader_done.f s0_0 s0_1 s0_2 = some (r1,r2,r3,r4)) :
  Cn 160 [.ptr 10000 0] [.box [.c (.str s0_0),.c (.int .i64 s0_1),.c (.bool s0_2)]] (.c (.bool r1)) [] [.box [.c (.str r2),.c (.int .i64 r3),.c (.bool r4)]]:=by
 refine co_ Tryz.func160 tabOk [] fun F hF Q hQ => ?_
 simp only [impl_reader_done.f] at H
 (conv => cbv)
 repeat' first
  | replace H:=s_ H
  | (exfalso;with_reducible assumption)
  | (rw [itn_iff] at H;obtain ⟨hc,H⟩:=H)
  | (rw [itn2_iff] at H;obtain ⟨hc,H⟩:=H)
  | ((with_reducible refine br2 hF H ?_ ?_) <;> (clear H;intro hb H;(try (conv => cbv))))
  | (refine w_ hF ?_;(try (conv => cbv)))
  | ((with_reducible show Q _ _);exact en_ ⟨[2],[],[],[]⟩ 20 hQ)
  | contradiction
theorem impl_ConfOk.con (E:En) (hE:E = E0) {k l0 r} (H:impl_ConfOk.f k l0 = some (r)) :
  Cn 209 [.c (.sl [.int .i64] (E.eI .i64 l0))] [] (.c (.bool r)) [] []:=by
 refine co_ Tryz.func209 tabOk [] fun F hF Q hQ => ?_
 simp only [impl_ConfOk.f] at H
 (conv => cbv)
 repeat' first
  | replace H:=s_ H
  | (exfalso;with_reducible assumption)
  | (rw [itn_iff] at H;obtain ⟨hc,H⟩:=H)
  | (rw [itn2_iff] at H;obtain ⟨hc,H⟩:=H)
  | ((with_reducible refine br2 hF H ?_ ?_) <;> (clear H;intro hb H;(try (conv => cbv))))
  | (refine w_ hF ?_;(try (conv => cbv)))
  | ((with_reducible refine k1_ 144 H ?_);clear H;intro _ hy H;refine ca_ hF (impl_within.con E hE hy) ?_;(try (conv => cbv)))
  | ((with_reducible refine lo_ hF (fun n t => n≤k∧∃ x0 x5 x6 x7,t = At 32 [(0,.c (.sl [.int .i64] (E.eI .i64 x0))),(5,.c (.sl [.int .i64] (E.eI .i64 x5))),(6,.c (.int .i64 x6)),(7,.c (.int .i64 x7))] []∧impl_ConfOk.l0 n x0 x5 x6 x7 = some (r)) ⟨[0,5,6,7],[],[],[]⟩ fun n0 t ht Q0 hN0 hX0 => ?_);obtain ⟨hl,_,_,_,_,rfl,H⟩:=ht;rcases n0 with _ | n0;cases H;simp only [impl_ConfOk.l0] at H;(try (conv => cbv)))
  | ((with_reducible show Q0 _ _);first | exact nx_ hN0 | (refine xt_ hX0 ?_;(try (conv => cbv))))
  | ((with_reducible show Q _ _);exact en_ ⟨[2],[],[],[]⟩ 32 hQ)
  | contradiction
end Go.Ev
