/- Contracts of the Go functions that this law reaches: what each call returns, by its plain function. No conditions but those that each statement names. By this repo's programs; comments are taken out. -/
import Derived.Test.YtlmicldpfnmeaaaGreatDoorVFnExactMergeShelfD
import Derived.Test.YtlmicldpfnmeaaaGreatDoorVFnExactMergeShelfK
import Derived.Test.YtlmicldpfnmeaaaGreatDoorVFnExactMergeShelfC5
import Derived.Test.YtlmicldpfnmeaaaGreatDoorVFnExactMergeShelfC6
import Derived.Test.YtlmicldpfnmeaaaGreatDoorVFnExactMergeShelfC7
set_option linter.all false
namespace Go.Ev
open Go.RowKit Go.Proofs Go.Proofs.YtlmicldpfnmeaaaGreatDoorW.PrintWords Go.Proofs.YtlmicldpfnmeaaaGreatDoorW.PrintLast Go.Proofs.YtlmicldpfnmeaaaGreatDoorW.PrintMore
set_option maxRecDepth 100000
set_option maxHeartbeats 4000000
theorem impl_batchesOf.con (E:En) (hE:E = E0) {k a0 r1 r2} (H:impl_batchesOf.f k a0 = some (r1,r2)) :
  Cn 70 [.c (.str a0)] [] (.tup [.own 0,.c (.int .i64 r2)]) [.row false 113 [.int .i64,.sl [.str,.str,.bool],.str,.int .i64] (E.e113 r1)] []:=by
 refine co_ Tryz.func70 tabOk [20002] fun F hF Q hQ => ?_
 simp only [impl_batchesOf.f] at H
 (conv => cbv)
 repeat' first
  | replace H:=s_ H
  | (exfalso;with_reducible assumption)
  | (rw [itn_iff] at H;obtain ⟨hc,H⟩:=H)
  | (rw [itn2_iff] at H;obtain ⟨hc,H⟩:=H)
  | ((with_reducible refine br2 hF H ?_ ?_) <;> (clear H;intro hb H;(try (conv => cbv))))
  | (refine w_ hF ?_;(try (conv => cbv)))
  | ((with_reducible refine k2_ 100 H ?_);clear H;intro _ _ hy H;refine ca_ hF (impl_Frame.con E hE hy) ?_;(try (conv => cbv)))
  | ((with_reducible refine k2_ 146 H ?_);clear H;intro _ _ hy H;refine ca_ hF (impl_Unframe.con E hE hy) ?_;(try (conv => cbv)))
  | ((with_reducible refine k3_ 147 H ?_);clear H;intro _ _ _ hy H;refine ca_ hF (impl_ReadBatch.con E hE hy) ?_;(try (conv => cbv)))
  | ((with_reducible refine lo_ hF (fun n t => n≤k∧∃ x6 x7 x19 x20 x21,t = At 54 [(6,.own 20006),(7,.c (.int .i64 x7)),(19,.c (.sl [.str] (E.eS x19))),(20,.c (.int .i64 x20)),(21,.c (.int .i64 x21))] [(20006,.row false 113 [.int .i64,.sl [.str,.str,.bool],.str,.int .i64] (E.e113 x6))]∧impl_batchesOf.l0 n x6 x7 x19 x20 x21 = some (r1,r2)) ⟨[6,7,19,20,21],[],[(6,113)],[]⟩ fun n0 t ht Q0 hN0 hX0 => ?_);obtain ⟨hl,_,_,_,_,_,rfl,H⟩:=ht;rcases n0 with _ | n0;cases H;simp only [impl_batchesOf.l0] at H;(try (conv => cbv)))
  | ((with_reducible show Q0 _ _);first | exact nx_ hN0 | (refine xt_ hX0 ?_;(try (conv => cbv))))
  | ((with_reducible show Q _ _);exact en_ ⟨[2,3],[],[(2,113)],[]⟩ 54 hQ)
  | contradiction
theorem impl_spotsOf.con (E:En) (hE:E = E0) {k a0_0 l0_1 a0_2 a0_3 a1 r} (H:impl_spotsOf.f k a0_0 l0_1 a0_2 a0_3 a1 = some (r)) :
  Cn 165 [.agg [.c (.int .i64 a0_0),.c (.sl [.str,.str,.bool] (E.e162 l0_1)),.c (.str a0_2),.c (.int .i64 a0_3)],.c (.int .i64 a1)] [] (.own 0) [.row false 145 [.str,.int .i64,.int .i64,.int .i64] (E.e145 r)] []:=by
 refine co_ Tryz.func165 tabOk [20004] fun F hF Q hQ => ?_
 simp only [impl_spotsOf.f] at H
 (conv => cbv)
 repeat' first
  | replace H:=s_ H
  | (exfalso;with_reducible assumption)
  | (rw [itn_iff] at H;obtain ⟨hc,H⟩:=H)
  | (rw [itn2_iff] at H;obtain ⟨hc,H⟩:=H)
  | ((with_reducible refine br2 hF H ?_ ?_) <;> (clear H;intro hb H;(try (conv => cbv))))
  | (refine w_ hF ?_;(try (conv => cbv)))
  | ((with_reducible refine k2_ 180 H ?_);clear H;intro _ _ hy H;refine ca_ hF (impl_vars.con E hE hy) ?_;(try (conv => cbv)))
  | ((with_reducible refine k1_ 181 H ?_);clear H;intro _ hy H;refine ca_ hF (impl_short.con E hE hy) ?_;(try (conv => cbv)))
  | ((with_reducible refine lo_ hF (fun n t => n≤k∧∃ x1 x7 x8 x31 x32 x33,t = At 76 [(1,.c (.int .i64 x1)),(7,.c (.int .i64 x7)),(8,.own 20008),(31,.c (.sl [.str,.str,.bool] (E.e162 x31))),(32,.c (.int .i64 x32)),(33,.c (.int .i64 x33))] [(20008,.row false 145 [.str,.int .i64,.int .i64,.int .i64] (E.e145 x8))]∧impl_spotsOf.l0 n x1 x7 x8 x31 x32 x33 = some (r)) ⟨[1,7,8,31,32,33],[],[(8,145)],[]⟩ fun n0 t ht Q0 hN0 hX0 => ?_);obtain ⟨hl,_,_,_,_,_,_,rfl,H⟩:=ht;rcases n0 with _ | n0;cases H;simp only [impl_spotsOf.l0] at H;(try (conv => cbv)))
  | ((with_reducible show Q0 _ _);first | exact nx_ hN0 | (refine xt_ hX0 ?_;(try (conv => cbv))))
  | ((with_reducible show Q _ _);exact en_ ⟨[4],[],[(4,145)],[]⟩ 76 hQ)
  | contradiction
theorem impl_ScanSeg.con (E:En) (hE:E = E0) {k a0 a1 r1 r2 r3} (H:impl_ScanSeg.f k a0 a1 = some (r1,r2,r3)) :
  Cn 81 [.c (.str a0),.c (.int .i64 a1)] [] (.tup [.own 0,.own 1,.c (.int .i64 r3)]) [.row false 145 [.str,.int .i64,.int .i64,.int .i64] (E.e145 r1),.row false 9 [.str] (E.eS r2)] []:=by
 refine co_ Tryz.func81 tabOk [20004,20005] fun F hF Q hQ => ?_
 simp only [impl_ScanSeg.f] at H
 (conv => cbv)
 repeat' first
  | replace H:=s_ H
  | (exfalso;with_reducible assumption)
  | (rw [itn_iff] at H;obtain ⟨hc,H⟩:=H)
  | (rw [itn2_iff] at H;obtain ⟨hc,H⟩:=H)
  | ((with_reducible refine br2 hF H ?_ ?_) <;> (clear H;intro hb H;(try (conv => cbv))))
  | (refine w_ hF ?_;(try (conv => cbv)))
  | ((with_reducible refine k2_ 70 H ?_);clear H;intro _ _ hy H;refine ca_ hF (impl_batchesOf.con E hE hy) ?_;(try (conv => cbv)))
  | ((with_reducible refine k1_ 165 H ?_);clear H;intro _ hy H;refine ca_ hF (impl_spotsOf.con E hE hy) ?_;(try (conv => cbv)))
  | ((with_reducible refine lo_ hF (fun n t => n≤k∧∃ x1 x9 x10 x11 x19 x20 x21,t = At 44 [(1,.c (.int .i64 x1)),(9,.own 20009),(10,.own 20010),(11,.c (.int .i64 x11)),(19,.c (.sl [.int .i64,.sl [.str,.str,.bool],.str,.int .i64] (E.e113 x19))),(20,.c (.int .i64 x20)),(21,.c (.int .i64 x21))] [(20009,.row false 145 [.str,.int .i64,.int .i64,.int .i64] (E.e145 x9)),(20010,.row false 9 [.str] (E.eS x10))]∧impl_ScanSeg.l0 n x1 x9 x10 x11 x19 x20 x21 = some (r1,r2,r3)) ⟨[1,9,10,11,19,20,21],[],[(9,145),(10,9)],[]⟩ fun n0 t ht Q0 hN0 hX0 => ?_);obtain ⟨hl,_,_,_,_,_,_,_,rfl,H⟩:=ht;rcases n0 with _ | n0;cases H;simp only [impl_ScanSeg.l0] at H;(try (conv => cbv)))
  | ((with_reducible show Q0 _ _);first | exact nx_ hN0 | (refine xt_ hX0 ?_;(try (conv => cbv))))
  | ((with_reducible show Q _ _);exact en_ ⟨[4,5,6],[],[(4,145),(5,9)],[]⟩ 44 hQ)
  | contradiction
theorem impl_DirOk.con (E:En) (hE:E = E0) {k l0 r} (H:impl_DirOk.f k l0 = some (r)) :
  Cn 107 [.c (.sl [.str,.int .i64,.int .i64,.int .i64] (E.e145 l0))] [] (.c (.bool r)) [] []:=by
 refine co_ Tryz.func107 tabOk [] fun F hF Q hQ => ?_
 simp only [impl_DirOk.f] at H
 (conv => cbv)
 repeat' first
  | replace H:=s_ H
  | (exfalso;with_reducible assumption)
  | (rw [itn_iff] at H;obtain ⟨hc,H⟩:=H)
  | (rw [itn2_iff] at H;obtain ⟨hc,H⟩:=H)
  | ((with_reducible refine br2 hF H ?_ ?_) <;> (clear H;intro hb H;(try (conv => cbv))))
  | (refine w_ hF ?_;(try (conv => cbv)))
  | ((with_reducible refine k1_ 144 H ?_);clear H;intro _ hy H;refine ca_ hF (impl_within.con E hE hy) ?_;(try (conv => cbv)))
  | ((with_reducible refine k1_ 188 H ?_);clear H;intro _ hy H;refine ca_ hF (impl_keyOk.con E hE hy) ?_;(try (conv => cbv)))
  | ((with_reducible refine lo_ hF (fun n t => n≤k∧∃ x0 x5 x6 x7,t = At 53 [(0,.c (.sl [.str,.int .i64,.int .i64,.int .i64] (E.e145 x0))),(5,.c (.sl [.str,.int .i64,.int .i64,.int .i64] (E.e145 x5))),(6,.c (.int .i64 x6)),(7,.c (.int .i64 x7))] []∧impl_DirOk.l0 n x0 x5 x6 x7 = some (r)) ⟨[0,5,6,7],[],[],[]⟩ fun n0 t ht Q0 hN0 hX0 => ?_);obtain ⟨hl,_,_,_,_,rfl,H⟩:=ht;rcases n0 with _ | n0;cases H;simp only [impl_DirOk.l0] at H;(try (conv => cbv)))
  | ((with_reducible show Q0 _ _);first | exact nx_ hN0 | (refine xt_ hX0 ?_;(try (conv => cbv))))
  | ((with_reducible show Q _ _);exact en_ ⟨[2],[],[],[]⟩ 53 hQ)
  | contradiction
theorem impl_DirMore_c1.con (E:En) (hE:E = E0) {a0_0 a0_1 a0_2 a0_3 a1 r} (H:impl_DirMore_c1.f a0_0 a0_1 a0_2 a0_3 a1 = some r) :
  Cn 167 [.agg [.c (.str a0_0),.c (.int .i64 a0_1),.c (.int .i64 a0_2),.c (.int .i64 a0_3)],.c (.str a1)] [] (.c (.int .i64 r)) [] []:=by
 refine co_ Tryz.func167 tabOkM [] fun F hF Q hQ => ?_
 simp only [impl_DirMore_c1.f] at H
 (conv => cbv)
 repeat' first
  | replace H:=s_ H
  | (exfalso;with_reducible assumption)
  | (rw [itn_iff] at H;obtain ⟨hc,H⟩:=H)
  | (rw [itn2_iff] at H;obtain ⟨hc,H⟩:=H)
  | ((with_reducible refine br2 hF H ?_ ?_) <;> (clear H;intro hb H;(try (conv => cbv))))
  | (refine w_ hF ?_;(try (conv => cbv)))
  | ((with_reducible refine k1_ 168 H ?_);clear H;intro _ hy H;refine ca_ hF (strings_Compare.con E hE hy) ?_;(try (conv => cbv)))
  | ((with_reducible show Q _ _);exact en_ ⟨[4],[],[],[]⟩ 9 hQ)
  | contradiction
theorem slices_BinarySearchFunc_impl_Spot_impl_Spot_string.con (E:En) (hE:E = E0) {k l0 a1 r1 r2} (H:slices_BinarySearchFunc_impl_Spot_impl_Spot_string.f k l0 a1 = some (r1,r2)) :
  Cn 166 [.c (.sl [.str,.int .i64,.int .i64,.int .i64] (E.e145 l0)),.c (.str a1),.c (.fn 167)] [] (.tup [.c (.int .i64 r1),.c (.bool r2)]) [] []:=by
 refine co_ Tryz.func166 tabOkM [] fun F hF Q hQ => ?_
 simp only [slices_BinarySearchFunc_impl_Spot_impl_Spot_string.f] at H
 (conv => cbv)
 repeat' first
  | replace H:=s_ H
  | (exfalso;with_reducible assumption)
  | (rw [itn_iff] at H;obtain ⟨hc,H⟩:=H)
  | (rw [itn2_iff] at H;obtain ⟨hc,H⟩:=H)
  | ((with_reducible refine br2 hF H ?_ ?_) <;> (clear H;intro hb H;(try (conv => cbv))))
  | (refine w_ hF ?_;(try (conv => cbv)))
  | ((with_reducible refine k1_ 167 H ?_);clear H;intro _ hy H;refine ca_ hF (impl_DirMore_c1.con E hE hy) ?_;(try (conv => cbv)))
  | ((with_reducible refine lo_ hF (fun n t => n≤k∧∃ x0 x1 x8 x9 x10,t = At 49 [(0,.c (.sl [.str,.int .i64,.int .i64,.int .i64] (E.e145 x0))),(1,.c (.str x1)),(2,.c (.fn 167)),(8,.c (.int .i64 x8)),(9,.c (.int .i64 x9)),(10,.c (.int .i64 x10))] []∧slices_BinarySearchFunc_impl_Spot_impl_Spot_string.l0 n x0 x1 x8 x9 x10 = some (r1,r2)) ⟨[0,1,2,8,9,10],[],[],[]⟩ fun n0 t ht Q0 hN0 hX0 => ?_);obtain ⟨hl,_,_,_,_,_,rfl,H⟩:=ht;rcases n0 with _ | n0;cases H;simp only [slices_BinarySearchFunc_impl_Spot_impl_Spot_string.l0] at H;(try (conv => cbv)))
  | ((with_reducible show Q0 _ _);first | exact nx_ hN0 | (refine xt_ hX0 ?_;(try (conv => cbv))))
  | ((with_reducible show Q _ _);exact en_ ⟨[6,7],[],[],[]⟩ 49 hQ)
  | contradiction
theorem impl_DirMore.con (E:En) (hE:E = E0) {k l0 l1 r1 r2} (H:impl_DirMore.f k l0 l1 = some (r1,r2)) :
  Cn 82 [.c (.sl [.str,.int .i64,.int .i64,.int .i64] (E.e145 l0)),.c (.sl [.str,.int .i64,.int .i64,.int .i64] (E.e145 l1))] [] (.tup [.own 0,.c (.bool r2)]) [.row false 145 [.str,.int .i64,.int .i64,.int .i64] (E.e145 r1)] []:=by
 refine co_ Tryz.func82 tabOkM [20004] fun F hF Q hQ => ?_
 simp only [impl_DirMore.f] at H
 (conv => cbv)
 repeat' first
  | replace H:=s_ H
  | (exfalso;with_reducible assumption)
  | (rw [itn_iff] at H;obtain ⟨hc,H⟩:=H)
  | (rw [itn2_iff] at H;obtain ⟨hc,H⟩:=H)
  | ((with_reducible refine br2 hF H ?_ ?_) <;> (clear H;intro hb H;(try (conv => cbv))))
  | (refine w_ hF ?_;(try (conv => cbv)))
  | ((with_reducible refine k1_ 107 H ?_);clear H;intro _ hy H;refine ca_ hF (impl_DirOk.con E hE hy) ?_;(try (conv => cbv)))
  | ((with_reducible refine k2_ 166 H ?_);clear H;intro _ _ hy H;refine ca_ hF (slices_BinarySearchFunc_impl_Spot_impl_Spot_string.con E hE hy) ?_;(try (conv => cbv)))
  | ((with_reducible refine k1_ 169 H ?_);clear H;intro _ hy H;refine ca_ hF (slices_Delete_impl_Spot_impl_Spot.con E hE hy) ?_;(try (conv => cbv)))
  | ((with_reducible refine k2_ 170 H ?_);clear H;intro _ _ hy H;refine ca_ hF (slices_Insert_impl_Spot_impl_Spot.con E hE hy) ?_;(try (conv => cbv)))
  | ((with_reducible refine lo_ hF (fun n t => n≤k∧∃ x6 x16 x17 x18,t = At 61 [(6,.own 20006),(16,.c (.sl [.str,.int .i64,.int .i64,.int .i64] (E.e145 x16))),(17,.c (.int .i64 x17)),(18,.c (.int .i64 x18))] [(20006,.row false 145 [.str,.int .i64,.int .i64,.int .i64] (E.e145 x6))]∧impl_DirMore.l0 n x6 x16 x17 x18 = some (r1,r2)) ⟨[6,16,17,18],[],[(6,145)],[]⟩ fun n0 t ht Q0 hN0 hX0 => ?_);obtain ⟨hl,_,_,_,_,rfl,H⟩:=ht;rcases n0 with _ | n0;cases H;simp only [impl_DirMore.l0] at H;(try (conv => cbv)))
  | ((with_reducible show Q0 _ _);first | exact nx_ hN0 | (refine xt_ hX0 ?_;(try (conv => cbv))))
  | ((with_reducible show Q _ _);exact en_ ⟨[4,5],[],[(4,145)],[]⟩ 61 hQ)
  | contradiction
theorem impl_OpenShelf.con (E:En) (hE:E = E0) {k l0_0 r1 r2 r3 r4 r5 r6 r7 r8 r9} (H:impl_OpenShelf.f k l0_0 = some (r1,r2,r3,r4,r5,r6,r7,r8,r9)) :
  Cn 21 [.agg [.c (.sl [.str,.str] (E.e122 l0_0))]] [] (.tup [.agg [.own 0,.c (.int .i64 r2),.c (.int .i64 r3),.c (.int .i64 r4),.own 1,.own 2,.c (.int .i64 r7)],.own 3,.c (.int .i64 r9)]) [.row false 3 [.int .i64] (E.eI .i64 r1),.row false 3 [.int .i64] (E.eI .i64 r5),.row false 145 [.str,.int .i64,.int .i64,.int .i64] (E.e145 r6),.row false 119 [.int .i64,.str,.str,.str] (E.e119 r8)] []:=by
 refine co_ Tryz.func21 tabOkM [400040,400044,400045,20003] fun F hF Q hQ => ?_
 simp only [impl_OpenShelf.f] at H
 (conv => cbv)
 repeat' first
  | replace H:=s_ H
  | (exfalso;with_reducible assumption)
  | (rw [itn_iff] at H;obtain ⟨hc,H⟩:=H)
  | (rw [itn2_iff] at H;obtain ⟨hc,H⟩:=H)
  | ((with_reducible refine br2 hF H ?_ ?_) <;> (clear H;intro hb H;(try (conv => cbv))))
  | (refine w_ hF ?_;(try (conv => cbv)))
  | ((with_reducible refine k1_ 78 H ?_);clear H;intro _ hy H;refine ca_ hF (impl_DiskOk.con E hE hy) ?_;(try (conv => cbv)))
  | ((with_reducible refine k2_ 68 H ?_);clear H;intro _ _ hy H;refine ca_ hF (impl_FileAt.con E hE hy) ?_;(try (conv => cbv)))
  | ((with_reducible refine k6_ 79 H ?_);clear H;intro _ _ _ _ _ _ hy H;refine ca_ hF (impl_ReadManifest.con E hE hy) ?_;(try (conv => cbv)))
  | ((with_reducible refine k1_ 69 H ?_);clear H;intro _ hy H;refine ca_ hF (impl_SegName.con E hE hy) ?_;(try (conv => cbv)))
  | ((with_reducible refine k1_ 80 H ?_);clear H;intro _ hy H;refine ca_ hF (impl_cleaning.con E hE hy) ?_;(try (conv => cbv)))
  | ((with_reducible refine k3_ 81 H ?_);clear H;intro _ _ _ hy H;refine ca_ hF (impl_ScanSeg.con E hE hy) ?_;(try (conv => cbv)))
  | ((with_reducible refine k2_ 70 H ?_);clear H;intro _ _ hy H;refine ca_ hF (impl_batchesOf.con E hE hy) ?_;(try (conv => cbv)))
  | ((with_reducible refine k2_ 82 H ?_);clear H;intro _ _ hy H;refine ca_ hF (impl_DirMore.con E hE hy) ?_;(try (conv => cbv)))
  | ((with_reducible refine lo_ hF (fun n t => n≤k∧∃ x49 x50 x51 v0 v1 v2 v3 v4 v5 v6 v7 v8 v9 v10 v11,t = At 147 [(1,.ptr 1 0),(2,.ptr 2 0),(7,.ptr 7 0),(49,.own 20049),(50,.c (.int .i64 x50)),(51,.c (.int .i64 x51))] [(1,.box [.c (.sl [.str,.str] (E.e122 v0))]),(2,.box [.own 400040,.c (.int .i64 v2),.c (.int .i64 v3),.c (.int .i64 v4),.own 400044,.own 400045,.c (.int .i64 v7)]),(7,.box [.own 20049,.c (.int .i64 v8),.c (.int .i64 v9),.c (.int .i64 v10),.own 400144]),(20049,.row false 3 [.int .i64] (E.eI .i64 x49)),(400040,.row false 3 [.int .i64] (E.eI .i64 v1)),(400044,.row false 3 [.int .i64] (E.eI .i64 v5)),(400045,.row false 145 [.str,.int .i64,.int .i64,.int .i64] (E.e145 v6)),(400144,.row false 3 [.int .i64] (E.eI .i64 v11))]∧impl_OpenShelf.l0 n x49 x50 x51 v0 v1 v2 v3 v4 v5 v6 v7 v8 v9 v10 v11 = some (r1,r2,r3,r4,r5,r6,r7,r8,r9)) ⟨[1,2,7,49,50,51],[1,2,7],[(49,3)],[(2,0,3),(2,4,3),(2,5,145),(7,4,3)]⟩ fun n0 t ht Q0 hN0 hX0 => ?_);obtain ⟨hl,_,_,_,_,_,_,_,_,_,_,_,_,_,_,_,rfl,H⟩:=ht;rcases n0 with _ | n0;cases H;simp only [impl_OpenShelf.l0] at H;(try (conv => cbv)))
  | ((with_reducible show Q0 _ _);first | exact nx_ hN0 | (refine xt_ hX0 ?_;(try (conv => cbv))))
  | ((with_reducible refine lo_ hF (fun n t => n≤k∧∃ x14 x15 x74 x75 x76 v0 v1 v2 v3 v4 v5 v6 v7 v8 v9 v10 v11 v12 v13 v14 v15 v16,t = At 147 [(1,.ptr 1 0),(2,.ptr 2 0),(7,.ptr 7 0),(13,.ptr 13 0),(14,.own 20014),(15,.own 20015),(74,.own 20074),(75,.c (.int .i64 x75)),(76,.c (.int .i64 x76))] [(1,.box [.c (.sl [.str,.str] (E.e122 v0))]),(2,.box [.own 400040,.c (.int .i64 v2),.c (.int .i64 v3),.c (.int .i64 v4),.own 400044,.own 400045,.c (.int .i64 v7)]),(7,.box [.own 20074,.c (.int .i64 v8),.c (.int .i64 v9),.c (.int .i64 v10),.own 400144]),(13,.box [.own 20074,.c (.int .i64 v12),.c (.int .i64 v13),.c (.int .i64 v14),.own 400144,.own 400265,.c (.int .i64 v16)]),(20014,.row false 119 [.int .i64,.str,.str,.str] (E.e119 x14)),(20015,.row false 145 [.str,.int .i64,.int .i64,.int .i64] (E.e145 x15)),(20074,.row false 3 [.int .i64] (E.eI .i64 x74)),(400040,.row false 3 [.int .i64] (E.eI .i64 v1)),(400044,.row false 3 [.int .i64] (E.eI .i64 v5)),(400045,.row false 145 [.str,.int .i64,.int .i64,.int .i64] (E.e145 v6)),(400144,.row false 3 [.int .i64] (E.eI .i64 v11)),(400265,.row false 145 [.str,.int .i64,.int .i64,.int .i64] (E.e145 v15))]∧impl_OpenShelf.l1 n x14 x15 x74 x75 x76 v0 v1 v2 v3 v4 v5 v6 v7 v8 v9 v10 v11 v12 v13 v14 v15 v16 = some (r1,r2,r3,r4,r5,r6,r7,r8,r9)) ⟨[1,2,7,13,14,15,74,75,76],[1,2,7,13],[(14,119),(15,145),(74,3)],[(2,0,3),(2,4,3),(2,5,145),(7,4,3),(13,5,145)]⟩ fun n1 t ht Q1 hN1 hX1 => ?_);obtain ⟨hl,_,_,_,_,_,_,_,_,_,_,_,_,_,_,_,_,_,_,_,_,_,_,rfl,H⟩:=ht;rcases n1 with _ | n1;cases H;simp only [impl_OpenShelf.l1] at H;(try (conv => cbv)))
  | ((with_reducible show Q1 _ _);first | exact nx_ hN1 | (refine xt_ hX1 ?_;(try (conv => cbv))))
  | ((with_reducible show Q _ _);exact en_ ⟨[2,3,4],[2],[(3,119)],[(2,0,3),(2,4,3),(2,5,145)]⟩ 147 hQ)
  | contradiction
theorem slices_Equal_int_int.con (E:En) (hE:E = E0) {k l0 l1 r} (H:slices_Equal_int_int.f k l0 l1 = some r) :
  Cn 199 [.c (.sl [.int .i64] (E.eI .i64 l0)),.c (.sl [.int .i64] (E.eI .i64 l1))] [] (.c (.bool r)) [] []:=by
 refine co_ Tryz.func199 tabOkM [] fun F hF Q hQ => ?_
 simp only [slices_Equal_int_int.f] at H
 (conv => cbv)
 repeat' first
  | replace H:=s_ H
  | (exfalso;with_reducible assumption)
  | (rw [itn_iff] at H;obtain ⟨hc,H⟩:=H)
  | (rw [itn2_iff] at H;obtain ⟨hc,H⟩:=H)
  | ((with_reducible refine br2 hF H ?_ ?_) <;> (clear H;intro hb H;(try (conv => cbv))))
  | (refine w_ hF ?_;(try (conv => cbv)))
  | ((with_reducible refine lo_ hF (fun n t => n≤k∧∃ x0 x1 x12 x13,t = At 26 [(0,.c (.sl [.int .i64] (E.eI .i64 x0))),(1,.c (.sl [.int .i64] (E.eI .i64 x1))),(12,.c (.int .i64 x12)),(13,.c (.int .i64 x13))] []∧slices_Equal_int_int.l0 n x0 x1 x12 x13 = some r) ⟨[0,1,12,13],[],[],[]⟩ fun n0 t ht Q0 hN0 hX0 => ?_);obtain ⟨hl,_,_,_,_,rfl,H⟩:=ht;rcases n0 with _ | n0;cases H;simp only [slices_Equal_int_int.l0] at H;(try (conv => cbv)))
  | ((with_reducible show Q0 _ _);first | exact nx_ hN0 | (refine xt_ hX0 ?_;(try (conv => cbv))))
  | ((with_reducible show Q _ _);exact en_ ⟨[4],[],[],[]⟩ 26 hQ)
  | contradiction
theorem impl_sameManifest.con (E:En) (hE:E = E0) {k l0_0 a0_1 a0_2 a0_3 l0_4 l1_0 a1_1 a1_2 a1_3 l1_4 r} (H:impl_sameManifest.f k l0_0 a0_1 a0_2 a0_3 l0_4 l1_0 a1_1 a1_2 a1_3 l1_4 = some r) :
  Cn 141 [.agg [.c (.sl [.int .i64] (E.eI .i64 l0_0)),.c (.int .i64 a0_1),.c (.int .i64 a0_2),.c (.int .i64 a0_3),.c (.sl [.int .i64] (E.eI .i64 l0_4))],.agg [.c (.sl [.int .i64] (E.eI .i64 l1_0)),.c (.int .i64 a1_1),.c (.int .i64 a1_2),.c (.int .i64 a1_3),.c (.sl [.int .i64] (E.eI .i64 l1_4))]] [] (.c (.bool r)) [] []:=by
 refine co_ Tryz.func141 tabOkM [] fun F hF Q hQ => ?_
 simp only [impl_sameManifest.f] at H
 (conv => cbv)
 repeat' first
  | replace H:=s_ H
  | (exfalso;with_reducible assumption)
  | (rw [itn_iff] at H;obtain ⟨hc,H⟩:=H)
  | (rw [itn2_iff] at H;obtain ⟨hc,H⟩:=H)
  | ((with_reducible refine br2 hF H ?_ ?_) <;> (clear H;intro hb H;(try (conv => cbv))))
  | (refine w_ hF ?_;(try (conv => cbv)))
  | ((with_reducible refine k1_ 199 H ?_);clear H;intro _ hy H;refine ca_ hF (slices_Equal_int_int.con E hE hy) ?_;(try (conv => cbv)))
  | ((with_reducible show Q _ _);exact en_ ⟨[4],[],[],[]⟩ 38 hQ)
  | contradiction
theorem slices_Equal_impl_Spot_impl_Spot.con (E:En) (hE:E = E0) {k l0 l1 r} (H:slices_Equal_impl_Spot_impl_Spot.f k l0 l1 = some r) :
  Cn 142 [.c (.sl [.str,.int .i64,.int .i64,.int .i64] (E.e145 l0)),.c (.sl [.str,.int .i64,.int .i64,.int .i64] (E.e145 l1))] [] (.c (.bool r)) [] []:=by
 refine co_ Tryz.func142 tabOkM [] fun F hF Q hQ => ?_
 simp only [slices_Equal_impl_Spot_impl_Spot.f] at H
 (conv => cbv)
 repeat' first
  | replace H:=s_ H
  | (exfalso;with_reducible assumption)
  | (rw [itn_iff] at H;obtain ⟨hc,H⟩:=H)
  | (rw [itn2_iff] at H;obtain ⟨hc,H⟩:=H)
  | ((with_reducible refine br2 hF H ?_ ?_) <;> (clear H;intro hb H;(try (conv => cbv))))
  | (refine w_ hF ?_;(try (conv => cbv)))
  | ((with_reducible refine lo_ hF (fun n t => n≤k∧∃ x0 x1 x12 x13,t = At 26 [(0,.c (.sl [.str,.int .i64,.int .i64,.int .i64] (E.e145 x0))),(1,.c (.sl [.str,.int .i64,.int .i64,.int .i64] (E.e145 x1))),(12,.c (.int .i64 x12)),(13,.c (.int .i64 x13))] []∧slices_Equal_impl_Spot_impl_Spot.l0 n x0 x1 x12 x13 = some r) ⟨[0,1,12,13],[],[],[]⟩ fun n0 t ht Q0 hN0 hX0 => ?_);obtain ⟨hl,_,_,_,_,rfl,H⟩:=ht;rcases n0 with _ | n0;cases H;simp only [slices_Equal_impl_Spot_impl_Spot.l0] at H;(try (conv => cbv)))
  | ((with_reducible show Q0 _ _);first | exact nx_ hN0 | (refine xt_ hX0 ?_;(try (conv => cbv))))
  | ((with_reducible show Q _ _);exact en_ ⟨[4],[],[],[]⟩ 26 hQ)
  | contradiction
theorem impl_sameShelf.con (E:En) (hE:E = E0) {k l0_0 a0_1 a0_2 a0_3 l0_4 l0_5 a0_6 l1_0 a1_1 a1_2 a1_3 l1_4 l1_5 a1_6 r} (H:impl_sameShelf.f k l0_0 a0_1 a0_2 a0_3 l0_4 l0_5 a0_6 l1_0 a1_1 a1_2 a1_3 l1_4 l1_5 a1_6 = some r) :
  Cn 67 [.agg [.c (.sl [.int .i64] (E.eI .i64 l0_0)),.c (.int .i64 a0_1),.c (.int .i64 a0_2),.c (.int .i64 a0_3),.c (.sl [.int .i64] (E.eI .i64 l0_4)),.c (.sl [.str,.int .i64,.int .i64,.int .i64] (E.e145 l0_5)),.c (.int .i64 a0_6)],.agg [.c (.sl [.int .i64] (E.eI .i64 l1_0)),.c (.int .i64 a1_1),.c (.int .i64 a1_2),.c (.int .i64 a1_3),.c (.sl [.int .i64] (E.eI .i64 l1_4)),.c (.sl [.str,.int .i64,.int .i64,.int .i64] (E.e145 l1_5)),.c (.int .i64 a1_6)]] [] (.c (.bool r)) [] []:=by
 refine co_ Tryz.func67 tabOkM [] fun F hF Q hQ => ?_
 simp only [impl_sameShelf.f] at H
 (conv => cbv)
 repeat' first
  | replace H:=s_ H
  | (exfalso;with_reducible assumption)
  | (rw [itn_iff] at H;obtain ⟨hc,H⟩:=H)
  | (rw [itn2_iff] at H;obtain ⟨hc,H⟩:=H)
  | ((with_reducible refine br2 hF H ?_ ?_) <;> (clear H;intro hb H;(try (conv => cbv))))
  | (refine w_ hF ?_;(try (conv => cbv)))
  | ((with_reducible refine k1_ 141 H ?_);clear H;intro _ hy H;refine ca_ hF (impl_sameManifest.con E hE hy) ?_;(try (conv => cbv)))
  | ((with_reducible refine k1_ 142 H ?_);clear H;intro _ hy H;refine ca_ hF (slices_Equal_impl_Spot_impl_Spot.con E hE hy) ?_;(try (conv => cbv)))
  | ((with_reducible show Q _ _);exact en_ ⟨[4],[],[],[]⟩ 24 hQ)
  | contradiction
end Go.Ev
