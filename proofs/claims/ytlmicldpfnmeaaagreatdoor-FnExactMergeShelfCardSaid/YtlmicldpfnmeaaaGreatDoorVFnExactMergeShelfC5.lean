/- Contracts of the Go functions that this law reaches: what each call returns, by its plain function. No conditions but those that each statement names. By this repo's programs; comments are taken out. -/
import Derived.Test.YtlmicldpfnmeaaaGreatDoorVFnExactMergeShelfD
import Derived.Test.YtlmicldpfnmeaaaGreatDoorVFnExactMergeShelfK
import Derived.Test.YtlmicldpfnmeaaaGreatDoorVFnExactMergeShelfC1
import Derived.Test.YtlmicldpfnmeaaaGreatDoorVFnExactMergeShelfC2
import Derived.Test.YtlmicldpfnmeaaaGreatDoorVFnExactMergeShelfC4
set_option linter.all false
namespace Go.Ev
open Go.RowKit Go.Proofs Go.Proofs.YtlmicldpfnmeaaaGreatDoorW.PrintWords Go.Proofs.YtlmicldpfnmeaaaGreatDoorW.PrintLast Go.Proofs.YtlmicldpfnmeaaaGreatDoorW.PrintMore
set_option maxRecDepth 100000
set_option maxHeartbeats 4000000
theorem spec_l10New.j0_s {k:Nat} {x2:ByteArray} {x15:ByteArray} {x17:List S119} {x51:Bool} {x1027000:List S122} {x1028000:List Int} {x1028001:Int} {x1028002:Int} {x1028003:Int} {x1028004:List Int} {x1028005:List S145} {x1028006:Int} {r:_} (h:spec_l10New.j0 k x2 x15 x17 x51 x1027000 x1028000 x1028001 x1028002 x1028003 x1028004 x1028005 x1028006 = some r):∃ m,k = m + 1∧spec_l10New.j0 (m + 1) x2 x15 x17 x51 x1027000 x1028000 x1028001 x1028002 x1028003 x1028004 x1028005 x1028006 = some r:=by
 cases k with
 | zero => simp [spec_l10New.j0] at h
 | succ m => exact ⟨m,rfl,h⟩
theorem spec_l10New.j0_i {k:Nat} {x2:ByteArray} {x15:ByteArray} {x17:List S119} {x51:Bool} {x1027000:List S122} {x1028000:List Int} {x1028001:Int} {x1028002:Int} {x1028003:Int} {x1028004:List Int} {x1028005:List S145} {x1028006:Int} {r:_}:(spec_l10New.j0 k x2 x15 x17 x51 x1027000 x1028000 x1028001 x1028002 x1028003 x1028004 x1028005 x1028006 = some r) = (∃ m,k = m + 1∧spec_l10New.j0 (m + 1) x2 x15 x17 x51 x1027000 x1028000 x1028001 x1028002 x1028003 x1028004 x1028005 x1028006 = some r):=propext ⟨spec_l10New.j0_s,fun ⟨m,h,h2⟩ => by rw [h];exact h2⟩
theorem spec_l10New.con (E:En) (hE:E = E0) {k l0_0 l1_0 a1_1 a1_2 a1_3 l1_4 l1_5 a1_6 a2 a3 a4 l5 r1 r2 r3 r4 r5 r6 r7 r8 r9} (H:spec_l10New.f k l0_0 l1_0 a1_1 a1_2 a1_3 l1_4 l1_5 a1_6 a2 a3 a4 l5 = some (r1,r2,r3,r4,r5,r6,r7,r8,r9)) :
  Cn 105 [.agg [.c (.sl [.str,.str] (E.e122 l0_0))],.agg [.c (.sl [.int .i64] (E.eI .i64 l1_0)),.c (.int .i64 a1_1),.c (.int .i64 a1_2),.c (.int .i64 a1_3),.c (.sl [.int .i64] (E.eI .i64 l1_4)),.c (.sl [.str,.int .i64,.int .i64,.int .i64] (E.e145 l1_5)),.c (.int .i64 a1_6)],.c (.str a2),.c (.int .i64 a3),.c (.int .i64 a4),.c (.sl [.int .i64] (E.eI .i64 l5))] [] (.tup [.agg [.own 0,.c (.int .i64 r2),.c (.int .i64 r3),.c (.int .i64 r4),.own 1,.own 2,.c (.int .i64 r7)],.own 3,.c (.bool r9)]) [.row false 3 [.int .i64] (E.eI .i64 r1),.row false 3 [.int .i64] (E.eI .i64 r5),.row false 145 [.str,.int .i64,.int .i64,.int .i64] (E.e145 r6),.row false 119 [.int .i64,.str,.str,.str] (E.e119 r8)] []:=by
 refine co_ Tryz.func105 tabOk [400240,400244,400245,20013] fun F hF Q hQ => ?_
 simp only [spec_l10New.f] at H
 (conv => cbv)
 repeat' first
  | (rw [spec_l10New.j0_i] at H;obtain ⟨m,hm,H⟩:=H;simp only [spec_l10New.j0] at H;(try simp only [decide_eq_true_eq,Bool.false_eq_true,if_false,if_true] at H))
  | replace H:=s_ H
  | (exfalso;with_reducible assumption)
  | (rw [itn_iff] at H;obtain ⟨hc,H⟩:=H)
  | (rw [itn2_iff] at H;obtain ⟨hc,H⟩:=H)
  | ((with_reducible refine br2 hF H ?_ ?_) <;> (clear H;intro hb H;(try (conv => cbv))))
  | (refine w_ hF ?_;(try (conv => cbv)))
  | ((with_reducible refine k1_ 61 H ?_);clear H;intro _ hy H;refine ca_ hF (spec_SegName.con E hE hy) ?_;(try (conv => cbv)))
  | ((with_reducible refine k2_ 113 H ?_);clear H;intro _ _ hy H;refine ca_ hF (spec_l09NewMan.con E hE hy) ?_;(try (conv => cbv)))
  | ((with_reducible refine k8_ 114 H ?_);clear H;intro _ _ _ _ _ _ _ _ hy H;refine ca_ hF (spec_l09After.con E hE hy) ?_;(try (conv => cbv)))
  | ((with_reducible refine lo_ hF (fun n t => n≤k∧∃ x19 x20 v0 v1 v2 v3 v4 v5 v6 v7,t = At 91 [(6,.ptr 6 0),(7,.ptr 7 0),(12,.ptr 12 0),(19,.own 20019),(20,.c (.int .i64 x20))] [(6,.box [.c (.sl [.str,.str] (E.e122 v0))]),(7,.box [.c (.sl [.int .i64] (E.eI .i64 v1)),.c (.int .i64 v2),.c (.int .i64 v3),.c (.int .i64 v4),.c (.sl [.int .i64] (E.eI .i64 v5)),.c (.sl [.str,.int .i64,.int .i64,.int .i64] (E.e145 v6)),.c (.int .i64 v7)]),(12,.box [.own 400240,.c (.int .i64 0),.c (.int .i64 0),.c (.int .i64 0),.own 400244,.own 400245,.c (.int .i64 0)]),(20019,.row false 119 [.int .i64,.str,.str,.str] (E.e119 x19)),(400240,.row false 3 [.int .i64] []),(400244,.row false 3 [.int .i64] []),(400245,.row false 145 [.str,.int .i64,.int .i64,.int .i64] [])]∧spec_l10New.l0 n x19 x20 v0 v1 v2 v3 v4 v5 v6 v7 = some (r1,r2,r3,r4,r5,r6,r7,r8,r9)) ⟨[6,7,12,19,20],[6,7,12],[(19,119)],[(12,0,3),(12,4,3),(12,5,145)]⟩ fun n0 t ht Q0 hN0 hX0 => ?_);obtain ⟨hl,_,_,_,_,_,_,_,_,_,_,rfl,H⟩:=ht;rcases n0 with _ | n0;cases H;simp only [spec_l10New.l0] at H;(try (conv => cbv)))
  | ((with_reducible show Q0 _ _);first | exact nx_ hN0 | (refine xt_ hX0 ?_;(try (conv => cbv))))
  | ((with_reducible show Q _ _);exact en_ ⟨[12,13,14],[12],[(13,119)],[(12,0,3),(12,4,3),(12,5,145)]⟩ 91 hQ)
  | contradiction
theorem spec_MergeShelf.j0_s {k:Nat} {x2:Int} {x3:Int} {x4:List Int} {x30:Bool} {x1077000:List S122} {x1078000:List Int} {x1078001:Int} {x1078002:Int} {x1078003:Int} {x1078004:List Int} {x1078005:List S145} {x1078006:Int} {r:_} (h:spec_MergeShelf.j0 k x2 x3 x4 x30 x1077000 x1078000 x1078001 x1078002 x1078003 x1078004 x1078005 x1078006 = some r):∃ m,k = m + 1∧spec_MergeShelf.j0 (m + 1) x2 x3 x4 x30 x1077000 x1078000 x1078001 x1078002 x1078003 x1078004 x1078005 x1078006 = some r:=by
 cases k with
 | zero => simp [spec_MergeShelf.j0] at h
 | succ m => exact ⟨m,rfl,h⟩
theorem spec_MergeShelf.j0_i {k:Nat} {x2:Int} {x3:Int} {x4:List Int} {x30:Bool} {x1077000:List S122} {x1078000:List Int} {x1078001:Int} {x1078002:Int} {x1078003:Int} {x1078004:List Int} {x1078005:List S145} {x1078006:Int} {r:_}:(spec_MergeShelf.j0 k x2 x3 x4 x30 x1077000 x1078000 x1078001 x1078002 x1078003 x1078004 x1078005 x1078006 = some r) = (∃ m,k = m + 1∧spec_MergeShelf.j0 (m + 1) x2 x3 x4 x30 x1077000 x1078000 x1078001 x1078002 x1078003 x1078004 x1078005 x1078006 = some r):=propext ⟨spec_MergeShelf.j0_s,fun ⟨m,h,h2⟩ => by rw [h];exact h2⟩
theorem spec_MergeShelf.con (E:En) (hE:E = E0) {k l0_0 l1_0 a1_1 a1_2 a1_3 l1_4 l1_5 a1_6 a2 a3 l4 r1 r2 r3 r4 r5 r6 r7 r8 r9} (H:spec_MergeShelf.f k l0_0 l1_0 a1_1 a1_2 a1_3 l1_4 l1_5 a1_6 a2 a3 l4 = some (r1,r2,r3,r4,r5,r6,r7,r8,r9)) :
  Cn 32 [.agg [.c (.sl [.str,.str] (E.e122 l0_0))],.agg [.c (.sl [.int .i64] (E.eI .i64 l1_0)),.c (.int .i64 a1_1),.c (.int .i64 a1_2),.c (.int .i64 a1_3),.c (.sl [.int .i64] (E.eI .i64 l1_4)),.c (.sl [.str,.int .i64,.int .i64,.int .i64] (E.e145 l1_5)),.c (.int .i64 a1_6)],.c (.int .i64 a2),.c (.int .i64 a3),.c (.sl [.int .i64] (E.eI .i64 l4))] [] (.tup [.agg [.own 0,.c (.int .i64 r2),.c (.int .i64 r3),.c (.int .i64 r4),.own 1,.own 2,.c (.int .i64 r7)],.own 3,.c (.bool r9)]) [.row false 3 [.int .i64] (E.eI .i64 r1),.row false 3 [.int .i64] (E.eI .i64 r5),.row false 145 [.str,.int .i64,.int .i64,.int .i64] (E.e145 r6),.row false 119 [.int .i64,.str,.str,.str] (E.e119 r8)] []:=by
 refine co_ Tryz.func32 tabOk [400200,400204,400205,20011] fun F hF Q hQ => ?_
 simp only [spec_MergeShelf.f] at H
 (conv => cbv)
 repeat' first
  | (rw [spec_MergeShelf.j0_i] at H;obtain ⟨m,hm,H⟩:=H;simp only [spec_MergeShelf.j0] at H;(try simp only [decide_eq_true_eq,Bool.false_eq_true,if_false,if_true] at H))
  | replace H:=s_ H
  | (exfalso;with_reducible assumption)
  | (rw [itn_iff] at H;obtain ⟨hc,H⟩:=H)
  | (rw [itn2_iff] at H;obtain ⟨hc,H⟩:=H)
  | ((with_reducible refine br2 hF H ?_ ?_) <;> (clear H;intro hb H;(try (conv => cbv))))
  | (refine w_ hF ?_;(try (conv => cbv)))
  | ((with_reducible refine k2_ 30 H ?_);clear H;intro _ _ hy H;refine ca_ hF (spec_ShelfMap.con E hE hy) ?_;(try (conv => cbv)))
  | ((with_reducible refine k2_ 63 H ?_);clear H;intro _ _ hy H;refine ca_ hF (spec_Frame.con E hE hy) ?_;(try (conv => cbv)))
  | ((with_reducible refine k1_ 102 H ?_);clear H;intro _ hy H;refine ca_ hF (spec_l09Clean.con E hE hy) ?_;(try (conv => cbv)))
  | ((with_reducible refine k3_ 103 H ?_);clear H;intro _ _ _ hy H;refine ca_ hF (spec_MapBatch.con E hE hy) ?_;(try (conv => cbv)))
  | ((with_reducible refine k2_ 104 H ?_);clear H;intro _ _ hy H;refine ca_ hF (spec_BatchText.con E hE hy) ?_;(try (conv => cbv)))
  | ((with_reducible refine k9_ 105 H ?_);clear H;intro _ _ _ _ _ _ _ _ _ hy H;refine ca_ hF (spec_l10New.con E hE hy) ?_;(try (conv => cbv)))
  | ((with_reducible show Q _ _);exact en_ ⟨[10,11,12],[10],[(11,119)],[(10,0,3),(10,4,3),(10,5,145)]⟩ 66 hQ)
  | contradiction
theorem impl_within.con (E:En) (hE:E = E0) {a0 a1 a2 r} (H:impl_within.f a0 a1 a2 = some (r)) :
  Cn 144 [.c (.int .i64 a0),.c (.int .i64 a1),.c (.int .i64 a2)] [] (.c (.bool r)) [] []:=by
 refine co_ Tryz.func144 tabOk [] fun F hF Q hQ => ?_
 simp only [impl_within.f] at H
 (conv => cbv)
 repeat' first
  | replace H:=s_ H
  | (exfalso;with_reducible assumption)
  | (rw [itn_iff] at H;obtain ⟨hc,H⟩:=H)
  | (rw [itn2_iff] at H;obtain ⟨hc,H⟩:=H)
  | ((with_reducible refine br2 hF H ?_ ?_) <;> (clear H;intro hb H;(try (conv => cbv))))
  | (refine w_ hF ?_;(try (conv => cbv)))
  | ((with_reducible show Q _ _);exact en_ ⟨[6],[],[],[]⟩ 15 hQ)
  | contradiction
theorem impl_DiskOk.con (E:En) (hE:E = E0) {k l0_0 r} (H:impl_DiskOk.f k l0_0 = some (r)) :
  Cn 78 [.agg [.c (.sl [.str,.str] (E.e122 l0_0))]] [] (.c (.bool r)) [] []:=by
 refine co_ Tryz.func78 tabOk [] fun F hF Q hQ => ?_
 simp only [impl_DiskOk.f] at H
 (conv => cbv)
 repeat' first
  | replace H:=s_ H
  | (exfalso;with_reducible assumption)
  | (rw [itn_iff] at H;obtain ⟨hc,H⟩:=H)
  | (rw [itn2_iff] at H;obtain ⟨hc,H⟩:=H)
  | ((with_reducible refine br2 hF H ?_ ?_) <;> (clear H;intro hb H;(try (conv => cbv))))
  | (refine w_ hF ?_;(try (conv => cbv)))
  | ((with_reducible refine k1_ 144 H ?_);clear H;intro _ hy H;refine ca_ hF (impl_within.con E hE hy) ?_;(try (conv => cbv)))
  | ((with_reducible refine lo_ hF (fun n t => n≤k∧∃ x6 x7 x8 v0,t = At 45 [(1,.ptr 1 0),(6,.c (.sl [.str,.str] (E.e122 x6))),(7,.c (.int .i64 x7)),(8,.c (.int .i64 x8))] [(1,.box [.c (.sl [.str,.str] (E.e122 v0))])]∧impl_DiskOk.l0 n x6 x7 x8 v0 = some (r)) ⟨[1,6,7,8],[1],[],[]⟩ fun n0 t ht Q0 hN0 hX0 => ?_);obtain ⟨hl,_,_,_,_,rfl,H⟩:=ht;rcases n0 with _ | n0;cases H;simp only [impl_DiskOk.l0] at H;(try (conv => cbv)))
  | ((with_reducible show Q0 _ _);first | exact nx_ hN0 | (refine xt_ hX0 ?_;(try (conv => cbv))))
  | ((with_reducible show Q _ _);exact en_ ⟨[2],[],[],[]⟩ 45 hQ)
  | contradiction
theorem impl_fileNo_c1.con (E:En) (hE:E = E0) {a0_0 a0_1 a1 r} (H:impl_fileNo_c1.f a0_0 a0_1 a1 = some r) :
  Cn 201 [.agg [.c (.str a0_0),.c (.str a0_1)],.c (.str a1)] [] (.c (.int .i64 r)) [] []:=by
 refine co_ Tryz.func201 tabOkM [] fun F hF Q hQ => ?_
 simp only [impl_fileNo_c1.f] at H
 (conv => cbv)
 repeat' first
  | replace H:=s_ H
  | (exfalso;with_reducible assumption)
  | (rw [itn_iff] at H;obtain ⟨hc,H⟩:=H)
  | (rw [itn2_iff] at H;obtain ⟨hc,H⟩:=H)
  | ((with_reducible refine br2 hF H ?_ ?_) <;> (clear H;intro hb H;(try (conv => cbv))))
  | (refine w_ hF ?_;(try (conv => cbv)))
  | ((with_reducible refine k1_ 168 H ?_);clear H;intro _ hy H;refine ca_ hF (strings_Compare.con E hE hy) ?_;(try (conv => cbv)))
  | ((with_reducible show Q _ _);exact en_ ⟨[4],[],[],[]⟩ 9 hQ)
  | contradiction
theorem slices_BinarySearchFunc_impl_File_impl_File_string.con (E:En) (hE:E = E0) {k l0 a1 r1 r2} (H:slices_BinarySearchFunc_impl_File_impl_File_string.f k l0 a1 = some (r1,r2)) :
  Cn 200 [.c (.sl [.str,.str] (E.e122 l0)),.c (.str a1),.c (.fn 201)] [] (.tup [.c (.int .i64 r1),.c (.bool r2)]) [] []:=by
 refine co_ Tryz.func200 tabOkM [] fun F hF Q hQ => ?_
 simp only [slices_BinarySearchFunc_impl_File_impl_File_string.f] at H
 (conv => cbv)
 repeat' first
  | replace H:=s_ H
  | (exfalso;with_reducible assumption)
  | (rw [itn_iff] at H;obtain ⟨hc,H⟩:=H)
  | (rw [itn2_iff] at H;obtain ⟨hc,H⟩:=H)
  | ((with_reducible refine br2 hF H ?_ ?_) <;> (clear H;intro hb H;(try (conv => cbv))))
  | (refine w_ hF ?_;(try (conv => cbv)))
  | ((with_reducible refine k1_ 201 H ?_);clear H;intro _ hy H;refine ca_ hF (impl_fileNo_c1.con E hE hy) ?_;(try (conv => cbv)))
  | ((with_reducible refine lo_ hF (fun n t => n≤k∧∃ x0 x1 x8 x9 x10,t = At 49 [(0,.c (.sl [.str,.str] (E.e122 x0))),(1,.c (.str x1)),(2,.c (.fn 201)),(8,.c (.int .i64 x8)),(9,.c (.int .i64 x9)),(10,.c (.int .i64 x10))] []∧slices_BinarySearchFunc_impl_File_impl_File_string.l0 n x0 x1 x8 x9 x10 = some (r1,r2)) ⟨[0,1,2,8,9,10],[],[],[]⟩ fun n0 t ht Q0 hN0 hX0 => ?_);obtain ⟨hl,_,_,_,_,_,rfl,H⟩:=ht;rcases n0 with _ | n0;cases H;simp only [slices_BinarySearchFunc_impl_File_impl_File_string.l0] at H;(try (conv => cbv)))
  | ((with_reducible show Q0 _ _);first | exact nx_ hN0 | (refine xt_ hX0 ?_;(try (conv => cbv))))
  | ((with_reducible show Q _ _);exact en_ ⟨[6,7],[],[],[]⟩ 49 hQ)
  | contradiction
theorem impl_fileNo.con (E:En) (hE:E = E0) {k l0_0 a1 r1 r2} (H:impl_fileNo.f k l0_0 a1 = some (r1,r2)) :
  Cn 143 [.agg [.c (.sl [.str,.str] (E.e122 l0_0))],.c (.str a1)] [] (.tup [.c (.int .i64 r1),.c (.bool r2)]) [] []:=by
 refine co_ Tryz.func143 tabOkM [] fun F hF Q hQ => ?_
 simp only [impl_fileNo.f] at H
 (conv => cbv)
 repeat' first
  | replace H:=s_ H
  | (exfalso;with_reducible assumption)
  | (rw [itn_iff] at H;obtain ⟨hc,H⟩:=H)
  | (rw [itn2_iff] at H;obtain ⟨hc,H⟩:=H)
  | ((with_reducible refine br2 hF H ?_ ?_) <;> (clear H;intro hb H;(try (conv => cbv))))
  | (refine w_ hF ?_;(try (conv => cbv)))
  | ((with_reducible refine k2_ 200 H ?_);clear H;intro _ _ hy H;refine ca_ hF (slices_BinarySearchFunc_impl_File_impl_File_string.con E hE hy) ?_;(try (conv => cbv)))
  | ((with_reducible show Q _ _);exact en_ ⟨[4,5],[],[],[]⟩ 12 hQ)
  | contradiction
theorem impl_FileAt.con (E:En) (hE:E = E0) {k l0_0 a1 r1 r2} (H:impl_FileAt.f k l0_0 a1 = some (r1,r2)) :
  Cn 68 [.agg [.c (.sl [.str,.str] (E.e122 l0_0))],.c (.str a1)] [] (.tup [.c (.str r1),.c (.bool r2)]) [] []:=by
 refine co_ Tryz.func68 tabOkM [] fun F hF Q hQ => ?_
 simp only [impl_FileAt.f] at H
 (conv => cbv)
 repeat' first
  | replace H:=s_ H
  | (exfalso;with_reducible assumption)
  | (rw [itn_iff] at H;obtain ⟨hc,H⟩:=H)
  | (rw [itn2_iff] at H;obtain ⟨hc,H⟩:=H)
  | ((with_reducible refine br2 hF H ?_ ?_) <;> (clear H;intro hb H;(try (conv => cbv))))
  | (refine w_ hF ?_;(try (conv => cbv)))
  | ((with_reducible refine k1_ 78 H ?_);clear H;intro _ hy H;refine ca_ hF (impl_DiskOk.con E hE hy) ?_;(try (conv => cbv)))
  | ((with_reducible refine k2_ 143 H ?_);clear H;intro _ _ hy H;refine ca_ hF (impl_fileNo.con E hE hy) ?_;(try (conv => cbv)))
  | ((with_reducible show Q _ _);exact en_ ⟨[4,5],[],[],[]⟩ 25 hQ)
  | contradiction
theorem impl_SumMore.con (E:En) (hE:E = E0) {k a0 a1 r} (H:impl_SumMore.f k a0 a1 = some (r)) :
  Cn 218 [.c (.int .u32 a0),.c (.str a1)] [] (.c (.int .u32 r)) [] []:=by
 refine co_ Tryz.func218 tabOk [] fun F hF Q hQ => ?_
 simp only [impl_SumMore.f] at H
 (conv => cbv)
 repeat' first
  | replace H:=s_ H
  | (exfalso;with_reducible assumption)
  | (rw [itn_iff] at H;obtain ⟨hc,H⟩:=H)
  | (rw [itn2_iff] at H;obtain ⟨hc,H⟩:=H)
  | ((with_reducible refine br2 hF H ?_ ?_) <;> (clear H;intro hb H;(try (conv => cbv))))
  | (refine w_ hF ?_;(try (conv => cbv)))
  | ((with_reducible refine lo_ hF (fun n t => n≤k∧∃ x0 x1 x5,t = At 33 [(0,.c (.int .u32 x0)),(1,.c (.str x1)),(5,.c (.int .i64 x5))] []∧impl_SumMore.l0 n x0 x1 x5 = some (r)) ⟨[0,1,5],[],[],[]⟩ fun n0 t ht Q0 hN0 hX0 => ?_);obtain ⟨hl,_,_,_,rfl,H⟩:=ht;rcases n0 with _ | n0;cases H;simp only [impl_SumMore.l0] at H;(try (conv => cbv)))
  | ((with_reducible show Q0 _ _);first | exact nx_ hN0 | (refine xt_ hX0 ?_;(try (conv => cbv))))
  | ((with_reducible refine lo_ hF (fun n t => n≤n0∧∃ x0 x1 x5 x6,t = At 33 [(0,.c (.int .u32 x0)),(1,.c (.str x1)),(5,.c (.int .i64 x5)),(6,.c (.int .i64 x6))] []∧impl_SumMore.l1 n x0 x1 x5 x6 = some (r)) ⟨[0,1,5,6],[],[],[]⟩ fun n1 t ht Q1 hN1 hX1 => ?_);obtain ⟨hl,_,_,_,_,rfl,H⟩:=ht;rcases n1 with _ | n1;cases H;simp only [impl_SumMore.l1] at H;(try (conv => cbv)))
  | ((with_reducible show Q1 _ _);first | exact nx_ hN1 | (refine xt_ hX1 ?_;(try (conv => cbv))))
  | ((with_reducible show Q _ _);exact en_ ⟨[4],[],[],[]⟩ 33 hQ)
  | contradiction
theorem impl_SumOf.con (E:En) (hE:E = E0) {k a0 r} (H:impl_SumOf.f k a0 = some (r)) :
  Cn 184 [.c (.str a0)] [] (.c (.int .u32 r)) [] []:=by
 refine co_ Tryz.func184 tabOk [] fun F hF Q hQ => ?_
 simp only [impl_SumOf.f] at H
 (conv => cbv)
 repeat' first
  | replace H:=s_ H
  | (exfalso;with_reducible assumption)
  | (rw [itn_iff] at H;obtain ⟨hc,H⟩:=H)
  | (rw [itn2_iff] at H;obtain ⟨hc,H⟩:=H)
  | ((with_reducible refine br2 hF H ?_ ?_) <;> (clear H;intro hb H;(try (conv => cbv))))
  | (refine w_ hF ?_;(try (conv => cbv)))
  | ((with_reducible refine k1_ 218 H ?_);clear H;intro _ hy H;refine ca_ hF (impl_SumMore.con E hE hy) ?_;(try (conv => cbv)))
  | ((with_reducible show Q _ _);exact en_ ⟨[2],[],[],[]⟩ 5 hQ)
  | contradiction
theorem impl_Sealed.con (E:En) (hE:E = E0) {k a0 r1 r2} (H:impl_Sealed.f k a0 = some (r1,r2)) :
  Cn 208 [.c (.str a0)] [] (.tup [.c (.str r1),.c (.bool r2)]) [] []:=by
 refine co_ Tryz.func208 tabOk [] fun F hF Q hQ => ?_
 simp only [impl_Sealed.f] at H
 (conv => cbv)
 repeat' first
  | replace H:=s_ H
  | (exfalso;with_reducible assumption)
  | (rw [itn_iff] at H;obtain ⟨hc,H⟩:=H)
  | (rw [itn2_iff] at H;obtain ⟨hc,H⟩:=H)
  | ((with_reducible refine br2 hF H ?_ ?_) <;> (clear H;intro hb H;(try (conv => cbv))))
  | (refine w_ hF ?_;(try (conv => cbv)))
  | ((with_reducible refine k1_ 184 H ?_);clear H;intro _ hy H;refine ca_ hF (impl_SumOf.con E hE hy) ?_;(try (conv => cbv)))
  | ((with_reducible show Q _ _);exact en_ ⟨[2,3],[],[],[]⟩ 25 hQ)
  | contradiction
theorem impl_Unsealed.con (E:En) (hE:E = E0) {k a0 r1 r2} (H:impl_Unsealed.f k a0 = some (r1,r2)) :
  Cn 155 [.c (.str a0)] [] (.tup [.c (.str r1),.c (.bool r2)]) [] []:=by
 refine co_ Tryz.func155 tabOk [] fun F hF Q hQ => ?_
 simp only [impl_Unsealed.f] at H
 (conv => cbv)
 repeat' first
  | replace H:=s_ H
  | (exfalso;with_reducible assumption)
  | (rw [itn_iff] at H;obtain ⟨hc,H⟩:=H)
  | (rw [itn2_iff] at H;obtain ⟨hc,H⟩:=H)
  | ((with_reducible refine br2 hF H ?_ ?_) <;> (clear H;intro hb H;(try (conv => cbv))))
  | (refine w_ hF ?_;(try (conv => cbv)))
  | ((with_reducible refine k2_ 208 H ?_);clear H;intro _ _ hy H;refine ca_ hF (impl_Sealed.con E hE hy) ?_;(try (conv => cbv)))
  | ((with_reducible show Q _ _);exact en_ ⟨[2,3],[],[],[]⟩ 28 hQ)
  | contradiction
theorem impl_VarText.con (E:En) (hE:E = E0) {k a0 r1 r2} (H:impl_VarText.f k a0 = some (r1,r2)) :
  Cn 183 [.c (.int .i64 a0)] [] (.tup [.c (.str r1),.c (.bool r2)]) [] []:=by
 refine co_ Tryz.func183 tabOk [] fun F hF Q hQ => ?_
 simp only [impl_VarText.f] at H
 (conv => cbv)
 repeat' first
  | replace H:=s_ H
  | (exfalso;with_reducible assumption)
  | (rw [itn_iff] at H;obtain ⟨hc,H⟩:=H)
  | (rw [itn2_iff] at H;obtain ⟨hc,H⟩:=H)
  | ((with_reducible refine br2 hF H ?_ ?_) <;> (clear H;intro hb H;(try (conv => cbv))))
  | (refine w_ hF ?_;(try (conv => cbv)))
  | ((with_reducible refine k1_ 144 H ?_);clear H;intro _ hy H;refine ca_ hF (impl_within.con E hE hy) ?_;(try (conv => cbv)))
  | ((with_reducible refine lo_ hF (fun n t => n≤k∧∃ x0 x4,t = At 25 [(0,.c (.int .i64 x0)),(4,.own 20004)] [(20004,.row false 5 [.int .u8] (E.eI .u8 x4))]∧impl_VarText.l0 n x0 x4 = some (r1,r2)) ⟨[0,4],[],[(4,5)],[]⟩ fun n0 t ht Q0 hN0 hX0 => ?_);obtain ⟨hl,_,_,rfl,H⟩:=ht;rcases n0 with _ | n0;cases H;simp only [impl_VarText.l0] at H;(try (conv => cbv)))
  | ((with_reducible show Q0 _ _);first | exact nx_ hN0 | (refine xt_ hX0 ?_;(try (conv => cbv))))
  | ((with_reducible show Q _ _);exact en_ ⟨[2,3],[],[],[]⟩ 25 hQ)
  | contradiction
theorem impl_ReadVar.j1_s {k:Nat} {x0:ByteArray} {x1:Int} {x7:Int} {x8:Int} {x26:Bool} {r:_} (h:impl_ReadVar.j1 k x0 x1 x7 x8 x26 = some r):∃ m,k = m + 1∧impl_ReadVar.j1 (m + 1) x0 x1 x7 x8 x26 = some r:=by
 cases k with
 | zero => simp [impl_ReadVar.j1] at h
 | succ m => exact ⟨m,rfl,h⟩
theorem impl_ReadVar.j1_i {k:Nat} {x0:ByteArray} {x1:Int} {x7:Int} {x8:Int} {x26:Bool} {r:_}:(impl_ReadVar.j1 k x0 x1 x7 x8 x26 = some r) = (∃ m,k = m + 1∧impl_ReadVar.j1 (m + 1) x0 x1 x7 x8 x26 = some r):=propext ⟨impl_ReadVar.j1_s,fun ⟨m,h,h2⟩ => by rw [h];exact h2⟩
theorem impl_ReadVar.con (E:En) (hE:E = E0) {k a0 a1 r1 r2 r3} (H:impl_ReadVar.f k a0 a1 = some (r1,r2,r3)) :
  Cn 203 [.c (.str a0),.c (.int .i64 a1)] [] (.tup [.c (.int .i64 r1),.c (.int .i64 r2),.c (.bool r3)]) [] []:=by
 refine co_ Tryz.func203 tabOk [] fun F hF Q hQ => ?_
 simp only [impl_ReadVar.f] at H
 (conv => cbv)
 repeat' first
  | (rw [impl_ReadVar.j1_i] at H;obtain ⟨m,hm,H⟩:=H;simp only [impl_ReadVar.j1] at H;(try simp only [decide_eq_true_eq,Bool.false_eq_true,if_false,if_true] at H))
  | replace H:=s_ H
  | (exfalso;with_reducible assumption)
  | (rw [itn_iff] at H;obtain ⟨hc,H⟩:=H)
  | (rw [itn2_iff] at H;obtain ⟨hc,H⟩:=H)
  | ((with_reducible refine br2 hF H ?_ ?_) <;> (clear H;intro hb H;(try (conv => cbv))))
  | (refine w_ hF ?_;(try (conv => cbv)))
  | ((with_reducible refine k1_ 144 H ?_);clear H;intro _ hy H;refine ca_ hF (impl_within.con E hE hy) ?_;(try (conv => cbv)))
  | ((with_reducible refine k2_ 183 H ?_);clear H;intro _ _ hy H;refine ca_ hF (impl_VarText.con E hE hy) ?_;(try (conv => cbv)))
  | ((with_reducible refine lo_ hF (fun n t => n≤k∧∃ x0 x1 x7 x8,t = At 63 [(0,.c (.str x0)),(1,.c (.int .i64 x1)),(7,.c (.int .i64 x7)),(8,.c (.int .i64 x8))] []∧impl_ReadVar.l0 n x0 x1 x7 x8 = some (r1,r2,r3)) ⟨[0,1,7,8],[],[],[]⟩ fun n0 t ht Q0 hN0 hX0 => ?_);obtain ⟨hl,_,_,_,_,rfl,H⟩:=ht;rcases n0 with _ | n0;cases H;simp only [impl_ReadVar.l0] at H;(try (conv => cbv)))
  | ((with_reducible show Q0 _ _);first | exact nx_ hN0 | (refine xt_ hX0 ?_;(try (conv => cbv))))
  | ((with_reducible show Q _ _);exact en_ ⟨[4,5,6],[],[],[]⟩ 63 hQ)
  | contradiction
end Go.Ev
