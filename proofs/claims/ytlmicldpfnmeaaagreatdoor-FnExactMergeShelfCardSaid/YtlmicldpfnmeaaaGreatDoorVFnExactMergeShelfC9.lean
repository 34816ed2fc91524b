/- Contracts of the Go functions that this law reaches: what each call returns, by its plain function. No conditions but those that each statement names. By this repo's programs; comments are taken out. -/
import Derived.Test.YtlmicldpfnmeaaaGreatDoorVFnExactMergeShelfD
import Derived.Test.YtlmicldpfnmeaaaGreatDoorVFnExactMergeShelfK
import Derived.Test.YtlmicldpfnmeaaaGreatDoorVFnExactMergeShelfC5
import Derived.Test.YtlmicldpfnmeaaaGreatDoorVFnExactMergeShelfC6
import Derived.Test.YtlmicldpfnmeaaaGreatDoorVFnExactMergeShelfC7
import Derived.Test.YtlmicldpfnmeaaaGreatDoorVFnExactMergeShelfC8
set_option linter.all false
namespace Go.Ev
open Go.RowKit Go.Proofs Go.Proofs.YtlmicldpfnmeaaaGreatDoorW.PrintWords Go.Proofs.YtlmicldpfnmeaaaGreatDoorW.PrintLast Go.Proofs.YtlmicldpfnmeaaaGreatDoorW.PrintMore
set_option maxRecDepth 100000
set_option maxHeartbeats 4000000
theorem impl_isOpen.con (E:En) (hE:E = E0) {k l0_0 l1_0 a1_1 a1_2 a1_3 l1_4 l1_5 a1_6 r} (H:impl_isOpen.f k l0_0 l1_0 a1_1 a1_2 a1_3 l1_4 l1_5 a1_6 = some r) :
  Cn 97 [.agg [.c (.sl [.str,.str] (E.e122 l0_0))],.agg [.c (.sl [.int .i64] (E.eI .i64 l1_0)),.c (.int .i64 a1_1),.c (.int .i64 a1_2),.c (.int .i64 a1_3),.c (.sl [.int .i64] (E.eI .i64 l1_4)),.c (.sl [.str,.int .i64,.int .i64,.int .i64] (E.e145 l1_5)),.c (.int .i64 a1_6)]] [] (.c (.bool r)) [] []:=by
 refine co_ Tryz.func97 tabOkM [] fun F hF Q hQ => ?_
 simp only [impl_isOpen.f] at H
 (conv => cbv)
 repeat' first
  | replace H:=s_ H
  | (exfalso;with_reducible assumption)
  | (rw [itn_iff] at H;obtain ⟨hc,H⟩:=H)
  | (rw [itn2_iff] at H;obtain ⟨hc,H⟩:=H)
  | ((with_reducible refine br2 hF H ?_ ?_) <;> (clear H;intro hb H;(try (conv => cbv))))
  | (refine w_ hF ?_;(try (conv => cbv)))
  | ((with_reducible refine k9_ 21 H ?_);clear H;intro _ _ _ _ _ _ _ _ _ hy H;refine ca_ hF (impl_OpenShelf.con E hE hy) ?_;(try (conv => cbv)))
  | ((with_reducible refine k1_ 67 H ?_);clear H;intro _ hy H;refine ca_ hF (impl_sameShelf.con E hE hy) ?_;(try (conv => cbv)))
  | ((with_reducible show Q _ _);exact en_ ⟨[4],[],[],[]⟩ 26 hQ)
  | contradiction
theorem impl_ShelfMap.j0_s {k:Nat} {x19:Bool} {x274000:List S122} {x275000:List Int} {x275001:Int} {x275002:Int} {x275003:Int} {x275004:List Int} {x275005:List S145} {x275006:Int} {r:_} (h:impl_ShelfMap.j0 k x19 x274000 x275000 x275001 x275002 x275003 x275004 x275005 x275006 = some r):∃ m,k = m + 1∧impl_ShelfMap.j0 (m + 1) x19 x274000 x275000 x275001 x275002 x275003 x275004 x275005 x275006 = some r:=by
 cases k with
 | zero => simp [impl_ShelfMap.j0] at h
 | succ m => exact ⟨m,rfl,h⟩
theorem impl_ShelfMap.j0_i {k:Nat} {x19:Bool} {x274000:List S122} {x275000:List Int} {x275001:Int} {x275002:Int} {x275003:Int} {x275004:List Int} {x275005:List S145} {x275006:Int} {r:_}:(impl_ShelfMap.j0 k x19 x274000 x275000 x275001 x275002 x275003 x275004 x275005 x275006 = some r) = (∃ m,k = m + 1∧impl_ShelfMap.j0 (m + 1) x19 x274000 x275000 x275001 x275002 x275003 x275004 x275005 x275006 = some r):=propext ⟨impl_ShelfMap.j0_s,fun ⟨m,h,h2⟩ => by rw [h];exact h2⟩
theorem impl_ShelfMap.con (E:En) (hE:E = E0) {k l0_0 l1_0 a1_1 a1_2 a1_3 l1_4 l1_5 a1_6 r1 r2} (H:impl_ShelfMap.f k l0_0 l1_0 a1_1 a1_2 a1_3 l1_4 l1_5 a1_6 = some (r1,r2)) :
  Cn 34 [.agg [.c (.sl [.str,.str] (E.e122 l0_0))],.agg [.c (.sl [.int .i64] (E.eI .i64 l1_0)),.c (.int .i64 a1_1),.c (.int .i64 a1_2),.c (.int .i64 a1_3),.c (.sl [.int .i64] (E.eI .i64 l1_4)),.c (.sl [.str,.int .i64,.int .i64,.int .i64] (E.e145 l1_5)),.c (.int .i64 a1_6)]] [] (.tup [.own 0,.c (.bool r2)]) [.row false 147 [.str,.str] (E.e147 r1)] []:=by
 refine co_ Tryz.func34 tabOk [20004] fun F hF Q hQ => ?_
 simp only [impl_ShelfMap.f] at H
 (conv => cbv)
 repeat' first
  | (rw [impl_ShelfMap.j0_i] at H;obtain ⟨m,hm,H⟩:=H;simp only [impl_ShelfMap.j0] at H;(try simp only [decide_eq_true_eq,Bool.false_eq_true,if_false,if_true] at H))
  | replace H:=s_ H
  | (exfalso;with_reducible assumption)
  | (rw [itn_iff] at H;obtain ⟨hc,H⟩:=H)
  | (rw [itn2_iff] at H;obtain ⟨hc,H⟩:=H)
  | ((with_reducible refine br2 hF H ?_ ?_) <;> (clear H;intro hb H;(try (conv => cbv))))
  | (refine w_ hF ?_;(try (conv => cbv)))
  | ((with_reducible refine k2_ 68 H ?_);clear H;intro _ _ hy H;refine ca_ hF (impl_FileAt.con E hE hy) ?_;(try (conv => cbv)))
  | ((with_reducible refine k1_ 69 H ?_);clear H;intro _ hy H;refine ca_ hF (impl_SegName.con E hE hy) ?_;(try (conv => cbv)))
  | ((with_reducible refine k1_ 78 H ?_);clear H;intro _ hy H;refine ca_ hF (impl_DiskOk.con E hE hy) ?_;(try (conv => cbv)))
  | ((with_reducible refine k1_ 107 H ?_);clear H;intro _ hy H;refine ca_ hF (impl_DirOk.con E hE hy) ?_;(try (conv => cbv)))
  | ((with_reducible refine lo_ hF (fun n t => n≤k∧∃ x6 x21 x22 x23 v0,t = At 60 [(2,.ptr 2 0),(6,.own 20006),(21,.c (.sl [.str,.int .i64,.int .i64,.int .i64] (E.e145 x21))),(22,.c (.int .i64 x22)),(23,.c (.int .i64 x23))] [(2,.box [.c (.sl [.str,.str] (E.e122 v0))]),(20006,.row false 147 [.str,.str] (E.e147 x6))]∧impl_ShelfMap.l0 n x6 x21 x22 x23 v0 = some (r1,r2)) ⟨[2,6,21,22,23],[2],[(6,147)],[]⟩ fun n0 t ht Q0 hN0 hX0 => ?_);obtain ⟨hl,_,_,_,_,_,rfl,H⟩:=ht;rcases n0 with _ | n0;cases H;simp only [impl_ShelfMap.l0] at H;(try (conv => cbv)))
  | ((with_reducible show Q0 _ _);first | exact nx_ hN0 | (refine xt_ hX0 ?_;(try (conv => cbv))))
  | ((with_reducible show Q _ _);exact en_ ⟨[4,5],[],[(4,147)],[]⟩ 60 hQ)
  | contradiction
theorem impl_MapOk.con (E:En) (hE:E = E0) {k l0 r} (H:impl_MapOk.f k l0 = some (r)) :
  Cn 178 [.c (.sl [.str,.str] (E.e147 l0))] [] (.c (.bool r)) [] []:=by
 refine co_ Tryz.func178 tabOk [] fun F hF Q hQ => ?_
 simp only [impl_MapOk.f] at H
 (conv => cbv)
 repeat' first
  | replace H:=s_ H
  | (exfalso;with_reducible assumption)
  | (rw [itn_iff] at H;obtain ⟨hc,H⟩:=H)
  | (rw [itn2_iff] at H;obtain ⟨hc,H⟩:=H)
  | ((with_reducible refine br2 hF H ?_ ?_) <;> (clear H;intro hb H;(try (conv => cbv))))
  | (refine w_ hF ?_;(try (conv => cbv)))
  | ((with_reducible refine k1_ 188 H ?_);clear H;intro _ hy H;refine ca_ hF (impl_keyOk.con E hE hy) ?_;(try (conv => cbv)))
  | ((with_reducible refine lo_ hF (fun n t => n≤k∧∃ x0 x5 x6 x7,t = At 41 [(0,.c (.sl [.str,.str] (E.e147 x0))),(5,.c (.sl [.str,.str] (E.e147 x5))),(6,.c (.int .i64 x6)),(7,.c (.int .i64 x7))] []∧impl_MapOk.l0 n x0 x5 x6 x7 = some (r)) ⟨[0,5,6,7],[],[],[]⟩ fun n0 t ht Q0 hN0 hX0 => ?_);obtain ⟨hl,_,_,_,_,rfl,H⟩:=ht;rcases n0 with _ | n0;cases H;simp only [impl_MapOk.l0] at H;(try (conv => cbv)))
  | ((with_reducible show Q0 _ _);first | exact nx_ hN0 | (refine xt_ hX0 ?_;(try (conv => cbv))))
  | ((with_reducible show Q _ _);exact en_ ⟨[2],[],[],[]⟩ 41 hQ)
  | contradiction
theorem impl_MapBatch.con (E:En) (hE:E = E0) {k l0 a1 r1 r2 r3} (H:impl_MapBatch.f k l0 a1 = some (r1,r2,r3)) :
  Cn 98 [.c (.sl [.str,.str] (E.e147 l0)),.c (.int .i64 a1)] [] (.tup [.agg [.c (.int .i64 r1),.own 0],.c (.bool r3)]) [.row false 162 [.str,.str,.bool] (E.e162 r2)] []:=by
 refine co_ Tryz.func98 tabOk [400081] fun F hF Q hQ => ?_
 simp only [impl_MapBatch.f] at H
 (conv => cbv)
 repeat' first
  | replace H:=s_ H
  | (exfalso;with_reducible assumption)
  | (rw [itn_iff] at H;obtain ⟨hc,H⟩:=H)
  | (rw [itn2_iff] at H;obtain ⟨hc,H⟩:=H)
  | ((with_reducible refine br2 hF H ?_ ?_) <;> (clear H;intro hb H;(try (conv => cbv))))
  | (refine w_ hF ?_;(try (conv => cbv)))
  | ((with_reducible refine k1_ 178 H ?_);clear H;intro _ hy H;refine ca_ hF (impl_MapOk.con E hE hy) ?_;(try (conv => cbv)))
  | ((with_reducible refine k1_ 179 H ?_);clear H;intro _ hy H;refine ca_ hF (impl_BatchOk.con E hE hy) ?_;(try (conv => cbv)))
  | ((with_reducible refine lo_ hF (fun n t => n≤k∧∃ x0 x11 x12 x13 v0 v1,t = At 38 [(0,.c (.sl [.str,.str] (E.e147 x0))),(4,.ptr 4 0),(6,.ptr 6 0),(11,.c (.sl [.str,.str] (E.e147 x11))),(12,.c (.int .i64 x12)),(13,.c (.int .i64 x13))] [(4,.box [.c (.int .i64 0),.own 400081]),(6,.box [.c (.int .i64 v0),.own 400121]),(400081,.row false 162 [.str,.str,.bool] []),(400121,.row false 162 [.str,.str,.bool] (E.e162 v1))]∧impl_MapBatch.l0 n x0 x11 x12 x13 v0 v1 = some (r1,r2,r3)) ⟨[0,4,6,11,12,13],[4,6],[],[(4,1,162),(6,1,162)]⟩ fun n0 t ht Q0 hN0 hX0 => ?_);obtain ⟨hl,_,_,_,_,_,_,rfl,H⟩:=ht;rcases n0 with _ | n0;cases H;simp only [impl_MapBatch.l0] at H;(try (conv => cbv)))
  | ((with_reducible show Q0 _ _);first | exact nx_ hN0 | (refine xt_ hX0 ?_;(try (conv => cbv))))
  | ((with_reducible show Q _ _);exact en_ ⟨[4,5],[4],[],[(4,1,162)]⟩ 38 hQ)
  | contradiction
theorem impl_ManifestText.con (E:En) (hE:E = E0) {k l0_0 a0_1 a0_2 a0_3 l0_4 r1 r2} (H:impl_ManifestText.f k l0_0 a0_1 a0_2 a0_3 l0_4 = some (r1,r2)) :
  Cn 192 [.agg [.c (.sl [.int .i64] (E.eI .i64 l0_0)),.c (.int .i64 a0_1),.c (.int .i64 a0_2),.c (.int .i64 a0_3),.c (.sl [.int .i64] (E.eI .i64 l0_4))]] [] (.tup [.c (.str r1),.c (.bool r2)]) [] []:=by
 refine co_ Tryz.func192 tabOkM [] fun F hF Q hQ => ?_
 simp only [impl_ManifestText.f] at H
 (conv => cbv)
 repeat' first
  | replace H:=s_ H
  | (exfalso;with_reducible assumption)
  | (rw [itn_iff] at H;obtain ⟨hc,H⟩:=H)
  | (rw [itn2_iff] at H;obtain ⟨hc,H⟩:=H)
  | ((with_reducible refine br2 hF H ?_ ?_) <;> (clear H;intro hb H;(try (conv => cbv))))
  | (refine w_ hF ?_;(try (conv => cbv)))
  | ((with_reducible refine k1_ 161 H ?_);clear H;intro _ hy H;refine ca_ hF (impl_ManifestOk.con E hE hy) ?_;(try (conv => cbv)))
  | ((with_reducible refine k1_ 223 H ?_);clear H;intro _ hy H;refine ca_ hF (slices_Concat_int_int.con E hE hy) ?_;(try (conv => cbv)))
  | ((with_reducible refine k2_ 180 H ?_);clear H;intro _ _ hy H;refine ca_ hF (impl_vars.con E hE hy) ?_;(try (conv => cbv)))
  | ((with_reducible refine k2_ 208 H ?_);clear H;intro _ _ hy H;refine ca_ hF (impl_Sealed.con E hE hy) ?_;(try (conv => cbv)))
  | ((with_reducible show Q _ _);exact en_ ⟨[2,3],[],[],[]⟩ 39 hQ)
  | contradiction
theorem impl_renewed.con (E:En) (hE:E = E0) {k l0_0 a0_1 a0_2 a0_3 l0_4 r1 r2} (H:impl_renewed.f k l0_0 a0_1 a0_2 a0_3 l0_4 = some (r1,r2)) :
  Cn 111 [.agg [.c (.sl [.int .i64] (E.eI .i64 l0_0)),.c (.int .i64 a0_1),.c (.int .i64 a0_2),.c (.int .i64 a0_3),.c (.sl [.int .i64] (E.eI .i64 l0_4))]] [] (.tup [.own 0,.c (.bool r2)]) [.row false 119 [.int .i64,.str,.str,.str] (E.e119 r1)] []:=by
 refine co_ Tryz.func111 tabOk [20002] fun F hF Q hQ => ?_
 simp only [impl_renewed.f] at H
 (conv => cbv)
 repeat' first
  | replace H:=s_ H
  | (exfalso;with_reducible assumption)
  | (rw [itn_iff] at H;obtain ⟨hc,H⟩:=H)
  | (rw [itn2_iff] at H;obtain ⟨hc,H⟩:=H)
  | ((with_reducible refine br2 hF H ?_ ?_) <;> (clear H;intro hb H;(try (conv => cbv))))
  | (refine w_ hF ?_;(try (conv => cbv)))
  | ((with_reducible refine k2_ 192 H ?_);clear H;intro _ _ hy H;refine ca_ hF (impl_ManifestText.con E hE hy) ?_;(try (conv => cbv)))
  | ((with_reducible show Q _ _);exact en_ ⟨[2,3],[],[(2,119)],[]⟩ 16 hQ)
  | contradiction
theorem impl_copyDisk.con (E:En) (hE:E = E0) {l0_0 r} (H:impl_copyDisk.f l0_0 = some r) :
  Cn 221 [.agg [.c (.sl [.str,.str] (E.e122 l0_0))]] [] (.agg [.own 0]) [.row false 122 [.str,.str] (E.e122 r)] []:=by
 refine co_ Tryz.func221 tabOkM [400040] fun F hF Q hQ => ?_
 simp only [impl_copyDisk.f] at H
 (conv => cbv)
 repeat' first
  | replace H:=s_ H
  | (exfalso;with_reducible assumption)
  | (rw [itn_iff] at H;obtain ⟨hc,H⟩:=H)
  | (rw [itn2_iff] at H;obtain ⟨hc,H⟩:=H)
  | ((with_reducible refine br2 hF H ?_ ?_) <;> (clear H;intro hb H;(try (conv => cbv))))
  | (refine w_ hF ?_;(try (conv => cbv)))
  | ((with_reducible show Q _ _);exact en_ ⟨[2],[2],[],[(2,0,122)]⟩ 7 hQ)
  | contradiction
theorem impl_withFile.con (E:En) (hE:E = E0) {k l0_0 a1 a2 r} (H:impl_withFile.f k l0_0 a1 a2 = some r) :
  Cn 230 [.agg [.c (.sl [.str,.str] (E.e122 l0_0))],.c (.str a1),.c (.str a2)] [] (.agg [.own 0]) [.row false 122 [.str,.str] (E.e122 r)] []:=by
 refine co_ Tryz.func230 tabOkM [400120] fun F hF Q hQ => ?_
 simp only [impl_withFile.f] at H
 (conv => cbv)
 repeat' first
  | replace H:=s_ H
  | (exfalso;with_reducible assumption)
  | (rw [itn_iff] at H;obtain ⟨hc,H⟩:=H)
  | (rw [itn2_iff] at H;obtain ⟨hc,H⟩:=H)
  | ((with_reducible refine br2 hF H ?_ ?_) <;> (clear H;intro hb H;(try (conv => cbv))))
  | (refine w_ hF ?_;(try (conv => cbv)))
  | ((with_reducible refine k1_ 221 H ?_);clear H;intro _ hy H;refine ca_ hF (impl_copyDisk.con E hE hy) ?_;(try (conv => cbv)))
  | ((with_reducible refine k2_ 143 H ?_);clear H;intro _ _ hy H;refine ca_ hF (impl_fileNo.con E hE hy) ?_;(try (conv => cbv)))
  | ((with_reducible refine k2_ 238 H ?_);clear H;intro _ _ hy H;refine ca_ hF (slices_Insert_impl_File_impl_File.con E hE hy) ?_;(try (conv => cbv)))
  | ((with_reducible show Q _ _);exact en_ ⟨[6],[6],[],[(6,0,122)]⟩ 35 hQ)
  | contradiction
theorem impl_without.con (E:En) (hE:E = E0) {k l0_0 a1 r} (H:impl_without.f k l0_0 a1 = some r) :
  Cn 231 [.agg [.c (.sl [.str,.str] (E.e122 l0_0))],.c (.str a1)] [] (.agg [.own 0]) [.row false 122 [.str,.str] (E.e122 r)] []:=by
 refine co_ Tryz.func231 tabOkM [400080] fun F hF Q hQ => ?_
 simp only [impl_without.f] at H
 (conv => cbv)
 repeat' first
  | replace H:=s_ H
  | (exfalso;with_reducible assumption)
  | (rw [itn_iff] at H;obtain ⟨hc,H⟩:=H)
  | (rw [itn2_iff] at H;obtain ⟨hc,H⟩:=H)
  | ((with_reducible refine br2 hF H ?_ ?_) <;> (clear H;intro hb H;(try (conv => cbv))))
  | (refine w_ hF ?_;(try (conv => cbv)))
  | ((with_reducible refine k1_ 221 H ?_);clear H;intro _ hy H;refine ca_ hF (impl_copyDisk.con E hE hy) ?_;(try (conv => cbv)))
  | ((with_reducible refine k2_ 143 H ?_);clear H;intro _ _ hy H;refine ca_ hF (impl_fileNo.con E hE hy) ?_;(try (conv => cbv)))
  | ((with_reducible refine k1_ 239 H ?_);clear H;intro _ hy H;refine ca_ hF (slices_Delete_impl_File_impl_File.con E hE hy) ?_;(try (conv => cbv)))
  | ((with_reducible show Q _ _);exact en_ ⟨[4],[4],[],[(4,0,122)]⟩ 25 hQ)
  | contradiction
theorem impl_PutRaw.con (E:En) (hE:E = E0) {k l0_0 a1_0 a1_1 a1_2 a1_3 r1 r2} (H:impl_PutRaw.f k l0_0 a1_0 a1_1 a1_2 a1_3 = some (r1,r2)) :
  Cn 222 [.agg [.c (.sl [.str,.str] (E.e122 l0_0))],.agg [.c (.int .i64 a1_0),.c (.str a1_1),.c (.str a1_2),.c (.str a1_3)]] [] (.tup [.agg [.own 0],.c (.bool r2)]) [.row false 122 [.str,.str] (E.e122 r1)] []:=by
 refine co_ Tryz.func222 tabOkM [400080] fun F hF Q hQ => ?_
 simp only [impl_PutRaw.f] at H
 (conv => cbv)
 repeat' first
  | replace H:=s_ H
  | (exfalso;with_reducible assumption)
  | (rw [itn_iff] at H;obtain ⟨hc,H⟩:=H)
  | (rw [itn2_iff] at H;obtain ⟨hc,H⟩:=H)
  | ((with_reducible refine br2 hF H ?_ ?_) <;> (clear H;intro hb H;(try (conv => cbv))))
  | (refine w_ hF ?_;(try (conv => cbv)))
  | ((with_reducible refine k1_ 78 H ?_);clear H;intro _ hy H;refine ca_ hF (impl_DiskOk.con E hE hy) ?_;(try (conv => cbv)))
  | ((with_reducible refine k2_ 68 H ?_);clear H;intro _ _ hy H;refine ca_ hF (impl_FileAt.con E hE hy) ?_;(try (conv => cbv)))
  | ((with_reducible refine k1_ 230 H ?_);clear H;intro _ hy H;refine ca_ hF (impl_withFile.con E hE hy) ?_;(try (conv => cbv)))
  | ((with_reducible refine k1_ 221 H ?_);clear H;intro _ hy H;refine ca_ hF (impl_copyDisk.con E hE hy) ?_;(try (conv => cbv)))
  | ((with_reducible refine k1_ 231 H ?_);clear H;intro _ hy H;refine ca_ hF (impl_without.con E hE hy) ?_;(try (conv => cbv)))
  | ((with_reducible show Q _ _);exact en_ ⟨[4,5],[4],[],[(4,0,122)]⟩ 73 hQ)
  | contradiction
theorem impl_PutRaws.con (E:En) (hE:E = E0) {k l0_0 l1 r1 r2} (H:impl_PutRaws.f k l0_0 l1 = some (r1,r2)) :
  Cn 191 [.agg [.c (.sl [.str,.str] (E.e122 l0_0))],.c (.sl [.int .i64,.str,.str,.str] (E.e119 l1))] [] (.tup [.agg [.own 0],.c (.int .i64 r2)]) [.row false 122 [.str,.str] (E.e122 r1)] []:=by
 refine co_ Tryz.func191 tabOkM [400080] fun F hF Q hQ => ?_
 simp only [impl_PutRaws.f] at H
 (conv => cbv)
 repeat' first
  | replace H:=s_ H
  | (exfalso;with_reducible assumption)
  | (rw [itn_iff] at H;obtain ⟨hc,H⟩:=H)
  | (rw [itn2_iff] at H;obtain ⟨hc,H⟩:=H)
  | ((with_reducible refine br2 hF H ?_ ?_) <;> (clear H;intro hb H;(try (conv => cbv))))
  | (refine w_ hF ?_;(try (conv => cbv)))
  | ((with_reducible refine k1_ 78 H ?_);clear H;intro _ hy H;refine ca_ hF (impl_DiskOk.con E hE hy) ?_;(try (conv => cbv)))
  | ((with_reducible refine k1_ 221 H ?_);clear H;intro _ hy H;refine ca_ hF (impl_copyDisk.con E hE hy) ?_;(try (conv => cbv)))
  | ((with_reducible refine k2_ 222 H ?_);clear H;intro _ _ hy H;refine ca_ hF (impl_PutRaw.con E hE hy) ?_;(try (conv => cbv)))
  | ((with_reducible refine lo_ hF (fun n t => n≤k∧∃ x1 x22 x23 x24 v0 v1,t = At 44 [(1,.c (.sl [.int .i64,.str,.str,.str] (E.e119 x1))),(4,.ptr 4 0),(6,.ptr 6 0),(22,.c (.sl [.int .i64,.str,.str,.str] (E.e119 x22))),(23,.c (.int .i64 x23)),(24,.c (.int .i64 x24))] [(4,.box [.own 400080]),(6,.box [.own 400120]),(400080,.row false 122 [.str,.str] (E.e122 v0)),(400120,.row false 122 [.str,.str] (E.e122 v1))]∧impl_PutRaws.l0 n x1 x22 x23 x24 v0 v1 = some (r1,r2)) ⟨[1,4,6,22,23,24],[4,6],[],[(4,0,122),(6,0,122)]⟩ fun n0 t ht Q0 hN0 hX0 => ?_);obtain ⟨hl,_,_,_,_,_,_,rfl,H⟩:=ht;rcases n0 with _ | n0;cases H;simp only [impl_PutRaws.l0] at H;(try (conv => cbv)))
  | ((with_reducible show Q0 _ _);first | exact nx_ hN0 | (refine xt_ hX0 ?_;(try (conv => cbv))))
  | ((with_reducible show Q _ _);exact en_ ⟨[4,5],[4],[],[(4,0,122)]⟩ 44 hQ)
  | contradiction
theorem impl_behind.con (E:En) (hE:E = E0) {k l0_0 l1 r1 r2 r3 r4 r5 r6 r7 r8 r9} (H:impl_behind.f k l0_0 l1 = some (r1,r2,r3,r4,r5,r6,r7,r8,r9)) :
  Cn 109 [.agg [.c (.sl [.str,.str] (E.e122 l0_0))],.own 10000] [.row false 119 [.int .i64,.str,.str,.str] (E.e119 l1)] (.tup [.agg [.own 0,.c (.int .i64 r2),.c (.int .i64 r3),.c (.int .i64 r4),.own 1,.own 2,.c (.int .i64 r7)],.own 3,.c (.bool r9)]) [.row false 3 [.int .i64] (E.eI .i64 r1),.row false 3 [.int .i64] (E.eI .i64 r5),.row false 145 [.str,.int .i64,.int .i64,.int .i64] (E.e145 r6),.row false 119 [.int .i64,.str,.str,.str] (E.e119 r8)] [.gone]:=by
 refine co_ Tryz.func109 tabOkM [400080,400084,400085,20005] fun F hF Q hQ => ?_
 simp only [impl_behind.f] at H
 (conv => cbv)
 repeat' first
  | replace H:=s_ H
  | (exfalso;with_reducible assumption)
  | (rw [itn_iff] at H;obtain ⟨hc,H⟩:=H)
  | (rw [itn2_iff] at H;obtain ⟨hc,H⟩:=H)
  | ((with_reducible refine br2 hF H ?_ ?_) <;> (clear H;intro hb H;(try (conv => cbv))))
  | (refine w_ hF ?_;(try (conv => cbv)))
  | ((with_reducible refine k2_ 191 H ?_);clear H;intro _ _ hy H;refine ca_ hF (impl_PutRaws.con E hE hy) ?_;(try (conv => cbv)))
  | ((with_reducible refine k9_ 21 H ?_);clear H;intro _ _ _ _ _ _ _ _ _ hy H;refine ca_ hF (impl_OpenShelf.con E hE hy) ?_;(try (conv => cbv)))
  | ((with_reducible show Q _ _);exact en_ ⟨[4,5,6],[4],[(5,119)],[(4,0,3),(4,4,3),(4,5,145),(10000,0,0)]⟩ 40 hQ)
  | contradiction
theorem impl_merged.con (E:En) (hE:E = E0) {k l0_0 l1_0 a1_1 a1_2 a1_3 l1_4 l1_5 a1_6 a2 a3 a4 l5 r1 r2 r3 r4 r5 r6 r7 r8 r9} (H:impl_merged.f k l0_0 l1_0 a1_1 a1_2 a1_3 l1_4 l1_5 a1_6 a2 a3 a4 l5 = some (r1,r2,r3,r4,r5,r6,r7,r8,r9)) :
  Cn 101 [.agg [.c (.sl [.str,.str] (E.e122 l0_0))],.agg [.c (.sl [.int .i64] (E.eI .i64 l1_0)),.c (.int .i64 a1_1),.c (.int .i64 a1_2),.c (.int .i64 a1_3),.c (.sl [.int .i64] (E.eI .i64 l1_4)),.c (.sl [.str,.int .i64,.int .i64,.int .i64] (E.e145 l1_5)),.c (.int .i64 a1_6)],.c (.str a2),.c (.int .i64 a3),.c (.int .i64 a4),.c (.sl [.int .i64] (E.eI .i64 l5))] [] (.tup [.agg [.own 0,.c (.int .i64 r2),.c (.int .i64 r3),.c (.int .i64 r4),.own 1,.own 2,.c (.int .i64 r7)],.own 3,.c (.bool r9)]) [.row false 3 [.int .i64] (E.eI .i64 r1),.row false 3 [.int .i64] (E.eI .i64 r5),.row false 145 [.str,.int .i64,.int .i64,.int .i64] (E.e145 r6),.row false 119 [.int .i64,.str,.str,.str] (E.e119 r8)] []:=by
 refine co_ Tryz.func101 tabOkM [400240,400244,400245,20013] fun F hF Q hQ => ?_
 simp only [impl_merged.f] at H
 (conv => cbv)
 repeat' first
  | replace H:=s_ H
  | (exfalso;with_reducible assumption)
  | (rw [itn_iff] at H;obtain ⟨hc,H⟩:=H)
  | (rw [itn2_iff] at H;obtain ⟨hc,H⟩:=H)
  | ((with_reducible refine br2 hF H ?_ ?_) <;> (clear H;intro hb H;(try (conv => cbv))))
  | (refine w_ hF ?_;(try (conv => cbv)))
  | ((with_reducible refine k2_ 111 H ?_);clear H;intro _ _ hy H;refine ca_ hF (impl_renewed.con E hE hy) ?_;(try (conv => cbv)))
  | ((with_reducible refine k1_ 69 H ?_);clear H;intro _ hy H;refine ca_ hF (impl_SegName.con E hE hy) ?_;(try (conv => cbv)))
  | ((with_reducible refine k9_ 109 H ?_);clear H;intro _ _ _ _ _ _ _ _ _ hy H;refine ca_ hF (impl_behind.con E hE hy) ?_;(try (conv => cbv)))
  | ((with_reducible refine lo_ hF (fun n t => n≤k∧∃ x16 x52 x53 x54 v0 v1 v2 v3 v4 v5 v6 v7,t = At 71 [(6,.ptr 6 0),(12,.ptr 12 0),(16,.own 20016),(52,.c (.sl [.int .i64] (E.eI .i64 x52))),(53,.c (.int .i64 x53)),(54,.c (.int .i64 x54))] [(6,.box [.c (.sl [.str,.str] (E.e122 v0))]),(12,.box [.own 400240,.c (.int .i64 v2),.c (.int .i64 v3),.c (.int .i64 v4),.own 400244,.own 400245,.c (.int .i64 v7)]),(20016,.row false 119 [.int .i64,.str,.str,.str] (E.e119 x16)),(400240,.row false 3 [.int .i64] (E.eI .i64 v1)),(400244,.row false 3 [.int .i64] (E.eI .i64 v5)),(400245,.row false 145 [.str,.int .i64,.int .i64,.int .i64] (E.e145 v6))]∧impl_merged.l0 n x16 x52 x53 x54 v0 v1 v2 v3 v4 v5 v6 v7 = some (r1,r2,r3,r4,r5,r6,r7,r8,r9)) ⟨[6,12,16,52,53,54],[6,12],[(16,119)],[(12,0,3),(12,4,3),(12,5,145)]⟩ fun n0 t ht Q0 hN0 hX0 => ?_);obtain ⟨hl,_,_,_,_,_,_,_,_,_,_,_,_,rfl,H⟩:=ht;rcases n0 with _ | n0;cases H;simp only [impl_merged.l0] at H;(try (conv => cbv)))
  | ((with_reducible show Q0 _ _);first | exact nx_ hN0 | (refine xt_ hX0 ?_;(try (conv => cbv))))
  | ((with_reducible show Q _ _);exact en_ ⟨[12,13,14],[12],[(13,119)],[(12,0,3),(12,4,3),(12,5,145)]⟩ 71 hQ)
  | contradiction
end Go.Ev
