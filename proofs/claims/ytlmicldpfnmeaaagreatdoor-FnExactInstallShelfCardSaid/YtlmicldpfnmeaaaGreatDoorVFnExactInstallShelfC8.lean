/- Contracts of the Go functions that this law reaches: what each call returns, by its plain function. No conditions but those that each statement names. By this repo's programs; comments are taken out. -/
import Derived.Test.YtlmicldpfnmeaaaGreatDoorVFnExactInstallShelfD
import Derived.Test.YtlmicldpfnmeaaaGreatDoorVFnExactInstallShelfK
import Derived.Test.YtlmicldpfnmeaaaGreatDoorVFnExactInstallShelfC5
import Derived.Test.YtlmicldpfnmeaaaGreatDoorVFnExactInstallShelfC6
import Derived.Test.YtlmicldpfnmeaaaGreatDoorVFnExactInstallShelfC7
set_option linter.all false
namespace Go.Ev
open Go.RowKit Go.Proofs Go.Proofs.YtlmicldpfnmeaaaGreatDoorW.PrintWords Go.Proofs.YtlmicldpfnmeaaaGreatDoorW.PrintLast Go.Proofs.YtlmicldpfnmeaaaGreatDoorW.PrintMore
set_option maxRecDepth 100000
set_option maxHeartbeats 4000000
theorem impl_DirMore.con (E:En) (hE:E = E0) {k l0 l1 r1 r2} (H:impl_DirMore.f k l0 l1 = some (r1,r2)) :
  Cn 82 [.c (.sl [.str,.int .i64,.int .i64,.int .i64] (E.e145 l0)),.c (.sl [.str,.int .i64,.int .i64,.int .i64] (E.e145 l1))] [] (.tup [.own 0,.c (.bool r2)]) [.row false 145 [.str,.int .i64,.int .i64,.int .i64] (E.e145 r1)] []:=by
 refine co_ Tryz.func82 tabOkM [20004] fun F hF Q hQ => ?_
 simp only [impl_DirMore.f] at H
 (conv => cbv)
 repeat' first
  | replace H:=s_ H
  | (exfalso;with_reducible assumption)
  | (rw [itn_iff] at H;obtain ⟨hc,H⟩:=H)
  | (rw [itn2_iff] at H;obtain ⟨hc,H⟩:=H)
  | ((with_reducible refine br2 hF H ?_ ?_) <;> (clear H;intro hb H;(try (conv => cbv))))
  | (refine w_ hF ?_;(try (conv => cbv)))
  | ((with_reducible refine k1_ 107 H ?_);clear H;intro _ hy H;refine ca_ hF (impl_DirOk.con E hE hy) ?_;(try (conv => cbv)))
  | ((with_reducible refine k2_ 166 H ?_);clear H;intro _ _ hy H;refine ca_ hF (slices_BinarySearchFunc_impl_Spot_impl_Spot_string.con E hE hy) ?_;(try (conv => cbv)))
  | ((with_reducible refine k1_ 169 H ?_);clear H;intro _ hy H;refine ca_ hF (slices_Delete_impl_Spot_impl_Spot.con E hE hy) ?_;(try (conv => cbv)))
  | ((with_reducible refine k2_ 170 H ?_);clear H;intro _ _ hy H;refine ca_ hF (slices_Insert_impl_Spot_impl_Spot.con E hE hy) ?_;(try (conv => cbv)))
  | ((with_reducible refine lo_ hF (fun n t => n≤k∧∃ x6 x16 x17 x18,t = At 61 [(6,.own 20006),(16,.c (.sl [.str,.int .i64,.int .i64,.int .i64] (E.e145 x16))),(17,.c (.int .i64 x17)),(18,.c (.int .i64 x18))] [(20006,.row false 145 [.str,.int .i64,.int .i64,.int .i64] (E.e145 x6))]∧impl_DirMore.l0 n x6 x16 x17 x18 = some (r1,r2)) ⟨[6,16,17,18],[],[(6,145)],[]⟩ fun n0 t ht Q0 hN0 hX0 => ?_);obtain ⟨hl,_,_,_,_,rfl,H⟩:=ht;rcases n0 with _ | n0;cases H;simp only [impl_DirMore.l0] at H;(try (conv => cbv)))
  | ((with_reducible show Q0 _ _);first | exact nx_ hN0 | (refine xt_ hX0 ?_;(try (conv => cbv))))
  | ((with_reducible show Q _ _);exact en_ ⟨[4,5],[],[(4,145)],[]⟩ 61 hQ)
  | contradiction
theorem impl_OpenShelf.con (E:En) (hE:E = E0) {k l0_0 r1 r2 r3 r4 r5 r6 r7 r8 r9} (H:impl_OpenShelf.f k l0_0 = some (r1,r2,r3,r4,r5,r6,r7,r8,r9)) :
  Cn 21 [.agg [.c (.sl [.str,.str] (E.e122 l0_0))]] [] (.tup [.agg [.own 0,.c (.int .i64 r2),.c (.int .i64 r3),.c (.int .i64 r4),.own 1,.own 2,.c (.int .i64 r7)],.own 3,.c (.int .i64 r9)]) [.row false 3 [.int .i64] (E.eI .i64 r1),.row false 3 [.int .i64] (E.eI .i64 r5),.row false 145 [.str,.int .i64,.int .i64,.int .i64] (E.e145 r6),.row false 119 [.int .i64,.str,.str,.str] (E.e119 r8)] []:=by
 refine co_ Tryz.func21 tabOkM [400040,400044,400045,20003] fun F hF Q hQ => ?_
 simp only [impl_OpenShelf.f] at H
 (conv => cbv)
 repeat' first
  | replace H:=s_ H
  | (exfalso;with_reducible assumption)
  | (rw [itn_iff] at H;obtain ⟨hc,H⟩:=H)
  | (rw [itn2_iff] at H;obtain ⟨hc,H⟩:=H)
  | ((with_reducible refine br2 hF H ?_ ?_) <;> (clear H;intro hb H;(try (conv => cbv))))
  | (refine w_ hF ?_;(try (conv => cbv)))
  | ((with_reducible refine k1_ 78 H ?_);clear H;intro _ hy H;refine ca_ hF (impl_DiskOk.con E hE hy) ?_;(try (conv => cbv)))
  | ((with_reducible refine k2_ 68 H ?_);clear H;intro _ _ hy H;refine ca_ hF (impl_FileAt.con E hE hy) ?_;(try (conv => cbv)))
  | ((with_reducible refine k6_ 79 H ?_);clear H;intro _ _ _ _ _ _ hy H;refine ca_ hF (impl_ReadManifest.con E hE hy) ?_;(try (conv => cbv)))
  | ((with_reducible refine k1_ 69 H ?_);clear H;intro _ hy H;refine ca_ hF (impl_SegName.con E hE hy) ?_;(try (conv => cbv)))
  | ((with_reducible refine k1_ 80 H ?_);clear H;intro _ hy H;refine ca_ hF (impl_cleaning.con E hE hy) ?_;(try (conv => cbv)))
  | ((with_reducible refine k3_ 81 H ?_);clear H;intro _ _ _ hy H;refine ca_ hF (impl_ScanSeg.con E hE hy) ?_;(try (conv => cbv)))
  | ((with_reducible refine k2_ 70 H ?_);clear H;intro _ _ hy H;refine ca_ hF (impl_batchesOf.con E hE hy) ?_;(try (conv => cbv)))
  | ((with_reducible refine k2_ 82 H ?_);clear H;intro _ _ hy H;refine ca_ hF (impl_DirMore.con E hE hy) ?_;(try (conv => cbv)))
  | ((with_reducible refine lo_ hF (fun n t => n≤k∧∃ x49 x50 x51 v0 v1 v2 v3 v4 v5 v6 v7 v8 v9 v10 v11,t = At 147 [(1,.ptr 1 0),(2,.ptr 2 0),(7,.ptr 7 0),(49,.own 20049),(50,.c (.int .i64 x50)),(51,.c (.int .i64 x51))] [(1,.box [.c (.sl [.str,.str] (E.e122 v0))]),(2,.box [.own 400040,.c (.int .i64 v2),.c (.int .i64 v3),.c (.int .i64 v4),.own 400044,.own 400045,.c (.int .i64 v7)]),(7,.box [.own 20049,.c (.int .i64 v8),.c (.int .i64 v9),.c (.int .i64 v10),.own 400144]),(20049,.row false 3 [.int .i64] (E.eI .i64 x49)),(400040,.row false 3 [.int .i64] (E.eI .i64 v1)),(400044,.row false 3 [.int .i64] (E.eI .i64 v5)),(400045,.row false 145 [.str,.int .i64,.int .i64,.int .i64] (E.e145 v6)),(400144,.row false 3 [.int .i64] (E.eI .i64 v11))]∧impl_OpenShelf.l0 n x49 x50 x51 v0 v1 v2 v3 v4 v5 v6 v7 v8 v9 v10 v11 = some (r1,r2,r3,r4,r5,r6,r7,r8,r9)) ⟨[1,2,7,49,50,51],[1,2,7],[(49,3)],[(2,0,3),(2,4,3),(2,5,145),(7,4,3)]⟩ fun n0 t ht Q0 hN0 hX0 => ?_);obtain ⟨hl,_,_,_,_,_,_,_,_,_,_,_,_,_,_,_,rfl,H⟩:=ht;rcases n0 with _ | n0;cases H;simp only [impl_OpenShelf.l0] at H;(try (conv => cbv)))
  | ((with_reducible show Q0 _ _);first | exact nx_ hN0 | (refine xt_ hX0 ?_;(try (conv => cbv))))
  | ((with_reducible refine lo_ hF (fun n t => n≤k∧∃ x14 x15 x74 x75 x76 v0 v1 v2 v3 v4 v5 v6 v7 v8 v9 v10 v11 v12 v13 v14 v15 v16,t = At 147 [(1,.ptr 1 0),(2,.ptr 2 0),(7,.ptr 7 0),(13,.ptr 13 0),(14,.own 20014),(15,.own 20015),(74,.own 20074),(75,.c (.int .i64 x75)),(76,.c (.int .i64 x76))] [(1,.box [.c (.sl [.str,.str] (E.e122 v0))]),(2,.box [.own 400040,.c (.int .i64 v2),.c (.int .i64 v3),.c (.int .i64 v4),.own 400044,.own 400045,.c (.int .i64 v7)]),(7,.box [.own 20074,.c (.int .i64 v8),.c (.int .i64 v9),.c (.int .i64 v10),.own 400144]),(13,.box [.own 20074,.c (.int .i64 v12),.c (.int .i64 v13),.c (.int .i64 v14),.own 400144,.own 400265,.c (.int .i64 v16)]),(20014,.row false 119 [.int .i64,.str,.str,.str] (E.e119 x14)),(20015,.row false 145 [.str,.int .i64,.int .i64,.int .i64] (E.e145 x15)),(20074,.row false 3 [.int .i64] (E.eI .i64 x74)),(400040,.row false 3 [.int .i64] (E.eI .i64 v1)),(400044,.row false 3 [.int .i64] (E.eI .i64 v5)),(400045,.row false 145 [.str,.int .i64,.int .i64,.int .i64] (E.e145 v6)),(400144,.row false 3 [.int .i64] (E.eI .i64 v11)),(400265,.row false 145 [.str,.int .i64,.int .i64,.int .i64] (E.e145 v15))]∧impl_OpenShelf.l1 n x14 x15 x74 x75 x76 v0 v1 v2 v3 v4 v5 v6 v7 v8 v9 v10 v11 v12 v13 v14 v15 v16 = some (r1,r2,r3,r4,r5,r6,r7,r8,r9)) ⟨[1,2,7,13,14,15,74,75,76],[1,2,7,13],[(14,119),(15,145),(74,3)],[(2,0,3),(2,4,3),(2,5,145),(7,4,3),(13,5,145)]⟩ fun n1 t ht Q1 hN1 hX1 => ?_);obtain ⟨hl,_,_,_,_,_,_,_,_,_,_,_,_,_,_,_,_,_,_,_,_,_,_,rfl,H⟩:=ht;rcases n1 with _ | n1;cases H;simp only [impl_OpenShelf.l1] at H;(try (conv => cbv)))
  | ((with_reducible show Q1 _ _);first | exact nx_ hN1 | (refine xt_ hX1 ?_;(try (conv => cbv))))
  | ((with_reducible show Q _ _);exact en_ ⟨[2,3,4],[2],[(3,119)],[(2,0,3),(2,4,3),(2,5,145)]⟩ 147 hQ)
  | contradiction
theorem slices_Equal_int_int.con (E:En) (hE:E = E0) {k l0 l1 r} (H:slices_Equal_int_int.f k l0 l1 = some r) :
  Cn 199 [.c (.sl [.int .i64] (E.eI .i64 l0)),.c (.sl [.int .i64] (E.eI .i64 l1))] [] (.c (.bool r)) [] []:=by
 refine co_ Tryz.func199 tabOkM [] fun F hF Q hQ => ?_
 simp only [slices_Equal_int_int.f] at H
 (conv => cbv)
 repeat' first
  | replace H:=s_ H
  | (exfalso;with_reducible assumption)
  | (rw [itn_iff] at H;obtain ⟨hc,H⟩:=H)
  | (rw [itn2_iff] at H;obtain ⟨hc,H⟩:=H)
  | ((with_reducible refine br2 hF H ?_ ?_) <;> (clear H;intro hb H;(try (conv => cbv))))
  | (refine w_ hF ?_;(try (conv => cbv)))
  | ((with_reducible refine lo_ hF (fun n t => n≤k∧∃ x0 x1 x12 x13,t = At 26 [(0,.c (.sl [.int .i64] (E.eI .i64 x0))),(1,.c (.sl [.int .i64] (E.eI .i64 x1))),(12,.c (.int .i64 x12)),(13,.c (.int .i64 x13))] []∧slices_Equal_int_int.l0 n x0 x1 x12 x13 = some r) ⟨[0,1,12,13],[],[],[]⟩ fun n0 t ht Q0 hN0 hX0 => ?_);obtain ⟨hl,_,_,_,_,rfl,H⟩:=ht;rcases n0 with _ | n0;cases H;simp only [slices_Equal_int_int.l0] at H;(try (conv => cbv)))
  | ((with_reducible show Q0 _ _);first | exact nx_ hN0 | (refine xt_ hX0 ?_;(try (conv => cbv))))
  | ((with_reducible show Q _ _);exact en_ ⟨[4],[],[],[]⟩ 26 hQ)
  | contradiction
theorem impl_sameManifest.con (E:En) (hE:E = E0) {k l0_0 a0_1 a0_2 a0_3 l0_4 l1_0 a1_1 a1_2 a1_3 l1_4 r} (H:impl_sameManifest.f k l0_0 a0_1 a0_2 a0_3 l0_4 l1_0 a1_1 a1_2 a1_3 l1_4 = some r) :
  Cn 141 [.agg [.c (.sl [.int .i64] (E.eI .i64 l0_0)),.c (.int .i64 a0_1),.c (.int .i64 a0_2),.c (.int .i64 a0_3),.c (.sl [.int .i64] (E.eI .i64 l0_4))],.agg [.c (.sl [.int .i64] (E.eI .i64 l1_0)),.c (.int .i64 a1_1),.c (.int .i64 a1_2),.c (.int .i64 a1_3),.c (.sl [.int .i64] (E.eI .i64 l1_4))]] [] (.c (.bool r)) [] []:=by
 refine co_ Tryz.func141 tabOkM [] fun F hF Q hQ => ?_
 simp only [impl_sameManifest.f] at H
 (conv => cbv)
 repeat' first
  | replace H:=s_ H
  | (exfalso;with_reducible assumption)
  | (rw [itn_iff] at H;obtain ⟨hc,H⟩:=H)
  | (rw [itn2_iff] at H;obtain ⟨hc,H⟩:=H)
  | ((with_reducible refine br2 hF H ?_ ?_) <;> (clear H;intro hb H;(try (conv => cbv))))
  | (refine w_ hF ?_;(try (conv => cbv)))
  | ((with_reducible refine k1_ 199 H ?_);clear H;intro _ hy H;refine ca_ hF (slices_Equal_int_int.con E hE hy) ?_;(try (conv => cbv)))
  | ((with_reducible show Q _ _);exact en_ ⟨[4],[],[],[]⟩ 38 hQ)
  | contradiction
theorem slices_Equal_impl_Spot_impl_Spot.con (E:En) (hE:E = E0) {k l0 l1 r} (H:slices_Equal_impl_Spot_impl_Spot.f k l0 l1 = some r) :
  Cn 142 [.c (.sl [.str,.int .i64,.int .i64,.int .i64] (E.e145 l0)),.c (.sl [.str,.int .i64,.int .i64,.int .i64] (E.e145 l1))] [] (.c (.bool r)) [] []:=by
 refine co_ Tryz.func142 tabOkM [] fun F hF Q hQ => ?_
 simp only [slices_Equal_impl_Spot_impl_Spot.f] at H
 (conv => cbv)
 repeat' first
  | replace H:=s_ H
  | (exfalso;with_reducible assumption)
  | (rw [itn_iff] at H;obtain ⟨hc,H⟩:=H)
  | (rw [itn2_iff] at H;obtain ⟨hc,H⟩:=H)
  | ((with_reducible refine br2 hF H ?_ ?_) <;> (clear H;intro hb H;(try (conv => cbv))))
  | (refine w_ hF ?_;(try (conv => cbv)))
  | ((with_reducible refine lo_ hF (fun n t => n≤k∧∃ x0 x1 x12 x13,t = At 26 [(0,.c (.sl [.str,.int .i64,.int .i64,.int .i64] (E.e145 x0))),(1,.c (.sl [.str,.int .i64,.int .i64,.int .i64] (E.e145 x1))),(12,.c (.int .i64 x12)),(13,.c (.int .i64 x13))] []∧slices_Equal_impl_Spot_impl_Spot.l0 n x0 x1 x12 x13 = some r) ⟨[0,1,12,13],[],[],[]⟩ fun n0 t ht Q0 hN0 hX0 => ?_);obtain ⟨hl,_,_,_,_,rfl,H⟩:=ht;rcases n0 with _ | n0;cases H;simp only [slices_Equal_impl_Spot_impl_Spot.l0] at H;(try (conv => cbv)))
  | ((with_reducible show Q0 _ _);first | exact nx_ hN0 | (refine xt_ hX0 ?_;(try (conv => cbv))))
  | ((with_reducible show Q _ _);exact en_ ⟨[4],[],[],[]⟩ 26 hQ)
  | contradiction
theorem impl_sameShelf.con (E:En) (hE:E = E0) {k l0_0 a0_1 a0_2 a0_3 l0_4 l0_5 a0_6 l1_0 a1_1 a1_2 a1_3 l1_4 l1_5 a1_6 r} (H:impl_sameShelf.f k l0_0 a0_1 a0_2 a0_3 l0_4 l0_5 a0_6 l1_0 a1_1 a1_2 a1_3 l1_4 l1_5 a1_6 = some r) :
  Cn 67 [.agg [.c (.sl [.int .i64] (E.eI .i64 l0_0)),.c (.int .i64 a0_1),.c (.int .i64 a0_2),.c (.int .i64 a0_3),.c (.sl [.int .i64] (E.eI .i64 l0_4)),.c (.sl [.str,.int .i64,.int .i64,.int .i64] (E.e145 l0_5)),.c (.int .i64 a0_6)],.agg [.c (.sl [.int .i64] (E.eI .i64 l1_0)),.c (.int .i64 a1_1),.c (.int .i64 a1_2),.c (.int .i64 a1_3),.c (.sl [.int .i64] (E.eI .i64 l1_4)),.c (.sl [.str,.int .i64,.int .i64,.int .i64] (E.e145 l1_5)),.c (.int .i64 a1_6)]] [] (.c (.bool r)) [] []:=by
 refine co_ Tryz.func67 tabOkM [] fun F hF Q hQ => ?_
 simp only [impl_sameShelf.f] at H
 (conv => cbv)
 repeat' first
  | replace H:=s_ H
  | (exfalso;with_reducible assumption)
  | (rw [itn_iff] at H;obtain ⟨hc,H⟩:=H)
  | (rw [itn2_iff] at H;obtain ⟨hc,H⟩:=H)
  | ((with_reducible refine br2 hF H ?_ ?_) <;> (clear H;intro hb H;(try (conv => cbv))))
  | (refine w_ hF ?_;(try (conv => cbv)))
  | ((with_reducible refine k1_ 141 H ?_);clear H;intro _ hy H;refine ca_ hF (impl_sameManifest.con E hE hy) ?_;(try (conv => cbv)))
  | ((with_reducible refine k1_ 142 H ?_);clear H;intro _ hy H;refine ca_ hF (slices_Equal_impl_Spot_impl_Spot.con E hE hy) ?_;(try (conv => cbv)))
  | ((with_reducible show Q _ _);exact en_ ⟨[4],[],[],[]⟩ 24 hQ)
  | contradiction
theorem impl_isOpen.con (E:En) (hE:E = E0) {k l0_0 l1_0 a1_1 a1_2 a1_3 l1_4 l1_5 a1_6 r} (H:impl_isOpen.f k l0_0 l1_0 a1_1 a1_2 a1_3 l1_4 l1_5 a1_6 = some r) :
  Cn 97 [.agg [.c (.sl [.str,.str] (E.e122 l0_0))],.agg [.c (.sl [.int .i64] (E.eI .i64 l1_0)),.c (.int .i64 a1_1),.c (.int .i64 a1_2),.c (.int .i64 a1_3),.c (.sl [.int .i64] (E.eI .i64 l1_4)),.c (.sl [.str,.int .i64,.int .i64,.int .i64] (E.e145 l1_5)),.c (.int .i64 a1_6)]] [] (.c (.bool r)) [] []:=by
 refine co_ Tryz.func97 tabOkM [] fun F hF Q hQ => ?_
 simp only [impl_isOpen.f] at H
 (conv => cbv)
 repeat' first
  | replace H:=s_ H
  | (exfalso;with_reducible assumption)
  | (rw [itn_iff] at H;obtain ⟨hc,H⟩:=H)
  | (rw [itn2_iff] at H;obtain ⟨hc,H⟩:=H)
  | ((with_reducible refine br2 hF H ?_ ?_) <;> (clear H;intro hb H;(try (conv => cbv))))
  | (refine w_ hF ?_;(try (conv => cbv)))
  | ((with_reducible refine k9_ 21 H ?_);clear H;intro _ _ _ _ _ _ _ _ _ hy H;refine ca_ hF (impl_OpenShelf.con E hE hy) ?_;(try (conv => cbv)))
  | ((with_reducible refine k1_ 67 H ?_);clear H;intro _ hy H;refine ca_ hF (impl_sameShelf.con E hE hy) ?_;(try (conv => cbv)))
  | ((with_reducible show Q _ _);exact en_ ⟨[4],[],[],[]⟩ 26 hQ)
  | contradiction
theorem impl_ManifestText.con (E:En) (hE:E = E0) {k l0_0 a0_1 a0_2 a0_3 l0_4 r1 r2} (H:impl_ManifestText.f k l0_0 a0_1 a0_2 a0_3 l0_4 = some (r1,r2)) :
  Cn 192 [.agg [.c (.sl [.int .i64] (E.eI .i64 l0_0)),.c (.int .i64 a0_1),.c (.int .i64 a0_2),.c (.int .i64 a0_3),.c (.sl [.int .i64] (E.eI .i64 l0_4))]] [] (.tup [.c (.str r1),.c (.bool r2)]) [] []:=by
 refine co_ Tryz.func192 tabOkM [] fun F hF Q hQ => ?_
 simp only [impl_ManifestText.f] at H
 (conv => cbv)
 repeat' first
  | replace H:=s_ H
  | (exfalso;with_reducible assumption)
  | (rw [itn_iff] at H;obtain ⟨hc,H⟩:=H)
  | (rw [itn2_iff] at H;obtain ⟨hc,H⟩:=H)
  | ((with_reducible refine br2 hF H ?_ ?_) <;> (clear H;intro hb H;(try (conv => cbv))))
  | (refine w_ hF ?_;(try (conv => cbv)))
  | ((with_reducible refine k1_ 161 H ?_);clear H;intro _ hy H;refine ca_ hF (impl_ManifestOk.con E hE hy) ?_;(try (conv => cbv)))
  | ((with_reducible refine k1_ 223 H ?_);clear H;intro _ hy H;refine ca_ hF (slices_Concat_int_int.con E hE hy) ?_;(try (conv => cbv)))
  | ((with_reducible refine k2_ 180 H ?_);clear H;intro _ _ hy H;refine ca_ hF (impl_vars.con E hE hy) ?_;(try (conv => cbv)))
  | ((with_reducible refine k2_ 208 H ?_);clear H;intro _ _ hy H;refine ca_ hF (impl_Sealed.con E hE hy) ?_;(try (conv => cbv)))
  | ((with_reducible show Q _ _);exact en_ ⟨[2,3],[],[],[]⟩ 39 hQ)
  | contradiction
theorem impl_renewed.con (E:En) (hE:E = E0) {k l0_0 a0_1 a0_2 a0_3 l0_4 r1 r2} (H:impl_renewed.f k l0_0 a0_1 a0_2 a0_3 l0_4 = some (r1,r2)) :
  Cn 111 [.agg [.c (.sl [.int .i64] (E.eI .i64 l0_0)),.c (.int .i64 a0_1),.c (.int .i64 a0_2),.c (.int .i64 a0_3),.c (.sl [.int .i64] (E.eI .i64 l0_4))]] [] (.tup [.own 0,.c (.bool r2)]) [.row false 119 [.int .i64,.str,.str,.str] (E.e119 r1)] []:=by
 refine co_ Tryz.func111 tabOk [20002] fun F hF Q hQ => ?_
 simp only [impl_renewed.f] at H
 (conv => cbv)
 repeat' first
  | replace H:=s_ H
  | (exfalso;with_reducible assumption)
  | (rw [itn_iff] at H;obtain ⟨hc,H⟩:=H)
  | (rw [itn2_iff] at H;obtain ⟨hc,H⟩:=H)
  | ((with_reducible refine br2 hF H ?_ ?_) <;> (clear H;intro hb H;(try (conv => cbv))))
  | (refine w_ hF ?_;(try (conv => cbv)))
  | ((with_reducible refine k2_ 192 H ?_);clear H;intro _ _ hy H;refine ca_ hF (impl_ManifestText.con E hE hy) ?_;(try (conv => cbv)))
  | ((with_reducible show Q _ _);exact en_ ⟨[2,3],[],[(2,119)],[]⟩ 16 hQ)
  | contradiction
theorem impl_copyDisk.con (E:En) (hE:E = E0) {l0_0 r} (H:impl_copyDisk.f l0_0 = some r) :
  Cn 221 [.agg [.c (.sl [.str,.str] (E.e122 l0_0))]] [] (.agg [.own 0]) [.row false 122 [.str,.str] (E.e122 r)] []:=by
 refine co_ Tryz.func221 tabOkM [400040] fun F hF Q hQ => ?_
 simp only [impl_copyDisk.f] at H
 (conv => cbv)
 repeat' first
  | replace H:=s_ H
  | (exfalso;with_reducible assumption)
  | (rw [itn_iff] at H;obtain ⟨hc,H⟩:=H)
  | (rw [itn2_iff] at H;obtain ⟨hc,H⟩:=H)
  | ((with_reducible refine br2 hF H ?_ ?_) <;> (clear H;intro hb H;(try (conv => cbv))))
  | (refine w_ hF ?_;(try (conv => cbv)))
  | ((with_reducible show Q _ _);exact en_ ⟨[2],[2],[],[(2,0,122)]⟩ 7 hQ)
  | contradiction
theorem impl_withFile.con (E:En) (hE:E = E0) {k l0_0 a1 a2 r} (H:impl_withFile.f k l0_0 a1 a2 = some r) :
  Cn 230 [.agg [.c (.sl [.str,.str] (E.e122 l0_0))],.c (.str a1),.c (.str a2)] [] (.agg [.own 0]) [.row false 122 [.str,.str] (E.e122 r)] []:=by
 refine co_ Tryz.func230 tabOkM [400120] fun F hF Q hQ => ?_
 simp only [impl_withFile.f] at H
 (conv => cbv)
 repeat' first
  | replace H:=s_ H
  | (exfalso;with_reducible assumption)
  | (rw [itn_iff] at H;obtain ⟨hc,H⟩:=H)
  | (rw [itn2_iff] at H;obtain ⟨hc,H⟩:=H)
  | ((with_reducible refine br2 hF H ?_ ?_) <;> (clear H;intro hb H;(try (conv => cbv))))
  | (refine w_ hF ?_;(try (conv => cbv)))
  | ((with_reducible refine k1_ 221 H ?_);clear H;intro _ hy H;refine ca_ hF (impl_copyDisk.con E hE hy) ?_;(try (conv => cbv)))
  | ((with_reducible refine k2_ 143 H ?_);clear H;intro _ _ hy H;refine ca_ hF (impl_fileNo.con E hE hy) ?_;(try (conv => cbv)))
  | ((with_reducible refine k2_ 238 H ?_);clear H;intro _ _ hy H;refine ca_ hF (slices_Insert_impl_File_impl_File.con E hE hy) ?_;(try (conv => cbv)))
  | ((with_reducible show Q _ _);exact en_ ⟨[6],[6],[],[(6,0,122)]⟩ 35 hQ)
  | contradiction
theorem impl_without.con (E:En) (hE:E = E0) {k l0_0 a1 r} (H:impl_without.f k l0_0 a1 = some r) :
  Cn 231 [.agg [.c (.sl [.str,.str] (E.e122 l0_0))],.c (.str a1)] [] (.agg [.own 0]) [.row false 122 [.str,.str] (E.e122 r)] []:=by
 refine co_ Tryz.func231 tabOkM [400080] fun F hF Q hQ => ?_
 simp only [impl_without.f] at H
 (conv => cbv)
 repeat' first
  | replace H:=s_ H
  | (exfalso;with_reducible assumption)
  | (rw [itn_iff] at H;obtain ⟨hc,H⟩:=H)
  | (rw [itn2_iff] at H;obtain ⟨hc,H⟩:=H)
  | ((with_reducible refine br2 hF H ?_ ?_) <;> (clear H;intro hb H;(try (conv => cbv))))
  | (refine w_ hF ?_;(try (conv => cbv)))
  | ((with_reducible refine k1_ 221 H ?_);clear H;intro _ hy H;refine ca_ hF (impl_copyDisk.con E hE hy) ?_;(try (conv => cbv)))
  | ((with_reducible refine k2_ 143 H ?_);clear H;intro _ _ hy H;refine ca_ hF (impl_fileNo.con E hE hy) ?_;(try (conv => cbv)))
  | ((with_reducible refine k1_ 239 H ?_);clear H;intro _ hy H;refine ca_ hF (slices_Delete_impl_File_impl_File.con E hE hy) ?_;(try (conv => cbv)))
  | ((with_reducible show Q _ _);exact en_ ⟨[4],[4],[],[(4,0,122)]⟩ 25 hQ)
  | contradiction
theorem impl_PutRaw.con (E:En) (hE:E = E0) {k l0_0 a1_0 a1_1 a1_2 a1_3 r1 r2} (H:impl_PutRaw.f k l0_0 a1_0 a1_1 a1_2 a1_3 = some (r1,r2)) :
  Cn 222 [.agg [.c (.sl [.str,.str] (E.e122 l0_0))],.agg [.c (.int .i64 a1_0),.c (.str a1_1),.c (.str a1_2),.c (.str a1_3)]] [] (.tup [.agg [.own 0],.c (.bool r2)]) [.row false 122 [.str,.str] (E.e122 r1)] []:=by
 refine co_ Tryz.func222 tabOkM [400080] fun F hF Q hQ => ?_
 simp only [impl_PutRaw.f] at H
 (conv => cbv)
 repeat' first
  | replace H:=s_ H
  | (exfalso;with_reducible assumption)
  | (rw [itn_iff] at H;obtain ⟨hc,H⟩:=H)
  | (rw [itn2_iff] at H;obtain ⟨hc,H⟩:=H)
  | ((with_reducible refine br2 hF H ?_ ?_) <;> (clear H;intro hb H;(try (conv => cbv))))
  | (refine w_ hF ?_;(try (conv => cbv)))
  | ((with_reducible refine k1_ 78 H ?_);clear H;intro _ hy H;refine ca_ hF (impl_DiskOk.con E hE hy) ?_;(try (conv => cbv)))
  | ((with_reducible refine k2_ 68 H ?_);clear H;intro _ _ hy H;refine ca_ hF (impl_FileAt.con E hE hy) ?_;(try (conv => cbv)))
  | ((with_reducible refine k1_ 230 H ?_);clear H;intro _ hy H;refine ca_ hF (impl_withFile.con E hE hy) ?_;(try (conv => cbv)))
  | ((with_reducible refine k1_ 221 H ?_);clear H;intro _ hy H;refine ca_ hF (impl_copyDisk.con E hE hy) ?_;(try (conv => cbv)))
  | ((with_reducible refine k1_ 231 H ?_);clear H;intro _ hy H;refine ca_ hF (impl_without.con E hE hy) ?_;(try (conv => cbv)))
  | ((with_reducible show Q _ _);exact en_ ⟨[4,5],[4],[],[(4,0,122)]⟩ 73 hQ)
  | contradiction
end Go.Ev
