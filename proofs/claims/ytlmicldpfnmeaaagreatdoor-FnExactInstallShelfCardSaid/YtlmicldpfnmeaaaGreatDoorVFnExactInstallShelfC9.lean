/- Contracts of the Go functions that this law reaches: what each call returns, by its plain function. No conditions but those that each statement names. By this repo's programs; comments are taken out. -/
import Derived.Test.YtlmicldpfnmeaaaGreatDoorVFnExactInstallShelfD
import Derived.Test.YtlmicldpfnmeaaaGreatDoorVFnExactInstallShelfC6
import Derived.Test.YtlmicldpfnmeaaaGreatDoorVFnExactInstallShelfC7
import Derived.Test.YtlmicldpfnmeaaaGreatDoorVFnExactInstallShelfC8
set_option linter.all false
namespace Go.Ev
open Go.RowKit Go.Proofs Go.Proofs.YtlmicldpfnmeaaaGreatDoorW.PrintWords Go.Proofs.YtlmicldpfnmeaaaGreatDoorW.PrintLast Go.Proofs.YtlmicldpfnmeaaaGreatDoorW.PrintMore
set_option maxRecDepth 100000
set_option maxHeartbeats 4000000
theorem impl_PutRaws.con (E:En) (hE:E = E0) {k l0_0 l1 r1 r2} (H:impl_PutRaws.f k l0_0 l1 = some (r1,r2)) :
  Cn 191 [.agg [.c (.sl [.str,.str] (E.e122 l0_0))],.c (.sl [.int .i64,.str,.str,.str] (E.e119 l1))] [] (.tup [.agg [.own 0],.c (.int .i64 r2)]) [.row false 122 [.str,.str] (E.e122 r1)] []:=by
 refine co_ Tryz.func191 tabOkM [400080] fun F hF Q hQ => ?_
 simp only [impl_PutRaws.f] at H
 (conv => cbv)
 repeat' first
  | replace H:=s_ H
  | (exfalso;with_reducible assumption)
  | (rw [itn_iff] at H;obtain ⟨hc,H⟩:=H)
  | (rw [itn2_iff] at H;obtain ⟨hc,H⟩:=H)
  | ((with_reducible refine br2 hF H ?_ ?_) <;> (clear H;intro hb H;(try (conv => cbv))))
  | (refine w_ hF ?_;(try (conv => cbv)))
  | ((with_reducible refine k1_ 78 H ?_);clear H;intro _ hy H;refine ca_ hF (impl_DiskOk.con E hE hy) ?_;(try (conv => cbv)))
  | ((with_reducible refine k1_ 221 H ?_);clear H;intro _ hy H;refine ca_ hF (impl_copyDisk.con E hE hy) ?_;(try (conv => cbv)))
  | ((with_reducible refine k2_ 222 H ?_);clear H;intro _ _ hy H;refine ca_ hF (impl_PutRaw.con E hE hy) ?_;(try (conv => cbv)))
  | ((with_reducible refine lo_ hF (fun n t => n≤k∧∃ x1 x22 x23 x24 v0 v1,t = At 44 [(1,.c (.sl [.int .i64,.str,.str,.str] (E.e119 x1))),(4,.ptr 4 0),(6,.ptr 6 0),(22,.c (.sl [.int .i64,.str,.str,.str] (E.e119 x22))),(23,.c (.int .i64 x23)),(24,.c (.int .i64 x24))] [(4,.box [.own 400080]),(6,.box [.own 400120]),(400080,.row false 122 [.str,.str] (E.e122 v0)),(400120,.row false 122 [.str,.str] (E.e122 v1))]∧impl_PutRaws.l0 n x1 x22 x23 x24 v0 v1 = some (r1,r2)) ⟨[1,4,6,22,23,24],[4,6],[],[(4,0,122),(6,0,122)]⟩ fun n0 t ht Q0 hN0 hX0 => ?_);obtain ⟨hl,_,_,_,_,_,_,rfl,H⟩:=ht;rcases n0 with _ | n0;cases H;simp only [impl_PutRaws.l0] at H;(try (conv => cbv)))
  | ((with_reducible show Q0 _ _);first | exact nx_ hN0 | (refine xt_ hX0 ?_;(try (conv => cbv))))
  | ((with_reducible show Q _ _);exact en_ ⟨[4,5],[4],[],[(4,0,122)]⟩ 44 hQ)
  | contradiction
theorem impl_behind.con (E:En) (hE:E = E0) {k l0_0 l1 r1 r2 r3 r4 r5 r6 r7 r8 r9} (H:impl_behind.f k l0_0 l1 = some (r1,r2,r3,r4,r5,r6,r7,r8,r9)) :
  Cn 109 [.agg [.c (.sl [.str,.str] (E.e122 l0_0))],.own 10000] [.row false 119 [.int .i64,.str,.str,.str] (E.e119 l1)] (.tup [.agg [.own 0,.c (.int .i64 r2),.c (.int .i64 r3),.c (.int .i64 r4),.own 1,.own 2,.c (.int .i64 r7)],.own 3,.c (.bool r9)]) [.row false 3 [.int .i64] (E.eI .i64 r1),.row false 3 [.int .i64] (E.eI .i64 r5),.row false 145 [.str,.int .i64,.int .i64,.int .i64] (E.e145 r6),.row false 119 [.int .i64,.str,.str,.str] (E.e119 r8)] [.gone]:=by
 refine co_ Tryz.func109 tabOkM [400080,400084,400085,20005] fun F hF Q hQ => ?_
 simp only [impl_behind.f] at H
 (conv => cbv)
 repeat' first
  | replace H:=s_ H
  | (exfalso;with_reducible assumption)
  | (rw [itn_iff] at H;obtain ⟨hc,H⟩:=H)
  | (rw [itn2_iff] at H;obtain ⟨hc,H⟩:=H)
  | ((with_reducible refine br2 hF H ?_ ?_) <;> (clear H;intro hb H;(try (conv => cbv))))
  | (refine w_ hF ?_;(try (conv => cbv)))
  | ((with_reducible refine k2_ 191 H ?_);clear H;intro _ _ hy H;refine ca_ hF (impl_PutRaws.con E hE hy) ?_;(try (conv => cbv)))
  | ((with_reducible refine k9_ 21 H ?_);clear H;intro _ _ _ _ _ _ _ _ _ hy H;refine ca_ hF (impl_OpenShelf.con E hE hy) ?_;(try (conv => cbv)))
  | ((with_reducible show Q _ _);exact en_ ⟨[4,5,6],[4],[(5,119)],[(4,0,3),(4,4,3),(4,5,145),(10000,0,0)]⟩ 40 hQ)
  | contradiction
theorem impl_merged.con (E:En) (hE:E = E0) {k l0_0 l1_0 a1_1 a1_2 a1_3 l1_4 l1_5 a1_6 a2 a3 a4 l5 r1 r2 r3 r4 r5 r6 r7 r8 r9} (H:impl_merged.f k l0_0 l1_0 a1_1 a1_2 a1_3 l1_4 l1_5 a1_6 a2 a3 a4 l5 = some (r1,r2,r3,r4,r5,r6,r7,r8,r9)) :
  Cn 101 [.agg [.c (.sl [.str,.str] (E.e122 l0_0))],.agg [.c (.sl [.int .i64] (E.eI .i64 l1_0)),.c (.int .i64 a1_1),.c (.int .i64 a1_2),.c (.int .i64 a1_3),.c (.sl [.int .i64] (E.eI .i64 l1_4)),.c (.sl [.str,.int .i64,.int .i64,.int .i64] (E.e145 l1_5)),.c (.int .i64 a1_6)],.c (.str a2),.c (.int .i64 a3),.c (.int .i64 a4),.c (.sl [.int .i64] (E.eI .i64 l5))] [] (.tup [.agg [.own 0,.c (.int .i64 r2),.c (.int .i64 r3),.c (.int .i64 r4),.own 1,.own 2,.c (.int .i64 r7)],.own 3,.c (.bool r9)]) [.row false 3 [.int .i64] (E.eI .i64 r1),.row false 3 [.int .i64] (E.eI .i64 r5),.row false 145 [.str,.int .i64,.int .i64,.int .i64] (E.e145 r6),.row false 119 [.int .i64,.str,.str,.str] (E.e119 r8)] []:=by
 refine co_ Tryz.func101 tabOkM [400240,400244,400245,20013] fun F hF Q hQ => ?_
 simp only [impl_merged.f] at H
 (conv => cbv)
 repeat' first
  | replace H:=s_ H
  | (exfalso;with_reducible assumption)
  | (rw [itn_iff] at H;obtain ⟨hc,H⟩:=H)
  | (rw [itn2_iff] at H;obtain ⟨hc,H⟩:=H)
  | ((with_reducible refine br2 hF H ?_ ?_) <;> (clear H;intro hb H;(try (conv => cbv))))
  | (refine w_ hF ?_;(try (conv => cbv)))
  | ((with_reducible refine k2_ 111 H ?_);clear H;intro _ _ hy H;refine ca_ hF (impl_renewed.con E hE hy) ?_;(try (conv => cbv)))
  | ((with_reducible refine k1_ 69 H ?_);clear H;intro _ hy H;refine ca_ hF (impl_SegName.con E hE hy) ?_;(try (conv => cbv)))
  | ((with_reducible refine k9_ 109 H ?_);clear H;intro _ _ _ _ _ _ _ _ _ hy H;refine ca_ hF (impl_behind.con E hE hy) ?_;(try (conv => cbv)))
  | ((with_reducible refine lo_ hF (fun n t => n≤k∧∃ x16 x52 x53 x54 v0 v1 v2 v3 v4 v5 v6 v7,t = At 71 [(6,.ptr 6 0),(12,.ptr 12 0),(16,.own 20016),(52,.c (.sl [.int .i64] (E.eI .i64 x52))),(53,.c (.int .i64 x53)),(54,.c (.int .i64 x54))] [(6,.box [.c (.sl [.str,.str] (E.e122 v0))]),(12,.box [.own 400240,.c (.int .i64 v2),.c (.int .i64 v3),.c (.int .i64 v4),.own 400244,.own 400245,.c (.int .i64 v7)]),(20016,.row false 119 [.int .i64,.str,.str,.str] (E.e119 x16)),(400240,.row false 3 [.int .i64] (E.eI .i64 v1)),(400244,.row false 3 [.int .i64] (E.eI .i64 v5)),(400245,.row false 145 [.str,.int .i64,.int .i64,.int .i64] (E.e145 v6))]∧impl_merged.l0 n x16 x52 x53 x54 v0 v1 v2 v3 v4 v5 v6 v7 = some (r1,r2,r3,r4,r5,r6,r7,r8,r9)) ⟨[6,12,16,52,53,54],[6,12],[(16,119)],[(12,0,3),(12,4,3),(12,5,145)]⟩ fun n0 t ht Q0 hN0 hX0 => ?_);obtain ⟨hl,_,_,_,_,_,_,_,_,_,_,_,_,rfl,H⟩:=ht;rcases n0 with _ | n0;cases H;simp only [impl_merged.l0] at H;(try (conv => cbv)))
  | ((with_reducible show Q0 _ _);first | exact nx_ hN0 | (refine xt_ hX0 ?_;(try (conv => cbv))))
  | ((with_reducible show Q _ _);exact en_ ⟨[12,13,14],[12],[(13,119)],[(12,0,3),(12,4,3),(12,5,145)]⟩ 71 hQ)
  | contradiction
theorem impl_InstallShelf.con (E:En) (hE:E = E0) {k l0_0 l1_0 a1_1 a1_2 a1_3 l1_4 l1_5 a1_6 a2 a3 a4 l5 r1 r2 r3 r4 r5 r6 r7 r8 r9} (H:impl_InstallShelf.f k l0_0 l1_0 a1_1 a1_2 a1_3 l1_4 l1_5 a1_6 a2 a3 a4 l5 = some (r1,r2,r3,r4,r5,r6,r7,r8,r9)) :
  Cn 37 [.agg [.c (.sl [.str,.str] (E.e122 l0_0))],.agg [.c (.sl [.int .i64] (E.eI .i64 l1_0)),.c (.int .i64 a1_1),.c (.int .i64 a1_2),.c (.int .i64 a1_3),.c (.sl [.int .i64] (E.eI .i64 l1_4)),.c (.sl [.str,.int .i64,.int .i64,.int .i64] (E.e145 l1_5)),.c (.int .i64 a1_6)],.c (.str a2),.c (.int .i64 a3),.c (.int .i64 a4),.c (.sl [.int .i64] (E.eI .i64 l5))] [] (.tup [.agg [.own 0,.c (.int .i64 r2),.c (.int .i64 r3),.c (.int .i64 r4),.own 1,.own 2,.c (.int .i64 r7)],.own 3,.c (.bool r9)]) [.row false 3 [.int .i64] (E.eI .i64 r1),.row false 3 [.int .i64] (E.eI .i64 r5),.row false 145 [.str,.int .i64,.int .i64,.int .i64] (E.e145 r6),.row false 119 [.int .i64,.str,.str,.str] (E.e119 r8)] []:=by
 refine co_ Tryz.func37 tabOkM [400240,400244,400245,20013] fun F hF Q hQ => ?_
 simp only [impl_InstallShelf.f] at H
 (conv => cbv)
 repeat' first
  | replace H:=s_ H
  | (exfalso;with_reducible assumption)
  | (rw [itn_iff] at H;obtain ⟨hc,H⟩:=H)
  | (rw [itn2_iff] at H;obtain ⟨hc,H⟩:=H)
  | ((with_reducible refine br2 hF H ?_ ?_) <;> (clear H;intro hb H;(try (conv => cbv))))
  | (refine w_ hF ?_;(try (conv => cbv)))
  | ((with_reducible refine k2_ 70 H ?_);clear H;intro _ _ hy H;refine ca_ hF (impl_batchesOf.con E hE hy) ?_;(try (conv => cbv)))
  | ((with_reducible refine k1_ 97 H ?_);clear H;intro _ hy H;refine ca_ hF (impl_isOpen.con E hE hy) ?_;(try (conv => cbv)))
  | ((with_reducible refine k9_ 101 H ?_);clear H;intro _ _ _ _ _ _ _ _ _ hy H;refine ca_ hF (impl_merged.con E hE hy) ?_;(try (conv => cbv)))
  | ((with_reducible show Q _ _);exact en_ ⟨[12,13,14],[12],[(13,119)],[(12,0,3),(12,4,3),(12,5,145)]⟩ 63 hQ)
  | contradiction
theorem laws_eqIntS.con (E:En) (hE:E = E0) {k l0 l1 r} (H:laws_eqIntS.f k l0 l1 = some (r)) :
  Cn 46 [.c (.sl [.int .i64] (E.eI .i64 l0)),.c (.sl [.int .i64] (E.eI .i64 l1))] [] (.c (.bool r)) [] []:=by
 refine co_ Tryz.func46 tabOk [] fun F hF Q hQ => ?_
 simp only [laws_eqIntS.f] at H
 (conv => cbv)
 repeat' first
  | replace H:=s_ H
  | (exfalso;with_reducible assumption)
  | (rw [itn_iff] at H;obtain ⟨hc,H⟩:=H)
  | (rw [itn2_iff] at H;obtain ⟨hc,H⟩:=H)
  | ((with_reducible refine br2 hF H ?_ ?_) <;> (clear H;intro hb H;(try (conv => cbv))))
  | (refine w_ hF ?_;(try (conv => cbv)))
  | ((with_reducible refine lo_ hF (fun n t => n≤k∧∃ x0 x1 x5,t = At 26 [(0,.c (.sl [.int .i64] (E.eI .i64 x0))),(1,.c (.sl [.int .i64] (E.eI .i64 x1))),(5,.c (.int .i64 x5))] []∧laws_eqIntS.l0 n x0 x1 x5 = some (r)) ⟨[0,1,5],[],[],[]⟩ fun n0 t ht Q0 hN0 hX0 => ?_);obtain ⟨hl,_,_,_,rfl,H⟩:=ht;rcases n0 with _ | n0;cases H;simp only [laws_eqIntS.l0] at H;(try (conv => cbv)))
  | ((with_reducible show Q0 _ _);first | exact nx_ hN0 | (refine xt_ hX0 ?_;(try (conv => cbv))))
  | ((with_reducible show Q _ _);exact en_ ⟨[4],[],[],[]⟩ 26 hQ)
  | contradiction
theorem laws_eqManifest.con (E:En) (hE:E = E0) {k l0_0 a0_1 a0_2 a0_3 l0_4 l1_0 a1_1 a1_2 a1_3 l1_4 r} (H:laws_eqManifest.f k l0_0 a0_1 a0_2 a0_3 l0_4 l1_0 a1_1 a1_2 a1_3 l1_4 = some (r)) :
  Cn 72 [.agg [.c (.sl [.int .i64] (E.eI .i64 l0_0)),.c (.int .i64 a0_1),.c (.int .i64 a0_2),.c (.int .i64 a0_3),.c (.sl [.int .i64] (E.eI .i64 l0_4))],.agg [.c (.sl [.int .i64] (E.eI .i64 l1_0)),.c (.int .i64 a1_1),.c (.int .i64 a1_2),.c (.int .i64 a1_3),.c (.sl [.int .i64] (E.eI .i64 l1_4))]] [] (.c (.bool r)) [] []:=by
 refine co_ Tryz.func72 tabOk [] fun F hF Q hQ => ?_
 simp only [laws_eqManifest.f] at H
 (conv => cbv)
 repeat' first
  | replace H:=s_ H
  | (exfalso;with_reducible assumption)
  | (rw [itn_iff] at H;obtain ⟨hc,H⟩:=H)
  | (rw [itn2_iff] at H;obtain ⟨hc,H⟩:=H)
  | ((with_reducible refine br2 hF H ?_ ?_) <;> (clear H;intro hb H;(try (conv => cbv))))
  | (refine w_ hF ?_;(try (conv => cbv)))
  | ((with_reducible refine k1_ 46 H ?_);clear H;intro _ hy H;refine ca_ hF (laws_eqIntS.con E hE hy) ?_;(try (conv => cbv)))
  | ((with_reducible show Q _ _);exact en_ ⟨[4],[],[],[]⟩ 32 hQ)
  | contradiction
theorem laws_eqSpot.con (E:En) (hE:E = E0) {a0_0 a0_1 a0_2 a0_3 a1_0 a1_1 a1_2 a1_3 r} (H:laws_eqSpot.f a0_0 a0_1 a0_2 a0_3 a1_0 a1_1 a1_2 a1_3 = some (r)) :
  Cn 149 [.agg [.c (.str a0_0),.c (.int .i64 a0_1),.c (.int .i64 a0_2),.c (.int .i64 a0_3)],.agg [.c (.str a1_0),.c (.int .i64 a1_1),.c (.int .i64 a1_2),.c (.int .i64 a1_3)]] [] (.c (.bool r)) [] []:=by
 refine co_ Tryz.func149 tabOk [] fun F hF Q hQ => ?_
 simp only [laws_eqSpot.f] at H
 (conv => cbv)
 repeat' first
  | replace H:=s_ H
  | (exfalso;with_reducible assumption)
  | (rw [itn_iff] at H;obtain ⟨hc,H⟩:=H)
  | (rw [itn2_iff] at H;obtain ⟨hc,H⟩:=H)
  | ((with_reducible refine br2 hF H ?_ ?_) <;> (clear H;intro hb H;(try (conv => cbv))))
  | (refine w_ hF ?_;(try (conv => cbv)))
  | ((with_reducible show Q _ _);exact en_ ⟨[4],[],[],[]⟩ 25 hQ)
  | contradiction
theorem laws_eqSpotS.con (E:En) (hE:E = E0) {k l0 l1 r} (H:laws_eqSpotS.f k l0 l1 = some (r)) :
  Cn 73 [.c (.sl [.str,.int .i64,.int .i64,.int .i64] (E.e145 l0)),.c (.sl [.str,.int .i64,.int .i64,.int .i64] (E.e145 l1))] [] (.c (.bool r)) [] []:=by
 refine co_ Tryz.func73 tabOk [] fun F hF Q hQ => ?_
 simp only [laws_eqSpotS.f] at H
 (conv => cbv)
 repeat' first
  | replace H:=s_ H
  | (exfalso;with_reducible assumption)
  | (rw [itn_iff] at H;obtain ⟨hc,H⟩:=H)
  | (rw [itn2_iff] at H;obtain ⟨hc,H⟩:=H)
  | ((with_reducible refine br2 hF H ?_ ?_) <;> (clear H;intro hb H;(try (conv => cbv))))
  | (refine w_ hF ?_;(try (conv => cbv)))
  | ((with_reducible refine k1_ 149 H ?_);clear H;intro _ hy H;refine ca_ hF (laws_eqSpot.con E hE hy) ?_;(try (conv => cbv)))
  | ((with_reducible refine lo_ hF (fun n t => n≤k∧∃ x0 x1 x5,t = At 27 [(0,.c (.sl [.str,.int .i64,.int .i64,.int .i64] (E.e145 x0))),(1,.c (.sl [.str,.int .i64,.int .i64,.int .i64] (E.e145 x1))),(5,.c (.int .i64 x5))] []∧laws_eqSpotS.l0 n x0 x1 x5 = some (r)) ⟨[0,1,5],[],[],[]⟩ fun n0 t ht Q0 hN0 hX0 => ?_);obtain ⟨hl,_,_,_,rfl,H⟩:=ht;rcases n0 with _ | n0;cases H;simp only [laws_eqSpotS.l0] at H;(try (conv => cbv)))
  | ((with_reducible show Q0 _ _);first | exact nx_ hN0 | (refine xt_ hX0 ?_;(try (conv => cbv))))
  | ((with_reducible show Q _ _);exact en_ ⟨[4],[],[],[]⟩ 27 hQ)
  | contradiction
theorem laws_eqShelf.con (E:En) (hE:E = E0) {k l0_0 a0_1 a0_2 a0_3 l0_4 l0_5 a0_6 l1_0 a1_1 a1_2 a1_3 l1_4 l1_5 a1_6 r} (H:laws_eqShelf.f k l0_0 a0_1 a0_2 a0_3 l0_4 l0_5 a0_6 l1_0 a1_1 a1_2 a1_3 l1_4 l1_5 a1_6 = some (r)) :
  Cn 19 [.agg [.c (.sl [.int .i64] (E.eI .i64 l0_0)),.c (.int .i64 a0_1),.c (.int .i64 a0_2),.c (.int .i64 a0_3),.c (.sl [.int .i64] (E.eI .i64 l0_4)),.c (.sl [.str,.int .i64,.int .i64,.int .i64] (E.e145 l0_5)),.c (.int .i64 a0_6)],.agg [.c (.sl [.int .i64] (E.eI .i64 l1_0)),.c (.int .i64 a1_1),.c (.int .i64 a1_2),.c (.int .i64 a1_3),.c (.sl [.int .i64] (E.eI .i64 l1_4)),.c (.sl [.str,.int .i64,.int .i64,.int .i64] (E.e145 l1_5)),.c (.int .i64 a1_6)]] [] (.c (.bool r)) [] []:=by
 refine co_ Tryz.func19 tabOk [] fun F hF Q hQ => ?_
 simp only [laws_eqShelf.f] at H
 (conv => cbv)
 repeat' first
  | replace H:=s_ H
  | (exfalso;with_reducible assumption)
  | (rw [itn_iff] at H;obtain ⟨hc,H⟩:=H)
  | (rw [itn2_iff] at H;obtain ⟨hc,H⟩:=H)
  | ((with_reducible refine br2 hF H ?_ ?_) <;> (clear H;intro hb H;(try (conv => cbv))))
  | (refine w_ hF ?_;(try (conv => cbv)))
  | ((with_reducible refine k1_ 72 H ?_);clear H;intro _ hy H;refine ca_ hF (laws_eqManifest.con E hE hy) ?_;(try (conv => cbv)))
  | ((with_reducible refine k1_ 73 H ?_);clear H;intro _ hy H;refine ca_ hF (laws_eqSpotS.con E hE hy) ?_;(try (conv => cbv)))
  | ((with_reducible show Q _ _);exact en_ ⟨[4],[],[],[]⟩ 22 hQ)
  | contradiction
theorem laws_eqRaw.con (E:En) (hE:E = E0) {a0_0 a0_1 a0_2 a0_3 a1_0 a1_1 a1_2 a1_3 r} (H:laws_eqRaw.f a0_0 a0_1 a0_2 a0_3 a1_0 a1_1 a1_2 a1_3 = some (r)) :
  Cn 83 [.agg [.c (.int .i64 a0_0),.c (.str a0_1),.c (.str a0_2),.c (.str a0_3)],.agg [.c (.int .i64 a1_0),.c (.str a1_1),.c (.str a1_2),.c (.str a1_3)]] [] (.c (.bool r)) [] []:=by
 refine co_ Tryz.func83 tabOk [] fun F hF Q hQ => ?_
 simp only [laws_eqRaw.f] at H
 (conv => cbv)
 repeat' first
  | replace H:=s_ H
  | (exfalso;with_reducible assumption)
  | (rw [itn_iff] at H;obtain ⟨hc,H⟩:=H)
  | (rw [itn2_iff] at H;obtain ⟨hc,H⟩:=H)
  | ((with_reducible refine br2 hF H ?_ ?_) <;> (clear H;intro hb H;(try (conv => cbv))))
  | (refine w_ hF ?_;(try (conv => cbv)))
  | ((with_reducible show Q _ _);exact en_ ⟨[4],[],[],[]⟩ 25 hQ)
  | contradiction
theorem laws_eqRawS.con (E:En) (hE:E = E0) {k l0 l1 r} (H:laws_eqRawS.f k l0 l1 = some (r)) :
  Cn 22 [.c (.sl [.int .i64,.str,.str,.str] (E.e119 l0)),.c (.sl [.int .i64,.str,.str,.str] (E.e119 l1))] [] (.c (.bool r)) [] []:=by
 refine co_ Tryz.func22 tabOk [] fun F hF Q hQ => ?_
 simp only [laws_eqRawS.f] at H
 (conv => cbv)
 repeat' first
  | replace H:=s_ H
  | (exfalso;with_reducible assumption)
  | (rw [itn_iff] at H;obtain ⟨hc,H⟩:=H)
  | (rw [itn2_iff] at H;obtain ⟨hc,H⟩:=H)
  | ((with_reducible refine br2 hF H ?_ ?_) <;> (clear H;intro hb H;(try (conv => cbv))))
  | (refine w_ hF ?_;(try (conv => cbv)))
  | ((with_reducible refine k1_ 83 H ?_);clear H;intro _ hy H;refine ca_ hF (laws_eqRaw.con E hE hy) ?_;(try (conv => cbv)))
  | ((with_reducible refine lo_ hF (fun n t => n≤k∧∃ x0 x1 x5,t = At 27 [(0,.c (.sl [.int .i64,.str,.str,.str] (E.e119 x0))),(1,.c (.sl [.int .i64,.str,.str,.str] (E.e119 x1))),(5,.c (.int .i64 x5))] []∧laws_eqRawS.l0 n x0 x1 x5 = some (r)) ⟨[0,1,5],[],[],[]⟩ fun n0 t ht Q0 hN0 hX0 => ?_);obtain ⟨hl,_,_,_,rfl,H⟩:=ht;rcases n0 with _ | n0;cases H;simp only [laws_eqRawS.l0] at H;(try (conv => cbv)))
  | ((with_reducible show Q0 _ _);first | exact nx_ hN0 | (refine xt_ hX0 ?_;(try (conv => cbv))))
  | ((with_reducible show Q _ _);exact en_ ⟨[4],[],[],[]⟩ 27 hQ)
  | contradiction
theorem laws_eqFile.con (E:En) (hE:E = E0) {a0_0 a0_1 a1_0 a1_1 r} (H:laws_eqFile.f a0_0 a0_1 a1_0 a1_1 = some (r)) :
  Cn 148 [.agg [.c (.str a0_0),.c (.str a0_1)],.agg [.c (.str a1_0),.c (.str a1_1)]] [] (.c (.bool r)) [] []:=by
 refine co_ Tryz.func148 tabOk [] fun F hF Q hQ => ?_
 simp only [laws_eqFile.f] at H
 (conv => cbv)
 repeat' first
  | replace H:=s_ H
  | (exfalso;with_reducible assumption)
  | (rw [itn_iff] at H;obtain ⟨hc,H⟩:=H)
  | (rw [itn2_iff] at H;obtain ⟨hc,H⟩:=H)
  | ((with_reducible refine br2 hF H ?_ ?_) <;> (clear H;intro hb H;(try (conv => cbv))))
  | (refine w_ hF ?_;(try (conv => cbv)))
  | ((with_reducible show Q _ _);exact en_ ⟨[4],[],[],[]⟩ 15 hQ)
  | contradiction
theorem laws_eqFileS.con (E:En) (hE:E = E0) {k l0 l1 r} (H:laws_eqFileS.f k l0 l1 = some (r)) :
  Cn 71 [.c (.sl [.str,.str] (E.e122 l0)),.c (.sl [.str,.str] (E.e122 l1))] [] (.c (.bool r)) [] []:=by
 refine co_ Tryz.func71 tabOk [] fun F hF Q hQ => ?_
 simp only [laws_eqFileS.f] at H
 (conv => cbv)
 repeat' first
  | replace H:=s_ H
  | (exfalso;with_reducible assumption)
  | (rw [itn_iff] at H;obtain ⟨hc,H⟩:=H)
  | (rw [itn2_iff] at H;obtain ⟨hc,H⟩:=H)
  | ((with_reducible refine br2 hF H ?_ ?_) <;> (clear H;intro hb H;(try (conv => cbv))))
  | (refine w_ hF ?_;(try (conv => cbv)))
  | ((with_reducible refine k1_ 148 H ?_);clear H;intro _ hy H;refine ca_ hF (laws_eqFile.con E hE hy) ?_;(try (conv => cbv)))
  | ((with_reducible refine lo_ hF (fun n t => n≤k∧∃ x0 x1 x5,t = At 27 [(0,.c (.sl [.str,.str] (E.e122 x0))),(1,.c (.sl [.str,.str] (E.e122 x1))),(5,.c (.int .i64 x5))] []∧laws_eqFileS.l0 n x0 x1 x5 = some (r)) ⟨[0,1,5],[],[],[]⟩ fun n0 t ht Q0 hN0 hX0 => ?_);obtain ⟨hl,_,_,_,rfl,H⟩:=ht;rcases n0 with _ | n0;cases H;simp only [laws_eqFileS.l0] at H;(try (conv => cbv)))
  | ((with_reducible show Q0 _ _);first | exact nx_ hN0 | (refine xt_ hX0 ?_;(try (conv => cbv))))
  | ((with_reducible show Q _ _);exact en_ ⟨[4],[],[],[]⟩ 27 hQ)
  | contradiction
theorem laws_eqDisk.con (E:En) (hE:E = E0) {k l0_0 l1_0 r} (H:laws_eqDisk.f k l0_0 l1_0 = some (r)) :
  Cn 18 [.agg [.c (.sl [.str,.str] (E.e122 l0_0))],.agg [.c (.sl [.str,.str] (E.e122 l1_0))]] [] (.c (.bool r)) [] []:=by
 refine co_ Tryz.func18 tabOk [] fun F hF Q hQ => ?_
 simp only [laws_eqDisk.f] at H
 (conv => cbv)
 repeat' first
  | replace H:=s_ H
  | (exfalso;with_reducible assumption)
  | (rw [itn_iff] at H;obtain ⟨hc,H⟩:=H)
  | (rw [itn2_iff] at H;obtain ⟨hc,H⟩:=H)
  | ((with_reducible refine br2 hF H ?_ ?_) <;> (clear H;intro hb H;(try (conv => cbv))))
  | (refine w_ hF ?_;(try (conv => cbv)))
  | ((with_reducible refine k1_ 71 H ?_);clear H;intro _ hy H;refine ca_ hF (laws_eqFileS.con E hE hy) ?_;(try (conv => cbv)))
  | ((with_reducible show Q _ _);exact en_ ⟨[4],[],[],[]⟩ 11 hQ)
  | contradiction
theorem laws_markText.con (E:En) (hE:E = E0) {k a0 r} (H:laws_markText.f k a0 = some r) :
  Cn 87 [.c (.int .i64 a0)] [] (.c (.str r)) [] []:=by
 refine co_ Tryz.func87 tabOkM [] fun F hF Q hQ => ?_
 simp only [laws_markText.f] at H
 (conv => cbv)
 repeat' first
  | replace H:=s_ H
  | (exfalso;with_reducible assumption)
  | (rw [itn_iff] at H;obtain ⟨hc,H⟩:=H)
  | (rw [itn2_iff] at H;obtain ⟨hc,H⟩:=H)
  | ((with_reducible refine br2 hF H ?_ ?_) <;> (clear H;intro hb H;(try (conv => cbv))))
  | (refine w_ hF ?_;(try (conv => cbv)))
  | ((with_reducible refine lo_ hF (fun n t => n≤k∧∃ x0 x3,t = At 20 [(0,.c (.int .i64 x0)),(3,.c (.str x3))] []∧laws_markText.l0 n x0 x3 = some r) ⟨[0,3],[],[],[]⟩ fun n0 t ht Q0 hN0 hX0 => ?_);obtain ⟨hl,_,_,rfl,H⟩:=ht;rcases n0 with _ | n0;cases H;simp only [laws_markText.l0] at H;(try (conv => cbv)))
  | ((with_reducible show Q0 _ _);first | exact nx_ hN0 | (refine xt_ hX0 ?_;(try (conv => cbv))))
  | ((with_reducible show Q _ _);exact en_ ⟨[2],[],[],[]⟩ 20 hQ)
  | contradiction
theorem laws_markFileS.con (E:En) (hE:E = E0) {k l0 a1 r1 r2} (H:laws_markFileS.f k l0 a1 = some (r1,r2)) :
  Cn 84 [.own 10000,.c (.int .i64 a1)] [.row false 122 [.str,.str] (E.e122 l0)] (.c (.int .i64 r1)) [] [.row false 122 [.str,.str] (E.e122 r2)]:=by
 refine co_ Tryz.func84 tabOkM [] fun F hF Q hQ => ?_
 simp only [laws_markFileS.f] at H
 (conv => cbv)
 repeat' first
  | replace H:=s_ H
  | (exfalso;with_reducible assumption)
  | (rw [itn_iff] at H;obtain ⟨hc,H⟩:=H)
  | (rw [itn2_iff] at H;obtain ⟨hc,H⟩:=H)
  | ((with_reducible refine br2 hF H ?_ ?_) <;> (clear H;intro hb H;(try (conv => cbv))))
  | (refine w_ hF ?_;(try (conv => cbv)))
  | ((with_reducible refine k1_ 87 H ?_);clear H;intro _ hy H;refine ca_ hF (laws_markText.con E hE hy) ?_;(try (conv => cbv)))
  | ((with_reducible refine lo_ hF (fun n t => n≤k∧∃ w0 x1 x5,t = At 29 [(0,.own 10000),(1,.c (.int .i64 x1)),(5,.c (.int .i64 x5))] [(10000,.row false 122 [.str,.str] (E.e122 w0))]∧laws_markFileS.l0 n w0 x1 x5 = some (r1,r2)) ⟨[0,1,5],[],[],[]⟩ fun n0 t ht Q0 hN0 hX0 => ?_);obtain ⟨hl,_,_,_,rfl,H⟩:=ht;rcases n0 with _ | n0;cases H;simp only [laws_markFileS.l0] at H;(try (conv => cbv)))
  | ((with_reducible show Q0 _ _);first | exact nx_ hN0 | (refine xt_ hX0 ?_;(try (conv => cbv))))
  | ((with_reducible show Q _ _);exact en_ ⟨[4],[],[],[]⟩ 29 hQ)
  | contradiction
end Go.Ev
