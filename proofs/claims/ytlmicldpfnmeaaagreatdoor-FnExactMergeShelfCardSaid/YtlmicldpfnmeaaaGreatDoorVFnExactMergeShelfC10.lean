/- Contracts of the Go functions that this law reaches: what each call returns, by its plain function. No conditions but those that each statement names. By this repo's programs; comments are taken out. -/
import Derived.Test.YtlmicldpfnmeaaaGreatDoorVFnExactMergeShelfD
import Derived.Test.YtlmicldpfnmeaaaGreatDoorVFnExactMergeShelfC7
import Derived.Test.YtlmicldpfnmeaaaGreatDoorVFnExactMergeShelfC9
set_option linter.all false
namespace Go.Ev
open Go.RowKit Go.Proofs Go.Proofs.YtlmicldpfnmeaaaGreatDoorW.PrintWords Go.Proofs.YtlmicldpfnmeaaaGreatDoorW.PrintLast Go.Proofs.YtlmicldpfnmeaaaGreatDoorW.PrintMore
set_option maxRecDepth 100000
set_option maxHeartbeats 4000000
theorem impl_MergeShelf.con (E:En) (hE:E = E0) {k l0_0 l1_0 a1_1 a1_2 a1_3 l1_4 l1_5 a1_6 a2 a3 l4 r1 r2 r3 r4 r5 r6 r7 r8 r9} (H:impl_MergeShelf.f k l0_0 l1_0 a1_1 a1_2 a1_3 l1_4 l1_5 a1_6 a2 a3 l4 = some (r1,r2,r3,r4,r5,r6,r7,r8,r9)) :
  Cn 31 [.agg [.c (.sl [.str,.str] (E.e122 l0_0))],.agg [.c (.sl [.int .i64] (E.eI .i64 l1_0)),.c (.int .i64 a1_1),.c (.int .i64 a1_2),.c (.int .i64 a1_3),.c (.sl [.int .i64] (E.eI .i64 l1_4)),.c (.sl [.str,.int .i64,.int .i64,.int .i64] (E.e145 l1_5)),.c (.int .i64 a1_6)],.c (.int .i64 a2),.c (.int .i64 a3),.c (.sl [.int .i64] (E.eI .i64 l4))] [] (.tup [.agg [.own 0,.c (.int .i64 r2),.c (.int .i64 r3),.c (.int .i64 r4),.own 1,.own 2,.c (.int .i64 r7)],.own 3,.c (.bool r9)]) [.row false 3 [.int .i64] (E.eI .i64 r1),.row false 3 [.int .i64] (E.eI .i64 r5),.row false 145 [.str,.int .i64,.int .i64,.int .i64] (E.e145 r6),.row false 119 [.int .i64,.str,.str,.str] (E.e119 r8)] []:=by
 refine co_ Tryz.func31 tabOkM [400200,400204,400205,20011] fun F hF Q hQ => ?_
 simp only [impl_MergeShelf.f] at H
 (conv => cbv)
 repeat' first
  | replace H:=s_ H
  | (exfalso;with_reducible assumption)
  | (rw [itn_iff] at H;obtain ⟨hc,H⟩:=H)
  | (rw [itn2_iff] at H;obtain ⟨hc,H⟩:=H)
  | ((with_reducible refine br2 hF H ?_ ?_) <;> (clear H;intro hb H;(try (conv => cbv))))
  | (refine w_ hF ?_;(try (conv => cbv)))
  | ((with_reducible refine k1_ 97 H ?_);clear H;intro _ hy H;refine ca_ hF (impl_isOpen.con E hE hy) ?_;(try (conv => cbv)))
  | ((with_reducible refine k2_ 34 H ?_);clear H;intro _ _ hy H;refine ca_ hF (impl_ShelfMap.con E hE hy) ?_;(try (conv => cbv)))
  | ((with_reducible refine k3_ 98 H ?_);clear H;intro _ _ _ hy H;refine ca_ hF (impl_MapBatch.con E hE hy) ?_;(try (conv => cbv)))
  | ((with_reducible refine k2_ 99 H ?_);clear H;intro _ _ hy H;refine ca_ hF (impl_BatchText.con E hE hy) ?_;(try (conv => cbv)))
  | ((with_reducible refine k2_ 100 H ?_);clear H;intro _ _ hy H;refine ca_ hF (impl_Frame.con E hE hy) ?_;(try (conv => cbv)))
  | ((with_reducible refine k9_ 101 H ?_);clear H;intro _ _ _ _ _ _ _ _ _ hy H;refine ca_ hF (impl_merged.con E hE hy) ?_;(try (conv => cbv)))
  | ((with_reducible show Q _ _);exact en_ ⟨[10,11,12],[10],[(11,119)],[(10,0,3),(10,4,3),(10,5,145)]⟩ 80 hQ)
  | contradiction
theorem laws_eqIntS.con (E:En) (hE:E = E0) {k l0 l1 r} (H:laws_eqIntS.f k l0 l1 = some (r)) :
  Cn 46 [.c (.sl [.int .i64] (E.eI .i64 l0)),.c (.sl [.int .i64] (E.eI .i64 l1))] [] (.c (.bool r)) [] []:=by
 refine co_ Tryz.func46 tabOk [] fun F hF Q hQ => ?_
 simp only [laws_eqIntS.f] at H
 (conv => cbv)
 repeat' first
  | replace H:=s_ H
  | (exfalso;with_reducible assumption)
  | (rw [itn_iff] at H;obtain ⟨hc,H⟩:=H)
  | (rw [itn2_iff] at H;obtain ⟨hc,H⟩:=H)
  | ((with_reducible refine br2 hF H ?_ ?_) <;> (clear H;intro hb H;(try (conv => cbv))))
  | (refine w_ hF ?_;(try (conv => cbv)))
  | ((with_reducible refine lo_ hF (fun n t => n≤k∧∃ x0 x1 x5,t = At 26 [(0,.c (.sl [.int .i64] (E.eI .i64 x0))),(1,.c (.sl [.int .i64] (E.eI .i64 x1))),(5,.c (.int .i64 x5))] []∧laws_eqIntS.l0 n x0 x1 x5 = some (r)) ⟨[0,1,5],[],[],[]⟩ fun n0 t ht Q0 hN0 hX0 => ?_);obtain ⟨hl,_,_,_,rfl,H⟩:=ht;rcases n0 with _ | n0;cases H;simp only [laws_eqIntS.l0] at H;(try (conv => cbv)))
  | ((with_reducible show Q0 _ _);first | exact nx_ hN0 | (refine xt_ hX0 ?_;(try (conv => cbv))))
  | ((with_reducible show Q _ _);exact en_ ⟨[4],[],[],[]⟩ 26 hQ)
  | contradiction
theorem laws_eqManifest.con (E:En) (hE:E = E0) {k l0_0 a0_1 a0_2 a0_3 l0_4 l1_0 a1_1 a1_2 a1_3 l1_4 r} (H:laws_eqManifest.f k l0_0 a0_1 a0_2 a0_3 l0_4 l1_0 a1_1 a1_2 a1_3 l1_4 = some (r)) :
  Cn 72 [.agg [.c (.sl [.int .i64] (E.eI .i64 l0_0)),.c (.int .i64 a0_1),.c (.int .i64 a0_2),.c (.int .i64 a0_3),.c (.sl [.int .i64] (E.eI .i64 l0_4))],.agg [.c (.sl [.int .i64] (E.eI .i64 l1_0)),.c (.int .i64 a1_1),.c (.int .i64 a1_2),.c (.int .i64 a1_3),.c (.sl [.int .i64] (E.eI .i64 l1_4))]] [] (.c (.bool r)) [] []:=by
 refine co_ Tryz.func72 tabOk [] fun F hF Q hQ => ?_
 simp only [laws_eqManifest.f] at H
 (conv => cbv)
 repeat' first
  | replace H:=s_ H
  | (exfalso;with_reducible assumption)
  | (rw [itn_iff] at H;obtain ⟨hc,H⟩:=H)
  | (rw [itn2_iff] at H;obtain ⟨hc,H⟩:=H)
  | ((with_reducible refine br2 hF H ?_ ?_) <;> (clear H;intro hb H;(try (conv => cbv))))
  | (refine w_ hF ?_;(try (conv => cbv)))
  | ((with_reducible refine k1_ 46 H ?_);clear H;intro _ hy H;refine ca_ hF (laws_eqIntS.con E hE hy) ?_;(try (conv => cbv)))
  | ((with_reducible show Q _ _);exact en_ ⟨[4],[],[],[]⟩ 32 hQ)
  | contradiction
theorem laws_eqSpot.con (E:En) (hE:E = E0) {a0_0 a0_1 a0_2 a0_3 a1_0 a1_1 a1_2 a1_3 r} (H:laws_eqSpot.f a0_0 a0_1 a0_2 a0_3 a1_0 a1_1 a1_2 a1_3 = some (r)) :
  Cn 149 [.agg [.c (.str a0_0),.c (.int .i64 a0_1),.c (.int .i64 a0_2),.c (.int .i64 a0_3)],.agg [.c (.str a1_0),.c (.int .i64 a1_1),.c (.int .i64 a1_2),.c (.int .i64 a1_3)]] [] (.c (.bool r)) [] []:=by
 refine co_ Tryz.func149 tabOk [] fun F hF Q hQ => ?_
 simp only [laws_eqSpot.f] at H
 (conv => cbv)
 repeat' first
  | replace H:=s_ H
  | (exfalso;with_reducible assumption)
  | (rw [itn_iff] at H;obtain ⟨hc,H⟩:=H)
  | (rw [itn2_iff] at H;obtain ⟨hc,H⟩:=H)
  | ((with_reducible refine br2 hF H ?_ ?_) <;> (clear H;intro hb H;(try (conv => cbv))))
  | (refine w_ hF ?_;(try (conv => cbv)))
  | ((with_reducible show Q _ _);exact en_ ⟨[4],[],[],[]⟩ 25 hQ)
  | contradiction
theorem laws_eqSpotS.con (E:En) (hE:E = E0) {k l0 l1 r} (H:laws_eqSpotS.f k l0 l1 = some (r)) :
  Cn 73 [.c (.sl [.str,.int .i64,.int .i64,.int .i64] (E.e145 l0)),.c (.sl [.str,.int .i64,.int .i64,.int .i64] (E.e145 l1))] [] (.c (.bool r)) [] []:=by
 refine co_ Tryz.func73 tabOk [] fun F hF Q hQ => ?_
 simp only [laws_eqSpotS.f] at H
 (conv => cbv)
 repeat' first
  | replace H:=s_ H
  | (exfalso;with_reducible assumption)
  | (rw [itn_iff] at H;obtain ⟨hc,H⟩:=H)
  | (rw [itn2_iff] at H;obtain ⟨hc,H⟩:=H)
  | ((with_reducible refine br2 hF H ?_ ?_) <;> (clear H;intro hb H;(try (conv => cbv))))
  | (refine w_ hF ?_;(try (conv => cbv)))
  | ((with_reducible refine k1_ 149 H ?_);clear H;intro _ hy H;refine ca_ hF (laws_eqSpot.con E hE hy) ?_;(try (conv => cbv)))
  | ((with_reducible refine lo_ hF (fun n t => n≤k∧∃ x0 x1 x5,t = At 27 [(0,.c (.sl [.str,.int .i64,.int .i64,.int .i64] (E.e145 x0))),(1,.c (.sl [.str,.int .i64,.int .i64,.int .i64] (E.e145 x1))),(5,.c (.int .i64 x5))] []∧laws_eqSpotS.l0 n x0 x1 x5 = some (r)) ⟨[0,1,5],[],[],[]⟩ fun n0 t ht Q0 hN0 hX0 => ?_);obtain ⟨hl,_,_,_,rfl,H⟩:=ht;rcases n0 with _ | n0;cases H;simp only [laws_eqSpotS.l0] at H;(try (conv => cbv)))
  | ((with_reducible show Q0 _ _);first | exact nx_ hN0 | (refine xt_ hX0 ?_;(try (conv => cbv))))
  | ((with_reducible show Q _ _);exact en_ ⟨[4],[],[],[]⟩ 27 hQ)
  | contradiction
theorem laws_eqShelf.con (E:En) (hE:E = E0) {k l0_0 a0_1 a0_2 a0_3 l0_4 l0_5 a0_6 l1_0 a1_1 a1_2 a1_3 l1_4 l1_5 a1_6 r} (H:laws_eqShelf.f k l0_0 a0_1 a0_2 a0_3 l0_4 l0_5 a0_6 l1_0 a1_1 a1_2 a1_3 l1_4 l1_5 a1_6 = some (r)) :
  Cn 19 [.agg [.c (.sl [.int .i64] (E.eI .i64 l0_0)),.c (.int .i64 a0_1),.c (.int .i64 a0_2),.c (.int .i64 a0_3),.c (.sl [.int .i64] (E.eI .i64 l0_4)),.c (.sl [.str,.int .i64,.int .i64,.int .i64] (E.e145 l0_5)),.c (.int .i64 a0_6)],.agg [.c (.sl [.int .i64] (E.eI .i64 l1_0)),.c (.int .i64 a1_1),.c (.int .i64 a1_2),.c (.int .i64 a1_3),.c (.sl [.int .i64] (E.eI .i64 l1_4)),.c (.sl [.str,.int .i64,.int .i64,.int .i64] (E.e145 l1_5)),.c (.int .i64 a1_6)]] [] (.c (.bool r)) [] []:=by
 refine co_ Tryz.func19 tabOk [] fun F hF Q hQ => ?_
 simp only [laws_eqShelf.f] at H
 (conv => cbv)
 repeat' first
  | replace H:=s_ H
  | (exfalso;with_reducible assumption)
  | (rw [itn_iff] at H;obtain ⟨hc,H⟩:=H)
  | (rw [itn2_iff] at H;obtain ⟨hc,H⟩:=H)
  | ((with_reducible refine br2 hF H ?_ ?_) <;> (clear H;intro hb H;(try (conv => cbv))))
  | (refine w_ hF ?_;(try (conv => cbv)))
  | ((with_reducible refine k1_ 72 H ?_);clear H;intro _ hy H;refine ca_ hF (laws_eqManifest.con E hE hy) ?_;(try (conv => cbv)))
  | ((with_reducible refine k1_ 73 H ?_);clear H;intro _ hy H;refine ca_ hF (laws_eqSpotS.con E hE hy) ?_;(try (conv => cbv)))
  | ((with_reducible show Q _ _);exact en_ ⟨[4],[],[],[]⟩ 22 hQ)
  | contradiction
theorem laws_eqRaw.con (E:En) (hE:E = E0) {a0_0 a0_1 a0_2 a0_3 a1_0 a1_1 a1_2 a1_3 r} (H:laws_eqRaw.f a0_0 a0_1 a0_2 a0_3 a1_0 a1_1 a1_2 a1_3 = some (r)) :
  Cn 83 [.agg [.c (.int .i64 a0_0),.c (.str a0_1),.c (.str a0_2),.c (.str a0_3)],.agg [.c (.int .i64 a1_0),.c (.str a1_1),.c (.str a1_2),.c (.str a1_3)]] [] (.c (.bool r)) [] []:=by
 refine co_ Tryz.func83 tabOk [] fun F hF Q hQ => ?_
 simp only [laws_eqRaw.f] at H
 (conv => cbv)
 repeat' first
  | replace H:=s_ H
  | (exfalso;with_reducible assumption)
  | (rw [itn_iff] at H;obtain ⟨hc,H⟩:=H)
  | (rw [itn2_iff] at H;obtain ⟨hc,H⟩:=H)
  | ((with_reducible refine br2 hF H ?_ ?_) <;> (clear H;intro hb H;(try (conv => cbv))))
  | (refine w_ hF ?_;(try (conv => cbv)))
  | ((with_reducible show Q _ _);exact en_ ⟨[4],[],[],[]⟩ 25 hQ)
  | contradiction
theorem laws_eqRawS.con (E:En) (hE:E = E0) {k l0 l1 r} (H:laws_eqRawS.f k l0 l1 = some (r)) :
  Cn 22 [.c (.sl [.int .i64,.str,.str,.str] (E.e119 l0)),.c (.sl [.int .i64,.str,.str,.str] (E.e119 l1))] [] (.c (.bool r)) [] []:=by
 refine co_ Tryz.func22 tabOk [] fun F hF Q hQ => ?_
 simp only [laws_eqRawS.f] at H
 (conv => cbv)
 repeat' first
  | replace H:=s_ H
  | (exfalso;with_reducible assumption)
  | (rw [itn_iff] at H;obtain ⟨hc,H⟩:=H)
  | (rw [itn2_iff] at H;obtain ⟨hc,H⟩:=H)
  | ((with_reducible refine br2 hF H ?_ ?_) <;> (clear H;intro hb H;(try (conv => cbv))))
  | (refine w_ hF ?_;(try (conv => cbv)))
  | ((with_reducible refine k1_ 83 H ?_);clear H;intro _ hy H;refine ca_ hF (laws_eqRaw.con E hE hy) ?_;(try (conv => cbv)))
  | ((with_reducible refine lo_ hF (fun n t => n≤k∧∃ x0 x1 x5,t = At 27 [(0,.c (.sl [.int .i64,.str,.str,.str] (E.e119 x0))),(1,.c (.sl [.int .i64,.str,.str,.str] (E.e119 x1))),(5,.c (.int .i64 x5))] []∧laws_eqRawS.l0 n x0 x1 x5 = some (r)) ⟨[0,1,5],[],[],[]⟩ fun n0 t ht Q0 hN0 hX0 => ?_);obtain ⟨hl,_,_,_,rfl,H⟩:=ht;rcases n0 with _ | n0;cases H;simp only [laws_eqRawS.l0] at H;(try (conv => cbv)))
  | ((with_reducible show Q0 _ _);first | exact nx_ hN0 | (refine xt_ hX0 ?_;(try (conv => cbv))))
  | ((with_reducible show Q _ _);exact en_ ⟨[4],[],[],[]⟩ 27 hQ)
  | contradiction
theorem laws_eqFile.con (E:En) (hE:E = E0) {a0_0 a0_1 a1_0 a1_1 r} (H:laws_eqFile.f a0_0 a0_1 a1_0 a1_1 = some (r)) :
  Cn 148 [.agg [.c (.str a0_0),.c (.str a0_1)],.agg [.c (.str a1_0),.c (.str a1_1)]] [] (.c (.bool r)) [] []:=by
 refine co_ Tryz.func148 tabOk [] fun F hF Q hQ => ?_
 simp only [laws_eqFile.f] at H
 (conv => cbv)
 repeat' first
  | replace H:=s_ H
  | (exfalso;with_reducible assumption)
  | (rw [itn_iff] at H;obtain ⟨hc,H⟩:=H)
  | (rw [itn2_iff] at H;obtain ⟨hc,H⟩:=H)
  | ((with_reducible refine br2 hF H ?_ ?_) <;> (clear H;intro hb H;(try (conv => cbv))))
  | (refine w_ hF ?_;(try (conv => cbv)))
  | ((with_reducible show Q _ _);exact en_ ⟨[4],[],[],[]⟩ 15 hQ)
  | contradiction
theorem laws_eqFileS.con (E:En) (hE:E = E0) {k l0 l1 r} (H:laws_eqFileS.f k l0 l1 = some (r)) :
  Cn 71 [.c (.sl [.str,.str] (E.e122 l0)),.c (.sl [.str,.str] (E.e122 l1))] [] (.c (.bool r)) [] []:=by
 refine co_ Tryz.func71 tabOk [] fun F hF Q hQ => ?_
 simp only [laws_eqFileS.f] at H
 (conv => cbv)
 repeat' first
  | replace H:=s_ H
  | (exfalso;with_reducible assumption)
  | (rw [itn_iff] at H;obtain ⟨hc,H⟩:=H)
  | (rw [itn2_iff] at H;obtain ⟨hc,H⟩:=H)
  | ((with_reducible refine br2 hF H ?_ ?_) <;> (clear H;intro hb H;(try (conv => cbv))))
  | (refine w_ hF ?_;(try (conv => cbv)))
  | ((with_reducible refine k1_ 148 H ?_);clear H;intro _ hy H;refine ca_ hF (laws_eqFile.con E hE hy) ?_;(try (conv => cbv)))
  | ((with_reducible refine lo_ hF (fun n t => n≤k∧∃ x0 x1 x5,t = At 27 [(0,.c (.sl [.str,.str] (E.e122 x0))),(1,.c (.sl [.str,.str] (E.e122 x1))),(5,.c (.int .i64 x5))] []∧laws_eqFileS.l0 n x0 x1 x5 = some (r)) ⟨[0,1,5],[],[],[]⟩ fun n0 t ht Q0 hN0 hX0 => ?_);obtain ⟨hl,_,_,_,rfl,H⟩:=ht;rcases n0 with _ | n0;cases H;simp only [laws_eqFileS.l0] at H;(try (conv => cbv)))
  | ((with_reducible show Q0 _ _);first | exact nx_ hN0 | (refine xt_ hX0 ?_;(try (conv => cbv))))
  | ((with_reducible show Q _ _);exact en_ ⟨[4],[],[],[]⟩ 27 hQ)
  | contradiction
theorem laws_eqDisk.con (E:En) (hE:E = E0) {k l0_0 l1_0 r} (H:laws_eqDisk.f k l0_0 l1_0 = some (r)) :
  Cn 18 [.agg [.c (.sl [.str,.str] (E.e122 l0_0))],.agg [.c (.sl [.str,.str] (E.e122 l1_0))]] [] (.c (.bool r)) [] []:=by
 refine co_ Tryz.func18 tabOk [] fun F hF Q hQ => ?_
 simp only [laws_eqDisk.f] at H
 (conv => cbv)
 repeat' first
  | replace H:=s_ H
  | (exfalso;with_reducible assumption)
  | (rw [itn_iff] at H;obtain ⟨hc,H⟩:=H)
  | (rw [itn2_iff] at H;obtain ⟨hc,H⟩:=H)
  | ((with_reducible refine br2 hF H ?_ ?_) <;> (clear H;intro hb H;(try (conv => cbv))))
  | (refine w_ hF ?_;(try (conv => cbv)))
  | ((with_reducible refine k1_ 71 H ?_);clear H;intro _ hy H;refine ca_ hF (laws_eqFileS.con E hE hy) ?_;(try (conv => cbv)))
  | ((with_reducible show Q _ _);exact en_ ⟨[4],[],[],[]⟩ 11 hQ)
  | contradiction
theorem laws_markText.con (E:En) (hE:E = E0) {k a0 r} (H:laws_markText.f k a0 = some r) :
  Cn 87 [.c (.int .i64 a0)] [] (.c (.str r)) [] []:=by
 refine co_ Tryz.func87 tabOkM [] fun F hF Q hQ => ?_
 simp only [laws_markText.f] at H
 (conv => cbv)
 repeat' first
  | replace H:=s_ H
  | (exfalso;with_reducible assumption)
  | (rw [itn_iff] at H;obtain ⟨hc,H⟩:=H)
  | (rw [itn2_iff] at H;obtain ⟨hc,H⟩:=H)
  | ((with_reducible refine br2 hF H ?_ ?_) <;> (clear H;intro hb H;(try (conv => cbv))))
  | (refine w_ hF ?_;(try (conv => cbv)))
  | ((with_reducible refine lo_ hF (fun n t => n≤k∧∃ x0 x3,t = At 20 [(0,.c (.int .i64 x0)),(3,.c (.str x3))] []∧laws_markText.l0 n x0 x3 = some r) ⟨[0,3],[],[],[]⟩ fun n0 t ht Q0 hN0 hX0 => ?_);obtain ⟨hl,_,_,rfl,H⟩:=ht;rcases n0 with _ | n0;cases H;simp only [laws_markText.l0] at H;(try (conv => cbv)))
  | ((with_reducible show Q0 _ _);first | exact nx_ hN0 | (refine xt_ hX0 ?_;(try (conv => cbv))))
  | ((with_reducible show Q _ _);exact en_ ⟨[2],[],[],[]⟩ 20 hQ)
  | contradiction
theorem laws_markFileS.con (E:En) (hE:E = E0) {k l0 a1 r1 r2} (H:laws_markFileS.f k l0 a1 = some (r1,r2)) :
  Cn 84 [.own 10000,.c (.int .i64 a1)] [.row false 122 [.str,.str] (E.e122 l0)] (.c (.int .i64 r1)) [] [.row false 122 [.str,.str] (E.e122 r2)]:=by
 refine co_ Tryz.func84 tabOkM [] fun F hF Q hQ => ?_
 simp only [laws_markFileS.f] at H
 (conv => cbv)
 repeat' first
  | replace H:=s_ H
  | (exfalso;with_reducible assumption)
  | (rw [itn_iff] at H;obtain ⟨hc,H⟩:=H)
  | (rw [itn2_iff] at H;obtain ⟨hc,H⟩:=H)
  | ((with_reducible refine br2 hF H ?_ ?_) <;> (clear H;intro hb H;(try (conv => cbv))))
  | (refine w_ hF ?_;(try (conv => cbv)))
  | ((with_reducible refine k1_ 87 H ?_);clear H;intro _ hy H;refine ca_ hF (laws_markText.con E hE hy) ?_;(try (conv => cbv)))
  | ((with_reducible refine lo_ hF (fun n t => n≤k∧∃ w0 x1 x5,t = At 29 [(0,.own 10000),(1,.c (.int .i64 x1)),(5,.c (.int .i64 x5))] [(10000,.row false 122 [.str,.str] (E.e122 w0))]∧laws_markFileS.l0 n w0 x1 x5 = some (r1,r2)) ⟨[0,1,5],[],[],[]⟩ fun n0 t ht Q0 hN0 hX0 => ?_);obtain ⟨hl,_,_,_,rfl,H⟩:=ht;rcases n0 with _ | n0;cases H;simp only [laws_markFileS.l0] at H;(try (conv => cbv)))
  | ((with_reducible show Q0 _ _);first | exact nx_ hN0 | (refine xt_ hX0 ?_;(try (conv => cbv))))
  | ((with_reducible show Q _ _);exact en_ ⟨[4],[],[],[]⟩ 29 hQ)
  | contradiction
theorem laws_markDisk.con (E:En) (hE:E = E0) {k l0_0 a1 r1 r2} (H:laws_markDisk.f k l0_0 a1 = some (r1,r2)) :
  Cn 23 [.agg [.own 10000],.c (.int .i64 a1)] [.row false 122 [.str,.str] (E.e122 l0_0)] (.c (.int .i64 r1)) [] [.row false 122 [.str,.str] (E.e122 r2)]:=by
 refine co_ Tryz.func23 tabOkM [] fun F hF Q hQ => ?_
 simp only [laws_markDisk.f] at H
 (conv => cbv)
 repeat' first
  | replace H:=s_ H
  | (exfalso;with_reducible assumption)
  | (rw [itn_iff] at H;obtain ⟨hc,H⟩:=H)
  | (rw [itn2_iff] at H;obtain ⟨hc,H⟩:=H)
  | ((with_reducible refine br2 hF H ?_ ?_) <;> (clear H;intro hb H;(try (conv => cbv))))
  | (refine w_ hF ?_;(try (conv => cbv)))
  | ((with_reducible refine k2_ 84 H ?_);clear H;intro _ _ hy H;refine ca_ hF (laws_markFileS.con E hE hy) ?_;(try (conv => cbv)))
  | ((with_reducible show Q _ _);exact en_ ⟨[4],[],[],[]⟩ 10 hQ)
  | contradiction
theorem laws_markIntS.con (E:En) (hE:E = E0) {k l0 a1 r1 r2} (H:laws_markIntS.f k l0 a1 = some (r1,r2)) :
  Cn 47 [.own 10000,.c (.int .i64 a1)] [.row false 3 [.int .i64] (E.eI .i64 l0)] (.c (.int .i64 r1)) [] [.row false 3 [.int .i64] (E.eI .i64 r2)]:=by
 refine co_ Tryz.func47 tabOkM [] fun F hF Q hQ => ?_
 simp only [laws_markIntS.f] at H
 (conv => cbv)
 repeat' first
  | replace H:=s_ H
  | (exfalso;with_reducible assumption)
  | (rw [itn_iff] at H;obtain ⟨hc,H⟩:=H)
  | (rw [itn2_iff] at H;obtain ⟨hc,H⟩:=H)
  | ((with_reducible refine br2 hF H ?_ ?_) <;> (clear H;intro hb H;(try (conv => cbv))))
  | (refine w_ hF ?_;(try (conv => cbv)))
  | ((with_reducible refine lo_ hF (fun n t => n≤k∧∃ w0 x1 x5,t = At 19 [(0,.own 10000),(1,.c (.int .i64 x1)),(5,.c (.int .i64 x5))] [(10000,.row false 3 [.int .i64] (E.eI .i64 w0))]∧laws_markIntS.l0 n w0 x1 x5 = some (r1,r2)) ⟨[0,1,5],[],[],[]⟩ fun n0 t ht Q0 hN0 hX0 => ?_);obtain ⟨hl,_,_,_,rfl,H⟩:=ht;rcases n0 with _ | n0;cases H;simp only [laws_markIntS.l0] at H;(try (conv => cbv)))
  | ((with_reducible show Q0 _ _);first | exact nx_ hN0 | (refine xt_ hX0 ?_;(try (conv => cbv))))
  | ((with_reducible show Q _ _);exact en_ ⟨[4],[],[],[]⟩ 19 hQ)
  | contradiction
theorem laws_markManifest.con (E:En) (hE:E = E0) {k l0_0 a0_1 a0_2 a0_3 l0_4 a1 r1 r2 r3} (H:laws_markManifest.f k l0_0 a0_1 a0_2 a0_3 l0_4 a1 = some (r1,r2,r3)) :
  Cn 85 [.agg [.own 10000,.c (.int .i64 a0_1),.c (.int .i64 a0_2),.c (.int .i64 a0_3),.own 10001],.c (.int .i64 a1)] [.row false 3 [.int .i64] (E.eI .i64 l0_0),.row false 3 [.int .i64] (E.eI .i64 l0_4)] (.c (.int .i64 r1)) [] [.row false 3 [.int .i64] (E.eI .i64 r2),.row false 3 [.int .i64] (E.eI .i64 r3)]:=by
 refine co_ Tryz.func85 tabOkM [] fun F hF Q hQ => ?_
 simp only [laws_markManifest.f] at H
 (conv => cbv)
 repeat' first
  | replace H:=s_ H
  | (exfalso;with_reducible assumption)
  | (rw [itn_iff] at H;obtain ⟨hc,H⟩:=H)
  | (rw [itn2_iff] at H;obtain ⟨hc,H⟩:=H)
  | ((with_reducible refine br2 hF H ?_ ?_) <;> (clear H;intro hb H;(try (conv => cbv))))
  | (refine w_ hF ?_;(try (conv => cbv)))
  | ((with_reducible refine k2_ 47 H ?_);clear H;intro _ _ hy H;refine ca_ hF (laws_markIntS.con E hE hy) ?_;(try (conv => cbv)))
  | ((with_reducible show Q _ _);exact en_ ⟨[4],[],[],[]⟩ 14 hQ)
  | contradiction
theorem laws_markSpotS.con (E:En) (hE:E = E0) {k l0 a1 r1 r2} (H:laws_markSpotS.f k l0 a1 = some (r1,r2)) :
  Cn 86 [.own 10000,.c (.int .i64 a1)] [.row false 145 [.str,.int .i64,.int .i64,.int .i64] (E.e145 l0)] (.c (.int .i64 r1)) [] [.row false 145 [.str,.int .i64,.int .i64,.int .i64] (E.e145 r2)]:=by
 refine co_ Tryz.func86 tabOkM [] fun F hF Q hQ => ?_
 simp only [laws_markSpotS.f] at H
 (conv => cbv)
 repeat' first
  | replace H:=s_ H
  | (exfalso;with_reducible assumption)
  | (rw [itn_iff] at H;obtain ⟨hc,H⟩:=H)
  | (rw [itn2_iff] at H;obtain ⟨hc,H⟩:=H)
  | ((with_reducible refine br2 hF H ?_ ?_) <;> (clear H;intro hb H;(try (conv => cbv))))
  | (refine w_ hF ?_;(try (conv => cbv)))
  | ((with_reducible refine k1_ 87 H ?_);clear H;intro _ hy H;refine ca_ hF (laws_markText.con E hE hy) ?_;(try (conv => cbv)))
  | ((with_reducible refine lo_ hF (fun n t => n≤k∧∃ w0 x1 x5,t = At 42 [(0,.own 10000),(1,.c (.int .i64 x1)),(5,.c (.int .i64 x5))] [(10000,.row false 145 [.str,.int .i64,.int .i64,.int .i64] (E.e145 w0))]∧laws_markSpotS.l0 n w0 x1 x5 = some (r1,r2)) ⟨[0,1,5],[],[],[]⟩ fun n0 t ht Q0 hN0 hX0 => ?_);obtain ⟨hl,_,_,_,rfl,H⟩:=ht;rcases n0 with _ | n0;cases H;simp only [laws_markSpotS.l0] at H;(try (conv => cbv)))
  | ((with_reducible show Q0 _ _);first | exact nx_ hN0 | (refine xt_ hX0 ?_;(try (conv => cbv))))
  | ((with_reducible show Q _ _);exact en_ ⟨[4],[],[],[]⟩ 42 hQ)
  | contradiction
theorem laws_markShelf.con (E:En) (hE:E = E0) {k l0_0 a0_1 a0_2 a0_3 l0_4 l0_5 a0_6 a1 r1 r2 r3 r4} (H:laws_markShelf.f k l0_0 a0_1 a0_2 a0_3 l0_4 l0_5 a0_6 a1 = some (r1,r2,r3,r4)) :
  Cn 24 [.agg [.own 10000,.c (.int .i64 a0_1),.c (.int .i64 a0_2),.c (.int .i64 a0_3),.own 10001,.own 10002,.c (.int .i64 a0_6)],.c (.int .i64 a1)] [.row false 3 [.int .i64] (E.eI .i64 l0_0),.row false 3 [.int .i64] (E.eI .i64 l0_4),.row false 145 [.str,.int .i64,.int .i64,.int .i64] (E.e145 l0_5)] (.c (.int .i64 r1)) [] [.row false 3 [.int .i64] (E.eI .i64 r2),.row false 3 [.int .i64] (E.eI .i64 r3),.row false 145 [.str,.int .i64,.int .i64,.int .i64] (E.e145 r4)]:=by
 refine co_ Tryz.func24 tabOkM [] fun F hF Q hQ => ?_
 simp only [laws_markShelf.f] at H
 (conv => cbv)
 repeat' first
  | replace H:=s_ H
  | (exfalso;with_reducible assumption)
  | (rw [itn_iff] at H;obtain ⟨hc,H⟩:=H)
  | (rw [itn2_iff] at H;obtain ⟨hc,H⟩:=H)
  | ((with_reducible refine br2 hF H ?_ ?_) <;> (clear H;intro hb H;(try (conv => cbv))))
  | (refine w_ hF ?_;(try (conv => cbv)))
  | ((with_reducible refine k3_ 85 H ?_);clear H;intro _ _ _ hy H;refine ca_ hF (laws_markManifest.con E hE hy) ?_;(try (conv => cbv)))
  | ((with_reducible refine k2_ 86 H ?_);clear H;intro _ _ hy H;refine ca_ hF (laws_markSpotS.con E hE hy) ?_;(try (conv => cbv)))
  | ((with_reducible show Q _ _);exact en_ ⟨[4],[],[],[]⟩ 14 hQ)
  | contradiction
end Go.Ev
