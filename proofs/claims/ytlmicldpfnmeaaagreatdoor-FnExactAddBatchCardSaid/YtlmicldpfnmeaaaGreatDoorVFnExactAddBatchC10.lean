/- Contracts of the Go functions that this law reaches: what each call returns, by its plain function. No conditions but those that each statement names. By this repo's programs; comments are taken out. -/
import Derived.Test.YtlmicldpfnmeaaaGreatDoorVFnExactAddBatchD
import Derived.Test.YtlmicldpfnmeaaaGreatDoorVFnExactAddBatchC9
set_option linter.all false
namespace Go.Ev
open Go.RowKit Go.Proofs Go.Proofs.YtlmicldpfnmeaaaGreatDoorW.PrintWords Go.Proofs.YtlmicldpfnmeaaaGreatDoorW.PrintLast Go.Proofs.YtlmicldpfnmeaaaGreatDoorW.PrintMore
set_option maxRecDepth 100000
set_option maxHeartbeats 4000000
theorem laws_eqFileS.con (E:En) (hE:E = E0) {k l0 l1 r} (H:laws_eqFileS.f k l0 l1 = some (r)) :
  Cn 71 [.c (.sl [.str,.str] (E.e122 l0)),.c (.sl [.str,.str] (E.e122 l1))] [] (.c (.bool r)) [] []:=by
 refine co_ Tryz.func71 tabOk [] fun F hF Q hQ => ?_
 simp only [laws_eqFileS.f] at H
 (conv => cbv)
 repeat' first
  | replace H:=s_ H
  | (exfalso;with_reducible assumption)
  | (rw [itn_iff] at H;obtain ⟨hc,H⟩:=H)
  | (rw [itn2_iff] at H;obtain ⟨hc,H⟩:=H)
  | ((with_reducible refine br2 hF H ?_ ?_) <;> (clear H;intro hb H;(try (conv => cbv))))
  | (refine w_ hF ?_;(try (conv => cbv)))
  | ((with_reducible refine k1_ 148 H ?_);clear H;intro _ hy H;refine ca_ hF (laws_eqFile.con E hE hy) ?_;(try (conv => cbv)))
  | ((with_reducible refine lo_ hF (fun n t => n≤k∧∃ x0 x1 x5,t = At 27 [(0,.c (.sl [.str,.str] (E.e122 x0))),(1,.c (.sl [.str,.str] (E.e122 x1))),(5,.c (.int .i64 x5))] []∧laws_eqFileS.l0 n x0 x1 x5 = some (r)) ⟨[0,1,5],[],[],[]⟩ fun n0 t ht Q0 hN0 hX0 => ?_);obtain ⟨hl,_,_,_,rfl,H⟩:=ht;rcases n0 with _ | n0;cases H;simp only [laws_eqFileS.l0] at H;(try (conv => cbv)))
  | ((with_reducible show Q0 _ _);first | exact nx_ hN0 | (refine xt_ hX0 ?_;(try (conv => cbv))))
  | ((with_reducible show Q _ _);exact en_ ⟨[4],[],[],[]⟩ 27 hQ)
  | contradiction
theorem laws_eqDisk.con (E:En) (hE:E = E0) {k l0_0 l1_0 r} (H:laws_eqDisk.f k l0_0 l1_0 = some (r)) :
  Cn 18 [.agg [.c (.sl [.str,.str] (E.e122 l0_0))],.agg [.c (.sl [.str,.str] (E.e122 l1_0))]] [] (.c (.bool r)) [] []:=by
 refine co_ Tryz.func18 tabOk [] fun F hF Q hQ => ?_
 simp only [laws_eqDisk.f] at H
 (conv => cbv)
 repeat' first
  | replace H:=s_ H
  | (exfalso;with_reducible assumption)
  | (rw [itn_iff] at H;obtain ⟨hc,H⟩:=H)
  | (rw [itn2_iff] at H;obtain ⟨hc,H⟩:=H)
  | ((with_reducible refine br2 hF H ?_ ?_) <;> (clear H;intro hb H;(try (conv => cbv))))
  | (refine w_ hF ?_;(try (conv => cbv)))
  | ((with_reducible refine k1_ 71 H ?_);clear H;intro _ hy H;refine ca_ hF (laws_eqFileS.con E hE hy) ?_;(try (conv => cbv)))
  | ((with_reducible show Q _ _);exact en_ ⟨[4],[],[],[]⟩ 11 hQ)
  | contradiction
theorem laws_eqChange.con (E:En) (hE:E = E0) {a0_0 a0_1 a0_2 a1_0 a1_1 a1_2 r} (H:laws_eqChange.f a0_0 a0_1 a0_2 a1_0 a1_1 a1_2 = some (r)) :
  Cn 195 [.agg [.c (.str a0_0),.c (.str a0_1),.c (.bool a0_2)],.agg [.c (.str a1_0),.c (.str a1_1),.c (.bool a1_2)]] [] (.c (.bool r)) [] []:=by
 refine co_ Tryz.func195 tabOk [] fun F hF Q hQ => ?_
 simp only [laws_eqChange.f] at H
 (conv => cbv)
 repeat' first
  | replace H:=s_ H
  | (exfalso;with_reducible assumption)
  | (rw [itn_iff] at H;obtain ⟨hc,H⟩:=H)
  | (rw [itn2_iff] at H;obtain ⟨hc,H⟩:=H)
  | ((with_reducible refine br2 hF H ?_ ?_) <;> (clear H;intro hb H;(try (conv => cbv))))
  | (refine w_ hF ?_;(try (conv => cbv)))
  | ((with_reducible show Q _ _);exact en_ ⟨[4],[],[],[]⟩ 20 hQ)
  | contradiction
theorem laws_eqChangeS.con (E:En) (hE:E = E0) {k l0 l1 r} (H:laws_eqChangeS.f k l0 l1 = some (r)) :
  Cn 122 [.c (.sl [.str,.str,.bool] (E.e162 l0)),.c (.sl [.str,.str,.bool] (E.e162 l1))] [] (.c (.bool r)) [] []:=by
 refine co_ Tryz.func122 tabOk [] fun F hF Q hQ => ?_
 simp only [laws_eqChangeS.f] at H
 (conv => cbv)
 repeat' first
  | replace H:=s_ H
  | (exfalso;with_reducible assumption)
  | (rw [itn_iff] at H;obtain ⟨hc,H⟩:=H)
  | (rw [itn2_iff] at H;obtain ⟨hc,H⟩:=H)
  | ((with_reducible refine br2 hF H ?_ ?_) <;> (clear H;intro hb H;(try (conv => cbv))))
  | (refine w_ hF ?_;(try (conv => cbv)))
  | ((with_reducible refine k1_ 195 H ?_);clear H;intro _ hy H;refine ca_ hF (laws_eqChange.con E hE hy) ?_;(try (conv => cbv)))
  | ((with_reducible refine lo_ hF (fun n t => n≤k∧∃ x0 x1 x5,t = At 27 [(0,.c (.sl [.str,.str,.bool] (E.e162 x0))),(1,.c (.sl [.str,.str,.bool] (E.e162 x1))),(5,.c (.int .i64 x5))] []∧laws_eqChangeS.l0 n x0 x1 x5 = some (r)) ⟨[0,1,5],[],[],[]⟩ fun n0 t ht Q0 hN0 hX0 => ?_);obtain ⟨hl,_,_,_,rfl,H⟩:=ht;rcases n0 with _ | n0;cases H;simp only [laws_eqChangeS.l0] at H;(try (conv => cbv)))
  | ((with_reducible show Q0 _ _);first | exact nx_ hN0 | (refine xt_ hX0 ?_;(try (conv => cbv))))
  | ((with_reducible show Q _ _);exact en_ ⟨[4],[],[],[]⟩ 27 hQ)
  | contradiction
theorem laws_eqBatch.con (E:En) (hE:E = E0) {k a0_0 l0_1 a1_0 l1_1 r} (H:laws_eqBatch.f k a0_0 l0_1 a1_0 l1_1 = some (r)) :
  Cn 50 [.agg [.c (.int .i64 a0_0),.c (.sl [.str,.str,.bool] (E.e162 l0_1))],.agg [.c (.int .i64 a1_0),.c (.sl [.str,.str,.bool] (E.e162 l1_1))]] [] (.c (.bool r)) [] []:=by
 refine co_ Tryz.func50 tabOk [] fun F hF Q hQ => ?_
 simp only [laws_eqBatch.f] at H
 (conv => cbv)
 repeat' first
  | replace H:=s_ H
  | (exfalso;with_reducible assumption)
  | (rw [itn_iff] at H;obtain ⟨hc,H⟩:=H)
  | (rw [itn2_iff] at H;obtain ⟨hc,H⟩:=H)
  | ((with_reducible refine br2 hF H ?_ ?_) <;> (clear H;intro hb H;(try (conv => cbv))))
  | (refine w_ hF ?_;(try (conv => cbv)))
  | ((with_reducible refine k1_ 122 H ?_);clear H;intro _ hy H;refine ca_ hF (laws_eqChangeS.con E hE hy) ?_;(try (conv => cbv)))
  | ((with_reducible show Q _ _);exact en_ ⟨[4],[],[],[]⟩ 16 hQ)
  | contradiction
theorem laws_markText.con (E:En) (hE:E = E0) {k a0 r} (H:laws_markText.f k a0 = some r) :
  Cn 87 [.c (.int .i64 a0)] [] (.c (.str r)) [] []:=by
 refine co_ Tryz.func87 tabOkM [] fun F hF Q hQ => ?_
 simp only [laws_markText.f] at H
 (conv => cbv)
 repeat' first
  | replace H:=s_ H
  | (exfalso;with_reducible assumption)
  | (rw [itn_iff] at H;obtain ⟨hc,H⟩:=H)
  | (rw [itn2_iff] at H;obtain ⟨hc,H⟩:=H)
  | ((with_reducible refine br2 hF H ?_ ?_) <;> (clear H;intro hb H;(try (conv => cbv))))
  | (refine w_ hF ?_;(try (conv => cbv)))
  | ((with_reducible refine lo_ hF (fun n t => n≤k∧∃ x0 x3,t = At 20 [(0,.c (.int .i64 x0)),(3,.c (.str x3))] []∧laws_markText.l0 n x0 x3 = some r) ⟨[0,3],[],[],[]⟩ fun n0 t ht Q0 hN0 hX0 => ?_);obtain ⟨hl,_,_,rfl,H⟩:=ht;rcases n0 with _ | n0;cases H;simp only [laws_markText.l0] at H;(try (conv => cbv)))
  | ((with_reducible show Q0 _ _);first | exact nx_ hN0 | (refine xt_ hX0 ?_;(try (conv => cbv))))
  | ((with_reducible show Q _ _);exact en_ ⟨[2],[],[],[]⟩ 20 hQ)
  | contradiction
theorem laws_markFileS.con (E:En) (hE:E = E0) {k l0 a1 r1 r2} (H:laws_markFileS.f k l0 a1 = some (r1,r2)) :
  Cn 84 [.own 10000,.c (.int .i64 a1)] [.row false 122 [.str,.str] (E.e122 l0)] (.c (.int .i64 r1)) [] [.row false 122 [.str,.str] (E.e122 r2)]:=by
 refine co_ Tryz.func84 tabOkM [] fun F hF Q hQ => ?_
 simp only [laws_markFileS.f] at H
 (conv => cbv)
 repeat' first
  | replace H:=s_ H
  | (exfalso;with_reducible assumption)
  | (rw [itn_iff] at H;obtain ⟨hc,H⟩:=H)
  | (rw [itn2_iff] at H;obtain ⟨hc,H⟩:=H)
  | ((with_reducible refine br2 hF H ?_ ?_) <;> (clear H;intro hb H;(try (conv => cbv))))
  | (refine w_ hF ?_;(try (conv => cbv)))
  | ((with_reducible refine k1_ 87 H ?_);clear H;intro _ hy H;refine ca_ hF (laws_markText.con E hE hy) ?_;(try (conv => cbv)))
  | ((with_reducible refine lo_ hF (fun n t => n≤k∧∃ w0 x1 x5,t = At 29 [(0,.own 10000),(1,.c (.int .i64 x1)),(5,.c (.int .i64 x5))] [(10000,.row false 122 [.str,.str] (E.e122 w0))]∧laws_markFileS.l0 n w0 x1 x5 = some (r1,r2)) ⟨[0,1,5],[],[],[]⟩ fun n0 t ht Q0 hN0 hX0 => ?_);obtain ⟨hl,_,_,_,rfl,H⟩:=ht;rcases n0 with _ | n0;cases H;simp only [laws_markFileS.l0] at H;(try (conv => cbv)))
  | ((with_reducible show Q0 _ _);first | exact nx_ hN0 | (refine xt_ hX0 ?_;(try (conv => cbv))))
  | ((with_reducible show Q _ _);exact en_ ⟨[4],[],[],[]⟩ 29 hQ)
  | contradiction
theorem laws_markDisk.con (E:En) (hE:E = E0) {k l0_0 a1 r1 r2} (H:laws_markDisk.f k l0_0 a1 = some (r1,r2)) :
  Cn 23 [.agg [.own 10000],.c (.int .i64 a1)] [.row false 122 [.str,.str] (E.e122 l0_0)] (.c (.int .i64 r1)) [] [.row false 122 [.str,.str] (E.e122 r2)]:=by
 refine co_ Tryz.func23 tabOkM [] fun F hF Q hQ => ?_
 simp only [laws_markDisk.f] at H
 (conv => cbv)
 repeat' first
  | replace H:=s_ H
  | (exfalso;with_reducible assumption)
  | (rw [itn_iff] at H;obtain ⟨hc,H⟩:=H)
  | (rw [itn2_iff] at H;obtain ⟨hc,H⟩:=H)
  | ((with_reducible refine br2 hF H ?_ ?_) <;> (clear H;intro hb H;(try (conv => cbv))))
  | (refine w_ hF ?_;(try (conv => cbv)))
  | ((with_reducible refine k2_ 84 H ?_);clear H;intro _ _ hy H;refine ca_ hF (laws_markFileS.con E hE hy) ?_;(try (conv => cbv)))
  | ((with_reducible show Q _ _);exact en_ ⟨[4],[],[],[]⟩ 10 hQ)
  | contradiction
theorem laws_markIntS.con (E:En) (hE:E = E0) {k l0 a1 r1 r2} (H:laws_markIntS.f k l0 a1 = some (r1,r2)) :
  Cn 47 [.own 10000,.c (.int .i64 a1)] [.row false 3 [.int .i64] (E.eI .i64 l0)] (.c (.int .i64 r1)) [] [.row false 3 [.int .i64] (E.eI .i64 r2)]:=by
 refine co_ Tryz.func47 tabOkM [] fun F hF Q hQ => ?_
 simp only [laws_markIntS.f] at H
 (conv => cbv)
 repeat' first
  | replace H:=s_ H
  | (exfalso;with_reducible assumption)
  | (rw [itn_iff] at H;obtain ⟨hc,H⟩:=H)
  | (rw [itn2_iff] at H;obtain ⟨hc,H⟩:=H)
  | ((with_reducible refine br2 hF H ?_ ?_) <;> (clear H;intro hb H;(try (conv => cbv))))
  | (refine w_ hF ?_;(try (conv => cbv)))
  | ((with_reducible refine lo_ hF (fun n t => n≤k∧∃ w0 x1 x5,t = At 19 [(0,.own 10000),(1,.c (.int .i64 x1)),(5,.c (.int .i64 x5))] [(10000,.row false 3 [.int .i64] (E.eI .i64 w0))]∧laws_markIntS.l0 n w0 x1 x5 = some (r1,r2)) ⟨[0,1,5],[],[],[]⟩ fun n0 t ht Q0 hN0 hX0 => ?_);obtain ⟨hl,_,_,_,rfl,H⟩:=ht;rcases n0 with _ | n0;cases H;simp only [laws_markIntS.l0] at H;(try (conv => cbv)))
  | ((with_reducible show Q0 _ _);first | exact nx_ hN0 | (refine xt_ hX0 ?_;(try (conv => cbv))))
  | ((with_reducible show Q _ _);exact en_ ⟨[4],[],[],[]⟩ 19 hQ)
  | contradiction
theorem laws_markManifest.con (E:En) (hE:E = E0) {k l0_0 a0_1 a0_2 a0_3 l0_4 a1 r1 r2 r3} (H:laws_markManifest.f k l0_0 a0_1 a0_2 a0_3 l0_4 a1 = some (r1,r2,r3)) :
  Cn 85 [.agg [.own 10000,.c (.int .i64 a0_1),.c (.int .i64 a0_2),.c (.int .i64 a0_3),.own 10001],.c (.int .i64 a1)] [.row false 3 [.int .i64] (E.eI .i64 l0_0),.row false 3 [.int .i64] (E.eI .i64 l0_4)] (.c (.int .i64 r1)) [] [.row false 3 [.int .i64] (E.eI .i64 r2),.row false 3 [.int .i64] (E.eI .i64 r3)]:=by
 refine co_ Tryz.func85 tabOkM [] fun F hF Q hQ => ?_
 simp only [laws_markManifest.f] at H
 (conv => cbv)
 repeat' first
  | replace H:=s_ H
  | (exfalso;with_reducible assumption)
  | (rw [itn_iff] at H;obtain ⟨hc,H⟩:=H)
  | (rw [itn2_iff] at H;obtain ⟨hc,H⟩:=H)
  | ((with_reducible refine br2 hF H ?_ ?_) <;> (clear H;intro hb H;(try (conv => cbv))))
  | (refine w_ hF ?_;(try (conv => cbv)))
  | ((with_reducible refine k2_ 47 H ?_);clear H;intro _ _ hy H;refine ca_ hF (laws_markIntS.con E hE hy) ?_;(try (conv => cbv)))
  | ((with_reducible show Q _ _);exact en_ ⟨[4],[],[],[]⟩ 14 hQ)
  | contradiction
theorem laws_markSpotS.con (E:En) (hE:E = E0) {k l0 a1 r1 r2} (H:laws_markSpotS.f k l0 a1 = some (r1,r2)) :
  Cn 86 [.own 10000,.c (.int .i64 a1)] [.row false 145 [.str,.int .i64,.int .i64,.int .i64] (E.e145 l0)] (.c (.int .i64 r1)) [] [.row false 145 [.str,.int .i64,.int .i64,.int .i64] (E.e145 r2)]:=by
 refine co_ Tryz.func86 tabOkM [] fun F hF Q hQ => ?_
 simp only [laws_markSpotS.f] at H
 (conv => cbv)
 repeat' first
  | replace H:=s_ H
  | (exfalso;with_reducible assumption)
  | (rw [itn_iff] at H;obtain ⟨hc,H⟩:=H)
  | (rw [itn2_iff] at H;obtain ⟨hc,H⟩:=H)
  | ((with_reducible refine br2 hF H ?_ ?_) <;> (clear H;intro hb H;(try (conv => cbv))))
  | (refine w_ hF ?_;(try (conv => cbv)))
  | ((with_reducible refine k1_ 87 H ?_);clear H;intro _ hy H;refine ca_ hF (laws_markText.con E hE hy) ?_;(try (conv => cbv)))
  | ((with_reducible refine lo_ hF (fun n t => n≤k∧∃ w0 x1 x5,t = At 42 [(0,.own 10000),(1,.c (.int .i64 x1)),(5,.c (.int .i64 x5))] [(10000,.row false 145 [.str,.int .i64,.int .i64,.int .i64] (E.e145 w0))]∧laws_markSpotS.l0 n w0 x1 x5 = some (r1,r2)) ⟨[0,1,5],[],[],[]⟩ fun n0 t ht Q0 hN0 hX0 => ?_);obtain ⟨hl,_,_,_,rfl,H⟩:=ht;rcases n0 with _ | n0;cases H;simp only [laws_markSpotS.l0] at H;(try (conv => cbv)))
  | ((with_reducible show Q0 _ _);first | exact nx_ hN0 | (refine xt_ hX0 ?_;(try (conv => cbv))))
  | ((with_reducible show Q _ _);exact en_ ⟨[4],[],[],[]⟩ 42 hQ)
  | contradiction
theorem laws_markShelf.con (E:En) (hE:E = E0) {k l0_0 a0_1 a0_2 a0_3 l0_4 l0_5 a0_6 a1 r1 r2 r3 r4} (H:laws_markShelf.f k l0_0 a0_1 a0_2 a0_3 l0_4 l0_5 a0_6 a1 = some (r1,r2,r3,r4)) :
  Cn 24 [.agg [.own 10000,.c (.int .i64 a0_1),.c (.int .i64 a0_2),.c (.int .i64 a0_3),.own 10001,.own 10002,.c (.int .i64 a0_6)],.c (.int .i64 a1)] [.row false 3 [.int .i64] (E.eI .i64 l0_0),.row false 3 [.int .i64] (E.eI .i64 l0_4),.row false 145 [.str,.int .i64,.int .i64,.int .i64] (E.e145 l0_5)] (.c (.int .i64 r1)) [] [.row false 3 [.int .i64] (E.eI .i64 r2),.row false 3 [.int .i64] (E.eI .i64 r3),.row false 145 [.str,.int .i64,.int .i64,.int .i64] (E.e145 r4)]:=by
 refine co_ Tryz.func24 tabOkM [] fun F hF Q hQ => ?_
 simp only [laws_markShelf.f] at H
 (conv => cbv)
 repeat' first
  | replace H:=s_ H
  | (exfalso;with_reducible assumption)
  | (rw [itn_iff] at H;obtain ⟨hc,H⟩:=H)
  | (rw [itn2_iff] at H;obtain ⟨hc,H⟩:=H)
  | ((with_reducible refine br2 hF H ?_ ?_) <;> (clear H;intro hb H;(try (conv => cbv))))
  | (refine w_ hF ?_;(try (conv => cbv)))
  | ((with_reducible refine k3_ 85 H ?_);clear H;intro _ _ _ hy H;refine ca_ hF (laws_markManifest.con E hE hy) ?_;(try (conv => cbv)))
  | ((with_reducible refine k2_ 86 H ?_);clear H;intro _ _ hy H;refine ca_ hF (laws_markSpotS.con E hE hy) ?_;(try (conv => cbv)))
  | ((with_reducible show Q _ _);exact en_ ⟨[4],[],[],[]⟩ 14 hQ)
  | contradiction
theorem laws_markChangeS.con (E:En) (hE:E = E0) {k l0 a1 r1 r2} (H:laws_markChangeS.f k l0 a1 = some (r1,r2)) :
  Cn 123 [.own 10000,.c (.int .i64 a1)] [.row false 162 [.str,.str,.bool] (E.e162 l0)] (.c (.int .i64 r1)) [] [.row false 162 [.str,.str,.bool] (E.e162 r2)]:=by
 refine co_ Tryz.func123 tabOkM [] fun F hF Q hQ => ?_
 simp only [laws_markChangeS.f] at H
 (conv => cbv)
 repeat' first
  | replace H:=s_ H
  | (exfalso;with_reducible assumption)
  | (rw [itn_iff] at H;obtain ⟨hc,H⟩:=H)
  | (rw [itn2_iff] at H;obtain ⟨hc,H⟩:=H)
  | ((with_reducible refine br2 hF H ?_ ?_) <;> (clear H;intro hb H;(try (conv => cbv))))
  | (refine w_ hF ?_;(try (conv => cbv)))
  | ((with_reducible refine k1_ 87 H ?_);clear H;intro _ hy H;refine ca_ hF (laws_markText.con E hE hy) ?_;(try (conv => cbv)))
  | ((with_reducible refine lo_ hF (fun n t => n≤k∧∃ w0 x1 x5,t = At 38 [(0,.own 10000),(1,.c (.int .i64 x1)),(5,.c (.int .i64 x5))] [(10000,.row false 162 [.str,.str,.bool] (E.e162 w0))]∧laws_markChangeS.l0 n w0 x1 x5 = some (r1,r2)) ⟨[0,1,5],[],[],[]⟩ fun n0 t ht Q0 hN0 hX0 => ?_);obtain ⟨hl,_,_,_,rfl,H⟩:=ht;rcases n0 with _ | n0;cases H;simp only [laws_markChangeS.l0] at H;(try (conv => cbv)))
  | ((with_reducible show Q0 _ _);first | exact nx_ hN0 | (refine xt_ hX0 ?_;(try (conv => cbv))))
  | ((with_reducible show Q _ _);exact en_ ⟨[4],[],[],[]⟩ 38 hQ)
  | contradiction
theorem laws_markBatch.con (E:En) (hE:E = E0) {k a0_0 l0_1 a1 r1 r2} (H:laws_markBatch.f k a0_0 l0_1 a1 = some (r1,r2)) :
  Cn 51 [.agg [.c (.int .i64 a0_0),.own 10000],.c (.int .i64 a1)] [.row false 162 [.str,.str,.bool] (E.e162 l0_1)] (.c (.int .i64 r1)) [] [.row false 162 [.str,.str,.bool] (E.e162 r2)]:=by
 refine co_ Tryz.func51 tabOkM [] fun F hF Q hQ => ?_
 simp only [laws_markBatch.f] at H
 (conv => cbv)
 repeat' first
  | replace H:=s_ H
  | (exfalso;with_reducible assumption)
  | (rw [itn_iff] at H;obtain ⟨hc,H⟩:=H)
  | (rw [itn2_iff] at H;obtain ⟨hc,H⟩:=H)
  | ((with_reducible refine br2 hF H ?_ ?_) <;> (clear H;intro hb H;(try (conv => cbv))))
  | (refine w_ hF ?_;(try (conv => cbv)))
  | ((with_reducible refine k2_ 123 H ?_);clear H;intro _ _ hy H;refine ca_ hF (laws_markChangeS.con E hE hy) ?_;(try (conv => cbv)))
  | ((with_reducible show Q _ _);exact en_ ⟨[4],[],[],[]⟩ 10 hQ)
  | contradiction
theorem laws_markRawS.con (E:En) (hE:E = E0) {k l0 a1 r1 r2} (H:laws_markRawS.f k l0 a1 = some (r1,r2)) :
  Cn 25 [.own 10000,.c (.int .i64 a1)] [.row false 119 [.int .i64,.str,.str,.str] (E.e119 l0)] (.c (.int .i64 r1)) [] [.row false 119 [.int .i64,.str,.str,.str] (E.e119 r2)]:=by
 refine co_ Tryz.func25 tabOkM [] fun F hF Q hQ => ?_
 simp only [laws_markRawS.f] at H
 (conv => cbv)
 repeat' first
  | replace H:=s_ H
  | (exfalso;with_reducible assumption)
  | (rw [itn_iff] at H;obtain ⟨hc,H⟩:=H)
  | (rw [itn2_iff] at H;obtain ⟨hc,H⟩:=H)
  | ((with_reducible refine br2 hF H ?_ ?_) <;> (clear H;intro hb H;(try (conv => cbv))))
  | (refine w_ hF ?_;(try (conv => cbv)))
  | ((with_reducible refine k1_ 87 H ?_);clear H;intro _ hy H;refine ca_ hF (laws_markText.con E hE hy) ?_;(try (conv => cbv)))
  | ((with_reducible refine lo_ hF (fun n t => n≤k∧∃ w0 x1 x5,t = At 44 [(0,.own 10000),(1,.c (.int .i64 x1)),(5,.c (.int .i64 x5))] [(10000,.row false 119 [.int .i64,.str,.str,.str] (E.e119 w0))]∧laws_markRawS.l0 n w0 x1 x5 = some (r1,r2)) ⟨[0,1,5],[],[],[]⟩ fun n0 t ht Q0 hN0 hX0 => ?_);obtain ⟨hl,_,_,_,rfl,H⟩:=ht;rcases n0 with _ | n0;cases H;simp only [laws_markRawS.l0] at H;(try (conv => cbv)))
  | ((with_reducible show Q0 _ _);first | exact nx_ hN0 | (refine xt_ hX0 ?_;(try (conv => cbv))))
  | ((with_reducible show Q _ _);exact en_ ⟨[4],[],[],[]⟩ 44 hQ)
  | contradiction
theorem laws_heldIntS.con (E:En) (hE:E = E0) {k l0 a1 r} (H:laws_heldIntS.f k l0 a1 = some (r)) :
  Cn 171 [.c (.sl [.int .i64] (E.eI .i64 l0)),.c (.int .i64 a1)] [] (.c (.int .i64 r)) [] []:=by
 refine co_ Tryz.func171 tabOk [] fun F hF Q hQ => ?_
 simp only [laws_heldIntS.f] at H
 (conv => cbv)
 repeat' first
  | replace H:=s_ H
  | (exfalso;with_reducible assumption)
  | (rw [itn_iff] at H;obtain ⟨hc,H⟩:=H)
  | (rw [itn2_iff] at H;obtain ⟨hc,H⟩:=H)
  | ((with_reducible refine br2 hF H ?_ ?_) <;> (clear H;intro hb H;(try (conv => cbv))))
  | (refine w_ hF ?_;(try (conv => cbv)))
  | ((with_reducible refine lo_ hF (fun n t => n≤k∧∃ x0 x1 x5,t = At 21 [(0,.c (.sl [.int .i64] (E.eI .i64 x0))),(1,.c (.int .i64 x1)),(5,.c (.int .i64 x5))] []∧laws_heldIntS.l0 n x0 x1 x5 = some (r)) ⟨[0,1,5],[],[],[]⟩ fun n0 t ht Q0 hN0 hX0 => ?_);obtain ⟨hl,_,_,_,rfl,H⟩:=ht;rcases n0 with _ | n0;cases H;simp only [laws_heldIntS.l0] at H;(try (conv => cbv)))
  | ((with_reducible show Q0 _ _);first | exact nx_ hN0 | (refine xt_ hX0 ?_;(try (conv => cbv))))
  | ((with_reducible show Q _ _);exact en_ ⟨[4],[],[],[]⟩ 21 hQ)
  | contradiction
theorem laws_heldManifest.con (E:En) (hE:E = E0) {k l0_0 a0_1 a0_2 a0_3 l0_4 a1 r} (H:laws_heldManifest.f k l0_0 a0_1 a0_2 a0_3 l0_4 a1 = some (r)) :
  Cn 88 [.agg [.c (.sl [.int .i64] (E.eI .i64 l0_0)),.c (.int .i64 a0_1),.c (.int .i64 a0_2),.c (.int .i64 a0_3),.c (.sl [.int .i64] (E.eI .i64 l0_4))],.c (.int .i64 a1)] [] (.c (.int .i64 r)) [] []:=by
 refine co_ Tryz.func88 tabOk [] fun F hF Q hQ => ?_
 simp only [laws_heldManifest.f] at H
 (conv => cbv)
 repeat' first
  | replace H:=s_ H
  | (exfalso;with_reducible assumption)
  | (rw [itn_iff] at H;obtain ⟨hc,H⟩:=H)
  | (rw [itn2_iff] at H;obtain ⟨hc,H⟩:=H)
  | ((with_reducible refine br2 hF H ?_ ?_) <;> (clear H;intro hb H;(try (conv => cbv))))
  | (refine w_ hF ?_;(try (conv => cbv)))
  | ((with_reducible refine k1_ 171 H ?_);clear H;intro _ hy H;refine ca_ hF (laws_heldIntS.con E hE hy) ?_;(try (conv => cbv)))
  | ((with_reducible show Q _ _);exact en_ ⟨[4],[],[],[]⟩ 18 hQ)
  | contradiction
theorem laws_heldSpotS.con (E:En) (hE:E = E0) {k l0 a1 r} (H:laws_heldSpotS.f k l0 a1 = some (r)) :
  Cn 89 [.c (.sl [.str,.int .i64,.int .i64,.int .i64] (E.e145 l0)),.c (.int .i64 a1)] [] (.c (.int .i64 r)) [] []:=by
 refine co_ Tryz.func89 tabOk [] fun F hF Q hQ => ?_
 simp only [laws_heldSpotS.f] at H
 (conv => cbv)
 repeat' first
  | replace H:=s_ H
  | (exfalso;with_reducible assumption)
  | (rw [itn_iff] at H;obtain ⟨hc,H⟩:=H)
  | (rw [itn2_iff] at H;obtain ⟨hc,H⟩:=H)
  | ((with_reducible refine br2 hF H ?_ ?_) <;> (clear H;intro hb H;(try (conv => cbv))))
  | (refine w_ hF ?_;(try (conv => cbv)))
  | ((with_reducible refine k1_ 87 H ?_);clear H;intro _ hy H;refine ca_ hF (laws_markText.con E hE hy) ?_;(try (conv => cbv)))
  | ((with_reducible refine lo_ hF (fun n t => n≤k∧∃ x0 x1 x5,t = At 50 [(0,.c (.sl [.str,.int .i64,.int .i64,.int .i64] (E.e145 x0))),(1,.c (.int .i64 x1)),(5,.c (.int .i64 x5))] []∧laws_heldSpotS.l0 n x0 x1 x5 = some (r)) ⟨[0,1,5],[],[],[]⟩ fun n0 t ht Q0 hN0 hX0 => ?_);obtain ⟨hl,_,_,_,rfl,H⟩:=ht;rcases n0 with _ | n0;cases H;simp only [laws_heldSpotS.l0] at H;(try (conv => cbv)))
  | ((with_reducible show Q0 _ _);first | exact nx_ hN0 | (refine xt_ hX0 ?_;(try (conv => cbv))))
  | ((with_reducible show Q _ _);exact en_ ⟨[4],[],[],[]⟩ 50 hQ)
  | contradiction
theorem laws_heldShelf.con (E:En) (hE:E = E0) {k l0_0 a0_1 a0_2 a0_3 l0_4 l0_5 a0_6 a1 r} (H:laws_heldShelf.f k l0_0 a0_1 a0_2 a0_3 l0_4 l0_5 a0_6 a1 = some (r)) :
  Cn 26 [.agg [.c (.sl [.int .i64] (E.eI .i64 l0_0)),.c (.int .i64 a0_1),.c (.int .i64 a0_2),.c (.int .i64 a0_3),.c (.sl [.int .i64] (E.eI .i64 l0_4)),.c (.sl [.str,.int .i64,.int .i64,.int .i64] (E.e145 l0_5)),.c (.int .i64 a0_6)],.c (.int .i64 a1)] [] (.c (.int .i64 r)) [] []:=by
 refine co_ Tryz.func26 tabOk [] fun F hF Q hQ => ?_
 simp only [laws_heldShelf.f] at H
 (conv => cbv)
 repeat' first
  | replace H:=s_ H
  | (exfalso;with_reducible assumption)
  | (rw [itn_iff] at H;obtain ⟨hc,H⟩:=H)
  | (rw [itn2_iff] at H;obtain ⟨hc,H⟩:=H)
  | ((with_reducible refine br2 hF H ?_ ?_) <;> (clear H;intro hb H;(try (conv => cbv))))
  | (refine w_ hF ?_;(try (conv => cbv)))
  | ((with_reducible refine k1_ 88 H ?_);clear H;intro _ hy H;refine ca_ hF (laws_heldManifest.con E hE hy) ?_;(try (conv => cbv)))
  | ((with_reducible refine k1_ 89 H ?_);clear H;intro _ hy H;refine ca_ hF (laws_heldSpotS.con E hE hy) ?_;(try (conv => cbv)))
  | ((with_reducible show Q _ _);exact en_ ⟨[4],[],[],[]⟩ 18 hQ)
  | contradiction
end Go.Ev
