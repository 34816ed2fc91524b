/- Contracts of the Go functions that this law reaches: what each call returns, by its plain function. No conditions but those that each statement names. By this repo's programs; comments are taken out. -/
import Derived.Test.YtlmicldpfnmeaaaGreatDoorVFnExactInstallShelfD
import Derived.Test.YtlmicldpfnmeaaaGreatDoorVFnExactInstallShelfC0
import Derived.Test.YtlmicldpfnmeaaaGreatDoorVFnExactInstallShelfC4
import Derived.Test.YtlmicldpfnmeaaaGreatDoorVFnExactInstallShelfC9
set_option linter.all false
namespace Go.Ev
open Go.RowKit Go.Proofs Go.Proofs.YtlmicldpfnmeaaaGreatDoorW.PrintWords Go.Proofs.YtlmicldpfnmeaaaGreatDoorW.PrintLast Go.Proofs.YtlmicldpfnmeaaaGreatDoorW.PrintMore
set_option maxRecDepth 100000
set_option maxHeartbeats 4000000
theorem laws_markDisk.con (E:En) (hE:E = E0) {k l0_0 a1 r1 r2} (H:laws_markDisk.f k l0_0 a1 = some (r1,r2)) :
  Cn 23 [.agg [.own 10000],.c (.int .i64 a1)] [.row false 122 [.str,.str] (E.e122 l0_0)] (.c (.int .i64 r1)) [] [.row false 122 [.str,.str] (E.e122 r2)]:=by
 refine co_ Tryz.func23 tabOkM [] fun F hF Q hQ => ?_
 simp only [laws_markDisk.f] at H
 (conv => cbv)
 repeat' first
  | replace H:=s_ H
  | (exfalso;with_reducible assumption)
  | (rw [itn_iff] at H;obtain ⟨hc,H⟩:=H)
  | (rw [itn2_iff] at H;obtain ⟨hc,H⟩:=H)
  | ((with_reducible refine br2 hF H ?_ ?_) <;> (clear H;intro hb H;(try (conv => cbv))))
  | (refine w_ hF ?_;(try (conv => cbv)))
  | ((with_reducible refine k2_ 84 H ?_);clear H;intro _ _ hy H;refine ca_ hF (laws_markFileS.con E hE hy) ?_;(try (conv => cbv)))
  | ((with_reducible show Q _ _);exact en_ ⟨[4],[],[],[]⟩ 10 hQ)
  | contradiction
theorem laws_markIntS.con (E:En) (hE:E = E0) {k l0 a1 r1 r2} (H:laws_markIntS.f k l0 a1 = some (r1,r2)) :
  Cn 47 [.own 10000,.c (.int .i64 a1)] [.row false 3 [.int .i64] (E.eI .i64 l0)] (.c (.int .i64 r1)) [] [.row false 3 [.int .i64] (E.eI .i64 r2)]:=by
 refine co_ Tryz.func47 tabOkM [] fun F hF Q hQ => ?_
 simp only [laws_markIntS.f] at H
 (conv => cbv)
 repeat' first
  | replace H:=s_ H
  | (exfalso;with_reducible assumption)
  | (rw [itn_iff] at H;obtain ⟨hc,H⟩:=H)
  | (rw [itn2_iff] at H;obtain ⟨hc,H⟩:=H)
  | ((with_reducible refine br2 hF H ?_ ?_) <;> (clear H;intro hb H;(try (conv => cbv))))
  | (refine w_ hF ?_;(try (conv => cbv)))
  | ((with_reducible refine lo_ hF (fun n t => n≤k∧∃ w0 x1 x5,t = At 19 [(0,.own 10000),(1,.c (.int .i64 x1)),(5,.c (.int .i64 x5))] [(10000,.row false 3 [.int .i64] (E.eI .i64 w0))]∧laws_markIntS.l0 n w0 x1 x5 = some (r1,r2)) ⟨[0,1,5],[],[],[]⟩ fun n0 t ht Q0 hN0 hX0 => ?_);obtain ⟨hl,_,_,_,rfl,H⟩:=ht;rcases n0 with _ | n0;cases H;simp only [laws_markIntS.l0] at H;(try (conv => cbv)))
  | ((with_reducible show Q0 _ _);first | exact nx_ hN0 | (refine xt_ hX0 ?_;(try (conv => cbv))))
  | ((with_reducible show Q _ _);exact en_ ⟨[4],[],[],[]⟩ 19 hQ)
  | contradiction
theorem laws_markManifest.con (E:En) (hE:E = E0) {k l0_0 a0_1 a0_2 a0_3 l0_4 a1 r1 r2 r3} (H:laws_markManifest.f k l0_0 a0_1 a0_2 a0_3 l0_4 a1 = some (r1,r2,r3)) :
  Cn 85 [.agg [.own 10000,.c (.int .i64 a0_1),.c (.int .i64 a0_2),.c (.int .i64 a0_3),.own 10001],.c (.int .i64 a1)] [.row false 3 [.int .i64] (E.eI .i64 l0_0),.row false 3 [.int .i64] (E.eI .i64 l0_4)] (.c (.int .i64 r1)) [] [.row false 3 [.int .i64] (E.eI .i64 r2),.row false 3 [.int .i64] (E.eI .i64 r3)]:=by
 refine co_ Tryz.func85 tabOkM [] fun F hF Q hQ => ?_
 simp only [laws_markManifest.f] at H
 (conv => cbv)
 repeat' first
  | replace H:=s_ H
  | (exfalso;with_reducible assumption)
  | (rw [itn_iff] at H;obtain ⟨hc,H⟩:=H)
  | (rw [itn2_iff] at H;obtain ⟨hc,H⟩:=H)
  | ((with_reducible refine br2 hF H ?_ ?_) <;> (clear H;intro hb H;(try (conv => cbv))))
  | (refine w_ hF ?_;(try (conv => cbv)))
  | ((with_reducible refine k2_ 47 H ?_);clear H;intro _ _ hy H;refine ca_ hF (laws_markIntS.con E hE hy) ?_;(try (conv => cbv)))
  | ((with_reducible show Q _ _);exact en_ ⟨[4],[],[],[]⟩ 14 hQ)
  | contradiction
theorem laws_markSpotS.con (E:En) (hE:E = E0) {k l0 a1 r1 r2} (H:laws_markSpotS.f k l0 a1 = some (r1,r2)) :
  Cn 86 [.own 10000,.c (.int .i64 a1)] [.row false 145 [.str,.int .i64,.int .i64,.int .i64] (E.e145 l0)] (.c (.int .i64 r1)) [] [.row false 145 [.str,.int .i64,.int .i64,.int .i64] (E.e145 r2)]:=by
 refine co_ Tryz.func86 tabOkM [] fun F hF Q hQ => ?_
 simp only [laws_markSpotS.f] at H
 (conv => cbv)
 repeat' first
  | replace H:=s_ H
  | (exfalso;with_reducible assumption)
  | (rw [itn_iff] at H;obtain ⟨hc,H⟩:=H)
  | (rw [itn2_iff] at H;obtain ⟨hc,H⟩:=H)
  | ((with_reducible refine br2 hF H ?_ ?_) <;> (clear H;intro hb H;(try (conv => cbv))))
  | (refine w_ hF ?_;(try (conv => cbv)))
  | ((with_reducible refine k1_ 87 H ?_);clear H;intro _ hy H;refine ca_ hF (laws_markText.con E hE hy) ?_;(try (conv => cbv)))
  | ((with_reducible refine lo_ hF (fun n t => n≤k∧∃ w0 x1 x5,t = At 42 [(0,.own 10000),(1,.c (.int .i64 x1)),(5,.c (.int .i64 x5))] [(10000,.row false 145 [.str,.int .i64,.int .i64,.int .i64] (E.e145 w0))]∧laws_markSpotS.l0 n w0 x1 x5 = some (r1,r2)) ⟨[0,1,5],[],[],[]⟩ fun n0 t ht Q0 hN0 hX0 => ?_);obtain ⟨hl,_,_,_,rfl,H⟩:=ht;rcases n0 with _ | n0;cases H;simp only [laws_markSpotS.l0] at H;(try (conv => cbv)))
  | ((with_reducible show Q0 _ _);first | exact nx_ hN0 | (refine xt_ hX0 ?_;(try (conv => cbv))))
  | ((with_reducible show Q _ _);exact en_ ⟨[4],[],[],[]⟩ 42 hQ)
  | contradiction
theorem laws_markShelf.con (E:En) (hE:E = E0) {k l0_0 a0_1 a0_2 a0_3 l0_4 l0_5 a0_6 a1 r1 r2 r3 r4} (H:laws_markShelf.f k l0_0 a0_1 a0_2 a0_3 l0_4 l0_5 a0_6 a1 = some (r1,r2,r3,r4)) :
  Cn 24 [.agg [.own 10000,.c (.int .i64 a0_1),.c (.int .i64 a0_2),.c (.int .i64 a0_3),.own 10001,.own 10002,.c (.int .i64 a0_6)],.c (.int .i64 a1)] [.row false 3 [.int .i64] (E.eI .i64 l0_0),.row false 3 [.int .i64] (E.eI .i64 l0_4),.row false 145 [.str,.int .i64,.int .i64,.int .i64] (E.e145 l0_5)] (.c (.int .i64 r1)) [] [.row false 3 [.int .i64] (E.eI .i64 r2),.row false 3 [.int .i64] (E.eI .i64 r3),.row false 145 [.str,.int .i64,.int .i64,.int .i64] (E.e145 r4)]:=by
 refine co_ Tryz.func24 tabOkM [] fun F hF Q hQ => ?_
 simp only [laws_markShelf.f] at H
 (conv => cbv)
 repeat' first
  | replace H:=s_ H
  | (exfalso;with_reducible assumption)
  | (rw [itn_iff] at H;obtain ⟨hc,H⟩:=H)
  | (rw [itn2_iff] at H;obtain ⟨hc,H⟩:=H)
  | ((with_reducible refine br2 hF H ?_ ?_) <;> (clear H;intro hb H;(try (conv => cbv))))
  | (refine w_ hF ?_;(try (conv => cbv)))
  | ((with_reducible refine k3_ 85 H ?_);clear H;intro _ _ _ hy H;refine ca_ hF (laws_markManifest.con E hE hy) ?_;(try (conv => cbv)))
  | ((with_reducible refine k2_ 86 H ?_);clear H;intro _ _ hy H;refine ca_ hF (laws_markSpotS.con E hE hy) ?_;(try (conv => cbv)))
  | ((with_reducible show Q _ _);exact en_ ⟨[4],[],[],[]⟩ 14 hQ)
  | contradiction
theorem laws_markRawS.con (E:En) (hE:E = E0) {k l0 a1 r1 r2} (H:laws_markRawS.f k l0 a1 = some (r1,r2)) :
  Cn 25 [.own 10000,.c (.int .i64 a1)] [.row false 119 [.int .i64,.str,.str,.str] (E.e119 l0)] (.c (.int .i64 r1)) [] [.row false 119 [.int .i64,.str,.str,.str] (E.e119 r2)]:=by
 refine co_ Tryz.func25 tabOkM [] fun F hF Q hQ => ?_
 simp only [laws_markRawS.f] at H
 (conv => cbv)
 repeat' first
  | replace H:=s_ H
  | (exfalso;with_reducible assumption)
  | (rw [itn_iff] at H;obtain ⟨hc,H⟩:=H)
  | (rw [itn2_iff] at H;obtain ⟨hc,H⟩:=H)
  | ((with_reducible refine br2 hF H ?_ ?_) <;> (clear H;intro hb H;(try (conv => cbv))))
  | (refine w_ hF ?_;(try (conv => cbv)))
  | ((with_reducible refine k1_ 87 H ?_);clear H;intro _ hy H;refine ca_ hF (laws_markText.con E hE hy) ?_;(try (conv => cbv)))
  | ((with_reducible refine lo_ hF (fun n t => n≤k∧∃ w0 x1 x5,t = At 44 [(0,.own 10000),(1,.c (.int .i64 x1)),(5,.c (.int .i64 x5))] [(10000,.row false 119 [.int .i64,.str,.str,.str] (E.e119 w0))]∧laws_markRawS.l0 n w0 x1 x5 = some (r1,r2)) ⟨[0,1,5],[],[],[]⟩ fun n0 t ht Q0 hN0 hX0 => ?_);obtain ⟨hl,_,_,_,rfl,H⟩:=ht;rcases n0 with _ | n0;cases H;simp only [laws_markRawS.l0] at H;(try (conv => cbv)))
  | ((with_reducible show Q0 _ _);first | exact nx_ hN0 | (refine xt_ hX0 ?_;(try (conv => cbv))))
  | ((with_reducible show Q _ _);exact en_ ⟨[4],[],[],[]⟩ 44 hQ)
  | contradiction
theorem laws_heldIntS.con (E:En) (hE:E = E0) {k l0 a1 r} (H:laws_heldIntS.f k l0 a1 = some (r)) :
  Cn 171 [.c (.sl [.int .i64] (E.eI .i64 l0)),.c (.int .i64 a1)] [] (.c (.int .i64 r)) [] []:=by
 refine co_ Tryz.func171 tabOk [] fun F hF Q hQ => ?_
 simp only [laws_heldIntS.f] at H
 (conv => cbv)
 repeat' first
  | replace H:=s_ H
  | (exfalso;with_reducible assumption)
  | (rw [itn_iff] at H;obtain ⟨hc,H⟩:=H)
  | (rw [itn2_iff] at H;obtain ⟨hc,H⟩:=H)
  | ((with_reducible refine br2 hF H ?_ ?_) <;> (clear H;intro hb H;(try (conv => cbv))))
  | (refine w_ hF ?_;(try (conv => cbv)))
  | ((with_reducible refine lo_ hF (fun n t => n≤k∧∃ x0 x1 x5,t = At 21 [(0,.c (.sl [.int .i64] (E.eI .i64 x0))),(1,.c (.int .i64 x1)),(5,.c (.int .i64 x5))] []∧laws_heldIntS.l0 n x0 x1 x5 = some (r)) ⟨[0,1,5],[],[],[]⟩ fun n0 t ht Q0 hN0 hX0 => ?_);obtain ⟨hl,_,_,_,rfl,H⟩:=ht;rcases n0 with _ | n0;cases H;simp only [laws_heldIntS.l0] at H;(try (conv => cbv)))
  | ((with_reducible show Q0 _ _);first | exact nx_ hN0 | (refine xt_ hX0 ?_;(try (conv => cbv))))
  | ((with_reducible show Q _ _);exact en_ ⟨[4],[],[],[]⟩ 21 hQ)
  | contradiction
theorem laws_heldManifest.con (E:En) (hE:E = E0) {k l0_0 a0_1 a0_2 a0_3 l0_4 a1 r} (H:laws_heldManifest.f k l0_0 a0_1 a0_2 a0_3 l0_4 a1 = some (r)) :
  Cn 88 [.agg [.c (.sl [.int .i64] (E.eI .i64 l0_0)),.c (.int .i64 a0_1),.c (.int .i64 a0_2),.c (.int .i64 a0_3),.c (.sl [.int .i64] (E.eI .i64 l0_4))],.c (.int .i64 a1)] [] (.c (.int .i64 r)) [] []:=by
 refine co_ Tryz.func88 tabOk [] fun F hF Q hQ => ?_
 simp only [laws_heldManifest.f] at H
 (conv => cbv)
 repeat' first
  | replace H:=s_ H
  | (exfalso;with_reducible assumption)
  | (rw [itn_iff] at H;obtain ⟨hc,H⟩:=H)
  | (rw [itn2_iff] at H;obtain ⟨hc,H⟩:=H)
  | ((with_reducible refine br2 hF H ?_ ?_) <;> (clear H;intro hb H;(try (conv => cbv))))
  | (refine w_ hF ?_;(try (conv => cbv)))
  | ((with_reducible refine k1_ 171 H ?_);clear H;intro _ hy H;refine ca_ hF (laws_heldIntS.con E hE hy) ?_;(try (conv => cbv)))
  | ((with_reducible show Q _ _);exact en_ ⟨[4],[],[],[]⟩ 18 hQ)
  | contradiction
theorem laws_heldSpotS.con (E:En) (hE:E = E0) {k l0 a1 r} (H:laws_heldSpotS.f k l0 a1 = some (r)) :
  Cn 89 [.c (.sl [.str,.int .i64,.int .i64,.int .i64] (E.e145 l0)),.c (.int .i64 a1)] [] (.c (.int .i64 r)) [] []:=by
 refine co_ Tryz.func89 tabOk [] fun F hF Q hQ => ?_
 simp only [laws_heldSpotS.f] at H
 (conv => cbv)
 repeat' first
  | replace H:=s_ H
  | (exfalso;with_reducible assumption)
  | (rw [itn_iff] at H;obtain ⟨hc,H⟩:=H)
  | (rw [itn2_iff] at H;obtain ⟨hc,H⟩:=H)
  | ((with_reducible refine br2 hF H ?_ ?_) <;> (clear H;intro hb H;(try (conv => cbv))))
  | (refine w_ hF ?_;(try (conv => cbv)))
  | ((with_reducible refine k1_ 87 H ?_);clear H;intro _ hy H;refine ca_ hF (laws_markText.con E hE hy) ?_;(try (conv => cbv)))
  | ((with_reducible refine lo_ hF (fun n t => n≤k∧∃ x0 x1 x5,t = At 50 [(0,.c (.sl [.str,.int .i64,.int .i64,.int .i64] (E.e145 x0))),(1,.c (.int .i64 x1)),(5,.c (.int .i64 x5))] []∧laws_heldSpotS.l0 n x0 x1 x5 = some (r)) ⟨[0,1,5],[],[],[]⟩ fun n0 t ht Q0 hN0 hX0 => ?_);obtain ⟨hl,_,_,_,rfl,H⟩:=ht;rcases n0 with _ | n0;cases H;simp only [laws_heldSpotS.l0] at H;(try (conv => cbv)))
  | ((with_reducible show Q0 _ _);first | exact nx_ hN0 | (refine xt_ hX0 ?_;(try (conv => cbv))))
  | ((with_reducible show Q _ _);exact en_ ⟨[4],[],[],[]⟩ 50 hQ)
  | contradiction
theorem laws_heldShelf.con (E:En) (hE:E = E0) {k l0_0 a0_1 a0_2 a0_3 l0_4 l0_5 a0_6 a1 r} (H:laws_heldShelf.f k l0_0 a0_1 a0_2 a0_3 l0_4 l0_5 a0_6 a1 = some (r)) :
  Cn 26 [.agg [.c (.sl [.int .i64] (E.eI .i64 l0_0)),.c (.int .i64 a0_1),.c (.int .i64 a0_2),.c (.int .i64 a0_3),.c (.sl [.int .i64] (E.eI .i64 l0_4)),.c (.sl [.str,.int .i64,.int .i64,.int .i64] (E.e145 l0_5)),.c (.int .i64 a0_6)],.c (.int .i64 a1)] [] (.c (.int .i64 r)) [] []:=by
 refine co_ Tryz.func26 tabOk [] fun F hF Q hQ => ?_
 simp only [laws_heldShelf.f] at H
 (conv => cbv)
 repeat' first
  | replace H:=s_ H
  | (exfalso;with_reducible assumption)
  | (rw [itn_iff] at H;obtain ⟨hc,H⟩:=H)
  | (rw [itn2_iff] at H;obtain ⟨hc,H⟩:=H)
  | ((with_reducible refine br2 hF H ?_ ?_) <;> (clear H;intro hb H;(try (conv => cbv))))
  | (refine w_ hF ?_;(try (conv => cbv)))
  | ((with_reducible refine k1_ 88 H ?_);clear H;intro _ hy H;refine ca_ hF (laws_heldManifest.con E hE hy) ?_;(try (conv => cbv)))
  | ((with_reducible refine k1_ 89 H ?_);clear H;intro _ hy H;refine ca_ hF (laws_heldSpotS.con E hE hy) ?_;(try (conv => cbv)))
  | ((with_reducible show Q _ _);exact en_ ⟨[4],[],[],[]⟩ 18 hQ)
  | contradiction
theorem laws_heldRawS.con (E:En) (hE:E = E0) {k l0 a1 r} (H:laws_heldRawS.f k l0 a1 = some (r)) :
  Cn 27 [.c (.sl [.int .i64,.str,.str,.str] (E.e119 l0)),.c (.int .i64 a1)] [] (.c (.int .i64 r)) [] []:=by
 refine co_ Tryz.func27 tabOk [] fun F hF Q hQ => ?_
 simp only [laws_heldRawS.f] at H
 (conv => cbv)
 repeat' first
  | replace H:=s_ H
  | (exfalso;with_reducible assumption)
  | (rw [itn_iff] at H;obtain ⟨hc,H⟩:=H)
  | (rw [itn2_iff] at H;obtain ⟨hc,H⟩:=H)
  | ((with_reducible refine br2 hF H ?_ ?_) <;> (clear H;intro hb H;(try (conv => cbv))))
  | (refine w_ hF ?_;(try (conv => cbv)))
  | ((with_reducible refine k1_ 87 H ?_);clear H;intro _ hy H;refine ca_ hF (laws_markText.con E hE hy) ?_;(try (conv => cbv)))
  | ((with_reducible refine lo_ hF (fun n t => n≤k∧∃ x0 x1 x5,t = At 52 [(0,.c (.sl [.int .i64,.str,.str,.str] (E.e119 x0))),(1,.c (.int .i64 x1)),(5,.c (.int .i64 x5))] []∧laws_heldRawS.l0 n x0 x1 x5 = some (r)) ⟨[0,1,5],[],[],[]⟩ fun n0 t ht Q0 hN0 hX0 => ?_);obtain ⟨hl,_,_,_,rfl,H⟩:=ht;rcases n0 with _ | n0;cases H;simp only [laws_heldRawS.l0] at H;(try (conv => cbv)))
  | ((with_reducible show Q0 _ _);first | exact nx_ hN0 | (refine xt_ hX0 ?_;(try (conv => cbv))))
  | ((with_reducible show Q _ _);exact en_ ⟨[4],[],[],[]⟩ 52 hQ)
  | contradiction
theorem laws_FnExactInstallShelf.con (E:En) (hE:E = E0) {k l0_0 l1_0 a1_1 a1_2 a1_3 l1_4 l1_5 a1_6 a2 a3 a4 l5 r} (H:laws_FnExactInstallShelf.f k l0_0 l1_0 a1_1 a1_2 a1_3 l1_4 l1_5 a1_6 a2 a3 a4 l5 = some r) :
  Cn 7 [.agg [.c (.sl [.str,.str] (E.e171 l0_0))],.agg [.c (.sl [.int .i64] (E.eI .i64 l1_0)),.c (.int .i64 a1_1),.c (.int .i64 a1_2),.c (.int .i64 a1_3),.c (.sl [.int .i64] (E.eI .i64 l1_4)),.c (.sl [.str,.int .i64,.int .i64,.int .i64] (E.e173 l1_5)),.c (.int .i64 a1_6)],.c (.str a2),.c (.int .i64 a3),.c (.int .i64 a4),.c (.sl [.int .i64] (E.eI .i64 l5))] [] (.c (.bool r)) [] []:=by
 refine co_ Tryz.func7 tabOkM [] fun F hF Q hQ => ?_
 simp only [laws_FnExactInstallShelf.f] at H
 (conv => cbv)
 repeat' first
  | replace H:=s_ H
  | (exfalso;with_reducible assumption)
  | (rw [itn_iff] at H;obtain ⟨hc,H⟩:=H)
  | (rw [itn2_iff] at H;obtain ⟨hc,H⟩:=H)
  | ((with_reducible refine br2 hF H ?_ ?_) <;> (clear H;intro hb H;(try (conv => cbv))))
  | (refine w_ hF ?_;(try (conv => cbv)))
  | ((with_reducible refine k1_ 12 H ?_);clear H;intro _ hy H;refine ca_ hF (laws_szDisk.con E hE hy) ?_;(try (conv => cbv)))
  | ((with_reducible refine k1_ 13 H ?_);clear H;intro _ hy H;refine ca_ hF (laws_szShelf.con E hE hy) ?_;(try (conv => cbv)))
  | ((with_reducible refine k1_ 15 H ?_);clear H;intro _ hy H;refine ca_ hF (laws_toDisk.con E hE hy) ?_;(try (conv => cbv)))
  | ((with_reducible refine k7_ 16 H ?_);clear H;intro _ _ _ _ _ _ _ hy H;refine ca_ hF (laws_toShelf.con E hE hy) ?_;(try (conv => cbv)))
  | ((with_reducible refine k1_ 45 H ?_);clear H;intro _ hy H;refine ca_ hF (laws_toIntS.con E hE hy) ?_;(try (conv => cbv)))
  | ((with_reducible refine k9_ 44 H ?_);clear H;intro _ _ _ _ _ _ _ _ _ hy H;refine ca_ hF (spec_InstallShelf.con E hE hy) ?_;(try (conv => cbv)))
  | ((with_reducible refine k9_ 37 H ?_);clear H;intro _ _ _ _ _ _ _ _ _ hy H;refine ca_ hF (impl_InstallShelf.con E hE hy) ?_;(try (conv => cbv)))
  | ((with_reducible refine k1_ 19 H ?_);clear H;intro _ hy H;refine ca_ hF (laws_eqShelf.con E hE hy) ?_;(try (conv => cbv)))
  | ((with_reducible refine k1_ 22 H ?_);clear H;intro _ hy H;refine ca_ hF (laws_eqRawS.con E hE hy) ?_;(try (conv => cbv)))
  | ((with_reducible refine k1_ 18 H ?_);clear H;intro _ hy H;refine ca_ hF (laws_eqDisk.con E hE hy) ?_;(try (conv => cbv)))
  | ((with_reducible refine k1_ 46 H ?_);clear H;intro _ hy H;refine ca_ hF (laws_eqIntS.con E hE hy) ?_;(try (conv => cbv)))
  | ((with_reducible refine k2_ 23 H ?_);clear H;intro _ _ hy H;refine ca_ hF (laws_markDisk.con E hE hy) ?_;(try (conv => cbv)))
  | ((with_reducible refine k4_ 24 H ?_);clear H;intro _ _ _ _ hy H;refine ca_ hF (laws_markShelf.con E hE hy) ?_;(try (conv => cbv)))
  | ((with_reducible refine k2_ 47 H ?_);clear H;intro _ _ hy H;refine ca_ hF (laws_markIntS.con E hE hy) ?_;(try (conv => cbv)))
  | ((with_reducible refine k2_ 25 H ?_);clear H;intro _ _ hy H;refine ca_ hF (laws_markRawS.con E hE hy) ?_;(try (conv => cbv)))
  | ((with_reducible refine k1_ 26 H ?_);clear H;intro _ hy H;refine ca_ hF (laws_heldShelf.con E hE hy) ?_;(try (conv => cbv)))
  | ((with_reducible refine k1_ 27 H ?_);clear H;intro _ hy H;refine ca_ hF (laws_heldRawS.con E hE hy) ?_;(try (conv => cbv)))
  | ((with_reducible show Q _ _);exact en_ ⟨[12],[],[],[]⟩ 195 hQ)
  | contradiction
end Go.Ev
