/- Contracts of the Go functions that this law reaches: what each call returns, by its plain function. No conditions but those that each statement names. By this repo's programs; comments are taken out. -/
import Derived.Test.YtlmicldpfnmeaaaGreatDoorVFnExactInstallShelfD
set_option linter.all false
namespace Go.Ev
open Go.RowKit Go.Proofs Go.Proofs.YtlmicldpfnmeaaaGreatDoorW.PrintWords Go.Proofs.YtlmicldpfnmeaaaGreatDoorW.PrintLast Go.Proofs.YtlmicldpfnmeaaaGreatDoorW.PrintMore
set_option maxRecDepth 100000
set_option maxHeartbeats 4000000
theorem laws_szFile.con (E:En) (hE:E = E0) {a0_0 a0_1 a1 r} (H:laws_szFile.f a0_0 a0_1 a1 = some (r)) :
  Cn 126 [.agg [.c (.str a0_0),.c (.str a0_1)],.c (.int .i64 a1)] [] (.c (.int .i64 r)) [] []:=by
 refine co_ Tryz.func126 tabOk [] fun F hF Q hQ => ?_
 simp only [laws_szFile.f] at H
 (conv => cbv)
 repeat' first
  | replace H:=s_ H
  | (exfalso;with_reducible assumption)
  | (rw [itn_iff] at H;obtain ⟨hc,H⟩:=H)
  | (rw [itn2_iff] at H;obtain ⟨hc,H⟩:=H)
  | ((with_reducible refine br2 hF H ?_ ?_) <;> (clear H;intro hb H;(try (conv => cbv))))
  | (refine w_ hF ?_;(try (conv => cbv)))
  | ((with_reducible show Q _ _);exact en_ ⟨[4],[],[],[]⟩ 20 hQ)
  | contradiction
theorem laws_szFileS.con (E:En) (hE:E = E0) {k l0 a1 r} (H:laws_szFileS.f k l0 a1 = some (r)) :
  Cn 55 [.c (.sl [.str,.str] (E.e171 l0)),.c (.int .i64 a1)] [] (.c (.int .i64 r)) [] []:=by
 refine co_ Tryz.func55 tabOk [] fun F hF Q hQ => ?_
 simp only [laws_szFileS.f] at H
 (conv => cbv)
 repeat' first
  | replace H:=s_ H
  | (exfalso;with_reducible assumption)
  | (rw [itn_iff] at H;obtain ⟨hc,H⟩:=H)
  | (rw [itn2_iff] at H;obtain ⟨hc,H⟩:=H)
  | ((with_reducible refine br2 hF H ?_ ?_) <;> (clear H;intro hb H;(try (conv => cbv))))
  | (refine w_ hF ?_;(try (conv => cbv)))
  | ((with_reducible refine k1_ 126 H ?_);clear H;intro _ hy H;refine ca_ hF (laws_szFile.con E hE hy) ?_;(try (conv => cbv)))
  | ((with_reducible refine lo_ hF (fun n t => n≤k∧∃ x0 x1 x5,t = At 27 [(0,.c (.sl [.str,.str] (E.e171 x0))),(1,.c (.int .i64 x1)),(5,.c (.int .i64 x5))] []∧laws_szFileS.l0 n x0 x1 x5 = some (r)) ⟨[0,1,5],[],[],[]⟩ fun n0 t ht Q0 hN0 hX0 => ?_);obtain ⟨hl,_,_,_,rfl,H⟩:=ht;rcases n0 with _ | n0;cases H;simp only [laws_szFileS.l0] at H;(try (conv => cbv)))
  | ((with_reducible show Q0 _ _);first | exact nx_ hN0 | (refine xt_ hX0 ?_;(try (conv => cbv))))
  | ((with_reducible show Q _ _);exact en_ ⟨[4],[],[],[]⟩ 27 hQ)
  | contradiction
theorem laws_szDisk.con (E:En) (hE:E = E0) {k l0_0 a1 r} (H:laws_szDisk.f k l0_0 a1 = some (r)) :
  Cn 12 [.agg [.c (.sl [.str,.str] (E.e171 l0_0))],.c (.int .i64 a1)] [] (.c (.int .i64 r)) [] []:=by
 refine co_ Tryz.func12 tabOk [] fun F hF Q hQ => ?_
 simp only [laws_szDisk.f] at H
 (conv => cbv)
 repeat' first
  | replace H:=s_ H
  | (exfalso;with_reducible assumption)
  | (rw [itn_iff] at H;obtain ⟨hc,H⟩:=H)
  | (rw [itn2_iff] at H;obtain ⟨hc,H⟩:=H)
  | ((with_reducible refine br2 hF H ?_ ?_) <;> (clear H;intro hb H;(try (conv => cbv))))
  | (refine w_ hF ?_;(try (conv => cbv)))
  | ((with_reducible refine k1_ 55 H ?_);clear H;intro _ hy H;refine ca_ hF (laws_szFileS.con E hE hy) ?_;(try (conv => cbv)))
  | ((with_reducible show Q _ _);exact en_ ⟨[4],[],[],[]⟩ 12 hQ)
  | contradiction
theorem laws_szIntS.con (E:En) (hE:E = E0) {l0 a1 r} (H:laws_szIntS.f l0 a1 = some (r)) :
  Cn 127 [.c (.sl [.int .i64] (E.eI .i64 l0)),.c (.int .i64 a1)] [] (.c (.int .i64 r)) [] []:=by
 refine co_ Tryz.func127 tabOk [] fun F hF Q hQ => ?_
 simp only [laws_szIntS.f] at H
 (conv => cbv)
 repeat' first
  | replace H:=s_ H
  | (exfalso;with_reducible assumption)
  | (rw [itn_iff] at H;obtain ⟨hc,H⟩:=H)
  | (rw [itn2_iff] at H;obtain ⟨hc,H⟩:=H)
  | ((with_reducible refine br2 hF H ?_ ?_) <;> (clear H;intro hb H;(try (conv => cbv))))
  | (refine w_ hF ?_;(try (conv => cbv)))
  | ((with_reducible show Q _ _);exact en_ ⟨[4],[],[],[]⟩ 12 hQ)
  | contradiction
theorem laws_szManifest.con (E:En) (hE:E = E0) {l0_0 a0_1 a0_2 a0_3 l0_4 a1 r} (H:laws_szManifest.f l0_0 a0_1 a0_2 a0_3 l0_4 a1 = some (r)) :
  Cn 56 [.agg [.c (.sl [.int .i64] (E.eI .i64 l0_0)),.c (.int .i64 a0_1),.c (.int .i64 a0_2),.c (.int .i64 a0_3),.c (.sl [.int .i64] (E.eI .i64 l0_4))],.c (.int .i64 a1)] [] (.c (.int .i64 r)) [] []:=by
 refine co_ Tryz.func56 tabOk [] fun F hF Q hQ => ?_
 simp only [laws_szManifest.f] at H
 (conv => cbv)
 repeat' first
  | replace H:=s_ H
  | (exfalso;with_reducible assumption)
  | (rw [itn_iff] at H;obtain ⟨hc,H⟩:=H)
  | (rw [itn2_iff] at H;obtain ⟨hc,H⟩:=H)
  | ((with_reducible refine br2 hF H ?_ ?_) <;> (clear H;intro hb H;(try (conv => cbv))))
  | (refine w_ hF ?_;(try (conv => cbv)))
  | ((with_reducible refine k1_ 127 H ?_);clear H;intro _ hy H;refine ca_ hF (laws_szIntS.con E hE hy) ?_;(try (conv => cbv)))
  | ((with_reducible show Q _ _);exact en_ ⟨[4],[],[],[]⟩ 18 hQ)
  | contradiction
theorem laws_szSpot.con (E:En) (hE:E = E0) {a0_0 a0_1 a0_2 a0_3 a1 r} (H:laws_szSpot.f a0_0 a0_1 a0_2 a0_3 a1 = some (r)) :
  Cn 128 [.agg [.c (.str a0_0),.c (.int .i64 a0_1),.c (.int .i64 a0_2),.c (.int .i64 a0_3)],.c (.int .i64 a1)] [] (.c (.int .i64 r)) [] []:=by
 refine co_ Tryz.func128 tabOk [] fun F hF Q hQ => ?_
 simp only [laws_szSpot.f] at H
 (conv => cbv)
 repeat' first
  | replace H:=s_ H
  | (exfalso;with_reducible assumption)
  | (rw [itn_iff] at H;obtain ⟨hc,H⟩:=H)
  | (rw [itn2_iff] at H;obtain ⟨hc,H⟩:=H)
  | ((with_reducible refine br2 hF H ?_ ?_) <;> (clear H;intro hb H;(try (conv => cbv))))
  | (refine w_ hF ?_;(try (conv => cbv)))
  | ((with_reducible show Q _ _);exact en_ ⟨[4],[],[],[]⟩ 13 hQ)
  | contradiction
theorem laws_szSpotS.con (E:En) (hE:E = E0) {k l0 a1 r} (H:laws_szSpotS.f k l0 a1 = some (r)) :
  Cn 57 [.c (.sl [.str,.int .i64,.int .i64,.int .i64] (E.e173 l0)),.c (.int .i64 a1)] [] (.c (.int .i64 r)) [] []:=by
 refine co_ Tryz.func57 tabOk [] fun F hF Q hQ => ?_
 simp only [laws_szSpotS.f] at H
 (conv => cbv)
 repeat' first
  | replace H:=s_ H
  | (exfalso;with_reducible assumption)
  | (rw [itn_iff] at H;obtain ⟨hc,H⟩:=H)
  | (rw [itn2_iff] at H;obtain ⟨hc,H⟩:=H)
  | ((with_reducible refine br2 hF H ?_ ?_) <;> (clear H;intro hb H;(try (conv => cbv))))
  | (refine w_ hF ?_;(try (conv => cbv)))
  | ((with_reducible refine k1_ 128 H ?_);clear H;intro _ hy H;refine ca_ hF (laws_szSpot.con E hE hy) ?_;(try (conv => cbv)))
  | ((with_reducible refine lo_ hF (fun n t => n≤k∧∃ x0 x1 x5,t = At 27 [(0,.c (.sl [.str,.int .i64,.int .i64,.int .i64] (E.e173 x0))),(1,.c (.int .i64 x1)),(5,.c (.int .i64 x5))] []∧laws_szSpotS.l0 n x0 x1 x5 = some (r)) ⟨[0,1,5],[],[],[]⟩ fun n0 t ht Q0 hN0 hX0 => ?_);obtain ⟨hl,_,_,_,rfl,H⟩:=ht;rcases n0 with _ | n0;cases H;simp only [laws_szSpotS.l0] at H;(try (conv => cbv)))
  | ((with_reducible show Q0 _ _);first | exact nx_ hN0 | (refine xt_ hX0 ?_;(try (conv => cbv))))
  | ((with_reducible show Q _ _);exact en_ ⟨[4],[],[],[]⟩ 27 hQ)
  | contradiction
theorem laws_szShelf.con (E:En) (hE:E = E0) {k l0_0 a0_1 a0_2 a0_3 l0_4 l0_5 a0_6 a1 r} (H:laws_szShelf.f k l0_0 a0_1 a0_2 a0_3 l0_4 l0_5 a0_6 a1 = some (r)) :
  Cn 13 [.agg [.c (.sl [.int .i64] (E.eI .i64 l0_0)),.c (.int .i64 a0_1),.c (.int .i64 a0_2),.c (.int .i64 a0_3),.c (.sl [.int .i64] (E.eI .i64 l0_4)),.c (.sl [.str,.int .i64,.int .i64,.int .i64] (E.e173 l0_5)),.c (.int .i64 a0_6)],.c (.int .i64 a1)] [] (.c (.int .i64 r)) [] []:=by
 refine co_ Tryz.func13 tabOk [] fun F hF Q hQ => ?_
 simp only [laws_szShelf.f] at H
 (conv => cbv)
 repeat' first
  | replace H:=s_ H
  | (exfalso;with_reducible assumption)
  | (rw [itn_iff] at H;obtain ⟨hc,H⟩:=H)
  | (rw [itn2_iff] at H;obtain ⟨hc,H⟩:=H)
  | ((with_reducible refine br2 hF H ?_ ?_) <;> (clear H;intro hb H;(try (conv => cbv))))
  | (refine w_ hF ?_;(try (conv => cbv)))
  | ((with_reducible refine k1_ 56 H ?_);clear H;intro _ hy H;refine ca_ hF (laws_szManifest.con E hE hy) ?_;(try (conv => cbv)))
  | ((with_reducible refine k1_ 57 H ?_);clear H;intro _ hy H;refine ca_ hF (laws_szSpotS.con E hE hy) ?_;(try (conv => cbv)))
  | ((with_reducible show Q _ _);exact en_ ⟨[4],[],[],[]⟩ 18 hQ)
  | contradiction
theorem laws_toFile.con (E:En) (hE:E = E0) {a0_0 a0_1 r1 r2} (H:laws_toFile.f a0_0 a0_1 = some (r1,r2)) :
  Cn 139 [.agg [.c (.str a0_0),.c (.str a0_1)]] [] (.agg [.c (.str r1),.c (.str r2)]) [] []:=by
 refine co_ Tryz.func139 tabOk [] fun F hF Q hQ => ?_
 simp only [laws_toFile.f] at H
 (conv => cbv)
 repeat' first
  | replace H:=s_ H
  | (exfalso;with_reducible assumption)
  | (rw [itn_iff] at H;obtain ⟨hc,H⟩:=H)
  | (rw [itn2_iff] at H;obtain ⟨hc,H⟩:=H)
  | ((with_reducible refine br2 hF H ?_ ?_) <;> (clear H;intro hb H;(try (conv => cbv))))
  | (refine w_ hF ?_;(try (conv => cbv)))
  | ((with_reducible show Q _ _);exact en_ ⟨[2],[2],[],[]⟩ 11 hQ)
  | contradiction
theorem laws_toFileS.con (E:En) (hE:E = E0) {k l0 r} (H:laws_toFileS.f k l0 = some (r)) :
  Cn 64 [.c (.sl [.str,.str] (E.e171 l0))] [] (.own 0) [.row false 122 [.str,.str] (E.e122 r)] []:=by
 refine co_ Tryz.func64 tabOk [20002] fun F hF Q hQ => ?_
 simp only [laws_toFileS.f] at H
 (conv => cbv)
 repeat' first
  | replace H:=s_ H
  | (exfalso;with_reducible assumption)
  | (rw [itn_iff] at H;obtain ⟨hc,H⟩:=H)
  | (rw [itn2_iff] at H;obtain ⟨hc,H⟩:=H)
  | ((with_reducible refine br2 hF H ?_ ?_) <;> (clear H;intro hb H;(try (conv => cbv))))
  | (refine w_ hF ?_;(try (conv => cbv)))
  | ((with_reducible refine k2_ 139 H ?_);clear H;intro _ _ hy H;refine ca_ hF (laws_toFile.con E hE hy) ?_;(try (conv => cbv)))
  | ((with_reducible refine lo_ hF (fun n t => n≤k∧∃ x0 x3 x4,t = At 23 [(0,.c (.sl [.str,.str] (E.e171 x0))),(3,.own 20003),(4,.c (.int .i64 x4))] [(20003,.row false 122 [.str,.str] (E.e122 x3))]∧laws_toFileS.l0 n x0 x3 x4 = some (r)) ⟨[0,3,4],[],[(3,122)],[]⟩ fun n0 t ht Q0 hN0 hX0 => ?_);obtain ⟨hl,_,_,_,rfl,H⟩:=ht;rcases n0 with _ | n0;cases H;simp only [laws_toFileS.l0] at H;(try (conv => cbv)))
  | ((with_reducible show Q0 _ _);first | exact nx_ hN0 | (refine xt_ hX0 ?_;(try (conv => cbv))))
  | ((with_reducible show Q _ _);exact en_ ⟨[2],[],[(2,122)],[]⟩ 23 hQ)
  | contradiction
theorem laws_toDisk.con (E:En) (hE:E = E0) {k l0_0 r} (H:laws_toDisk.f k l0_0 = some (r)) :
  Cn 15 [.agg [.c (.sl [.str,.str] (E.e171 l0_0))]] [] (.agg [.own 0]) [.row false 122 [.str,.str] (E.e122 r)] []:=by
 refine co_ Tryz.func15 tabOk [400040] fun F hF Q hQ => ?_
 simp only [laws_toDisk.f] at H
 (conv => cbv)
 repeat' first
  | replace H:=s_ H
  | (exfalso;with_reducible assumption)
  | (rw [itn_iff] at H;obtain ⟨hc,H⟩:=H)
  | (rw [itn2_iff] at H;obtain ⟨hc,H⟩:=H)
  | ((with_reducible refine br2 hF H ?_ ?_) <;> (clear H;intro hb H;(try (conv => cbv))))
  | (refine w_ hF ?_;(try (conv => cbv)))
  | ((with_reducible refine k1_ 64 H ?_);clear H;intro _ hy H;refine ca_ hF (laws_toFileS.con E hE hy) ?_;(try (conv => cbv)))
  | ((with_reducible show Q _ _);exact en_ ⟨[2],[2],[],[(2,0,122)]⟩ 9 hQ)
  | contradiction
theorem laws_toIntS.con (E:En) (hE:E = E0) {k l0 r} (H:laws_toIntS.f k l0 = some (r)) :
  Cn 45 [.c (.sl [.int .i64] (E.eI .i64 l0))] [] (.own 0) [.row false 3 [.int .i64] (E.eI .i64 r)] []:=by
 refine co_ Tryz.func45 tabOk [20002] fun F hF Q hQ => ?_
 simp only [laws_toIntS.f] at H
 (conv => cbv)
 repeat' first
  | replace H:=s_ H
  | (exfalso;with_reducible assumption)
  | (rw [itn_iff] at H;obtain ⟨hc,H⟩:=H)
  | (rw [itn2_iff] at H;obtain ⟨hc,H⟩:=H)
  | ((with_reducible refine br2 hF H ?_ ?_) <;> (clear H;intro hb H;(try (conv => cbv))))
  | (refine w_ hF ?_;(try (conv => cbv)))
  | ((with_reducible refine lo_ hF (fun n t => n≤k∧∃ x0 x3 x4,t = At 22 [(0,.c (.sl [.int .i64] (E.eI .i64 x0))),(3,.own 20003),(4,.c (.int .i64 x4))] [(20003,.row false 3 [.int .i64] (E.eI .i64 x3))]∧laws_toIntS.l0 n x0 x3 x4 = some (r)) ⟨[0,3,4],[],[(3,3)],[]⟩ fun n0 t ht Q0 hN0 hX0 => ?_);obtain ⟨hl,_,_,_,rfl,H⟩:=ht;rcases n0 with _ | n0;cases H;simp only [laws_toIntS.l0] at H;(try (conv => cbv)))
  | ((with_reducible show Q0 _ _);first | exact nx_ hN0 | (refine xt_ hX0 ?_;(try (conv => cbv))))
  | ((with_reducible show Q _ _);exact en_ ⟨[2],[],[(2,3)],[]⟩ 22 hQ)
  | contradiction
theorem laws_toManifest.con (E:En) (hE:E = E0) {k l0_0 a0_1 a0_2 a0_3 l0_4 r1 r2 r3 r4 r5} (H:laws_toManifest.f k l0_0 a0_1 a0_2 a0_3 l0_4 = some (r1,r2,r3,r4,r5)) :
  Cn 65 [.agg [.c (.sl [.int .i64] (E.eI .i64 l0_0)),.c (.int .i64 a0_1),.c (.int .i64 a0_2),.c (.int .i64 a0_3),.c (.sl [.int .i64] (E.eI .i64 l0_4))]] [] (.agg [.own 0,.c (.int .i64 r2),.c (.int .i64 r3),.c (.int .i64 r4),.own 1]) [.row false 3 [.int .i64] (E.eI .i64 r1),.row false 3 [.int .i64] (E.eI .i64 r5)] []:=by
 refine co_ Tryz.func65 tabOk [400040,400044] fun F hF Q hQ => ?_
 simp only [laws_toManifest.f] at H
 (conv => cbv)
 repeat' first
  | replace H:=s_ H
  | (exfalso;with_reducible assumption)
  | (rw [itn_iff] at H;obtain ⟨hc,H⟩:=H)
  | (rw [itn2_iff] at H;obtain ⟨hc,H⟩:=H)
  | ((with_reducible refine br2 hF H ?_ ?_) <;> (clear H;intro hb H;(try (conv => cbv))))
  | (refine w_ hF ?_;(try (conv => cbv)))
  | ((with_reducible refine k1_ 45 H ?_);clear H;intro _ hy H;refine ca_ hF (laws_toIntS.con E hE hy) ?_;(try (conv => cbv)))
  | ((with_reducible show Q _ _);exact en_ ⟨[2],[2],[],[(2,0,3),(2,4,3)]⟩ 22 hQ)
  | contradiction
theorem laws_toSpot.con (E:En) (hE:E = E0) {a0_0 a0_1 a0_2 a0_3 r1 r2 r3 r4} (H:laws_toSpot.f a0_0 a0_1 a0_2 a0_3 = some (r1,r2,r3,r4)) :
  Cn 140 [.agg [.c (.str a0_0),.c (.int .i64 a0_1),.c (.int .i64 a0_2),.c (.int .i64 a0_3)]] [] (.agg [.c (.str r1),.c (.int .i64 r2),.c (.int .i64 r3),.c (.int .i64 r4)]) [] []:=by
 refine co_ Tryz.func140 tabOk [] fun F hF Q hQ => ?_
 simp only [laws_toSpot.f] at H
 (conv => cbv)
 repeat' first
  | replace H:=s_ H
  | (exfalso;with_reducible assumption)
  | (rw [itn_iff] at H;obtain ⟨hc,H⟩:=H)
  | (rw [itn2_iff] at H;obtain ⟨hc,H⟩:=H)
  | ((with_reducible refine br2 hF H ?_ ?_) <;> (clear H;intro hb H;(try (conv => cbv))))
  | (refine w_ hF ?_;(try (conv => cbv)))
  | ((with_reducible show Q _ _);exact en_ ⟨[2],[2],[],[]⟩ 17 hQ)
  | contradiction
theorem laws_toSpotS.con (E:En) (hE:E = E0) {k l0 r} (H:laws_toSpotS.f k l0 = some (r)) :
  Cn 66 [.c (.sl [.str,.int .i64,.int .i64,.int .i64] (E.e173 l0))] [] (.own 0) [.row false 145 [.str,.int .i64,.int .i64,.int .i64] (E.e145 r)] []:=by
 refine co_ Tryz.func66 tabOk [20002] fun F hF Q hQ => ?_
 simp only [laws_toSpotS.f] at H
 (conv => cbv)
 repeat' first
  | replace H:=s_ H
  | (exfalso;with_reducible assumption)
  | (rw [itn_iff] at H;obtain ⟨hc,H⟩:=H)
  | (rw [itn2_iff] at H;obtain ⟨hc,H⟩:=H)
  | ((with_reducible refine br2 hF H ?_ ?_) <;> (clear H;intro hb H;(try (conv => cbv))))
  | (refine w_ hF ?_;(try (conv => cbv)))
  | ((with_reducible refine k4_ 140 H ?_);clear H;intro _ _ _ _ hy H;refine ca_ hF (laws_toSpot.con E hE hy) ?_;(try (conv => cbv)))
  | ((with_reducible refine lo_ hF (fun n t => n≤k∧∃ x0 x3 x4,t = At 23 [(0,.c (.sl [.str,.int .i64,.int .i64,.int .i64] (E.e173 x0))),(3,.own 20003),(4,.c (.int .i64 x4))] [(20003,.row false 145 [.str,.int .i64,.int .i64,.int .i64] (E.e145 x3))]∧laws_toSpotS.l0 n x0 x3 x4 = some (r)) ⟨[0,3,4],[],[(3,145)],[]⟩ fun n0 t ht Q0 hN0 hX0 => ?_);obtain ⟨hl,_,_,_,rfl,H⟩:=ht;rcases n0 with _ | n0;cases H;simp only [laws_toSpotS.l0] at H;(try (conv => cbv)))
  | ((with_reducible show Q0 _ _);first | exact nx_ hN0 | (refine xt_ hX0 ?_;(try (conv => cbv))))
  | ((with_reducible show Q _ _);exact en_ ⟨[2],[],[(2,145)],[]⟩ 23 hQ)
  | contradiction
theorem laws_toShelf.con (E:En) (hE:E = E0) {k l0_0 a0_1 a0_2 a0_3 l0_4 l0_5 a0_6 r1 r2 r3 r4 r5 r6 r7} (H:laws_toShelf.f k l0_0 a0_1 a0_2 a0_3 l0_4 l0_5 a0_6 = some (r1,r2,r3,r4,r5,r6,r7)) :
  Cn 16 [.agg [.c (.sl [.int .i64] (E.eI .i64 l0_0)),.c (.int .i64 a0_1),.c (.int .i64 a0_2),.c (.int .i64 a0_3),.c (.sl [.int .i64] (E.eI .i64 l0_4)),.c (.sl [.str,.int .i64,.int .i64,.int .i64] (E.e173 l0_5)),.c (.int .i64 a0_6)]] [] (.agg [.own 0,.c (.int .i64 r2),.c (.int .i64 r3),.c (.int .i64 r4),.own 1,.own 2,.c (.int .i64 r7)]) [.row false 3 [.int .i64] (E.eI .i64 r1),.row false 3 [.int .i64] (E.eI .i64 r5),.row false 145 [.str,.int .i64,.int .i64,.int .i64] (E.e145 r6)] []:=by
 refine co_ Tryz.func16 tabOk [400040,400044,400045] fun F hF Q hQ => ?_
 simp only [laws_toShelf.f] at H
 (conv => cbv)
 repeat' first
  | replace H:=s_ H
  | (exfalso;with_reducible assumption)
  | (rw [itn_iff] at H;obtain ⟨hc,H⟩:=H)
  | (rw [itn2_iff] at H;obtain ⟨hc,H⟩:=H)
  | ((with_reducible refine br2 hF H ?_ ?_) <;> (clear H;intro hb H;(try (conv => cbv))))
  | (refine w_ hF ?_;(try (conv => cbv)))
  | ((with_reducible refine k5_ 65 H ?_);clear H;intro _ _ _ _ _ hy H;refine ca_ hF (laws_toManifest.con E hE hy) ?_;(try (conv => cbv)))
  | ((with_reducible refine k1_ 66 H ?_);clear H;intro _ hy H;refine ca_ hF (laws_toSpotS.con E hE hy) ?_;(try (conv => cbv)))
  | ((with_reducible show Q _ _);exact en_ ⟨[2],[2],[],[(2,0,3),(2,4,3),(2,5,145)]⟩ 16 hQ)
  | contradiction
theorem spec_l01In.con (E:En) (hE:E = E0) {a0 a1 a2 r} (H:spec_l01In.f a0 a1 a2 = some (r)) :
  Cn 131 [.c (.int .i64 a0),.c (.int .i64 a1),.c (.int .i64 a2)] [] (.c (.bool r)) [] []:=by
 refine co_ Tryz.func131 tabOk [] fun F hF Q hQ => ?_
 simp only [spec_l01In.f] at H
 (conv => cbv)
 repeat' first
  | replace H:=s_ H
  | (exfalso;with_reducible assumption)
  | (rw [itn_iff] at H;obtain ⟨hc,H⟩:=H)
  | (rw [itn2_iff] at H;obtain ⟨hc,H⟩:=H)
  | ((with_reducible refine br2 hF H ?_ ?_) <;> (clear H;intro hb H;(try (conv => cbv))))
  | (refine w_ hF ?_;(try (conv => cbv)))
  | ((with_reducible show Q _ _);exact en_ ⟨[6],[],[],[]⟩ 15 hQ)
  | contradiction
theorem spec_l01Var.con (E:En) (hE:E = E0) {k a0 r} (H:spec_l01Var.f k a0 = some (r)) :
  Cn 136 [.c (.int .i64 a0)] [] (.c (.str r)) [] []:=by
 refine co_ Tryz.func136 tabOk [] fun F hF Q hQ => ?_
 simp only [spec_l01Var.f] at H
 (conv => cbv)
 repeat' first
  | replace H:=s_ H
  | (exfalso;with_reducible assumption)
  | (rw [itn_iff] at H;obtain ⟨hc,H⟩:=H)
  | (rw [itn2_iff] at H;obtain ⟨hc,H⟩:=H)
  | ((with_reducible refine br2 hF H ?_ ?_) <;> (clear H;intro hb H;(try (conv => cbv))))
  | (refine w_ hF ?_;(try (conv => cbv)))
  | ((with_reducible refine lo_ hF (fun n t => n≤k∧∃ x0 x3,t = At 22 [(0,.c (.int .i64 x0)),(3,.own 20003)] [(20003,.row false 5 [.int .u8] (E.eI .u8 x3))]∧spec_l01Var.l0 n x0 x3 = some (r)) ⟨[0,3],[],[(3,5)],[]⟩ fun n0 t ht Q0 hN0 hX0 => ?_);obtain ⟨hl,_,_,rfl,H⟩:=ht;rcases n0 with _ | n0;cases H;simp only [spec_l01Var.l0] at H;(try (conv => cbv)))
  | ((with_reducible show Q0 _ _);first | exact nx_ hN0 | (refine xt_ hX0 ?_;(try (conv => cbv))))
  | ((with_reducible show Q _ _);exact en_ ⟨[2],[],[],[]⟩ 22 hQ)
  | contradiction
theorem spec_ReadVar.j1_s {k:Nat} {x0:ByteArray} {x1:Int} {x7:Int} {x8:Int} {x9:Int} {x25:Bool} {r:_} (h:spec_ReadVar.j1 k x0 x1 x7 x8 x9 x25 = some r):∃ m,k = m + 1∧spec_ReadVar.j1 (m + 1) x0 x1 x7 x8 x9 x25 = some r:=by
 cases k with
 | zero => simp [spec_ReadVar.j1] at h
 | succ m => exact ⟨m,rfl,h⟩
theorem spec_ReadVar.j1_i {k:Nat} {x0:ByteArray} {x1:Int} {x7:Int} {x8:Int} {x9:Int} {x25:Bool} {r:_}:(spec_ReadVar.j1 k x0 x1 x7 x8 x9 x25 = some r) = (∃ m,k = m + 1∧spec_ReadVar.j1 (m + 1) x0 x1 x7 x8 x9 x25 = some r):=propext ⟨spec_ReadVar.j1_s,fun ⟨m,h,h2⟩ => by rw [h];exact h2⟩
theorem spec_ReadVar.con (E:En) (hE:E = E0) {k a0 a1 r1 r2 r3} (H:spec_ReadVar.f k a0 a1 = some (r1,r2,r3)) :
  Cn 130 [.c (.str a0),.c (.int .i64 a1)] [] (.tup [.c (.int .i64 r1),.c (.int .i64 r2),.c (.bool r3)]) [] []:=by
 refine co_ Tryz.func130 tabOk [] fun F hF Q hQ => ?_
 simp only [spec_ReadVar.f] at H
 (conv => cbv)
 repeat' first
  | (rw [spec_ReadVar.j1_i] at H;obtain ⟨m,hm,H⟩:=H;simp only [spec_ReadVar.j1] at H;(try simp only [decide_eq_true_eq,Bool.false_eq_true,if_false,if_true] at H))
  | replace H:=s_ H
  | (exfalso;with_reducible assumption)
  | (rw [itn_iff] at H;obtain ⟨hc,H⟩:=H)
  | (rw [itn2_iff] at H;obtain ⟨hc,H⟩:=H)
  | ((with_reducible refine br2 hF H ?_ ?_) <;> (clear H;intro hb H;(try (conv => cbv))))
  | (refine w_ hF ?_;(try (conv => cbv)))
  | ((with_reducible refine k1_ 131 H ?_);clear H;intro _ hy H;refine ca_ hF (spec_l01In.con E hE hy) ?_;(try (conv => cbv)))
  | ((with_reducible refine k1_ 136 H ?_);clear H;intro _ hy H;refine ca_ hF (spec_l01Var.con E hE hy) ?_;(try (conv => cbv)))
  | ((with_reducible refine lo_ hF (fun n t => n≤k∧∃ x0 x1 x7 x8 x9,t = At 58 [(0,.c (.str x0)),(1,.c (.int .i64 x1)),(7,.c (.int .i64 x7)),(8,.c (.int .i64 x8)),(9,.c (.int .i64 x9))] []∧spec_ReadVar.l0 n x0 x1 x7 x8 x9 = some (r1,r2,r3)) ⟨[0,1,7,8,9],[],[],[]⟩ fun n0 t ht Q0 hN0 hX0 => ?_);obtain ⟨hl,_,_,_,_,_,rfl,H⟩:=ht;rcases n0 with _ | n0;cases H;simp only [spec_ReadVar.l0] at H;(try (conv => cbv)))
  | ((with_reducible show Q0 _ _);first | exact nx_ hN0 | (refine xt_ hX0 ?_;(try (conv => cbv))))
  | ((with_reducible show Q _ _);exact en_ ⟨[4,5,6],[],[],[]⟩ 58 hQ)
  | contradiction
theorem spec_SumMore.con (E:En) (hE:E = E0) {k a0 a1 r} (H:spec_SumMore.f k a0 a1 = some (r)) :
  Cn 198 [.c (.int .u32 a0),.c (.str a1)] [] (.c (.int .u32 r)) [] []:=by
 refine co_ Tryz.func198 tabOk [] fun F hF Q hQ => ?_
 simp only [spec_SumMore.f] at H
 (conv => cbv)
 repeat' first
  | replace H:=s_ H
  | (exfalso;with_reducible assumption)
  | (rw [itn_iff] at H;obtain ⟨hc,H⟩:=H)
  | (rw [itn2_iff] at H;obtain ⟨hc,H⟩:=H)
  | ((with_reducible refine br2 hF H ?_ ?_) <;> (clear H;intro hb H;(try (conv => cbv))))
  | (refine w_ hF ?_;(try (conv => cbv)))
  | ((with_reducible refine lo_ hF (fun n t => n≤k∧∃ x0 x1 x5,t = At 33 [(0,.c (.int .u32 x0)),(1,.c (.str x1)),(5,.c (.int .i64 x5))] []∧spec_SumMore.l0 n x0 x1 x5 = some (r)) ⟨[0,1,5],[],[],[]⟩ fun n0 t ht Q0 hN0 hX0 => ?_);obtain ⟨hl,_,_,_,rfl,H⟩:=ht;rcases n0 with _ | n0;cases H;simp only [spec_SumMore.l0] at H;(try (conv => cbv)))
  | ((with_reducible show Q0 _ _);first | exact nx_ hN0 | (refine xt_ hX0 ?_;(try (conv => cbv))))
  | ((with_reducible refine lo_ hF (fun n t => n≤n0∧∃ x0 x1 x5 x6,t = At 33 [(0,.c (.int .u32 x0)),(1,.c (.str x1)),(5,.c (.int .i64 x5)),(6,.c (.int .i64 x6))] []∧spec_SumMore.l1 n x0 x1 x5 x6 = some (r)) ⟨[0,1,5,6],[],[],[]⟩ fun n1 t ht Q1 hN1 hX1 => ?_);obtain ⟨hl,_,_,_,_,rfl,H⟩:=ht;rcases n1 with _ | n1;cases H;simp only [spec_SumMore.l1] at H;(try (conv => cbv)))
  | ((with_reducible show Q1 _ _);first | exact nx_ hN1 | (refine xt_ hX1 ?_;(try (conv => cbv))))
  | ((with_reducible show Q _ _);exact en_ ⟨[4],[],[],[]⟩ 33 hQ)
  | contradiction
end Go.Ev
