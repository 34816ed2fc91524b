/- Contracts of the Go functions that this law reaches: what each call returns, by its plain function. No conditions but those that each statement names. By this repo's programs; comments are taken out. -/
import Derived.Test.YtlmicldpfnmeaaaGreatDoorVFnExactSnapTextD
import Derived.Test.YtlmicldpfnmeaaaGreatDoorVFnExactSnapTextC0
import Derived.Test.YtlmicldpfnmeaaaGreatDoorVFnExactSnapTextC4
import Derived.Test.YtlmicldpfnmeaaaGreatDoorVFnExactSnapTextC7
set_option linter.all false
namespace Go.Ev
open Go.RowKit Go.Proofs Go.Proofs.YtlmicldpfnmeaaaGreatDoorW.PrintWords Go.Proofs.YtlmicldpfnmeaaaGreatDoorW.PrintLast Go.Proofs.YtlmicldpfnmeaaaGreatDoorW.PrintMore
set_option maxRecDepth 100000
set_option maxHeartbeats 4000000
theorem laws_eqManifest.con (E:En) (hE:E = E0) {k l0_0 a0_1 a0_2 a0_3 l0_4 l1_0 a1_1 a1_2 a1_3 l1_4 r} (H:laws_eqManifest.f k l0_0 a0_1 a0_2 a0_3 l0_4 l1_0 a1_1 a1_2 a1_3 l1_4 = some (r)) :
  Cn 72 [.agg [.c (.sl [.int .i64] (E.eI .i64 l0_0)),.c (.int .i64 a0_1),.c (.int .i64 a0_2),.c (.int .i64 a0_3),.c (.sl [.int .i64] (E.eI .i64 l0_4))],.agg [.c (.sl [.int .i64] (E.eI .i64 l1_0)),.c (.int .i64 a1_1),.c (.int .i64 a1_2),.c (.int .i64 a1_3),.c (.sl [.int .i64] (E.eI .i64 l1_4))]] [] (.c (.bool r)) [] []:=by
 refine co_ Tryz.func72 tabOk [] fun F hF Q hQ => ?_
 simp only [laws_eqManifest.f] at H
 (conv => cbv)
 repeat' first
  | replace H:=s_ H
  | (exfalso;with_reducible assumption)
  | (rw [itn_iff] at H;obtain ⟨hc,H⟩:=H)
  | (rw [itn2_iff] at H;obtain ⟨hc,H⟩:=H)
  | ((with_reducible refine br2 hF H ?_ ?_) <;> (clear H;intro hb H;(try (conv => cbv))))
  | (refine w_ hF ?_;(try (conv => cbv)))
  | ((with_reducible refine k1_ 46 H ?_);clear H;intro _ hy H;refine ca_ hF (laws_eqIntS.con E hE hy) ?_;(try (conv => cbv)))
  | ((with_reducible show Q _ _);exact en_ ⟨[4],[],[],[]⟩ 32 hQ)
  | contradiction
theorem laws_eqSpot.con (E:En) (hE:E = E0) {a0_0 a0_1 a0_2 a0_3 a1_0 a1_1 a1_2 a1_3 r} (H:laws_eqSpot.f a0_0 a0_1 a0_2 a0_3 a1_0 a1_1 a1_2 a1_3 = some (r)) :
  Cn 149 [.agg [.c (.str a0_0),.c (.int .i64 a0_1),.c (.int .i64 a0_2),.c (.int .i64 a0_3)],.agg [.c (.str a1_0),.c (.int .i64 a1_1),.c (.int .i64 a1_2),.c (.int .i64 a1_3)]] [] (.c (.bool r)) [] []:=by
 refine co_ Tryz.func149 tabOk [] fun F hF Q hQ => ?_
 simp only [laws_eqSpot.f] at H
 (conv => cbv)
 repeat' first
  | replace H:=s_ H
  | (exfalso;with_reducible assumption)
  | (rw [itn_iff] at H;obtain ⟨hc,H⟩:=H)
  | (rw [itn2_iff] at H;obtain ⟨hc,H⟩:=H)
  | ((with_reducible refine br2 hF H ?_ ?_) <;> (clear H;intro hb H;(try (conv => cbv))))
  | (refine w_ hF ?_;(try (conv => cbv)))
  | ((with_reducible show Q _ _);exact en_ ⟨[4],[],[],[]⟩ 25 hQ)
  | contradiction
theorem laws_eqSpotS.con (E:En) (hE:E = E0) {k l0 l1 r} (H:laws_eqSpotS.f k l0 l1 = some (r)) :
  Cn 73 [.c (.sl [.str,.int .i64,.int .i64,.int .i64] (E.e145 l0)),.c (.sl [.str,.int .i64,.int .i64,.int .i64] (E.e145 l1))] [] (.c (.bool r)) [] []:=by
 refine co_ Tryz.func73 tabOk [] fun F hF Q hQ => ?_
 simp only [laws_eqSpotS.f] at H
 (conv => cbv)
 repeat' first
  | replace H:=s_ H
  | (exfalso;with_reducible assumption)
  | (rw [itn_iff] at H;obtain ⟨hc,H⟩:=H)
  | (rw [itn2_iff] at H;obtain ⟨hc,H⟩:=H)
  | ((with_reducible refine br2 hF H ?_ ?_) <;> (clear H;intro hb H;(try (conv => cbv))))
  | (refine w_ hF ?_;(try (conv => cbv)))
  | ((with_reducible refine k1_ 149 H ?_);clear H;intro _ hy H;refine ca_ hF (laws_eqSpot.con E hE hy) ?_;(try (conv => cbv)))
  | ((with_reducible refine lo_ hF (fun n t => n≤k∧∃ x0 x1 x5,t = At 27 [(0,.c (.sl [.str,.int .i64,.int .i64,.int .i64] (E.e145 x0))),(1,.c (.sl [.str,.int .i64,.int .i64,.int .i64] (E.e145 x1))),(5,.c (.int .i64 x5))] []∧laws_eqSpotS.l0 n x0 x1 x5 = some (r)) ⟨[0,1,5],[],[],[]⟩ fun n0 t ht Q0 hN0 hX0 => ?_);obtain ⟨hl,_,_,_,rfl,H⟩:=ht;rcases n0 with _ | n0;cases H;simp only [laws_eqSpotS.l0] at H;(try (conv => cbv)))
  | ((with_reducible show Q0 _ _);first | exact nx_ hN0 | (refine xt_ hX0 ?_;(try (conv => cbv))))
  | ((with_reducible show Q _ _);exact en_ ⟨[4],[],[],[]⟩ 27 hQ)
  | contradiction
theorem laws_eqShelf.con (E:En) (hE:E = E0) {k l0_0 a0_1 a0_2 a0_3 l0_4 l0_5 a0_6 l1_0 a1_1 a1_2 a1_3 l1_4 l1_5 a1_6 r} (H:laws_eqShelf.f k l0_0 a0_1 a0_2 a0_3 l0_4 l0_5 a0_6 l1_0 a1_1 a1_2 a1_3 l1_4 l1_5 a1_6 = some (r)) :
  Cn 19 [.agg [.c (.sl [.int .i64] (E.eI .i64 l0_0)),.c (.int .i64 a0_1),.c (.int .i64 a0_2),.c (.int .i64 a0_3),.c (.sl [.int .i64] (E.eI .i64 l0_4)),.c (.sl [.str,.int .i64,.int .i64,.int .i64] (E.e145 l0_5)),.c (.int .i64 a0_6)],.agg [.c (.sl [.int .i64] (E.eI .i64 l1_0)),.c (.int .i64 a1_1),.c (.int .i64 a1_2),.c (.int .i64 a1_3),.c (.sl [.int .i64] (E.eI .i64 l1_4)),.c (.sl [.str,.int .i64,.int .i64,.int .i64] (E.e145 l1_5)),.c (.int .i64 a1_6)]] [] (.c (.bool r)) [] []:=by
 refine co_ Tryz.func19 tabOk [] fun F hF Q hQ => ?_
 simp only [laws_eqShelf.f] at H
 (conv => cbv)
 repeat' first
  | replace H:=s_ H
  | (exfalso;with_reducible assumption)
  | (rw [itn_iff] at H;obtain ⟨hc,H⟩:=H)
  | (rw [itn2_iff] at H;obtain ⟨hc,H⟩:=H)
  | ((with_reducible refine br2 hF H ?_ ?_) <;> (clear H;intro hb H;(try (conv => cbv))))
  | (refine w_ hF ?_;(try (conv => cbv)))
  | ((with_reducible refine k1_ 72 H ?_);clear H;intro _ hy H;refine ca_ hF (laws_eqManifest.con E hE hy) ?_;(try (conv => cbv)))
  | ((with_reducible refine k1_ 73 H ?_);clear H;intro _ hy H;refine ca_ hF (laws_eqSpotS.con E hE hy) ?_;(try (conv => cbv)))
  | ((with_reducible show Q _ _);exact en_ ⟨[4],[],[],[]⟩ 22 hQ)
  | contradiction
theorem laws_FnExactSnapText.con (E:En) (hE:E = E0) {k l0_0 l1_0 a1_1 a1_2 a1_3 l1_4 l1_5 a1_6 r} (H:laws_FnExactSnapText.f k l0_0 l1_0 a1_1 a1_2 a1_3 l1_4 l1_5 a1_6 = some r) :
  Cn 3 [.agg [.c (.sl [.str,.str] (E.e171 l0_0))],.agg [.c (.sl [.int .i64] (E.eI .i64 l1_0)),.c (.int .i64 a1_1),.c (.int .i64 a1_2),.c (.int .i64 a1_3),.c (.sl [.int .i64] (E.eI .i64 l1_4)),.c (.sl [.str,.int .i64,.int .i64,.int .i64] (E.e173 l1_5)),.c (.int .i64 a1_6)]] [] (.c (.bool r)) [] []:=by
 refine co_ Tryz.func3 tabOkM [] fun F hF Q hQ => ?_
 simp only [laws_FnExactSnapText.f] at H
 (conv => cbv)
 repeat' first
  | replace H:=s_ H
  | (exfalso;with_reducible assumption)
  | (rw [itn_iff] at H;obtain ⟨hc,H⟩:=H)
  | (rw [itn2_iff] at H;obtain ⟨hc,H⟩:=H)
  | ((with_reducible refine br2 hF H ?_ ?_) <;> (clear H;intro hb H;(try (conv => cbv))))
  | (refine w_ hF ?_;(try (conv => cbv)))
  | ((with_reducible refine k1_ 12 H ?_);clear H;intro _ hy H;refine ca_ hF (laws_szDisk.con E hE hy) ?_;(try (conv => cbv)))
  | ((with_reducible refine k1_ 13 H ?_);clear H;intro _ hy H;refine ca_ hF (laws_szShelf.con E hE hy) ?_;(try (conv => cbv)))
  | ((with_reducible refine k1_ 15 H ?_);clear H;intro _ hy H;refine ca_ hF (laws_toDisk.con E hE hy) ?_;(try (conv => cbv)))
  | ((with_reducible refine k7_ 16 H ?_);clear H;intro _ _ _ _ _ _ _ hy H;refine ca_ hF (laws_toShelf.con E hE hy) ?_;(try (conv => cbv)))
  | ((with_reducible refine k2_ 14 H ?_);clear H;intro _ _ hy H;refine ca_ hF (spec_SnapText.con E hE hy) ?_;(try (conv => cbv)))
  | ((with_reducible refine k2_ 17 H ?_);clear H;intro _ _ hy H;refine ca_ hF (impl_SnapText.con E hE hy) ?_;(try (conv => cbv)))
  | ((with_reducible refine k1_ 18 H ?_);clear H;intro _ hy H;refine ca_ hF (laws_eqDisk.con E hE hy) ?_;(try (conv => cbv)))
  | ((with_reducible refine k1_ 19 H ?_);clear H;intro _ hy H;refine ca_ hF (laws_eqShelf.con E hE hy) ?_;(try (conv => cbv)))
  | ((with_reducible show Q _ _);exact en_ ⟨[4],[],[],[]⟩ 58 hQ)
  | contradiction
end Go.Ev
