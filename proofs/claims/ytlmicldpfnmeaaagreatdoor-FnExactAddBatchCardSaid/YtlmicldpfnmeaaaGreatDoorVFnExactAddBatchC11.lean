/- Contracts of the Go functions that this law reaches: what each call returns, by its plain function. No conditions but those that each statement names. By this repo's programs; comments are taken out. -/
import Derived.Test.YtlmicldpfnmeaaaGreatDoorVFnExactAddBatchD
import Derived.Test.YtlmicldpfnmeaaaGreatDoorVFnExactAddBatchC0
import Derived.Test.YtlmicldpfnmeaaaGreatDoorVFnExactAddBatchC1
import Derived.Test.YtlmicldpfnmeaaaGreatDoorVFnExactAddBatchC5
import Derived.Test.YtlmicldpfnmeaaaGreatDoorVFnExactAddBatchC9
import Derived.Test.YtlmicldpfnmeaaaGreatDoorVFnExactAddBatchC10
set_option linter.all false
namespace Go.Ev
open Go.RowKit Go.Proofs Go.Proofs.YtlmicldpfnmeaaaGreatDoorW.PrintWords Go.Proofs.YtlmicldpfnmeaaaGreatDoorW.PrintLast Go.Proofs.YtlmicldpfnmeaaaGreatDoorW.PrintMore
set_option maxRecDepth 100000
set_option maxHeartbeats 4000000
theorem laws_heldRawS.con (E:En) (hE:E = E0) {k l0 a1 r} (H:laws_heldRawS.f k l0 a1 = some (r)) :
  Cn 27 [.c (.sl [.int .i64,.str,.str,.str] (E.e119 l0)),.c (.int .i64 a1)] [] (.c (.int .i64 r)) [] []:=by
 refine co_ Tryz.func27 tabOk [] fun F hF Q hQ => ?_
 simp only [laws_heldRawS.f] at H
 (conv => cbv)
 repeat' first
  | replace H:=s_ H
  | (exfalso;with_reducible assumption)
  | (rw [itn_iff] at H;obtain ⟨hc,H⟩:=H)
  | (rw [itn2_iff] at H;obtain ⟨hc,H⟩:=H)
  | ((with_reducible refine br2 hF H ?_ ?_) <;> (clear H;intro hb H;(try (conv => cbv))))
  | (refine w_ hF ?_;(try (conv => cbv)))
  | ((with_reducible refine k1_ 87 H ?_);clear H;intro _ hy H;refine ca_ hF (laws_markText.con E hE hy) ?_;(try (conv => cbv)))
  | ((with_reducible refine lo_ hF (fun n t => n≤k∧∃ x0 x1 x5,t = At 52 [(0,.c (.sl [.int .i64,.str,.str,.str] (E.e119 x0))),(1,.c (.int .i64 x1)),(5,.c (.int .i64 x5))] []∧laws_heldRawS.l0 n x0 x1 x5 = some (r)) ⟨[0,1,5],[],[],[]⟩ fun n0 t ht Q0 hN0 hX0 => ?_);obtain ⟨hl,_,_,_,rfl,H⟩:=ht;rcases n0 with _ | n0;cases H;simp only [laws_heldRawS.l0] at H;(try (conv => cbv)))
  | ((with_reducible show Q0 _ _);first | exact nx_ hN0 | (refine xt_ hX0 ?_;(try (conv => cbv))))
  | ((with_reducible show Q _ _);exact en_ ⟨[4],[],[],[]⟩ 52 hQ)
  | contradiction
theorem laws_FnExactAddBatch.con (E:En) (hE:E = E0) {k l0_0 l1_0 a1_1 a1_2 a1_3 l1_4 l1_5 a1_6 a2_0 l2_1 r} (H:laws_FnExactAddBatch.f k l0_0 l1_0 a1_1 a1_2 a1_3 l1_4 l1_5 a1_6 a2_0 l2_1 = some r) :
  Cn 9 [.agg [.c (.sl [.str,.str] (E.e171 l0_0))],.agg [.c (.sl [.int .i64] (E.eI .i64 l1_0)),.c (.int .i64 a1_1),.c (.int .i64 a1_2),.c (.int .i64 a1_3),.c (.sl [.int .i64] (E.eI .i64 l1_4)),.c (.sl [.str,.int .i64,.int .i64,.int .i64] (E.e173 l1_5)),.c (.int .i64 a1_6)],.agg [.c (.int .i64 a2_0),.c (.sl [.str,.str,.bool] (E.e225 l2_1))]] [] (.c (.bool r)) [] []:=by
 refine co_ Tryz.func9 tabOkM [] fun F hF Q hQ => ?_
 simp only [laws_FnExactAddBatch.f] at H
 (conv => cbv)
 repeat' first
  | replace H:=s_ H
  | (exfalso;with_reducible assumption)
  | (rw [itn_iff] at H;obtain ⟨hc,H⟩:=H)
  | (rw [itn2_iff] at H;obtain ⟨hc,H⟩:=H)
  | ((with_reducible refine br2 hF H ?_ ?_) <;> (clear H;intro hb H;(try (conv => cbv))))
  | (refine w_ hF ?_;(try (conv => cbv)))
  | ((with_reducible refine k1_ 12 H ?_);clear H;intro _ hy H;refine ca_ hF (laws_szDisk.con E hE hy) ?_;(try (conv => cbv)))
  | ((with_reducible refine k1_ 13 H ?_);clear H;intro _ hy H;refine ca_ hF (laws_szShelf.con E hE hy) ?_;(try (conv => cbv)))
  | ((with_reducible refine k1_ 48 H ?_);clear H;intro _ hy H;refine ca_ hF (laws_szBatch.con E hE hy) ?_;(try (conv => cbv)))
  | ((with_reducible refine k1_ 15 H ?_);clear H;intro _ hy H;refine ca_ hF (laws_toDisk.con E hE hy) ?_;(try (conv => cbv)))
  | ((with_reducible refine k7_ 16 H ?_);clear H;intro _ _ _ _ _ _ _ hy H;refine ca_ hF (laws_toShelf.con E hE hy) ?_;(try (conv => cbv)))
  | ((with_reducible refine k2_ 49 H ?_);clear H;intro _ _ hy H;refine ca_ hF (laws_toBatch.con E hE hy) ?_;(try (conv => cbv)))
  | ((with_reducible refine k9_ 40 H ?_);clear H;intro _ _ _ _ _ _ _ _ _ hy H;refine ca_ hF (spec_AddBatch.con E hE hy) ?_;(try (conv => cbv)))
  | ((with_reducible refine k9_ 39 H ?_);clear H;intro _ _ _ _ _ _ _ _ _ hy H;refine ca_ hF (impl_AddBatch.con E hE hy) ?_;(try (conv => cbv)))
  | ((with_reducible refine k1_ 19 H ?_);clear H;intro _ hy H;refine ca_ hF (laws_eqShelf.con E hE hy) ?_;(try (conv => cbv)))
  | ((with_reducible refine k1_ 22 H ?_);clear H;intro _ hy H;refine ca_ hF (laws_eqRawS.con E hE hy) ?_;(try (conv => cbv)))
  | ((with_reducible refine k1_ 18 H ?_);clear H;intro _ hy H;refine ca_ hF (laws_eqDisk.con E hE hy) ?_;(try (conv => cbv)))
  | ((with_reducible refine k1_ 50 H ?_);clear H;intro _ hy H;refine ca_ hF (laws_eqBatch.con E hE hy) ?_;(try (conv => cbv)))
  | ((with_reducible refine k2_ 23 H ?_);clear H;intro _ _ hy H;refine ca_ hF (laws_markDisk.con E hE hy) ?_;(try (conv => cbv)))
  | ((with_reducible refine k4_ 24 H ?_);clear H;intro _ _ _ _ hy H;refine ca_ hF (laws_markShelf.con E hE hy) ?_;(try (conv => cbv)))
  | ((with_reducible refine k2_ 51 H ?_);clear H;intro _ _ hy H;refine ca_ hF (laws_markBatch.con E hE hy) ?_;(try (conv => cbv)))
  | ((with_reducible refine k2_ 25 H ?_);clear H;intro _ _ hy H;refine ca_ hF (laws_markRawS.con E hE hy) ?_;(try (conv => cbv)))
  | ((with_reducible refine k1_ 26 H ?_);clear H;intro _ hy H;refine ca_ hF (laws_heldShelf.con E hE hy) ?_;(try (conv => cbv)))
  | ((with_reducible refine k1_ 27 H ?_);clear H;intro _ hy H;refine ca_ hF (laws_heldRawS.con E hE hy) ?_;(try (conv => cbv)))
  | ((with_reducible show Q _ _);exact en_ ⟨[6],[],[],[]⟩ 179 hQ)
  | contradiction
end Go.Ev
