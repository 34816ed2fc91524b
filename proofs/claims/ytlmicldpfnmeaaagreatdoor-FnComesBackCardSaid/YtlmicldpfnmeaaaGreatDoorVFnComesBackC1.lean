/- Contracts of the Go functions that this law reaches: what each call returns, by its plain function. No conditions but those that each statement names. By this repo's programs; comments are taken out. -/
import Derived.Test.YtlmicldpfnmeaaaGreatDoorVFnComesBackD
import Derived.Test.YtlmicldpfnmeaaaGreatDoorVFnComesBackC0
set_option linter.all false
namespace Go.Ev
open Go.RowKit Go.Proofs Go.Proofs.YtlmicldpfnmeaaaGreatDoorW.PrintWords Go.Proofs.YtlmicldpfnmeaaaGreatDoorW.PrintLast Go.Proofs.YtlmicldpfnmeaaaGreatDoorW.PrintMore
set_option maxRecDepth 100000
set_option maxHeartbeats 4000000
theorem Z09.con (E:En) (hE:E = E0) {k a0 a1 r} (H:Z09.f k a0 a1 = some (r)) :
  Cn 198 [.c (.int .u32 a0),.c (.str a1)] [] (.c (.int .u32 r)) [] []:=by
 refine co_ Tryz.func198 tabOk [] fun F hF Q hQ => ?_
 simp only [Z09.f] at H
 (conv => cbv)
 repeat' first
  | replace H:=s_ H
  | (exfalso;with_reducible assumption)
  | (rw [Z7] at H;obtain ⟨hc,H⟩:=H)
  | (rw [Z2] at H;obtain ⟨hc,H⟩:=H)
  | ((with_reducible refine br2 hF H ?_ ?_) <;> (clear H;intro hb H;(try (conv => cbv))))
  | (refine w_ hF ?_;(try (conv => cbv)))
  | ((with_reducible refine lo_ hF (fun n t => n≤k∧∃ x0 x1 x5,t = At 33 [(0,.c (.int .u32 x0)),(1,.c (.str x1)),(5,.c (.int .i64 x5))] []∧Z09.l0 n x0 x1 x5 = some (r)) ⟨[0,1,5],[],[],[]⟩ fun n0 t ht Q0 hN0 hX0 => ?_);obtain ⟨hl,_,_,_,rfl,H⟩:=ht;rcases n0 with _ | n0;cases H;simp only [Z09.l0] at H;(try (conv => cbv)))
  | ((with_reducible show Q0 _ _);first | exact nx_ hN0 | (refine xt_ hX0 ?_;(try (conv => cbv))))
  | ((with_reducible refine lo_ hF (fun n t => n≤n0∧∃ x0 x1 x5 x6,t = At 33 [(0,.c (.int .u32 x0)),(1,.c (.str x1)),(5,.c (.int .i64 x5)),(6,.c (.int .i64 x6))] []∧Z09.l1 n x0 x1 x5 x6 = some (r)) ⟨[0,1,5,6],[],[],[]⟩ fun n1 t ht Q1 hN1 hX1 => ?_);obtain ⟨hl,_,_,_,_,rfl,H⟩:=ht;rcases n1 with _ | n1;cases H;simp only [Z09.l1] at H;(try (conv => cbv)))
  | ((with_reducible show Q1 _ _);first | exact nx_ hN1 | (refine xt_ hX1 ?_;(try (conv => cbv))))
  | ((with_reducible show Q _ _);exact en_ ⟨[4],[],[],[]⟩ 33 hQ)
  | contradiction
theorem Z3g.con (E:En) (hE:E = E0) {k a0 r} (H:Z3g.f k a0 = some (r)) :
  Cn 138 [.c (.str a0)] [] (.c (.int .u32 r)) [] []:=by
 refine co_ Tryz.func138 tabOk [] fun F hF Q hQ => ?_
 simp only [Z3g.f] at H
 (conv => cbv)
 repeat' first
  | replace H:=s_ H
  | (exfalso;with_reducible assumption)
  | (rw [Z7] at H;obtain ⟨hc,H⟩:=H)
  | (rw [Z2] at H;obtain ⟨hc,H⟩:=H)
  | ((with_reducible refine br2 hF H ?_ ?_) <;> (clear H;intro hb H;(try (conv => cbv))))
  | (refine w_ hF ?_;(try (conv => cbv)))
  | ((with_reducible refine k1_ 198 H ?_);clear H;intro _ hy H;refine ca_ hF (Z09.con E hE hy) ?_;(try (conv => cbv)))
  | ((with_reducible show Q _ _);exact en_ ⟨[2],[],[],[]⟩ 5 hQ)
  | contradiction
theorem Z2e.con (E:En) (hE:E = E0) {a0 r} (H:Z2e.f a0 = some (r)) :
  Cn 137 [.c (.int .u32 a0)] [] (.c (.str r)) [] []:=by
 refine co_ Tryz.func137 tabOk [] fun F hF Q hQ => ?_
 simp only [Z2e.f] at H
 (conv => cbv)
 repeat' first
  | replace H:=s_ H
  | (exfalso;with_reducible assumption)
  | (rw [Z7] at H;obtain ⟨hc,H⟩:=H)
  | (rw [Z2] at H;obtain ⟨hc,H⟩:=H)
  | ((with_reducible refine br2 hF H ?_ ?_) <;> (clear H;intro hb H;(try (conv => cbv))))
  | (refine w_ hF ?_;(try (conv => cbv)))
  | ((with_reducible show Q _ _);exact en_ ⟨[2],[],[],[]⟩ 16 hQ)
  | contradiction
theorem Z43.con (E:En) (hE:E = E0) {k a0 r1 r2} (H:Z43.f k a0 = some (r1,r2)) :
  Cn 190 [.c (.str a0)] [] (.tup [.c (.str r1),.c (.bool r2)]) [] []:=by
 refine co_ Tryz.func190 tabOk [] fun F hF Q hQ => ?_
 simp only [Z43.f] at H
 (conv => cbv)
 repeat' first
  | replace H:=s_ H
  | (exfalso;with_reducible assumption)
  | (rw [Z7] at H;obtain ⟨hc,H⟩:=H)
  | (rw [Z2] at H;obtain ⟨hc,H⟩:=H)
  | ((with_reducible refine br2 hF H ?_ ?_) <;> (clear H;intro hb H;(try (conv => cbv))))
  | (refine w_ hF ?_;(try (conv => cbv)))
  | ((with_reducible refine k1_ 137 H ?_);clear H;intro _ hy H;refine ca_ hF (Z2e.con E hE hy) ?_;(try (conv => cbv)))
  | ((with_reducible refine k1_ 138 H ?_);clear H;intro _ hy H;refine ca_ hF (Z3g.con E hE hy) ?_;(try (conv => cbv)))
  | ((with_reducible show Q _ _);exact en_ ⟨[2,3],[],[],[]⟩ 12 hQ)
  | contradiction
theorem Zh.con (E:En) (hE:E = E0) {k l0_0 a0_1 a0_2 a0_3 l0_4 r1 r2} (H:Zh.f k l0_0 a0_1 a0_2 a0_3 l0_4 = some (r1,r2)) :
  Cn 108 [.agg [.c (.sl [.int .i64] (E.eI .i64 l0_0)),.c (.int .i64 a0_1),.c (.int .i64 a0_2),.c (.int .i64 a0_3),.c (.sl [.int .i64] (E.eI .i64 l0_4))]] [] (.tup [.c (.str r1),.c (.bool r2)]) [] []:=by
 refine co_ Tryz.func108 tabOk [] fun F hF Q hQ => ?_
 simp only [Zh.f] at H
 (conv => cbv)
 repeat' first
  | replace H:=s_ H
  | (exfalso;with_reducible assumption)
  | (rw [Z7] at H;obtain ⟨hc,H⟩:=H)
  | (rw [Z2] at H;obtain ⟨hc,H⟩:=H)
  | ((with_reducible refine br2 hF H ?_ ?_) <;> (clear H;intro hb H;(try (conv => cbv))))
  | (refine w_ hF ?_;(try (conv => cbv)))
  | ((with_reducible refine k1_ 136 H ?_);clear H;intro _ hy H;refine ca_ hF (ZP.con E hE hy) ?_;(try (conv => cbv)))
  | ((with_reducible refine k1_ 189 H ?_);clear H;intro _ hy H;refine ca_ hF (Z2l.con E hE hy) ?_;(try (conv => cbv)))
  | ((with_reducible refine k2_ 190 H ?_);clear H;intro _ _ hy H;refine ca_ hF (Z43.con E hE hy) ?_;(try (conv => cbv)))
  | ((with_reducible refine lo_ hF (fun n t => n≤k∧∃ x4 x5 v0 v1 v2 v3 v4,t = At 66 [(1,.ptr 1 0),(4,.c (.str x4)),(5,.c (.int .i64 x5))] [(1,.box [.c (.sl [.int .i64] (E.eI .i64 v0)),.c (.int .i64 v1),.c (.int .i64 v2),.c (.int .i64 v3),.c (.sl [.int .i64] (E.eI .i64 v4))])]∧Zh.l0 n x4 x5 v0 v1 v2 v3 v4 = some (r1,r2)) ⟨[1,4,5],[1],[],[]⟩ fun n0 t ht Q0 hN0 hX0 => ?_);obtain ⟨hl,_,_,_,_,_,_,_,rfl,H⟩:=ht;rcases n0 with _ | n0;cases H;simp only [Zh.l0] at H;(try (conv => cbv)))
  | ((with_reducible show Q0 _ _);first | exact nx_ hN0 | (refine xt_ hX0 ?_;(try (conv => cbv))))
  | ((with_reducible refine lo_ hF (fun n t => n≤k∧∃ x4 x6 v0 v1 v2 v3 v4,t = At 66 [(1,.ptr 1 0),(4,.c (.str x4)),(6,.c (.int .i64 x6))] [(1,.box [.c (.sl [.int .i64] (E.eI .i64 v0)),.c (.int .i64 v1),.c (.int .i64 v2),.c (.int .i64 v3),.c (.sl [.int .i64] (E.eI .i64 v4))])]∧Zh.l1 n x4 x6 v0 v1 v2 v3 v4 = some (r1,r2)) ⟨[1,4,6],[1],[],[]⟩ fun n1 t ht Q1 hN1 hX1 => ?_);obtain ⟨hl,_,_,_,_,_,_,_,rfl,H⟩:=ht;rcases n1 with _ | n1;cases H;simp only [Zh.l1] at H;(try (conv => cbv)))
  | ((with_reducible show Q1 _ _);first | exact nx_ hN1 | (refine xt_ hX1 ?_;(try (conv => cbv))))
  | ((with_reducible show Q _ _);exact en_ ⟨[2,3],[],[],[]⟩ 66 hQ)
  | contradiction
theorem Z2h.con (E:En) (hE:E = E0) {a0 r} (H:Z2h.f a0 = some (r)) :
  Cn 197 [.c (.int .i64 a0)] [] (.c (.int .u8 r)) [] []:=by
 refine co_ Tryz.func197 tabOk [] fun F hF Q hQ => ?_
 simp only [Z2h.f] at H
 (conv => cbv)
 repeat' first
  | replace H:=s_ H
  | (exfalso;with_reducible assumption)
  | (rw [Z7] at H;obtain ⟨hc,H⟩:=H)
  | (rw [Z2] at H;obtain ⟨hc,H⟩:=H)
  | ((with_reducible refine br2 hF H ?_ ?_) <;> (clear H;intro hb H;(try (conv => cbv))))
  | (refine w_ hF ?_;(try (conv => cbv)))
  | ((with_reducible show Q _ _);exact en_ ⟨[2],[],[],[]⟩ 12 hQ)
  | contradiction
theorem Z0C.con (E:En) (hE:E = E0) {k a0 r} (H:Z0C.f k a0 = some (r)) :
  Cn 132 [.c (.int .i64 a0)] [] (.c (.str r)) [] []:=by
 refine co_ Tryz.func132 tabOk [] fun F hF Q hQ => ?_
 simp only [Z0C.f] at H
 (conv => cbv)
 repeat' first
  | replace H:=s_ H
  | (exfalso;with_reducible assumption)
  | (rw [Z7] at H;obtain ⟨hc,H⟩:=H)
  | (rw [Z2] at H;obtain ⟨hc,H⟩:=H)
  | ((with_reducible refine br2 hF H ?_ ?_) <;> (clear H;intro hb H;(try (conv => cbv))))
  | (refine w_ hF ?_;(try (conv => cbv)))
  | ((with_reducible refine k1_ 197 H ?_);clear H;intro _ hy H;refine ca_ hF (Z2h.con E hE hy) ?_;(try (conv => cbv)))
  | ((with_reducible refine lo_ hF (fun n t => n≤k∧∃ x0 x3 x4,t = At 30 [(0,.c (.int .i64 x0)),(3,.c (.bool x3)),(4,.c (.str x4))] []∧Z0C.l0 n x0 x3 x4 = some (r)) ⟨[0,3,4],[],[],[]⟩ fun n0 t ht Q0 hN0 hX0 => ?_);obtain ⟨hl,_,_,_,rfl,H⟩:=ht;rcases n0 with _ | n0;cases H;simp only [Z0C.l0] at H;(try (conv => cbv)))
  | ((with_reducible show Q0 _ _);first | exact nx_ hN0 | (refine xt_ hX0 ?_;(try (conv => cbv))))
  | ((with_reducible show Q _ _);exact en_ ⟨[2],[],[],[]⟩ 30 hQ)
  | contradiction
theorem Z0f.con (E:En) (hE:E = E0) {k a0 r} (H:Z0f.f k a0 = some (r)) :
  Cn 61 [.c (.int .i64 a0)] [] (.c (.str r)) [] []:=by
 refine co_ Tryz.func61 tabOk [] fun F hF Q hQ => ?_
 simp only [Z0f.f] at H
 (conv => cbv)
 repeat' first
  | replace H:=s_ H
  | (exfalso;with_reducible assumption)
  | (rw [Z7] at H;obtain ⟨hc,H⟩:=H)
  | (rw [Z2] at H;obtain ⟨hc,H⟩:=H)
  | ((with_reducible refine br2 hF H ?_ ?_) <;> (clear H;intro hb H;(try (conv => cbv))))
  | (refine w_ hF ?_;(try (conv => cbv)))
  | ((with_reducible refine k1_ 131 H ?_);clear H;intro _ hy H;refine ca_ hF (ZD.con E hE hy) ?_;(try (conv => cbv)))
  | ((with_reducible refine k1_ 132 H ?_);clear H;intro _ hy H;refine ca_ hF (Z0C.con E hE hy) ?_;(try (conv => cbv)))
  | ((with_reducible show Q _ _);exact en_ ⟨[2],[],[],[]⟩ 9 hQ)
  | contradiction
theorem Z25.con (E:En) (hE:E = E0) {k l0 r1 r2} (H:Z25.f k l0 = some (r1,r2)) :
  Cn 36 [.c (.sl [.int .i64] (E.eI .i64 l0))] [] (.tup [.agg [.own 0],.c (.bool r2)]) [.row false 122 [.str,.str] (E.e122 r1)] []:=by
 refine co_ Tryz.func36 tabOk [400040] fun F hF Q hQ => ?_
 simp only [Z25.f] at H
 (conv => cbv)
 repeat' first
  | replace H:=s_ H
  | (exfalso;with_reducible assumption)
  | (rw [Z7] at H;obtain ⟨hc,H⟩:=H)
  | (rw [Z2] at H;obtain ⟨hc,H⟩:=H)
  | ((with_reducible refine br2 hF H ?_ ?_) <;> (clear H;intro hb H;(try (conv => cbv))))
  | (refine w_ hF ?_;(try (conv => cbv)))
  | ((with_reducible refine k1_ 61 H ?_);clear H;intro _ hy H;refine ca_ hF (Z0f.con E hE hy) ?_;(try (conv => cbv)))
  | ((with_reducible refine k2_ 108 H ?_);clear H;intro _ _ hy H;refine ca_ hF (Zh.con E hE hy) ?_;(try (conv => cbv)))
  | ((with_reducible show Q _ _);exact en_ ⟨[2,3],[2],[],[(2,0,122)]⟩ 22 hQ)
  | contradiction
theorem ZO.con (E:En) (hE:E = E0) {k l0_0 r} (H:ZO.f k l0_0 = some (r)) :
  Cn 95 [.agg [.c (.sl [.str,.str] (E.e122 l0_0))]] [] (.c (.bool r)) [] []:=by
 refine co_ Tryz.func95 tabOk [] fun F hF Q hQ => ?_
 simp only [ZO.f] at H
 (conv => cbv)
 repeat' first
  | replace H:=s_ H
  | (exfalso;with_reducible assumption)
  | (rw [Z7] at H;obtain ⟨hc,H⟩:=H)
  | (rw [Z2] at H;obtain ⟨hc,H⟩:=H)
  | ((with_reducible refine br2 hF H ?_ ?_) <;> (clear H;intro hb H;(try (conv => cbv))))
  | (refine w_ hF ?_;(try (conv => cbv)))
  | ((with_reducible refine k1_ 131 H ?_);clear H;intro _ hy H;refine ca_ hF (ZD.con E hE hy) ?_;(try (conv => cbv)))
  | ((with_reducible refine lo_ hF (fun n t => n≤k∧∃ x3 v0,t = At 54 [(1,.ptr 1 0),(3,.c (.int .i64 x3))] [(1,.box [.c (.sl [.str,.str] (E.e122 v0))])]∧ZO.l0 n x3 v0 = some (r)) ⟨[1,3],[1],[],[]⟩ fun n0 t ht Q0 hN0 hX0 => ?_);obtain ⟨hl,_,_,rfl,H⟩:=ht;rcases n0 with _ | n0;cases H;simp only [ZO.l0] at H;(try (conv => cbv)))
  | ((with_reducible show Q0 _ _);first | exact nx_ hN0 | (refine xt_ hX0 ?_;(try (conv => cbv))))
  | ((with_reducible show Q _ _);exact en_ ⟨[2],[],[],[]⟩ 54 hQ)
  | contradiction
theorem Z0P.con (E:En) (hE:E = E0) {k l0_0 a1 r} (H:Z0P.f k l0_0 a1 = some (r)) :
  Cn 75 [.agg [.c (.sl [.str,.str] (E.e122 l0_0))],.c (.str a1)] [] (.c (.int .i64 r)) [] []:=by
 refine co_ Tryz.func75 tabOk [] fun F hF Q hQ => ?_
 simp only [Z0P.f] at H
 (conv => cbv)
 repeat' first
  | replace H:=s_ H
  | (exfalso;with_reducible assumption)
  | (rw [Z7] at H;obtain ⟨hc,H⟩:=H)
  | (rw [Z2] at H;obtain ⟨hc,H⟩:=H)
  | ((with_reducible refine br2 hF H ?_ ?_) <;> (clear H;intro hb H;(try (conv => cbv))))
  | (refine w_ hF ?_;(try (conv => cbv)))
  | ((with_reducible refine lo_ hF (fun n t => n≤k∧∃ x1 x5 v0,t = At 22 [(1,.c (.str x1)),(2,.ptr 2 0),(5,.c (.int .i64 x5))] [(2,.box [.c (.sl [.str,.str] (E.e122 v0))])]∧Z0P.l0 n x1 x5 v0 = some (r)) ⟨[1,2,5],[2],[],[]⟩ fun n0 t ht Q0 hN0 hX0 => ?_);obtain ⟨hl,_,_,_,rfl,H⟩:=ht;rcases n0 with _ | n0;cases H;simp only [Z0P.l0] at H;(try (conv => cbv)))
  | ((with_reducible show Q0 _ _);first | exact nx_ hN0 | (refine xt_ hX0 ?_;(try (conv => cbv))))
  | ((with_reducible show Q _ _);exact en_ ⟨[4],[],[],[]⟩ 22 hQ)
  | contradiction
end Go.Ev
