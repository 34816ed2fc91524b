/- Contracts of the Go functions that this law reaches: what each call returns, by its plain function. No conditions but those that each statement names. By this repo's programs; comments are taken out. -/
import Derived.Test.YtlmicldpfnmeaaaGreatDoorVFnComesBackD
import Derived.Test.YtlmicldpfnmeaaaGreatDoorVFnComesBackK
import Derived.Test.YtlmicldpfnmeaaaGreatDoorVFnComesBackC10
set_option linter.all false
namespace Go.Ev
open Go.RowKit Go.Proofs Go.Proofs.YtlmicldpfnmeaaaGreatDoorW.PrintWords Go.Proofs.YtlmicldpfnmeaaaGreatDoorW.PrintLast Go.Proofs.YtlmicldpfnmeaaaGreatDoorW.PrintMore
set_option maxRecDepth 100000
set_option maxHeartbeats 4000000
theorem Z0t.con (E:En) (hE:E = E0) {k a0 r1 r2} (H:Z0t.f k a0 = some (r1,r2)) :
  Cn 183 [.c (.int .i64 a0)] [] (.tup [.c (.str r1),.c (.bool r2)]) [] []:=by
 refine co_ Tryz.func183 tabOk [] fun F hF Q hQ => ?_
 simp only [Z0t.f] at H
 (conv => cbv)
 repeat' first
  | replace H:=s_ H
  | (exfalso;with_reducible assumption)
  | (rw [Z7] at H;obtain ⟨hc,H⟩:=H)
  | (rw [Z2] at H;obtain ⟨hc,H⟩:=H)
  | ((with_reducible refine br2 hF H ?_ ?_) <;> (clear H;intro hb H;(try (conv => cbv))))
  | (refine w_ hF ?_;(try (conv => cbv)))
  | ((with_reducible refine k1_ 144 H ?_);clear H;intro _ hy H;refine ca_ hF (ZN.con E hE hy) ?_;(try (conv => cbv)))
  | ((with_reducible refine lo_ hF (fun n t => n≤k∧∃ x0 x4,t = At 25 [(0,.c (.int .i64 x0)),(4,.own 20004)] [(20004,.row false 5 [.int .u8] (E.eI .u8 x4))]∧Z0t.l0 n x0 x4 = some (r1,r2)) ⟨[0,4],[],[(4,5)],[]⟩ fun n0 t ht Q0 hN0 hX0 => ?_);obtain ⟨hl,_,_,rfl,H⟩:=ht;rcases n0 with _ | n0;cases H;simp only [Z0t.l0] at H;(try (conv => cbv)))
  | ((with_reducible show Q0 _ _);first | exact nx_ hN0 | (refine xt_ hX0 ?_;(try (conv => cbv))))
  | ((with_reducible show Q _ _);exact en_ ⟨[2,3],[],[],[]⟩ 25 hQ)
  | contradiction
theorem Z1E.con (E:En) (hE:E = E0) {k l0 r1 r2} (H:Z1E.f k l0 = some (r1,r2)) :
  Cn 180 [.c (.sl [.int .i64] (E.eI .i64 l0))] [] (.tup [.c (.str r1),.c (.bool r2)]) [] []:=by
 refine co_ Tryz.func180 tabOk [] fun F hF Q hQ => ?_
 simp only [Z1E.f] at H
 (conv => cbv)
 repeat' first
  | replace H:=s_ H
  | (exfalso;with_reducible assumption)
  | (rw [Z7] at H;obtain ⟨hc,H⟩:=H)
  | (rw [Z2] at H;obtain ⟨hc,H⟩:=H)
  | ((with_reducible refine br2 hF H ?_ ?_) <;> (clear H;intro hb H;(try (conv => cbv))))
  | (refine w_ hF ?_;(try (conv => cbv)))
  | ((with_reducible refine k2_ 183 H ?_);clear H;intro _ _ hy H;refine ca_ hF (Z0t.con E hE hy) ?_;(try (conv => cbv)))
  | ((with_reducible refine lo_ hF (fun n t => n≤k∧∃ x4 x9 x10 x11,t = At 28 [(4,.own 20004),(9,.c (.sl [.int .i64] (E.eI .i64 x9))),(10,.c (.int .i64 x10)),(11,.c (.int .i64 x11))] [(20004,.row false 5 [.int .u8] (E.eI .u8 x4))]∧Z1E.l0 n x4 x9 x10 x11 = some (r1,r2)) ⟨[4,9,10,11],[],[(4,5)],[]⟩ fun n0 t ht Q0 hN0 hX0 => ?_);obtain ⟨hl,_,_,_,_,rfl,H⟩:=ht;rcases n0 with _ | n0;cases H;simp only [Z1E.l0] at H;(try (conv => cbv)))
  | ((with_reducible show Q0 _ _);first | exact nx_ hN0 | (refine xt_ hX0 ?_;(try (conv => cbv))))
  | ((with_reducible show Q _ _);exact en_ ⟨[2,3],[],[],[]⟩ 28 hQ)
  | contradiction
theorem Z3m.con (E:En) (hE:E = E0) {k a0 r1 r2} (H:Z3m.f k a0 = some (r1,r2)) :
  Cn 217 [.c (.str a0)] [] (.tup [.c (.str r1),.c (.bool r2)]) [] []:=by
 refine co_ Tryz.func217 tabOk [] fun F hF Q hQ => ?_
 simp only [Z3m.f] at H
 (conv => cbv)
 repeat' first
  | replace H:=s_ H
  | (exfalso;with_reducible assumption)
  | (rw [Z7] at H;obtain ⟨hc,H⟩:=H)
  | (rw [Z2] at H;obtain ⟨hc,H⟩:=H)
  | ((with_reducible refine br2 hF H ?_ ?_) <;> (clear H;intro hb H;(try (conv => cbv))))
  | (refine w_ hF ?_;(try (conv => cbv)))
  | ((with_reducible refine k2_ 183 H ?_);clear H;intro _ _ hy H;refine ca_ hF (Z0t.con E hE hy) ?_;(try (conv => cbv)))
  | ((with_reducible show Q _ _);exact en_ ⟨[2,3],[],[],[]⟩ 18 hQ)
  | contradiction
theorem Z3f.con (E:En) (hE:E = E0) {k a0 r} (H:Z3f.f k a0 = some (r)) :
  Cn 181 [.c (.str a0)] [] (.c (.str r)) [] []:=by
 refine co_ Tryz.func181 tabOk [] fun F hF Q hQ => ?_
 simp only [Z3f.f] at H
 (conv => cbv)
 repeat' first
  | replace H:=s_ H
  | (exfalso;with_reducible assumption)
  | (rw [Z7] at H;obtain ⟨hc,H⟩:=H)
  | (rw [Z2] at H;obtain ⟨hc,H⟩:=H)
  | ((with_reducible refine br2 hF H ?_ ?_) <;> (clear H;intro hb H;(try (conv => cbv))))
  | (refine w_ hF ?_;(try (conv => cbv)))
  | ((with_reducible refine k2_ 217 H ?_);clear H;intro _ _ hy H;refine ca_ hF (Z3m.con E hE hy) ?_;(try (conv => cbv)))
  | ((with_reducible show Q _ _);exact en_ ⟨[2],[],[],[]⟩ 11 hQ)
  | contradiction
theorem Z5P.con (E:En) (hE:E = E0) {a0 r} (H:Z5P.f a0 = some (r)) :
  Cn 182 [.c (.bool a0)] [] (.c (.str r)) [] []:=by
 refine co_ Tryz.func182 tabOk [] fun F hF Q hQ => ?_
 simp only [Z5P.f] at H
 (conv => cbv)
 repeat' first
  | replace H:=s_ H
  | (exfalso;with_reducible assumption)
  | (rw [Z7] at H;obtain ⟨hc,H⟩:=H)
  | (rw [Z2] at H;obtain ⟨hc,H⟩:=H)
  | ((with_reducible refine br2 hF H ?_ ?_) <;> (clear H;intro hb H;(try (conv => cbv))))
  | (refine w_ hF ?_;(try (conv => cbv)))
  | ((with_reducible show Q _ _);exact en_ ⟨[2],[],[],[]⟩ 4 hQ)
  | contradiction
theorem Z0u.con (E:En) (hE:E = E0) {k a0_0 l0_1 r1 r2} (H:Z0u.f k a0_0 l0_1 = some (r1,r2)) :
  Cn 99 [.agg [.c (.int .i64 a0_0),.c (.sl [.str,.str,.bool] (E.e162 l0_1))]] [] (.tup [.c (.str r1),.c (.bool r2)]) [] []:=by
 refine co_ Tryz.func99 tabOk [] fun F hF Q hQ => ?_
 simp only [Z0u.f] at H
 (conv => cbv)
 repeat' first
  | replace H:=s_ H
  | (exfalso;with_reducible assumption)
  | (rw [Z7] at H;obtain ⟨hc,H⟩:=H)
  | (rw [Z2] at H;obtain ⟨hc,H⟩:=H)
  | ((with_reducible refine br2 hF H ?_ ?_) <;> (clear H;intro hb H;(try (conv => cbv))))
  | (refine w_ hF ?_;(try (conv => cbv)))
  | ((with_reducible refine k1_ 179 H ?_);clear H;intro _ hy H;refine ca_ hF (Z0B.con E hE hy) ?_;(try (conv => cbv)))
  | ((with_reducible refine k2_ 180 H ?_);clear H;intro _ _ hy H;refine ca_ hF (Z1E.con E hE hy) ?_;(try (conv => cbv)))
  | ((with_reducible refine k1_ 181 H ?_);clear H;intro _ hy H;refine ca_ hF (Z3f.con E hE hy) ?_;(try (conv => cbv)))
  | ((with_reducible refine k1_ 182 H ?_);clear H;intro _ hy H;refine ca_ hF (Z5P.con E hE hy) ?_;(try (conv => cbv)))
  | ((with_reducible refine lo_ hF (fun n t => n≤k∧∃ x4 x22 x23 x24,t = At 43 [(4,.c (.str x4)),(22,.c (.sl [.str,.str,.bool] (E.e162 x22))),(23,.c (.int .i64 x23)),(24,.c (.int .i64 x24))] []∧Z0u.l0 n x4 x22 x23 x24 = some (r1,r2)) ⟨[4,22,23,24],[],[],[]⟩ fun n0 t ht Q0 hN0 hX0 => ?_);obtain ⟨hl,_,_,_,_,rfl,H⟩:=ht;rcases n0 with _ | n0;cases H;simp only [Z0u.l0] at H;(try (conv => cbv)))
  | ((with_reducible show Q0 _ _);first | exact nx_ hN0 | (refine xt_ hX0 ?_;(try (conv => cbv))))
  | ((with_reducible show Q _ _);exact en_ ⟨[2,3],[],[],[]⟩ 43 hQ)
  | contradiction
theorem Z0a.con (E:En) (hE:E = E0) {k a0 a1 r} (H:Z0a.f k a0 a1 = some (r)) :
  Cn 218 [.c (.int .u32 a0),.c (.str a1)] [] (.c (.int .u32 r)) [] []:=by
 refine co_ Tryz.func218 tabOk [] fun F hF Q hQ => ?_
 simp only [Z0a.f] at H
 (conv => cbv)
 repeat' first
  | replace H:=s_ H
  | (exfalso;with_reducible assumption)
  | (rw [Z7] at H;obtain ⟨hc,H⟩:=H)
  | (rw [Z2] at H;obtain ⟨hc,H⟩:=H)
  | ((with_reducible refine br2 hF H ?_ ?_) <;> (clear H;intro hb H;(try (conv => cbv))))
  | (refine w_ hF ?_;(try (conv => cbv)))
  | ((with_reducible refine lo_ hF (fun n t => n≤k∧∃ x0 x1 x5,t = At 33 [(0,.c (.int .u32 x0)),(1,.c (.str x1)),(5,.c (.int .i64 x5))] []∧Z0a.l0 n x0 x1 x5 = some (r)) ⟨[0,1,5],[],[],[]⟩ fun n0 t ht Q0 hN0 hX0 => ?_);obtain ⟨hl,_,_,_,rfl,H⟩:=ht;rcases n0 with _ | n0;cases H;simp only [Z0a.l0] at H;(try (conv => cbv)))
  | ((with_reducible show Q0 _ _);first | exact nx_ hN0 | (refine xt_ hX0 ?_;(try (conv => cbv))))
  | ((with_reducible refine lo_ hF (fun n t => n≤n0∧∃ x0 x1 x5 x6,t = At 33 [(0,.c (.int .u32 x0)),(1,.c (.str x1)),(5,.c (.int .i64 x5)),(6,.c (.int .i64 x6))] []∧Z0a.l1 n x0 x1 x5 x6 = some (r)) ⟨[0,1,5,6],[],[],[]⟩ fun n1 t ht Q1 hN1 hX1 => ?_);obtain ⟨hl,_,_,_,_,rfl,H⟩:=ht;rcases n1 with _ | n1;cases H;simp only [Z0a.l1] at H;(try (conv => cbv)))
  | ((with_reducible show Q1 _ _);first | exact nx_ hN1 | (refine xt_ hX1 ?_;(try (conv => cbv))))
  | ((with_reducible show Q _ _);exact en_ ⟨[4],[],[],[]⟩ 33 hQ)
  | contradiction
theorem Z47.con (E:En) (hE:E = E0) {k a0 r} (H:Z47.f k a0 = some (r)) :
  Cn 184 [.c (.str a0)] [] (.c (.int .u32 r)) [] []:=by
 refine co_ Tryz.func184 tabOk [] fun F hF Q hQ => ?_
 simp only [Z47.f] at H
 (conv => cbv)
 repeat' first
  | replace H:=s_ H
  | (exfalso;with_reducible assumption)
  | (rw [Z7] at H;obtain ⟨hc,H⟩:=H)
  | (rw [Z2] at H;obtain ⟨hc,H⟩:=H)
  | ((with_reducible refine br2 hF H ?_ ?_) <;> (clear H;intro hb H;(try (conv => cbv))))
  | (refine w_ hF ?_;(try (conv => cbv)))
  | ((with_reducible refine k1_ 218 H ?_);clear H;intro _ hy H;refine ca_ hF (Z0a.con E hE hy) ?_;(try (conv => cbv)))
  | ((with_reducible show Q _ _);exact en_ ⟨[2],[],[],[]⟩ 5 hQ)
  | contradiction
theorem Z2X.con (E:En) (hE:E = E0) {k a0 r1 r2} (H:Z2X.f k a0 = some (r1,r2)) :
  Cn 100 [.c (.str a0)] [] (.tup [.c (.str r1),.c (.bool r2)]) [] []:=by
 refine co_ Tryz.func100 tabOk [] fun F hF Q hQ => ?_
 simp only [Z2X.f] at H
 (conv => cbv)
 repeat' first
  | replace H:=s_ H
  | (exfalso;with_reducible assumption)
  | (rw [Z7] at H;obtain ⟨hc,H⟩:=H)
  | (rw [Z2] at H;obtain ⟨hc,H⟩:=H)
  | ((with_reducible refine br2 hF H ?_ ?_) <;> (clear H;intro hb H;(try (conv => cbv))))
  | (refine w_ hF ?_;(try (conv => cbv)))
  | ((with_reducible refine k1_ 144 H ?_);clear H;intro _ hy H;refine ca_ hF (ZN.con E hE hy) ?_;(try (conv => cbv)))
  | ((with_reducible refine k2_ 183 H ?_);clear H;intro _ _ hy H;refine ca_ hF (Z0t.con E hE hy) ?_;(try (conv => cbv)))
  | ((with_reducible refine k1_ 184 H ?_);clear H;intro _ hy H;refine ca_ hF (Z47.con E hE hy) ?_;(try (conv => cbv)))
  | ((with_reducible show Q _ _);exact en_ ⟨[2,3],[],[],[]⟩ 36 hQ)
  | contradiction
theorem Z02.con (E:En) (hE:E = E0) {k l0_0 r} (H:Z02.f k l0_0 = some (r)) :
  Cn 78 [.agg [.c (.sl [.str,.str] (E.e122 l0_0))]] [] (.c (.bool r)) [] []:=by
 refine co_ Tryz.func78 tabOk [] fun F hF Q hQ => ?_
 simp only [Z02.f] at H
 (conv => cbv)
 repeat' first
  | replace H:=s_ H
  | (exfalso;with_reducible assumption)
  | (rw [Z7] at H;obtain ⟨hc,H⟩:=H)
  | (rw [Z2] at H;obtain ⟨hc,H⟩:=H)
  | ((with_reducible refine br2 hF H ?_ ?_) <;> (clear H;intro hb H;(try (conv => cbv))))
  | (refine w_ hF ?_;(try (conv => cbv)))
  | ((with_reducible refine k1_ 144 H ?_);clear H;intro _ hy H;refine ca_ hF (ZN.con E hE hy) ?_;(try (conv => cbv)))
  | ((with_reducible refine lo_ hF (fun n t => n≤k∧∃ x6 x7 x8 v0,t = At 45 [(1,.ptr 1 0),(6,.c (.sl [.str,.str] (E.e122 x6))),(7,.c (.int .i64 x7)),(8,.c (.int .i64 x8))] [(1,.box [.c (.sl [.str,.str] (E.e122 v0))])]∧Z02.l0 n x6 x7 x8 v0 = some (r)) ⟨[1,6,7,8],[1],[],[]⟩ fun n0 t ht Q0 hN0 hX0 => ?_);obtain ⟨hl,_,_,_,_,rfl,H⟩:=ht;rcases n0 with _ | n0;cases H;simp only [Z02.l0] at H;(try (conv => cbv)))
  | ((with_reducible show Q0 _ _);first | exact nx_ hN0 | (refine xt_ hX0 ?_;(try (conv => cbv))))
  | ((with_reducible show Q _ _);exact en_ ⟨[2],[],[],[]⟩ 45 hQ)
  | contradiction
theorem Z3l.con (E:En) (hE:E = E0) {a0_0 a0_1 a1 r} (H:Z3l.f a0_0 a0_1 a1 = some r) :
  Cn 201 [.agg [.c (.str a0_0),.c (.str a0_1)],.c (.str a1)] [] (.c (.int .i64 r)) [] []:=by
 refine co_ Tryz.func201 Z0L [] fun F hF Q hQ => ?_
 simp only [Z3l.f] at H
 (conv => cbv)
 repeat' first
  | replace H:=s_ H
  | (exfalso;with_reducible assumption)
  | (rw [Z7] at H;obtain ⟨hc,H⟩:=H)
  | (rw [Z2] at H;obtain ⟨hc,H⟩:=H)
  | ((with_reducible refine br2 hF H ?_ ?_) <;> (clear H;intro hb H;(try (conv => cbv))))
  | (refine w_ hF ?_;(try (conv => cbv)))
  | ((with_reducible refine k1_ 168 H ?_);clear H;intro _ hy H;refine ca_ hF (Z2W.con E hE hy) ?_;(try (conv => cbv)))
  | ((with_reducible show Q _ _);exact en_ ⟨[4],[],[],[]⟩ 9 hQ)
  | contradiction
end Go.Ev
