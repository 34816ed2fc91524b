/- Contracts of the Go functions that this law reaches: what each call returns, by its plain function. No conditions but those that each statement names. By this repo's programs; comments are taken out. -/
import Derived.Test.YtlmicldpfnmeaaaGreatDoorVFnComesBackD
set_option linter.all false
namespace Go.Ev
open Go.RowKit Go.Proofs Go.Proofs.YtlmicldpfnmeaaaGreatDoorW.PrintWords Go.Proofs.YtlmicldpfnmeaaaGreatDoorW.PrintLast Go.Proofs.YtlmicldpfnmeaaaGreatDoorW.PrintMore
set_option maxRecDepth 100000
set_option maxHeartbeats 4000000
theorem Z7T.con (E:En) (hE:E = E0) {l0 r} (H:Z7T.f l0 = some (r)) :
  Cn 28 [.c (.sl [.int .u8] (E.eI .u8 l0))] [] (.c (.bool r)) [] []:=by
 refine co_ Tryz.func28 tabOk [] fun F hF Q hQ => ?_
 simp only [Z7T.f] at H
 (conv => cbv)
 repeat' first
  | replace H:=s_ H
  | (exfalso;with_reducible assumption)
  | (rw [Z7] at H;obtain ⟨hc,H⟩:=H)
  | (rw [Z2] at H;obtain ⟨hc,H⟩:=H)
  | ((with_reducible refine br2 hF H ?_ ?_) <;> (clear H;intro hb H;(try (conv => cbv))))
  | (refine w_ hF ?_;(try (conv => cbv)))
  | ((with_reducible show Q _ _);exact en_ ⟨[2],[],[],[]⟩ 6 hQ)
  | contradiction
theorem Z1n.con (E:En) (hE:E = E0) {k l0 r1 r2 r3} (H:Z1n.f k l0 = some (r1,r2,r3)) :
  Cn 90 [.c (.sl [.int .u8] (E.eI .u8 l0))] [] (.ptr 0 0) [.box [.c (.sl [.int .u8] (E.eI .u8 r1)),.c (.int .i64 r2),.c (.int .i64 r3)]] []:=by
 refine co_ Tryz.func90 tabOk [31] fun F hF Q hQ => ?_
 simp only [Z1n.f] at H
 (conv => cbv)
 repeat' first
  | replace H:=s_ H
  | (exfalso;with_reducible assumption)
  | (rw [Z7] at H;obtain ⟨hc,H⟩:=H)
  | (rw [Z2] at H;obtain ⟨hc,H⟩:=H)
  | ((with_reducible refine br2 hF H ?_ ?_) <;> (clear H;intro hb H;(try (conv => cbv))))
  | (refine w_ hF ?_;(try (conv => cbv)))
  | ((with_reducible refine lo_ hF (fun n t => n≤k∧∃ x0 x3 x4,t = At 32 [(0,.c (.sl [.int .u8] (E.eI .u8 x0))),(3,.c (.int .i64 x3)),(4,.c (.int .i64 x4))] []∧Z1n.l0 n x0 x3 x4 = some (r1,r2,r3)) ⟨[0,3,4],[],[],[]⟩ fun n0 t ht Q0 hN0 hX0 => ?_);obtain ⟨hl,_,_,_,rfl,H⟩:=ht;rcases n0 with _ | n0;cases H;simp only [Z1n.l0] at H;(try (conv => cbv)))
  | ((with_reducible show Q0 _ _);first | exact nx_ hN0 | (refine xt_ hX0 ?_;(try (conv => cbv))))
  | ((with_reducible show Q _ _);exact en_ ⟨[2],[31],[],[]⟩ 32 hQ)
  | contradiction
theorem Z3u.con (E:En) (hE:E = E0) {l0 r} (H:Z3u.f l0 = some (r)) :
  Cn 93 [.c (.sl [.int .u8] (E.eI .u8 l0))] [] (.c (.int .i64 r)) [] []:=by
 refine co_ Tryz.func93 tabOk [] fun F hF Q hQ => ?_
 simp only [Z3u.f] at H
 (conv => cbv)
 repeat' first
  | replace H:=s_ H
  | (exfalso;with_reducible assumption)
  | (rw [Z7] at H;obtain ⟨hc,H⟩:=H)
  | (rw [Z2] at H;obtain ⟨hc,H⟩:=H)
  | ((with_reducible refine br2 hF H ?_ ?_) <;> (clear H;intro hb H;(try (conv => cbv))))
  | (refine w_ hF ?_;(try (conv => cbv)))
  | ((with_reducible show Q _ _);exact en_ ⟨[2],[],[],[]⟩ 11 hQ)
  | contradiction
theorem Z1a.con (E:En) (hE:E = E0) {s0_0 s0_1 s0_2 r1 r2 r3 r4} (H:Z1a.f s0_0 s0_1 s0_2 = some (r1,r2,r3,r4)) :
  Cn 124 [.ptr 10000 0] [.box [.c (.sl [.int .u8] (E.eI .u8 s0_0)),.c (.int .i64 s0_1),.c (.int .i64 s0_2)]] (.c (.int .i64 r1)) [] [.box [.c (.sl [.int .u8] (E.eI .u8 r2)),.c (.int .i64 r3),.c (.int .i64 r4)]]:=by
 refine co_ Tryz.func124 Z0L [] fun F hF Q hQ => ?_
 simp only [Z1a.f] at H
 (conv => cbv)
 repeat' first
  | replace H:=s_ H
  | (exfalso;with_reducible assumption)
  | (rw [Z7] at H;obtain ⟨hc,H⟩:=H)
  | (rw [Z2] at H;obtain ⟨hc,H⟩:=H)
  | ((with_reducible refine br2 hF H ?_ ?_) <;> (clear H;intro hb H;(try (conv => cbv))))
  | (refine w_ hF ?_;(try (conv => cbv)))
  | ((with_reducible show Q _ _);exact en_ ⟨[2],[],[],[]⟩ 58 hQ)
  | contradiction
theorem Z0o.con (E:En) (hE:E = E0) {s0_0 s0_1 s0_2 a1 r1 r2 r3 r4} (H:Z0o.f s0_0 s0_1 s0_2 a1 = some (r1,r2,r3,r4)) :
  Cn 92 [.ptr 10000 0,.c (.int .i64 a1)] [.box [.c (.sl [.int .u8] (E.eI .u8 s0_0)),.c (.int .i64 s0_1),.c (.int .i64 s0_2)]] (.c (.int .i64 r1)) [] [.box [.c (.sl [.int .u8] (E.eI .u8 r2)),.c (.int .i64 r3),.c (.int .i64 r4)]]:=by
 refine co_ Tryz.func92 Z0L [] fun F hF Q hQ => ?_
 simp only [Z0o.f] at H
 (conv => cbv)
 repeat' first
  | replace H:=s_ H
  | (exfalso;with_reducible assumption)
  | (rw [Z7] at H;obtain ⟨hc,H⟩:=H)
  | (rw [Z2] at H;obtain ⟨hc,H⟩:=H)
  | ((with_reducible refine br2 hF H ?_ ?_) <;> (clear H;intro hb H;(try (conv => cbv))))
  | (refine w_ hF ?_;(try (conv => cbv)))
  | ((with_reducible refine k4_ 124 H ?_);clear H;intro _ _ _ _ hy H;refine ca_ hF (Z1a.con E hE hy) ?_;(try (conv => cbv)))
  | ((with_reducible show Q _ _);exact en_ ⟨[4],[],[],[]⟩ 37 hQ)
  | contradiction
theorem Z0I.con (E:En) (hE:E = E0) {s0_0 s0_1 s0_2 a1 r1 r2 r3 r4} (H:Z0I.f s0_0 s0_1 s0_2 a1 = some (r1,r2,r3,r4)) :
  Cn 173 [.ptr 10000 0,.c (.int .i64 a1)] [.box [.c (.sl [.int .u8] (E.eI .u8 s0_0)),.c (.int .i64 s0_1),.c (.int .i64 s0_2)]] (.c (.bool r1)) [] [.box [.c (.sl [.int .u8] (E.eI .u8 r2)),.c (.int .i64 r3),.c (.int .i64 r4)]]:=by
 refine co_ Tryz.func173 Z0L [] fun F hF Q hQ => ?_
 simp only [Z0I.f] at H
 (conv => cbv)
 repeat' first
  | replace H:=s_ H
  | (exfalso;with_reducible assumption)
  | (rw [Z7] at H;obtain ⟨hc,H⟩:=H)
  | (rw [Z2] at H;obtain ⟨hc,H⟩:=H)
  | ((with_reducible refine br2 hF H ?_ ?_) <;> (clear H;intro hb H;(try (conv => cbv))))
  | (refine w_ hF ?_;(try (conv => cbv)))
  | ((with_reducible refine k4_ 92 H ?_);clear H;intro _ _ _ _ hy H;refine ca_ hF (Z0o.con E hE hy) ?_;(try (conv => cbv)))
  | ((with_reducible show Q _ _);exact en_ ⟨[4],[],[],[]⟩ 9 hQ)
  | contradiction
theorem Z1b.con (E:En) (hE:E = E0) {k s0_0 s0_1 s0_2 r1 r2 r3 r4} (H:Z1b.f k s0_0 s0_1 s0_2 = some (r1,r2,r3,r4)) :
  Cn 172 [.ptr 10000 0] [.box [.c (.sl [.int .u8] (E.eI .u8 s0_0)),.c (.int .i64 s0_1),.c (.int .i64 s0_2)]] (.own 0) [.row false 3 [.int .i64] (E.eI .i64 r1)] [.box [.c (.sl [.int .u8] (E.eI .u8 r2)),.c (.int .i64 r3),.c (.int .i64 r4)]]:=by
 refine co_ Tryz.func172 Z0L [20002] fun F hF Q hQ => ?_
 simp only [Z1b.f] at H
 (conv => cbv)
 repeat' first
  | replace H:=s_ H
  | (exfalso;with_reducible assumption)
  | (rw [Z7] at H;obtain ⟨hc,H⟩:=H)
  | (rw [Z2] at H;obtain ⟨hc,H⟩:=H)
  | ((with_reducible refine br2 hF H ?_ ?_) <;> (clear H;intro hb H;(try (conv => cbv))))
  | (refine w_ hF ?_;(try (conv => cbv)))
  | ((with_reducible refine k4_ 173 H ?_);clear H;intro _ _ _ _ hy H;refine ca_ hF (Z0I.con E hE hy) ?_;(try (conv => cbv)))
  | ((with_reducible refine lo_ hF (fun n t => n≤k∧∃ x3 x4 v0 v1 v2,t = At 23 [(0,.ptr 10000 0),(3,.own 20003),(4,.c (.int .i64 x4))] [(10000,.box [.c (.sl [.int .u8] (E.eI .u8 v0)),.c (.int .i64 v1),.c (.int .i64 v2)]),(20003,.row false 3 [.int .i64] (E.eI .i64 x3))]∧Z1b.l0 n x3 x4 v0 v1 v2 = some (r1,r2,r3,r4)) ⟨[0,3,4],[],[(3,3)],[]⟩ fun n0 t ht Q0 hN0 hX0 => ?_);obtain ⟨hl,_,_,_,_,_,rfl,H⟩:=ht;rcases n0 with _ | n0;cases H;simp only [Z1b.l0] at H;(try (conv => cbv)))
  | ((with_reducible show Q0 _ _);first | exact nx_ hN0 | (refine xt_ hX0 ?_;(try (conv => cbv))))
  | ((with_reducible show Q _ _);exact en_ ⟨[2],[],[(2,3)],[]⟩ 23 hQ)
  | contradiction
theorem ZD.con (E:En) (hE:E = E0) {a0 a1 a2 r} (H:ZD.f a0 a1 a2 = some (r)) :
  Cn 131 [.c (.int .i64 a0),.c (.int .i64 a1),.c (.int .i64 a2)] [] (.c (.bool r)) [] []:=by
 refine co_ Tryz.func131 tabOk [] fun F hF Q hQ => ?_
 simp only [ZD.f] at H
 (conv => cbv)
 repeat' first
  | replace H:=s_ H
  | (exfalso;with_reducible assumption)
  | (rw [Z7] at H;obtain ⟨hc,H⟩:=H)
  | (rw [Z2] at H;obtain ⟨hc,H⟩:=H)
  | ((with_reducible refine br2 hF H ?_ ?_) <;> (clear H;intro hb H;(try (conv => cbv))))
  | (refine w_ hF ?_;(try (conv => cbv)))
  | ((with_reducible show Q _ _);exact en_ ⟨[6],[],[],[]⟩ 15 hQ)
  | contradiction
theorem Z0O.con (E:En) (hE:E = E0) {k l0 a1 a2 r} (H:Z0O.f k l0 a1 a2 = some (r)) :
  Cn 219 [.c (.sl [.int .i64] (E.eI .i64 l0)),.c (.int .i64 a1),.c (.int .i64 a2)] [] (.c (.bool r)) [] []:=by
 refine co_ Tryz.func219 tabOk [] fun F hF Q hQ => ?_
 simp only [Z0O.f] at H
 (conv => cbv)
 repeat' first
  | replace H:=s_ H
  | (exfalso;with_reducible assumption)
  | (rw [Z7] at H;obtain ⟨hc,H⟩:=H)
  | (rw [Z2] at H;obtain ⟨hc,H⟩:=H)
  | ((with_reducible refine br2 hF H ?_ ?_) <;> (clear H;intro hb H;(try (conv => cbv))))
  | (refine w_ hF ?_;(try (conv => cbv)))
  | ((with_reducible refine k1_ 131 H ?_);clear H;intro _ hy H;refine ca_ hF (ZD.con E hE hy) ?_;(try (conv => cbv)))
  | ((with_reducible refine lo_ hF (fun n t => n≤k∧∃ x0 x1 x2 x7,t = At 38 [(0,.c (.sl [.int .i64] (E.eI .i64 x0))),(1,.c (.int .i64 x1)),(2,.c (.int .i64 x2)),(7,.c (.int .i64 x7))] []∧Z0O.l0 n x0 x1 x2 x7 = some (r)) ⟨[0,1,2,7],[],[],[]⟩ fun n0 t ht Q0 hN0 hX0 => ?_);obtain ⟨hl,_,_,_,_,rfl,H⟩:=ht;rcases n0 with _ | n0;cases H;simp only [Z0O.l0] at H;(try (conv => cbv)))
  | ((with_reducible show Q0 _ _);first | exact nx_ hN0 | (refine xt_ hX0 ?_;(try (conv => cbv))))
  | ((with_reducible show Q _ _);exact en_ ⟨[6],[],[],[]⟩ 38 hQ)
  | contradiction
theorem Z45.con (E:En) (hE:E = E0) {k l0 r} (H:Z45.f k l0 = some (r)) :
  Cn 220 [.c (.sl [.int .i64] (E.eI .i64 l0))] [] (.c (.bool r)) [] []:=by
 refine co_ Tryz.func220 tabOk [] fun F hF Q hQ => ?_
 simp only [Z45.f] at H
 (conv => cbv)
 repeat' first
  | replace H:=s_ H
  | (exfalso;with_reducible assumption)
  | (rw [Z7] at H;obtain ⟨hc,H⟩:=H)
  | (rw [Z2] at H;obtain ⟨hc,H⟩:=H)
  | ((with_reducible refine br2 hF H ?_ ?_) <;> (clear H;intro hb H;(try (conv => cbv))))
  | (refine w_ hF ?_;(try (conv => cbv)))
  | ((with_reducible refine k1_ 131 H ?_);clear H;intro _ hy H;refine ca_ hF (ZD.con E hE hy) ?_;(try (conv => cbv)))
  | ((with_reducible refine k1_ 219 H ?_);clear H;intro _ hy H;refine ca_ hF (Z0O.con E hE hy) ?_;(try (conv => cbv)))
  | ((with_reducible show Q _ _);exact en_ ⟨[2],[],[],[]⟩ 10 hQ)
  | contradiction
theorem Z2l.con (E:En) (hE:E = E0) {k l0_0 a0_1 a0_2 a0_3 l0_4 r} (H:Z2l.f k l0_0 a0_1 a0_2 a0_3 l0_4 = some (r)) :
  Cn 189 [.agg [.c (.sl [.int .i64] (E.eI .i64 l0_0)),.c (.int .i64 a0_1),.c (.int .i64 a0_2),.c (.int .i64 a0_3),.c (.sl [.int .i64] (E.eI .i64 l0_4))]] [] (.c (.bool r)) [] []:=by
 refine co_ Tryz.func189 tabOk [] fun F hF Q hQ => ?_
 simp only [Z2l.f] at H
 (conv => cbv)
 repeat' first
  | replace H:=s_ H
  | (exfalso;with_reducible assumption)
  | (rw [Z7] at H;obtain ⟨hc,H⟩:=H)
  | (rw [Z2] at H;obtain ⟨hc,H⟩:=H)
  | ((with_reducible refine br2 hF H ?_ ?_) <;> (clear H;intro hb H;(try (conv => cbv))))
  | (refine w_ hF ?_;(try (conv => cbv)))
  | ((with_reducible refine k1_ 131 H ?_);clear H;intro _ hy H;refine ca_ hF (ZD.con E hE hy) ?_;(try (conv => cbv)))
  | ((with_reducible refine k1_ 219 H ?_);clear H;intro _ hy H;refine ca_ hF (Z0O.con E hE hy) ?_;(try (conv => cbv)))
  | ((with_reducible refine k1_ 220 H ?_);clear H;intro _ hy H;refine ca_ hF (Z45.con E hE hy) ?_;(try (conv => cbv)))
  | ((with_reducible show Q _ _);exact en_ ⟨[2],[],[],[]⟩ 35 hQ)
  | contradiction
theorem ZP.con (E:En) (hE:E = E0) {k a0 r} (H:ZP.f k a0 = some (r)) :
  Cn 136 [.c (.int .i64 a0)] [] (.c (.str r)) [] []:=by
 refine co_ Tryz.func136 tabOk [] fun F hF Q hQ => ?_
 simp only [ZP.f] at H
 (conv => cbv)
 repeat' first
  | replace H:=s_ H
  | (exfalso;with_reducible assumption)
  | (rw [Z7] at H;obtain ⟨hc,H⟩:=H)
  | (rw [Z2] at H;obtain ⟨hc,H⟩:=H)
  | ((with_reducible refine br2 hF H ?_ ?_) <;> (clear H;intro hb H;(try (conv => cbv))))
  | (refine w_ hF ?_;(try (conv => cbv)))
  | ((with_reducible refine lo_ hF (fun n t => n≤k∧∃ x0 x3,t = At 22 [(0,.c (.int .i64 x0)),(3,.own 20003)] [(20003,.row false 5 [.int .u8] (E.eI .u8 x3))]∧ZP.l0 n x0 x3 = some (r)) ⟨[0,3],[],[(3,5)],[]⟩ fun n0 t ht Q0 hN0 hX0 => ?_);obtain ⟨hl,_,_,rfl,H⟩:=ht;rcases n0 with _ | n0;cases H;simp only [ZP.l0] at H;(try (conv => cbv)))
  | ((with_reducible show Q0 _ _);first | exact nx_ hN0 | (refine xt_ hX0 ?_;(try (conv => cbv))))
  | ((with_reducible show Q _ _);exact en_ ⟨[2],[],[],[]⟩ 22 hQ)
  | contradiction
end Go.Ev
