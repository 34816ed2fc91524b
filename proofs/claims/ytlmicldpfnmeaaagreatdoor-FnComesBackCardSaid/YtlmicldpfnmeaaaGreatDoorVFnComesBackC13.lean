/- Contracts of the Go functions that this law reaches: what each call returns, by its plain function. No conditions but those that each statement names. By this repo's programs; comments are taken out. -/
import Derived.Test.YtlmicldpfnmeaaaGreatDoorVFnComesBackD
import Derived.Test.YtlmicldpfnmeaaaGreatDoorVFnComesBackK
import Derived.Test.YtlmicldpfnmeaaaGreatDoorVFnComesBackC10
import Derived.Test.YtlmicldpfnmeaaaGreatDoorVFnComesBackC12
set_option linter.all false
namespace Go.Ev
open Go.RowKit Go.Proofs Go.Proofs.YtlmicldpfnmeaaaGreatDoorW.PrintWords Go.Proofs.YtlmicldpfnmeaaaGreatDoorW.PrintLast Go.Proofs.YtlmicldpfnmeaaaGreatDoorW.PrintMore
set_option maxRecDepth 100000
set_option maxHeartbeats 4000000
theorem Z1l.con (E:En) (hE:E = E0) {k l0_0 s0_1 s0_2 s0_3 l0_4 s1_0_0 s1_0_1 s1_0_2 r1 r2 r3 r4 r5 r6 r7 r8} (H:Z1l.f k l0_0 s0_1 s0_2 s0_3 l0_4 s1_0_0 s1_0_1 s1_0_2 = some (r1,r2,r3,r4,r5,r6,r7,r8)) :
  Cn 159 [.ptr 10000 0,.ptr 10001 0] [.box [.own 10002,.c (.int .i64 s0_1),.c (.int .i64 s0_2),.c (.int .i64 s0_3),.own 10003],.box [.ptr 10004 0],.row false 3 [.int .i64] (E.eI .i64 l0_0),.row false 3 [.int .i64] (E.eI .i64 l0_4),.box [.c (.str s1_0_0),.c (.int .i64 s1_0_1),.c (.bool s1_0_2)]] (.tup []) [.row false 3 [.int .i64] (E.eI .i64 r4)] [.box [.own 10002,.c (.int .i64 r1),.c (.int .i64 r2),.c (.int .i64 r3),.own 0],.box [.ptr 10004 0],.row false 3 [.int .i64] (E.eI .i64 r5),.gone,.box [.c (.str r6),.c (.int .i64 r7),.c (.bool r8)]]:=by
 refine co_ Tryz.func159 Z0L [600004] fun F hF Q hQ => ?_
 simp only [Z1l.f] at H
 (conv => cbv)
 repeat' first
  | replace H:=s_ H
  | (exfalso;with_reducible assumption)
  | (rw [Z7] at H;obtain ⟨hc,H⟩:=H)
  | (rw [Z2] at H;obtain ⟨hc,H⟩:=H)
  | ((with_reducible refine br2 hF H ?_ ?_) <;> (clear H;intro hb H;(try (conv => cbv))))
  | (refine w_ hF ?_;(try (conv => cbv)))
  | ((with_reducible refine k4_ 158 H ?_);clear H;intro _ _ _ _ hy H;refine ca_ hF (ZK.con E hE hy) ?_;(try (conv => cbv)))
  | ((with_reducible show Q _ _);exact en_ ⟨[],[],[],[(10000,4,3)]⟩ 9 hQ)
  | contradiction
theorem Zt.con (E:En) (hE:E = E0) {k s0_0 s0_1 s0_2 l1_0_0 s1_0_1 s1_0_2 s1_0_3 l1_0_4 r1 r2 r3 r4 r5 r6 r7 r8} (H:Zt.f k s0_0 s0_1 s0_2 l1_0_0 s1_0_1 s1_0_2 s1_0_3 l1_0_4 = some (r1,r2,r3,r4,r5,r6,r7,r8)) :
  Cn 156 [.ptr 10000 0,.clo 159 [.ptr 10001 0,.ptr 10002 0]] [.box [.c (.str s0_0),.c (.int .i64 s0_1),.c (.bool s0_2)],.box [.own 10003,.c (.int .i64 s1_0_1),.c (.int .i64 s1_0_2),.c (.int .i64 s1_0_3),.own 10004],.box [.ptr 10000 0],.row false 3 [.int .i64] (E.eI .i64 l1_0_0),.row false 3 [.int .i64] (E.eI .i64 l1_0_4)] (.tup []) [.row false 3 [.int .i64] (E.eI .i64 r7)] [.box [.c (.str r1),.c (.int .i64 r2),.c (.bool r3)],.box [.own 10003,.c (.int .i64 r4),.c (.int .i64 r5),.c (.int .i64 r6),.own 0],.box [.ptr 10000 0],.row false 3 [.int .i64] (E.eI .i64 r8),.gone]:=by
 refine co_ Tryz.func156 Z0L [600024] fun F hF Q hQ => ?_
 simp only [Zt.f] at H
 (conv => cbv)
 repeat' first
  | replace H:=s_ H
  | (exfalso;with_reducible assumption)
  | (rw [Z7] at H;obtain ⟨hc,H⟩:=H)
  | (rw [Z2] at H;obtain ⟨hc,H⟩:=H)
  | ((with_reducible refine br2 hF H ?_ ?_) <;> (clear H;intro hb H;(try (conv => cbv))))
  | (refine w_ hF ?_;(try (conv => cbv)))
  | ((with_reducible refine k4_ 158 H ?_);clear H;intro _ _ _ _ hy H;refine ca_ hF (ZK.con E hE hy) ?_;(try (conv => cbv)))
  | ((with_reducible refine k8_ 159 H ?_);clear H;intro _ _ _ _ _ _ _ _ hy H;refine ca_ hF (Z1l.con E hE hy) ?_;(try (conv => cbv)))
  | ((with_reducible refine lo_ hF (fun n t => n≤k∧∃ x4 x5 v0 v1 v2 w3 v3 v4 v5 v6,t = At 22 [(0,.ptr 10000 0),(1,.clo 159 [.ptr 10001 0,.ptr 10002 0]),(4,.c (.int .i64 x4)),(5,.c (.int .i64 x5))] [(10000,.box [.c (.str v0),.c (.int .i64 v1),.c (.bool v2)]),(10001,.box [.own 10003,.c (.int .i64 v3),.c (.int .i64 v4),.c (.int .i64 v5),.own 600024]),(10002,.box [.ptr 10000 0]),(10003,.row false 3 [.int .i64] (E.eI .i64 w3)),(10004,.gone),(600024,.row false 3 [.int .i64] (E.eI .i64 v6))]∧Zt.l0 n x4 x5 v0 v1 v2 w3 v3 v4 v5 v6 = some (r1,r2,r3,r4,r5,r6,r7,r8)) ⟨[0,1,4,5],[],[],[(10001,4,3)]⟩ fun n0 t ht Q0 hN0 hX0 => ?_);obtain ⟨hl,_,_,_,_,_,_,_,_,_,_,rfl,H⟩:=ht;rcases n0 with _ | n0;cases H;simp only [Zt.l0] at H;(try (conv => cbv)))
  | ((with_reducible show Q0 _ _);first | exact nx_ hN0 | (refine xt_ hX0 ?_;(try (conv => cbv))))
  | ((with_reducible show Q _ _);exact en_ ⟨[],[],[],[(10001,4,3)]⟩ 22 hQ)
  | contradiction
theorem Z23.con (E:En) (hE:E = E0) {s0_0 s0_1 s0_2 r1 r2 r3 r4} (H:Z23.f s0_0 s0_1 s0_2 = some (r1,r2,r3,r4)) :
  Cn 160 [.ptr 10000 0] [.box [.c (.str s0_0),.c (.int .i64 s0_1),.c (.bool s0_2)]] (.c (.bool r1)) [] [.box [.c (.str r2),.c (.int .i64 r3),.c (.bool r4)]]:=by
 refine co_ Tryz.func160 tabOk [] fun F hF Q hQ => ?_
 simp only [Z23.f] at H
 (conv => cbv)
 repeat' first
  | replace H:=s_ H
  | (exfalso;with_reducible assumption)
  | (rw [Z7] at H;obtain ⟨hc,H⟩:=H)
  | (rw [Z2] at H;obtain ⟨hc,H⟩:=H)
  | ((with_reducible refine br2 hF H ?_ ?_) <;> (clear H;intro hb H;(try (conv => cbv))))
  | (refine w_ hF ?_;(try (conv => cbv)))
  | ((with_reducible show Q _ _);exact en_ ⟨[2],[],[],[]⟩ 20 hQ)
  | contradiction
theorem Z1u.con (E:En) (hE:E = E0) {k l0 r} (H:Z1u.f k l0 = some (r)) :
  Cn 209 [.c (.sl [.int .i64] (E.eI .i64 l0))] [] (.c (.bool r)) [] []:=by
 refine co_ Tryz.func209 tabOk [] fun F hF Q hQ => ?_
 simp only [Z1u.f] at H
 (conv => cbv)
 repeat' first
  | replace H:=s_ H
  | (exfalso;with_reducible assumption)
  | (rw [Z7] at H;obtain ⟨hc,H⟩:=H)
  | (rw [Z2] at H;obtain ⟨hc,H⟩:=H)
  | ((with_reducible refine br2 hF H ?_ ?_) <;> (clear H;intro hb H;(try (conv => cbv))))
  | (refine w_ hF ?_;(try (conv => cbv)))
  | ((with_reducible refine k1_ 144 H ?_);clear H;intro _ hy H;refine ca_ hF (ZN.con E hE hy) ?_;(try (conv => cbv)))
  | ((with_reducible refine lo_ hF (fun n t => n≤k∧∃ x0 x5 x6 x7,t = At 32 [(0,.c (.sl [.int .i64] (E.eI .i64 x0))),(5,.c (.sl [.int .i64] (E.eI .i64 x5))),(6,.c (.int .i64 x6)),(7,.c (.int .i64 x7))] []∧Z1u.l0 n x0 x5 x6 x7 = some (r)) ⟨[0,5,6,7],[],[],[]⟩ fun n0 t ht Q0 hN0 hX0 => ?_);obtain ⟨hl,_,_,_,_,rfl,H⟩:=ht;rcases n0 with _ | n0;cases H;simp only [Z1u.l0] at H;(try (conv => cbv)))
  | ((with_reducible show Q0 _ _);first | exact nx_ hN0 | (refine xt_ hX0 ?_;(try (conv => cbv))))
  | ((with_reducible show Q _ _);exact en_ ⟨[2],[],[],[]⟩ 32 hQ)
  | contradiction
theorem Z0h.con (E:En) (hE:E = E0) {k l0_0 a0_1 a0_2 a0_3 l0_4 r} (H:Z0h.f k l0_0 a0_1 a0_2 a0_3 l0_4 = some (r)) :
  Cn 161 [.agg [.c (.sl [.int .i64] (E.eI .i64 l0_0)),.c (.int .i64 a0_1),.c (.int .i64 a0_2),.c (.int .i64 a0_3),.c (.sl [.int .i64] (E.eI .i64 l0_4))]] [] (.c (.bool r)) [] []:=by
 refine co_ Tryz.func161 tabOk [] fun F hF Q hQ => ?_
 simp only [Z0h.f] at H
 (conv => cbv)
 repeat' first
  | replace H:=s_ H
  | (exfalso;with_reducible assumption)
  | (rw [Z7] at H;obtain ⟨hc,H⟩:=H)
  | (rw [Z2] at H;obtain ⟨hc,H⟩:=H)
  | ((with_reducible refine br2 hF H ?_ ?_) <;> (clear H;intro hb H;(try (conv => cbv))))
  | (refine w_ hF ?_;(try (conv => cbv)))
  | ((with_reducible refine k1_ 144 H ?_);clear H;intro _ hy H;refine ca_ hF (ZN.con E hE hy) ?_;(try (conv => cbv)))
  | ((with_reducible refine k1_ 209 H ?_);clear H;intro _ hy H;refine ca_ hF (Z1u.con E hE hy) ?_;(try (conv => cbv)))
  | ((with_reducible refine lo_ hF (fun n t => n≤k∧∃ x6 x7 x8 v0 v1 v2 v3 v4,t = At 61 [(1,.ptr 1 0),(6,.c (.sl [.int .i64] (E.eI .i64 x6))),(7,.c (.int .i64 x7)),(8,.c (.int .i64 x8))] [(1,.box [.c (.sl [.int .i64] (E.eI .i64 v0)),.c (.int .i64 v1),.c (.int .i64 v2),.c (.int .i64 v3),.c (.sl [.int .i64] (E.eI .i64 v4))])]∧Z0h.l0 n x6 x7 x8 v0 v1 v2 v3 v4 = some (r)) ⟨[1,6,7,8],[1],[],[]⟩ fun n0 t ht Q0 hN0 hX0 => ?_);obtain ⟨hl,_,_,_,_,_,_,_,_,rfl,H⟩:=ht;rcases n0 with _ | n0;cases H;simp only [Z0h.l0] at H;(try (conv => cbv)))
  | ((with_reducible show Q0 _ _);first | exact nx_ hN0 | (refine xt_ hX0 ?_;(try (conv => cbv))))
  | ((with_reducible show Q _ _);exact en_ ⟨[2],[],[],[]⟩ 61 hQ)
  | contradiction
theorem Z0U.con (E:En) (hE:E = E0) {k a0 r1 r2 r3 r4 r5 r6} (H:Z0U.f k a0 = some (r1,r2,r3,r4,r5,r6)) :
  Cn 79 [.c (.str a0)] [] (.tup [.agg [.own 0,.c (.int .i64 r2),.c (.int .i64 r3),.c (.int .i64 r4),.own 1],.c (.bool r6)]) [.row false 3 [.int .i64] (E.eI .i64 r1),.row false 3 [.int .i64] (E.eI .i64 r5)] []:=by
 refine co_ Tryz.func79 Z0L [400040,400044] fun F hF Q hQ => ?_
 simp only [Z0U.f] at H
 (conv => cbv)
 repeat' first
  | replace H:=s_ H
  | (exfalso;with_reducible assumption)
  | (rw [Z7] at H;obtain ⟨hc,H⟩:=H)
  | (rw [Z2] at H;obtain ⟨hc,H⟩:=H)
  | ((with_reducible refine br2 hF H ?_ ?_) <;> (clear H;intro hb H;(try (conv => cbv))))
  | (refine w_ hF ?_;(try (conv => cbv)))
  | ((with_reducible refine k2_ 155 H ?_);clear H;intro _ _ hy H;refine ca_ hF (Z35.con E hE hy) ?_;(try (conv => cbv)))
  | ((with_reducible refine k8_ 156 H ?_);clear H;intro _ _ _ _ _ _ _ _ hy H;refine ca_ hF (Zs.con E hE hy) ?_;(try (conv => cbv)))
  | ((with_reducible refine k4_ 158 H ?_);clear H;intro _ _ _ _ hy H;refine ca_ hF (ZK.con E hE hy) ?_;(try (conv => cbv)))
  | ((with_reducible refine k8_ 156 H ?_);clear H;intro _ _ _ _ _ _ _ _ hy H;refine ca_ hF (Zt.con E hE hy) ?_;(try (conv => cbv)))
  | ((with_reducible refine k4_ 160 H ?_);clear H;intro _ _ _ _ hy H;refine ca_ hF (Z23.con E hE hy) ?_;(try (conv => cbv)))
  | ((with_reducible refine k1_ 161 H ?_);clear H;intro _ hy H;refine ca_ hF (Z0h.con E hE hy) ?_;(try (conv => cbv)))
  | ((with_reducible show Q _ _);exact en_ ⟨[2,3],[2],[],[(2,0,3),(2,4,3)]⟩ 44 hQ)
  | contradiction
theorem Z0l.con (E:En) (hE:E = E0) {a0 r} (H:Z0l.f a0 = some (r)) :
  Cn 69 [.c (.int .i64 a0)] [] (.c (.str r)) [] []:=by
 refine co_ Tryz.func69 tabOk [] fun F hF Q hQ => ?_
 simp only [Z0l.f] at H
 (conv => cbv)
 repeat' first
  | replace H:=s_ H
  | (exfalso;with_reducible assumption)
  | (rw [Z7] at H;obtain ⟨hc,H⟩:=H)
  | (rw [Z2] at H;obtain ⟨hc,H⟩:=H)
  | ((with_reducible refine br2 hF H ?_ ?_) <;> (clear H;intro hb H;(try (conv => cbv))))
  | (refine w_ hF ?_;(try (conv => cbv)))
  | ((with_reducible refine k1_ 144 H ?_);clear H;intro _ hy H;refine ca_ hF (ZN.con E hE hy) ?_;(try (conv => cbv)))
  | ((with_reducible refine k1_ 145 H ?_);clear H;intro _ hy H;refine ca_ hF (impl_Decimal.con E hE hy) ?_;(try (conv => cbv)))
  | ((with_reducible show Q _ _);exact en_ ⟨[2],[],[],[]⟩ 9 hQ)
  | contradiction
theorem Z0x.con (E:En) (hE:E = E0) {a0 a1 r} (H:Z0x.f a0 a1 = some r) :
  Cn 234 [.c (.str a0),.c (.str a1)] [] (.c (.bool r)) [] []:=by
 refine co_ Tryz.func234 Z0L [] fun F hF Q hQ => ?_
 simp only [Z0x.f] at H
 (conv => cbv)
 repeat' first
  | replace H:=s_ H
  | (exfalso;with_reducible assumption)
  | (rw [Z7] at H;obtain ⟨hc,H⟩:=H)
  | (rw [Z2] at H;obtain ⟨hc,H⟩:=H)
  | ((with_reducible refine br2 hF H ?_ ?_) <;> (clear H;intro hb H;(try (conv => cbv))))
  | (refine w_ hF ?_;(try (conv => cbv)))
  | ((with_reducible show Q _ _);exact en_ ⟨[4],[],[],[]⟩ 18 hQ)
  | contradiction
theorem Z0y.con (E:En) (hE:E = E0) {a0 a1 r1 r2} (H:Z0y.f a0 a1 = some (r1,r2)) :
  Cn 226 [.c (.str a0),.c (.str a1)] [] (.tup [.c (.str r1),.c (.bool r2)]) [] []:=by
 refine co_ Tryz.func226 Z0L [] fun F hF Q hQ => ?_
 simp only [Z0y.f] at H
 (conv => cbv)
 repeat' first
  | replace H:=s_ H
  | (exfalso;with_reducible assumption)
  | (rw [Z7] at H;obtain ⟨hc,H⟩:=H)
  | (rw [Z2] at H;obtain ⟨hc,H⟩:=H)
  | ((with_reducible refine br2 hF H ?_ ?_) <;> (clear H;intro hb H;(try (conv => cbv))))
  | (refine w_ hF ?_;(try (conv => cbv)))
  | ((with_reducible refine k1_ 234 H ?_);clear H;intro _ hy H;refine ca_ hF (Z0x.con E hE hy) ?_;(try (conv => cbv)))
  | ((with_reducible show Q _ _);exact en_ ⟨[4,5],[],[],[]⟩ 15 hQ)
  | contradiction
theorem Z1L.con (E:En) (hE:E = E0) {a0 a1 r1 r2} (H:Z1L.f a0 a1 = some (r1,r2)) :
  Cn 210 [.c (.str a0),.c (.str a1)] [] (.tup [.c (.str r1),.c (.bool r2)]) [] []:=by
 refine co_ Tryz.func210 Z0L [] fun F hF Q hQ => ?_
 simp only [Z1L.f] at H
 (conv => cbv)
 repeat' first
  | replace H:=s_ H
  | (exfalso;with_reducible assumption)
  | (rw [Z7] at H;obtain ⟨hc,H⟩:=H)
  | (rw [Z2] at H;obtain ⟨hc,H⟩:=H)
  | ((with_reducible refine br2 hF H ?_ ?_) <;> (clear H;intro hb H;(try (conv => cbv))))
  | (refine w_ hF ?_;(try (conv => cbv)))
  | ((with_reducible refine k2_ 226 H ?_);clear H;intro _ _ hy H;refine ca_ hF (Z0y.con E hE hy) ?_;(try (conv => cbv)))
  | ((with_reducible show Q _ _);exact en_ ⟨[4,5],[],[],[]⟩ 11 hQ)
  | contradiction
end Go.Ev
