/- Contracts of the Go functions that this law reaches: what each call returns, by its plain function. No conditions but those that each statement names. By this repo's programs; comments are taken out. -/
import Derived.Test.YtlmicldpfnmeaaaGreatDoorVFnComesBackD
import Derived.Test.YtlmicldpfnmeaaaGreatDoorVFnComesBackK
import Derived.Test.YtlmicldpfnmeaaaGreatDoorVFnComesBackC10
import Derived.Test.YtlmicldpfnmeaaaGreatDoorVFnComesBackC11
import Derived.Test.YtlmicldpfnmeaaaGreatDoorVFnComesBackC12
import Derived.Test.YtlmicldpfnmeaaaGreatDoorVFnComesBackC14
set_option linter.all false
namespace Go.Ev
open Go.RowKit Go.Proofs Go.Proofs.YtlmicldpfnmeaaaGreatDoorW.PrintWords Go.Proofs.YtlmicldpfnmeaaaGreatDoorW.PrintLast Go.Proofs.YtlmicldpfnmeaaaGreatDoorW.PrintMore
set_option maxRecDepth 100000
set_option maxHeartbeats 4000000
theorem Z1x.con (E:En) (hE:E = E0) {k s0_0_0 s0_0_1 s0_0_2 s1_0 l1_1 r1 r2 r3 r4 r5} (H:Z1x.f k s0_0_0 s0_0_1 s0_0_2 s1_0 l1_1 = some (r1,r2,r3,r4,r5)) :
  Cn 204 [.ptr 10000 0,.ptr 10001 0] [.box [.ptr 10002 0],.box [.c (.int .i64 s1_0),.own 10003],.box [.c (.str s0_0_0),.c (.int .i64 s0_0_1),.c (.bool s0_0_2)],.row false 162 [.str,.str,.bool] (E.e162 l1_1)] (.tup []) [.row false 162 [.str,.str,.bool] (E.e162 r2)] [.box [.ptr 10002 0],.box [.c (.int .i64 r1),.own 0],.box [.c (.str r3),.c (.int .i64 r4),.c (.bool r5)],.gone]:=by
 refine co_ Tryz.func204 Z0L [600021] fun F hF Q hQ => ?_
 simp only [Z1x.f] at H
 (conv => cbv)
 repeat' first
  | replace H:=s_ H
  | (exfalso;with_reducible assumption)
  | (rw [Z7] at H;obtain ⟨hc,H⟩:=H)
  | (rw [Z2] at H;obtain ⟨hc,H⟩:=H)
  | ((with_reducible refine br2 hF H ?_ ?_) <;> (clear H;intro hb H;(try (conv => cbv))))
  | (refine w_ hF ?_;(try (conv => cbv)))
  | ((with_reducible refine k4_ 205 H ?_);clear H;intro _ _ _ _ hy H;refine ca_ hF (Z1J.con E hE hy) ?_;(try (conv => cbv)))
  | ((with_reducible refine k4_ 206 H ?_);clear H;intro _ _ _ _ hy H;refine ca_ hF (Z26.con E hE hy) ?_;(try (conv => cbv)))
  | ((with_reducible show Q _ _);exact en_ ⟨[],[],[],[(10001,1,162)]⟩ 19 hQ)
  | contradiction
theorem ZJ.con (E:En) (hE:E = E0) {k s0_0 s0_1 s0_2 s1_1_0 r1 r2 r3 r4 r5} (H:ZJ.f k s0_0 s0_1 s0_2 s1_1_0 = some (r1,r2,r3,r4,r5)) :
  Cn 156 [.ptr 10000 0,.clo 204 [.ptr 10001 0,.ptr 10002 0]] [.box [.c (.str s0_0),.c (.int .i64 s0_1),.c (.bool s0_2)],.box [.ptr 10000 0],.box [.c (.int .i64 s1_1_0),.nil [.str,.str,.bool]]] (.tup []) [.row false 162 [.str,.str,.bool] (E.e162 r5)] [.box [.c (.str r1),.c (.int .i64 r2),.c (.bool r3)],.box [.ptr 10000 0],.box [.c (.int .i64 r4),.own 0]]:=by
 refine co_ Tryz.func156 Z0L [600041] fun F hF Q hQ => ?_
 simp only [ZJ.f] at H
 (conv => cbv)
 repeat' first
  | replace H:=s_ H
  | (exfalso;with_reducible assumption)
  | (rw [Z7] at H;obtain ⟨hc,H⟩:=H)
  | (rw [Z2] at H;obtain ⟨hc,H⟩:=H)
  | ((with_reducible refine br2 hF H ?_ ?_) <;> (clear H;intro hb H;(try (conv => cbv))))
  | (refine w_ hF ?_;(try (conv => cbv)))
  | ((with_reducible refine k4_ 158 H ?_);clear H;intro _ _ _ _ hy H;refine ca_ hF (ZK.con E hE hy) ?_;(try (conv => cbv)))
  | ((with_reducible refine k5_ 204 H ?_);clear H;intro _ _ _ _ _ hy H;refine ca_ hF (Z1x.con E hE hy) ?_;(try (conv => cbv)))
  | ((with_reducible refine lo_ hF (fun n t => n≤k∧∃ x4 x5 v0 v1 v2 v3 v4,t = At 22 [(0,.ptr 10000 0),(1,.clo 204 [.ptr 10001 0,.ptr 10002 0]),(4,.c (.int .i64 x4)),(5,.c (.int .i64 x5))] [(10000,.box [.c (.str v0),.c (.int .i64 v1),.c (.bool v2)]),(10001,.box [.ptr 10000 0]),(10002,.box [.c (.int .i64 v3),.own 600041]),(600041,.row false 162 [.str,.str,.bool] (E.e162 v4))]∧ZJ.l0 n x4 x5 v0 v1 v2 v3 v4 = some (r1,r2,r3,r4,r5)) ⟨[0,1,4,5],[],[],[(10002,1,162)]⟩ fun n0 t ht Q0 hN0 hX0 => ?_);obtain ⟨hl,_,_,_,_,_,_,_,rfl,H⟩:=ht;rcases n0 with _ | n0;cases H;simp only [ZJ.l0] at H;(try (conv => cbv)))
  | ((with_reducible show Q0 _ _);first | exact nx_ hN0 | (refine xt_ hX0 ?_;(try (conv => cbv))))
  | ((with_reducible show Q _ _);exact en_ ⟨[],[],[],[(10002,1,162)]⟩ 22 hQ)
  | contradiction
theorem Z1B.con (E:En) (hE:E = E0) {k a0 r1 r2 r3} (H:Z1B.f k a0 = some (r1,r2,r3)) :
  Cn 147 [.c (.str a0)] [] (.tup [.agg [.c (.int .i64 r1),.own 0],.c (.bool r3)]) [.row false 162 [.str,.str,.bool] (E.e162 r2)] []:=by
 refine co_ Tryz.func147 Z0L [400041] fun F hF Q hQ => ?_
 simp only [Z1B.f] at H
 (conv => cbv)
 repeat' first
  | replace H:=s_ H
  | (exfalso;with_reducible assumption)
  | (rw [Z7] at H;obtain ⟨hc,H⟩:=H)
  | (rw [Z2] at H;obtain ⟨hc,H⟩:=H)
  | ((with_reducible refine br2 hF H ?_ ?_) <;> (clear H;intro hb H;(try (conv => cbv))))
  | (refine w_ hF ?_;(try (conv => cbv)))
  | ((with_reducible refine k4_ 158 H ?_);clear H;intro _ _ _ _ hy H;refine ca_ hF (ZK.con E hE hy) ?_;(try (conv => cbv)))
  | ((with_reducible refine k5_ 156 H ?_);clear H;intro _ _ _ _ _ hy H;refine ca_ hF (ZJ.con E hE hy) ?_;(try (conv => cbv)))
  | ((with_reducible refine k2_ 99 H ?_);clear H;intro _ _ hy H;refine ca_ hF (Z0u.con E hE hy) ?_;(try (conv => cbv)))
  | ((with_reducible show Q _ _);exact en_ ⟨[2,3],[2],[],[(2,1,162)]⟩ 37 hQ)
  | contradiction
theorem ZW.con (E:En) (hE:E = E0) {k a0 r1 r2} (H:ZW.f k a0 = some (r1,r2)) :
  Cn 70 [.c (.str a0)] [] (.tup [.own 0,.c (.int .i64 r2)]) [.row false 113 [.int .i64,.sl [.str,.str,.bool],.str,.int .i64] (E.e113 r1)] []:=by
 refine co_ Tryz.func70 tabOk [20002] fun F hF Q hQ => ?_
 simp only [ZW.f] at H
 (conv => cbv)
 repeat' first
  | replace H:=s_ H
  | (exfalso;with_reducible assumption)
  | (rw [Z7] at H;obtain ⟨hc,H⟩:=H)
  | (rw [Z2] at H;obtain ⟨hc,H⟩:=H)
  | ((with_reducible refine br2 hF H ?_ ?_) <;> (clear H;intro hb H;(try (conv => cbv))))
  | (refine w_ hF ?_;(try (conv => cbv)))
  | ((with_reducible refine k2_ 100 H ?_);clear H;intro _ _ hy H;refine ca_ hF (Z2X.con E hE hy) ?_;(try (conv => cbv)))
  | ((with_reducible refine k2_ 146 H ?_);clear H;intro _ _ hy H;refine ca_ hF (ZR.con E hE hy) ?_;(try (conv => cbv)))
  | ((with_reducible refine k3_ 147 H ?_);clear H;intro _ _ _ hy H;refine ca_ hF (Z1B.con E hE hy) ?_;(try (conv => cbv)))
  | ((with_reducible refine lo_ hF (fun n t => n≤k∧∃ x6 x7 x19 x20 x21,t = At 54 [(6,.own 20006),(7,.c (.int .i64 x7)),(19,.c (.sl [.str] (E.eS x19))),(20,.c (.int .i64 x20)),(21,.c (.int .i64 x21))] [(20006,.row false 113 [.int .i64,.sl [.str,.str,.bool],.str,.int .i64] (E.e113 x6))]∧ZW.l0 n x6 x7 x19 x20 x21 = some (r1,r2)) ⟨[6,7,19,20,21],[],[(6,113)],[]⟩ fun n0 t ht Q0 hN0 hX0 => ?_);obtain ⟨hl,_,_,_,_,_,rfl,H⟩:=ht;rcases n0 with _ | n0;cases H;simp only [ZW.l0] at H;(try (conv => cbv)))
  | ((with_reducible show Q0 _ _);first | exact nx_ hN0 | (refine xt_ hX0 ?_;(try (conv => cbv))))
  | ((with_reducible show Q _ _);exact en_ ⟨[2,3],[],[(2,113)],[]⟩ 54 hQ)
  | contradiction
theorem Z0X.con (E:En) (hE:E = E0) {k a0_0 l0_1 a0_2 a0_3 a1 r} (H:Z0X.f k a0_0 l0_1 a0_2 a0_3 a1 = some (r)) :
  Cn 165 [.agg [.c (.int .i64 a0_0),.c (.sl [.str,.str,.bool] (E.e162 l0_1)),.c (.str a0_2),.c (.int .i64 a0_3)],.c (.int .i64 a1)] [] (.own 0) [.row false 145 [.str,.int .i64,.int .i64,.int .i64] (E.e145 r)] []:=by
 refine co_ Tryz.func165 tabOk [20004] fun F hF Q hQ => ?_
 simp only [Z0X.f] at H
 (conv => cbv)
 repeat' first
  | replace H:=s_ H
  | (exfalso;with_reducible assumption)
  | (rw [Z7] at H;obtain ⟨hc,H⟩:=H)
  | (rw [Z2] at H;obtain ⟨hc,H⟩:=H)
  | ((with_reducible refine br2 hF H ?_ ?_) <;> (clear H;intro hb H;(try (conv => cbv))))
  | (refine w_ hF ?_;(try (conv => cbv)))
  | ((with_reducible refine k2_ 180 H ?_);clear H;intro _ _ hy H;refine ca_ hF (Z1E.con E hE hy) ?_;(try (conv => cbv)))
  | ((with_reducible refine k1_ 181 H ?_);clear H;intro _ hy H;refine ca_ hF (Z3f.con E hE hy) ?_;(try (conv => cbv)))
  | ((with_reducible refine lo_ hF (fun n t => n≤k∧∃ x1 x7 x8 x31 x32 x33,t = At 76 [(1,.c (.int .i64 x1)),(7,.c (.int .i64 x7)),(8,.own 20008),(31,.c (.sl [.str,.str,.bool] (E.e162 x31))),(32,.c (.int .i64 x32)),(33,.c (.int .i64 x33))] [(20008,.row false 145 [.str,.int .i64,.int .i64,.int .i64] (E.e145 x8))]∧Z0X.l0 n x1 x7 x8 x31 x32 x33 = some (r)) ⟨[1,7,8,31,32,33],[],[(8,145)],[]⟩ fun n0 t ht Q0 hN0 hX0 => ?_);obtain ⟨hl,_,_,_,_,_,_,rfl,H⟩:=ht;rcases n0 with _ | n0;cases H;simp only [Z0X.l0] at H;(try (conv => cbv)))
  | ((with_reducible show Q0 _ _);first | exact nx_ hN0 | (refine xt_ hX0 ?_;(try (conv => cbv))))
  | ((with_reducible show Q _ _);exact en_ ⟨[4],[],[(4,145)],[]⟩ 76 hQ)
  | contradiction
theorem Z1d.con (E:En) (hE:E = E0) {k a0 a1 r1 r2 r3} (H:Z1d.f k a0 a1 = some (r1,r2,r3)) :
  Cn 81 [.c (.str a0),.c (.int .i64 a1)] [] (.tup [.own 0,.own 1,.c (.int .i64 r3)]) [.row false 145 [.str,.int .i64,.int .i64,.int .i64] (E.e145 r1),.row false 9 [.str] (E.eS r2)] []:=by
 refine co_ Tryz.func81 tabOk [20004,20005] fun F hF Q hQ => ?_
 simp only [Z1d.f] at H
 (conv => cbv)
 repeat' first
  | replace H:=s_ H
  | (exfalso;with_reducible assumption)
  | (rw [Z7] at H;obtain ⟨hc,H⟩:=H)
  | (rw [Z2] at H;obtain ⟨hc,H⟩:=H)
  | ((with_reducible refine br2 hF H ?_ ?_) <;> (clear H;intro hb H;(try (conv => cbv))))
  | (refine w_ hF ?_;(try (conv => cbv)))
  | ((with_reducible refine k2_ 70 H ?_);clear H;intro _ _ hy H;refine ca_ hF (ZW.con E hE hy) ?_;(try (conv => cbv)))
  | ((with_reducible refine k1_ 165 H ?_);clear H;intro _ hy H;refine ca_ hF (Z0X.con E hE hy) ?_;(try (conv => cbv)))
  | ((with_reducible refine lo_ hF (fun n t => n≤k∧∃ x1 x9 x10 x11 x19 x20 x21,t = At 44 [(1,.c (.int .i64 x1)),(9,.own 20009),(10,.own 20010),(11,.c (.int .i64 x11)),(19,.c (.sl [.int .i64,.sl [.str,.str,.bool],.str,.int .i64] (E.e113 x19))),(20,.c (.int .i64 x20)),(21,.c (.int .i64 x21))] [(20009,.row false 145 [.str,.int .i64,.int .i64,.int .i64] (E.e145 x9)),(20010,.row false 9 [.str] (E.eS x10))]∧Z1d.l0 n x1 x9 x10 x11 x19 x20 x21 = some (r1,r2,r3)) ⟨[1,9,10,11,19,20,21],[],[(9,145),(10,9)],[]⟩ fun n0 t ht Q0 hN0 hX0 => ?_);obtain ⟨hl,_,_,_,_,_,_,_,rfl,H⟩:=ht;rcases n0 with _ | n0;cases H;simp only [Z1d.l0] at H;(try (conv => cbv)))
  | ((with_reducible show Q0 _ _);first | exact nx_ hN0 | (refine xt_ hX0 ?_;(try (conv => cbv))))
  | ((with_reducible show Q _ _);exact en_ ⟨[4,5,6],[],[(4,145),(5,9)],[]⟩ 44 hQ)
  | contradiction
theorem Z1h.con (E:En) (hE:E = E0) {k l0 r} (H:Z1h.f k l0 = some (r)) :
  Cn 107 [.c (.sl [.str,.int .i64,.int .i64,.int .i64] (E.e145 l0))] [] (.c (.bool r)) [] []:=by
 refine co_ Tryz.func107 tabOk [] fun F hF Q hQ => ?_
 simp only [Z1h.f] at H
 (conv => cbv)
 repeat' first
  | replace H:=s_ H
  | (exfalso;with_reducible assumption)
  | (rw [Z7] at H;obtain ⟨hc,H⟩:=H)
  | (rw [Z2] at H;obtain ⟨hc,H⟩:=H)
  | ((with_reducible refine br2 hF H ?_ ?_) <;> (clear H;intro hb H;(try (conv => cbv))))
  | (refine w_ hF ?_;(try (conv => cbv)))
  | ((with_reducible refine k1_ 144 H ?_);clear H;intro _ hy H;refine ca_ hF (ZN.con E hE hy) ?_;(try (conv => cbv)))
  | ((with_reducible refine k1_ 188 H ?_);clear H;intro _ hy H;refine ca_ hF (Z3H.con E hE hy) ?_;(try (conv => cbv)))
  | ((with_reducible refine lo_ hF (fun n t => n≤k∧∃ x0 x5 x6 x7,t = At 53 [(0,.c (.sl [.str,.int .i64,.int .i64,.int .i64] (E.e145 x0))),(5,.c (.sl [.str,.int .i64,.int .i64,.int .i64] (E.e145 x5))),(6,.c (.int .i64 x6)),(7,.c (.int .i64 x7))] []∧Z1h.l0 n x0 x5 x6 x7 = some (r)) ⟨[0,5,6,7],[],[],[]⟩ fun n0 t ht Q0 hN0 hX0 => ?_);obtain ⟨hl,_,_,_,_,rfl,H⟩:=ht;rcases n0 with _ | n0;cases H;simp only [Z1h.l0] at H;(try (conv => cbv)))
  | ((with_reducible show Q0 _ _);first | exact nx_ hN0 | (refine xt_ hX0 ?_;(try (conv => cbv))))
  | ((with_reducible show Q _ _);exact en_ ⟨[2],[],[],[]⟩ 53 hQ)
  | contradiction
theorem Z2V.con (E:En) (hE:E = E0) {a0_0 a0_1 a0_2 a0_3 a1 r} (H:Z2V.f a0_0 a0_1 a0_2 a0_3 a1 = some r) :
  Cn 167 [.agg [.c (.str a0_0),.c (.int .i64 a0_1),.c (.int .i64 a0_2),.c (.int .i64 a0_3)],.c (.str a1)] [] (.c (.int .i64 r)) [] []:=by
 refine co_ Tryz.func167 Z0L [] fun F hF Q hQ => ?_
 simp only [Z2V.f] at H
 (conv => cbv)
 repeat' first
  | replace H:=s_ H
  | (exfalso;with_reducible assumption)
  | (rw [Z7] at H;obtain ⟨hc,H⟩:=H)
  | (rw [Z2] at H;obtain ⟨hc,H⟩:=H)
  | ((with_reducible refine br2 hF H ?_ ?_) <;> (clear H;intro hb H;(try (conv => cbv))))
  | (refine w_ hF ?_;(try (conv => cbv)))
  | ((with_reducible refine k1_ 168 H ?_);clear H;intro _ hy H;refine ca_ hF (Z2W.con E hE hy) ?_;(try (conv => cbv)))
  | ((with_reducible show Q _ _);exact en_ ⟨[4],[],[],[]⟩ 9 hQ)
  | contradiction
end Go.Ev
