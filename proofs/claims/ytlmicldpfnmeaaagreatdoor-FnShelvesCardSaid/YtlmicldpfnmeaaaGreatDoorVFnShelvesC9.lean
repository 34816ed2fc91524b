/- Contracts of the Go functions that this law reaches: what each call returns, by its plain function. No conditions but those that each statement names. By this repo's programs; comments are taken out. -/
import Derived.Test.YtlmicldpfnmeaaaGreatDoorVFnShelvesD
import Derived.Test.YtlmicldpfnmeaaaGreatDoorVFnShelvesK
import Derived.Test.YtlmicldpfnmeaaaGreatDoorVFnShelvesC6
import Derived.Test.YtlmicldpfnmeaaaGreatDoorVFnShelvesC7
import Derived.Test.YtlmicldpfnmeaaaGreatDoorVFnShelvesC8
set_option linter.all false
namespace Go.Ev
open Go.RowKit Go.Proofs Go.Proofs.YtlmicldpfnmeaaaGreatDoorW.PrintWords Go.Proofs.YtlmicldpfnmeaaaGreatDoorW.PrintLast Go.Proofs.YtlmicldpfnmeaaaGreatDoorW.PrintMore
set_option maxRecDepth 100000
set_option maxHeartbeats 4000000
theorem impl_reader_byte.con (E:En) (hE:E = E0) {s0_0 s0_1 s0_2 r1 r2 r3 r4} (H:impl_reader_byte.f s0_0 s0_1 s0_2 = some (r1,r2,r3,r4)) :
  Cn 206 [.ptr 10000 0] [.box [.c (.str s0_0),.c (.int .i64 s0_1),.c (.bool s0_2)]] (.c (.int .i64 r1)) [] [.box [.c (.str r2),.c (.int .i64 r3),.c (.bool r4)]]:=by
 refine co_ Tryz.func206 Z0I [] fun F hF Q hQ => ?_
 simp only [impl_reader_byte.f] at H
 (conv => cbv)
 repeat' first
  | replace H:=s_ H
  | (exfalso;with_reducible assumption)
  | (rw [Z6] at H;obtain ⟨hc,H⟩:=H)
  | (rw [Z2] at H;obtain ⟨hc,H⟩:=H)
  | ((with_reducible refine br2 hF H ?_ ?_) <;> (clear H;intro hb H;(try (conv => cbv))))
  | (refine w_ hF ?_;(try (conv => cbv)))
  | ((with_reducible show Q _ _);exact en_ ⟨[2],[],[],[]⟩ 40 hQ)
  | contradiction
theorem impl_ReadBatch_c1.con (E:En) (hE:E = E0) {k s0_0_0 s0_0_1 s0_0_2 s1_0 l1_1 r1 r2 r3 r4 r5} (H:impl_ReadBatch_c1.f k s0_0_0 s0_0_1 s0_0_2 s1_0 l1_1 = some (r1,r2,r3,r4,r5)) :
  Cn 204 [.ptr 10000 0,.ptr 10001 0] [.box [.ptr 10002 0],.box [.c (.int .i64 s1_0),.own 10003],.box [.c (.str s0_0_0),.c (.int .i64 s0_0_1),.c (.bool s0_0_2)],.row false 162 [.str,.str,.bool] (E.e162 l1_1)] (.tup []) [.row false 162 [.str,.str,.bool] (E.e162 r2)] [.box [.ptr 10002 0],.box [.c (.int .i64 r1),.own 0],.box [.c (.str r3),.c (.int .i64 r4),.c (.bool r5)],.gone]:=by
 refine co_ Tryz.func204 Z0I [600021] fun F hF Q hQ => ?_
 simp only [impl_ReadBatch_c1.f] at H
 (conv => cbv)
 repeat' first
  | replace H:=s_ H
  | (exfalso;with_reducible assumption)
  | (rw [Z6] at H;obtain ⟨hc,H⟩:=H)
  | (rw [Z2] at H;obtain ⟨hc,H⟩:=H)
  | ((with_reducible refine br2 hF H ?_ ?_) <;> (clear H;intro hb H;(try (conv => cbv))))
  | (refine w_ hF ?_;(try (conv => cbv)))
  | ((with_reducible refine k4_ 205 H ?_);clear H;intro _ _ _ _ hy H;refine ca_ hF (impl_reader_text.con E hE hy) ?_;(try (conv => cbv)))
  | ((with_reducible refine k4_ 206 H ?_);clear H;intro _ _ _ _ hy H;refine ca_ hF (impl_reader_byte.con E hE hy) ?_;(try (conv => cbv)))
  | ((with_reducible show Q _ _);exact en_ ⟨[],[],[],[(10001,1,162)]⟩ 19 hQ)
  | contradiction
theorem ZI.con (E:En) (hE:E = E0) {k s0_0 s0_1 s0_2 s1_1_0 r1 r2 r3 r4 r5} (H:ZI.f k s0_0 s0_1 s0_2 s1_1_0 = some (r1,r2,r3,r4,r5)) :
  Cn 156 [.ptr 10000 0,.clo 204 [.ptr 10001 0,.ptr 10002 0]] [.box [.c (.str s0_0),.c (.int .i64 s0_1),.c (.bool s0_2)],.box [.ptr 10000 0],.box [.c (.int .i64 s1_1_0),.nil [.str,.str,.bool]]] (.tup []) [.row false 162 [.str,.str,.bool] (E.e162 r5)] [.box [.c (.str r1),.c (.int .i64 r2),.c (.bool r3)],.box [.ptr 10000 0],.box [.c (.int .i64 r4),.own 0]]:=by
 refine co_ Tryz.func156 Z0I [600041] fun F hF Q hQ => ?_
 simp only [ZI.f] at H
 (conv => cbv)
 repeat' first
  | replace H:=s_ H
  | (exfalso;with_reducible assumption)
  | (rw [Z6] at H;obtain ⟨hc,H⟩:=H)
  | (rw [Z2] at H;obtain ⟨hc,H⟩:=H)
  | ((with_reducible refine br2 hF H ?_ ?_) <;> (clear H;intro hb H;(try (conv => cbv))))
  | (refine w_ hF ?_;(try (conv => cbv)))
  | ((with_reducible refine k4_ 158 H ?_);clear H;intro _ _ _ _ hy H;refine ca_ hF (ZK.con E hE hy) ?_;(try (conv => cbv)))
  | ((with_reducible refine k5_ 204 H ?_);clear H;intro _ _ _ _ _ hy H;refine ca_ hF (impl_ReadBatch_c1.con E hE hy) ?_;(try (conv => cbv)))
  | ((with_reducible refine lo_ hF (fun n t => n≤k∧∃ x4 x5 v0 v1 v2 v3 v4,t = At 22 [(0,.ptr 10000 0),(1,.clo 204 [.ptr 10001 0,.ptr 10002 0]),(4,.c (.int .i64 x4)),(5,.c (.int .i64 x5))] [(10000,.box [.c (.str v0),.c (.int .i64 v1),.c (.bool v2)]),(10001,.box [.ptr 10000 0]),(10002,.box [.c (.int .i64 v3),.own 600041]),(600041,.row false 162 [.str,.str,.bool] (E.e162 v4))]∧ZI.l0 n x4 x5 v0 v1 v2 v3 v4 = some (r1,r2,r3,r4,r5)) ⟨[0,1,4,5],[],[],[(10002,1,162)]⟩ fun n0 t ht Q0 hN0 hX0 => ?_);obtain ⟨hl,_,_,_,_,_,_,_,rfl,H⟩:=ht;rcases n0 with _ | n0;cases H;simp only [ZI.l0] at H;(try (conv => cbv)))
  | ((with_reducible show Q0 _ _);first | exact nx_ hN0 | (refine xt_ hX0 ?_;(try (conv => cbv))))
  | ((with_reducible show Q _ _);exact en_ ⟨[],[],[],[(10002,1,162)]⟩ 22 hQ)
  | contradiction
theorem impl_ReadBatch.con (E:En) (hE:E = E0) {k a0 r1 r2 r3} (H:impl_ReadBatch.f k a0 = some (r1,r2,r3)) :
  Cn 147 [.c (.str a0)] [] (.tup [.agg [.c (.int .i64 r1),.own 0],.c (.bool r3)]) [.row false 162 [.str,.str,.bool] (E.e162 r2)] []:=by
 refine co_ Tryz.func147 Z0I [400041] fun F hF Q hQ => ?_
 simp only [impl_ReadBatch.f] at H
 (conv => cbv)
 repeat' first
  | replace H:=s_ H
  | (exfalso;with_reducible assumption)
  | (rw [Z6] at H;obtain ⟨hc,H⟩:=H)
  | (rw [Z2] at H;obtain ⟨hc,H⟩:=H)
  | ((with_reducible refine br2 hF H ?_ ?_) <;> (clear H;intro hb H;(try (conv => cbv))))
  | (refine w_ hF ?_;(try (conv => cbv)))
  | ((with_reducible refine k4_ 158 H ?_);clear H;intro _ _ _ _ hy H;refine ca_ hF (ZK.con E hE hy) ?_;(try (conv => cbv)))
  | ((with_reducible refine k5_ 156 H ?_);clear H;intro _ _ _ _ _ hy H;refine ca_ hF (ZI.con E hE hy) ?_;(try (conv => cbv)))
  | ((with_reducible refine k2_ 99 H ?_);clear H;intro _ _ hy H;refine ca_ hF (Z0j.con E hE hy) ?_;(try (conv => cbv)))
  | ((with_reducible show Q _ _);exact en_ ⟨[2,3],[2],[],[(2,1,162)]⟩ 37 hQ)
  | contradiction
theorem ZT.con (E:En) (hE:E = E0) {k a0 r1 r2} (H:ZT.f k a0 = some (r1,r2)) :
  Cn 70 [.c (.str a0)] [] (.tup [.own 0,.c (.int .i64 r2)]) [.row false 113 [.int .i64,.sl [.str,.str,.bool],.str,.int .i64] (E.e113 r1)] []:=by
 refine co_ Tryz.func70 tabOk [20002] fun F hF Q hQ => ?_
 simp only [ZT.f] at H
 (conv => cbv)
 repeat' first
  | replace H:=s_ H
  | (exfalso;with_reducible assumption)
  | (rw [Z6] at H;obtain ⟨hc,H⟩:=H)
  | (rw [Z2] at H;obtain ⟨hc,H⟩:=H)
  | ((with_reducible refine br2 hF H ?_ ?_) <;> (clear H;intro hb H;(try (conv => cbv))))
  | (refine w_ hF ?_;(try (conv => cbv)))
  | ((with_reducible refine k2_ 100 H ?_);clear H;intro _ _ hy H;refine ca_ hF (impl_Frame.con E hE hy) ?_;(try (conv => cbv)))
  | ((with_reducible refine k2_ 146 H ?_);clear H;intro _ _ hy H;refine ca_ hF (ZO.con E hE hy) ?_;(try (conv => cbv)))
  | ((with_reducible refine k3_ 147 H ?_);clear H;intro _ _ _ hy H;refine ca_ hF (impl_ReadBatch.con E hE hy) ?_;(try (conv => cbv)))
  | ((with_reducible refine lo_ hF (fun n t => n≤k∧∃ x6 x7 x19 x20 x21,t = At 54 [(6,.own 20006),(7,.c (.int .i64 x7)),(19,.c (.sl [.str] (E.eS x19))),(20,.c (.int .i64 x20)),(21,.c (.int .i64 x21))] [(20006,.row false 113 [.int .i64,.sl [.str,.str,.bool],.str,.int .i64] (E.e113 x6))]∧ZT.l0 n x6 x7 x19 x20 x21 = some (r1,r2)) ⟨[6,7,19,20,21],[],[(6,113)],[]⟩ fun n0 t ht Q0 hN0 hX0 => ?_);obtain ⟨hl,_,_,_,_,_,rfl,H⟩:=ht;rcases n0 with _ | n0;cases H;simp only [ZT.l0] at H;(try (conv => cbv)))
  | ((with_reducible show Q0 _ _);first | exact nx_ hN0 | (refine xt_ hX0 ?_;(try (conv => cbv))))
  | ((with_reducible show Q _ _);exact en_ ⟨[2,3],[],[(2,113)],[]⟩ 54 hQ)
  | contradiction
theorem Z0T.con (E:En) (hE:E = E0) {k a0_0 l0_1 a0_2 a0_3 a1 r} (H:Z0T.f k a0_0 l0_1 a0_2 a0_3 a1 = some (r)) :
  Cn 165 [.agg [.c (.int .i64 a0_0),.c (.sl [.str,.str,.bool] (E.e162 l0_1)),.c (.str a0_2),.c (.int .i64 a0_3)],.c (.int .i64 a1)] [] (.own 0) [.row false 145 [.str,.int .i64,.int .i64,.int .i64] (E.e145 r)] []:=by
 refine co_ Tryz.func165 tabOk [20004] fun F hF Q hQ => ?_
 simp only [Z0T.f] at H
 (conv => cbv)
 repeat' first
  | replace H:=s_ H
  | (exfalso;with_reducible assumption)
  | (rw [Z6] at H;obtain ⟨hc,H⟩:=H)
  | (rw [Z2] at H;obtain ⟨hc,H⟩:=H)
  | ((with_reducible refine br2 hF H ?_ ?_) <;> (clear H;intro hb H;(try (conv => cbv))))
  | (refine w_ hF ?_;(try (conv => cbv)))
  | ((with_reducible refine k2_ 180 H ?_);clear H;intro _ _ hy H;refine ca_ hF (impl_vars.con E hE hy) ?_;(try (conv => cbv)))
  | ((with_reducible refine k1_ 181 H ?_);clear H;intro _ hy H;refine ca_ hF (impl_short.con E hE hy) ?_;(try (conv => cbv)))
  | ((with_reducible refine lo_ hF (fun n t => n≤k∧∃ x1 x7 x8 x31 x32 x33,t = At 76 [(1,.c (.int .i64 x1)),(7,.c (.int .i64 x7)),(8,.own 20008),(31,.c (.sl [.str,.str,.bool] (E.e162 x31))),(32,.c (.int .i64 x32)),(33,.c (.int .i64 x33))] [(20008,.row false 145 [.str,.int .i64,.int .i64,.int .i64] (E.e145 x8))]∧Z0T.l0 n x1 x7 x8 x31 x32 x33 = some (r)) ⟨[1,7,8,31,32,33],[],[(8,145)],[]⟩ fun n0 t ht Q0 hN0 hX0 => ?_);obtain ⟨hl,_,_,_,_,_,_,rfl,H⟩:=ht;rcases n0 with _ | n0;cases H;simp only [Z0T.l0] at H;(try (conv => cbv)))
  | ((with_reducible show Q0 _ _);first | exact nx_ hN0 | (refine xt_ hX0 ?_;(try (conv => cbv))))
  | ((with_reducible show Q _ _);exact en_ ⟨[4],[],[(4,145)],[]⟩ 76 hQ)
  | contradiction
theorem Z18.con (E:En) (hE:E = E0) {k a0 a1 r1 r2 r3} (H:Z18.f k a0 a1 = some (r1,r2,r3)) :
  Cn 81 [.c (.str a0),.c (.int .i64 a1)] [] (.tup [.own 0,.own 1,.c (.int .i64 r3)]) [.row false 145 [.str,.int .i64,.int .i64,.int .i64] (E.e145 r1),.row false 9 [.str] (E.eS r2)] []:=by
 refine co_ Tryz.func81 tabOk [20004,20005] fun F hF Q hQ => ?_
 simp only [Z18.f] at H
 (conv => cbv)
 repeat' first
  | replace H:=s_ H
  | (exfalso;with_reducible assumption)
  | (rw [Z6] at H;obtain ⟨hc,H⟩:=H)
  | (rw [Z2] at H;obtain ⟨hc,H⟩:=H)
  | ((with_reducible refine br2 hF H ?_ ?_) <;> (clear H;intro hb H;(try (conv => cbv))))
  | (refine w_ hF ?_;(try (conv => cbv)))
  | ((with_reducible refine k2_ 70 H ?_);clear H;intro _ _ hy H;refine ca_ hF (ZT.con E hE hy) ?_;(try (conv => cbv)))
  | ((with_reducible refine k1_ 165 H ?_);clear H;intro _ hy H;refine ca_ hF (Z0T.con E hE hy) ?_;(try (conv => cbv)))
  | ((with_reducible refine lo_ hF (fun n t => n≤k∧∃ x1 x9 x10 x11 x19 x20 x21,t = At 44 [(1,.c (.int .i64 x1)),(9,.own 20009),(10,.own 20010),(11,.c (.int .i64 x11)),(19,.c (.sl [.int .i64,.sl [.str,.str,.bool],.str,.int .i64] (E.e113 x19))),(20,.c (.int .i64 x20)),(21,.c (.int .i64 x21))] [(20009,.row false 145 [.str,.int .i64,.int .i64,.int .i64] (E.e145 x9)),(20010,.row false 9 [.str] (E.eS x10))]∧Z18.l0 n x1 x9 x10 x11 x19 x20 x21 = some (r1,r2,r3)) ⟨[1,9,10,11,19,20,21],[],[(9,145),(10,9)],[]⟩ fun n0 t ht Q0 hN0 hX0 => ?_);obtain ⟨hl,_,_,_,_,_,_,_,rfl,H⟩:=ht;rcases n0 with _ | n0;cases H;simp only [Z18.l0] at H;(try (conv => cbv)))
  | ((with_reducible show Q0 _ _);first | exact nx_ hN0 | (refine xt_ hX0 ?_;(try (conv => cbv))))
  | ((with_reducible show Q _ _);exact en_ ⟨[4,5,6],[],[(4,145),(5,9)],[]⟩ 44 hQ)
  | contradiction
theorem impl_DirMore_c1.con (E:En) (hE:E = E0) {a0_0 a0_1 a0_2 a0_3 a1 r} (H:impl_DirMore_c1.f a0_0 a0_1 a0_2 a0_3 a1 = some r) :
  Cn 167 [.agg [.c (.str a0_0),.c (.int .i64 a0_1),.c (.int .i64 a0_2),.c (.int .i64 a0_3)],.c (.str a1)] [] (.c (.int .i64 r)) [] []:=by
 refine co_ Tryz.func167 Z0I [] fun F hF Q hQ => ?_
 simp only [impl_DirMore_c1.f] at H
 (conv => cbv)
 repeat' first
  | replace H:=s_ H
  | (exfalso;with_reducible assumption)
  | (rw [Z6] at H;obtain ⟨hc,H⟩:=H)
  | (rw [Z2] at H;obtain ⟨hc,H⟩:=H)
  | ((with_reducible refine br2 hF H ?_ ?_) <;> (clear H;intro hb H;(try (conv => cbv))))
  | (refine w_ hF ?_;(try (conv => cbv)))
  | ((with_reducible refine k1_ 168 H ?_);clear H;intro _ hy H;refine ca_ hF (strings_Compare.con E hE hy) ?_;(try (conv => cbv)))
  | ((with_reducible show Q _ _);exact en_ ⟨[4],[],[],[]⟩ 9 hQ)
  | contradiction
theorem Z1.con (E:En) (hE:E = E0) {k l0 a1 r1 r2} (H:Z1.f k l0 a1 = some (r1,r2)) :
  Cn 166 [.c (.sl [.str,.int .i64,.int .i64,.int .i64] (E.e145 l0)),.c (.str a1),.c (.fn 167)] [] (.tup [.c (.int .i64 r1),.c (.bool r2)]) [] []:=by
 refine co_ Tryz.func166 Z0I [] fun F hF Q hQ => ?_
 simp only [Z1.f] at H
 (conv => cbv)
 repeat' first
  | replace H:=s_ H
  | (exfalso;with_reducible assumption)
  | (rw [Z6] at H;obtain ⟨hc,H⟩:=H)
  | (rw [Z2] at H;obtain ⟨hc,H⟩:=H)
  | ((with_reducible refine br2 hF H ?_ ?_) <;> (clear H;intro hb H;(try (conv => cbv))))
  | (refine w_ hF ?_;(try (conv => cbv)))
  | ((with_reducible refine k1_ 167 H ?_);clear H;intro _ hy H;refine ca_ hF (impl_DirMore_c1.con E hE hy) ?_;(try (conv => cbv)))
  | ((with_reducible refine lo_ hF (fun n t => n≤k∧∃ x0 x1 x8 x9 x10,t = At 49 [(0,.c (.sl [.str,.int .i64,.int .i64,.int .i64] (E.e145 x0))),(1,.c (.str x1)),(2,.c (.fn 167)),(8,.c (.int .i64 x8)),(9,.c (.int .i64 x9)),(10,.c (.int .i64 x10))] []∧Z1.l0 n x0 x1 x8 x9 x10 = some (r1,r2)) ⟨[0,1,2,8,9,10],[],[],[]⟩ fun n0 t ht Q0 hN0 hX0 => ?_);obtain ⟨hl,_,_,_,_,_,rfl,H⟩:=ht;rcases n0 with _ | n0;cases H;simp only [Z1.l0] at H;(try (conv => cbv)))
  | ((with_reducible show Q0 _ _);first | exact nx_ hN0 | (refine xt_ hX0 ?_;(try (conv => cbv))))
  | ((with_reducible show Q _ _);exact en_ ⟨[6,7],[],[],[]⟩ 49 hQ)
  | contradiction
theorem Z0k.con (E:En) (hE:E = E0) {k l0 l1 r1 r2} (H:Z0k.f k l0 l1 = some (r1,r2)) :
  Cn 82 [.c (.sl [.str,.int .i64,.int .i64,.int .i64] (E.e145 l0)),.c (.sl [.str,.int .i64,.int .i64,.int .i64] (E.e145 l1))] [] (.tup [.own 0,.c (.bool r2)]) [.row false 145 [.str,.int .i64,.int .i64,.int .i64] (E.e145 r1)] []:=by
 refine co_ Tryz.func82 Z0I [20004] fun F hF Q hQ => ?_
 simp only [Z0k.f] at H
 (conv => cbv)
 repeat' first
  | replace H:=s_ H
  | (exfalso;with_reducible assumption)
  | (rw [Z6] at H;obtain ⟨hc,H⟩:=H)
  | (rw [Z2] at H;obtain ⟨hc,H⟩:=H)
  | ((with_reducible refine br2 hF H ?_ ?_) <;> (clear H;intro hb H;(try (conv => cbv))))
  | (refine w_ hF ?_;(try (conv => cbv)))
  | ((with_reducible refine k1_ 107 H ?_);clear H;intro _ hy H;refine ca_ hF (Z1b.con E hE hy) ?_;(try (conv => cbv)))
  | ((with_reducible refine k2_ 166 H ?_);clear H;intro _ _ hy H;refine ca_ hF (Z1.con E hE hy) ?_;(try (conv => cbv)))
  | ((with_reducible refine k1_ 169 H ?_);clear H;intro _ hy H;refine ca_ hF (Z0c.con E hE hy) ?_;(try (conv => cbv)))
  | ((with_reducible refine k2_ 170 H ?_);clear H;intro _ _ hy H;refine ca_ hF (ZW.con E hE hy) ?_;(try (conv => cbv)))
  | ((with_reducible refine lo_ hF (fun n t => n≤k∧∃ x6 x16 x17 x18,t = At 61 [(6,.own 20006),(16,.c (.sl [.str,.int .i64,.int .i64,.int .i64] (E.e145 x16))),(17,.c (.int .i64 x17)),(18,.c (.int .i64 x18))] [(20006,.row false 145 [.str,.int .i64,.int .i64,.int .i64] (E.e145 x6))]∧Z0k.l0 n x6 x16 x17 x18 = some (r1,r2)) ⟨[6,16,17,18],[],[(6,145)],[]⟩ fun n0 t ht Q0 hN0 hX0 => ?_);obtain ⟨hl,_,_,_,_,rfl,H⟩:=ht;rcases n0 with _ | n0;cases H;simp only [Z0k.l0] at H;(try (conv => cbv)))
  | ((with_reducible show Q0 _ _);first | exact nx_ hN0 | (refine xt_ hX0 ?_;(try (conv => cbv))))
  | ((with_reducible show Q _ _);exact en_ ⟨[4,5],[],[(4,145)],[]⟩ 61 hQ)
  | contradiction
theorem Zm.con (E:En) (hE:E = E0) {k l0_0 r1 r2 r3 r4 r5 r6 r7 r8 r9} (H:Zm.f k l0_0 = some (r1,r2,r3,r4,r5,r6,r7,r8,r9)) :
  Cn 21 [.agg [.c (.sl [.str,.str] (E.e122 l0_0))]] [] (.tup [.agg [.own 0,.c (.int .i64 r2),.c (.int .i64 r3),.c (.int .i64 r4),.own 1,.own 2,.c (.int .i64 r7)],.own 3,.c (.int .i64 r9)]) [.row false 3 [.int .i64] (E.eI .i64 r1),.row false 3 [.int .i64] (E.eI .i64 r5),.row false 145 [.str,.int .i64,.int .i64,.int .i64] (E.e145 r6),.row false 119 [.int .i64,.str,.str,.str] (E.e119 r8)] []:=by
 refine co_ Tryz.func21 Z0I [400040,400044,400045,20003] fun F hF Q hQ => ?_
 simp only [Zm.f] at H
 (conv => cbv)
 repeat' first
  | replace H:=s_ H
  | (exfalso;with_reducible assumption)
  | (rw [Z6] at H;obtain ⟨hc,H⟩:=H)
  | (rw [Z2] at H;obtain ⟨hc,H⟩:=H)
  | ((with_reducible refine br2 hF H ?_ ?_) <;> (clear H;intro hb H;(try (conv => cbv))))
  | (refine w_ hF ?_;(try (conv => cbv)))
  | ((with_reducible refine k1_ 78 H ?_);clear H;intro _ hy H;refine ca_ hF (ZX.con E hE hy) ?_;(try (conv => cbv)))
  | ((with_reducible refine k2_ 68 H ?_);clear H;intro _ _ hy H;refine ca_ hF (Z16.con E hE hy) ?_;(try (conv => cbv)))
  | ((with_reducible refine k6_ 79 H ?_);clear H;intro _ _ _ _ _ _ hy H;refine ca_ hF (Z0P.con E hE hy) ?_;(try (conv => cbv)))
  | ((with_reducible refine k1_ 69 H ?_);clear H;intro _ hy H;refine ca_ hF (Z0f.con E hE hy) ?_;(try (conv => cbv)))
  | ((with_reducible refine k1_ 80 H ?_);clear H;intro _ hy H;refine ca_ hF (Z0g.con E hE hy) ?_;(try (conv => cbv)))
  | ((with_reducible refine k3_ 81 H ?_);clear H;intro _ _ _ hy H;refine ca_ hF (Z18.con E hE hy) ?_;(try (conv => cbv)))
  | ((with_reducible refine k2_ 70 H ?_);clear H;intro _ _ hy H;refine ca_ hF (ZT.con E hE hy) ?_;(try (conv => cbv)))
  | ((with_reducible refine k2_ 82 H ?_);clear H;intro _ _ hy H;refine ca_ hF (Z0k.con E hE hy) ?_;(try (conv => cbv)))
  | ((with_reducible refine lo_ hF (fun n t => n≤k∧∃ x49 x50 x51 v0 v1 v2 v3 v4 v5 v6 v7 v8 v9 v10 v11,t = At 147 [(1,.ptr 1 0),(2,.ptr 2 0),(7,.ptr 7 0),(49,.own 20049),(50,.c (.int .i64 x50)),(51,.c (.int .i64 x51))] [(1,.box [.c (.sl [.str,.str] (E.e122 v0))]),(2,.box [.own 400040,.c (.int .i64 v2),.c (.int .i64 v3),.c (.int .i64 v4),.own 400044,.own 400045,.c (.int .i64 v7)]),(7,.box [.own 20049,.c (.int .i64 v8),.c (.int .i64 v9),.c (.int .i64 v10),.own 400144]),(20049,.row false 3 [.int .i64] (E.eI .i64 x49)),(400040,.row false 3 [.int .i64] (E.eI .i64 v1)),(400044,.row false 3 [.int .i64] (E.eI .i64 v5)),(400045,.row false 145 [.str,.int .i64,.int .i64,.int .i64] (E.e145 v6)),(400144,.row false 3 [.int .i64] (E.eI .i64 v11))]∧Zm.l0 n x49 x50 x51 v0 v1 v2 v3 v4 v5 v6 v7 v8 v9 v10 v11 = some (r1,r2,r3,r4,r5,r6,r7,r8,r9)) ⟨[1,2,7,49,50,51],[1,2,7],[(49,3)],[(2,0,3),(2,4,3),(2,5,145),(7,4,3)]⟩ fun n0 t ht Q0 hN0 hX0 => ?_);obtain ⟨hl,_,_,_,_,_,_,_,_,_,_,_,_,_,_,_,rfl,H⟩:=ht;rcases n0 with _ | n0;cases H;simp only [Zm.l0] at H;(try (conv => cbv)))
  | ((with_reducible show Q0 _ _);first | exact nx_ hN0 | (refine xt_ hX0 ?_;(try (conv => cbv))))
  | ((with_reducible refine lo_ hF (fun n t => n≤k∧∃ x14 x15 x74 x75 x76 v0 v1 v2 v3 v4 v5 v6 v7 v8 v9 v10 v11 v12 v13 v14 v15 v16,t = At 147 [(1,.ptr 1 0),(2,.ptr 2 0),(7,.ptr 7 0),(13,.ptr 13 0),(14,.own 20014),(15,.own 20015),(74,.own 20074),(75,.c (.int .i64 x75)),(76,.c (.int .i64 x76))] [(1,.box [.c (.sl [.str,.str] (E.e122 v0))]),(2,.box [.own 400040,.c (.int .i64 v2),.c (.int .i64 v3),.c (.int .i64 v4),.own 400044,.own 400045,.c (.int .i64 v7)]),(7,.box [.own 20074,.c (.int .i64 v8),.c (.int .i64 v9),.c (.int .i64 v10),.own 400144]),(13,.box [.own 20074,.c (.int .i64 v12),.c (.int .i64 v13),.c (.int .i64 v14),.own 400144,.own 400265,.c (.int .i64 v16)]),(20014,.row false 119 [.int .i64,.str,.str,.str] (E.e119 x14)),(20015,.row false 145 [.str,.int .i64,.int .i64,.int .i64] (E.e145 x15)),(20074,.row false 3 [.int .i64] (E.eI .i64 x74)),(400040,.row false 3 [.int .i64] (E.eI .i64 v1)),(400044,.row false 3 [.int .i64] (E.eI .i64 v5)),(400045,.row false 145 [.str,.int .i64,.int .i64,.int .i64] (E.e145 v6)),(400144,.row false 3 [.int .i64] (E.eI .i64 v11)),(400265,.row false 145 [.str,.int .i64,.int .i64,.int .i64] (E.e145 v15))]∧Zm.l1 n x14 x15 x74 x75 x76 v0 v1 v2 v3 v4 v5 v6 v7 v8 v9 v10 v11 v12 v13 v14 v15 v16 = some (r1,r2,r3,r4,r5,r6,r7,r8,r9)) ⟨[1,2,7,13,14,15,74,75,76],[1,2,7,13],[(14,119),(15,145),(74,3)],[(2,0,3),(2,4,3),(2,5,145),(7,4,3),(13,5,145)]⟩ fun n1 t ht Q1 hN1 hX1 => ?_);obtain ⟨hl,_,_,_,_,_,_,_,_,_,_,_,_,_,_,_,_,_,_,_,_,_,_,rfl,H⟩:=ht;rcases n1 with _ | n1;cases H;simp only [Zm.l1] at H;(try (conv => cbv)))
  | ((with_reducible show Q1 _ _);first | exact nx_ hN1 | (refine xt_ hX1 ?_;(try (conv => cbv))))
  | ((with_reducible show Q _ _);exact en_ ⟨[2,3,4],[2],[(3,119)],[(2,0,3),(2,4,3),(2,5,145)]⟩ 147 hQ)
  | contradiction
theorem ZG.con (E:En) (hE:E = E0) {k l0 l1 r} (H:ZG.f k l0 l1 = some r) :
  Cn 199 [.c (.sl [.int .i64] (E.eI .i64 l0)),.c (.sl [.int .i64] (E.eI .i64 l1))] [] (.c (.bool r)) [] []:=by
 refine co_ Tryz.func199 Z0I [] fun F hF Q hQ => ?_
 simp only [ZG.f] at H
 (conv => cbv)
 repeat' first
  | replace H:=s_ H
  | (exfalso;with_reducible assumption)
  | (rw [Z6] at H;obtain ⟨hc,H⟩:=H)
  | (rw [Z2] at H;obtain ⟨hc,H⟩:=H)
  | ((with_reducible refine br2 hF H ?_ ?_) <;> (clear H;intro hb H;(try (conv => cbv))))
  | (refine w_ hF ?_;(try (conv => cbv)))
  | ((with_reducible refine lo_ hF (fun n t => n≤k∧∃ x0 x1 x12 x13,t = At 26 [(0,.c (.sl [.int .i64] (E.eI .i64 x0))),(1,.c (.sl [.int .i64] (E.eI .i64 x1))),(12,.c (.int .i64 x12)),(13,.c (.int .i64 x13))] []∧ZG.l0 n x0 x1 x12 x13 = some r) ⟨[0,1,12,13],[],[],[]⟩ fun n0 t ht Q0 hN0 hX0 => ?_);obtain ⟨hl,_,_,_,_,rfl,H⟩:=ht;rcases n0 with _ | n0;cases H;simp only [ZG.l0] at H;(try (conv => cbv)))
  | ((with_reducible show Q0 _ _);first | exact nx_ hN0 | (refine xt_ hX0 ?_;(try (conv => cbv))))
  | ((with_reducible show Q _ _);exact en_ ⟨[4],[],[],[]⟩ 26 hQ)
  | contradiction
end Go.Ev
