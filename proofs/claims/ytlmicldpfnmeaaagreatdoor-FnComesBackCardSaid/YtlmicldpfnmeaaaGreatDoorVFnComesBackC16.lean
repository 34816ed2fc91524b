/- Contracts of the Go functions that this law reaches: what each call returns, by its plain function. No conditions but those that each statement names. By this repo's programs; comments are taken out. -/
import Derived.Test.YtlmicldpfnmeaaaGreatDoorVFnComesBackD
import Derived.Test.YtlmicldpfnmeaaaGreatDoorVFnComesBackK
import Derived.Test.YtlmicldpfnmeaaaGreatDoorVFnComesBackC11
import Derived.Test.YtlmicldpfnmeaaaGreatDoorVFnComesBackC12
import Derived.Test.YtlmicldpfnmeaaaGreatDoorVFnComesBackC13
import Derived.Test.YtlmicldpfnmeaaaGreatDoorVFnComesBackC14
import Derived.Test.YtlmicldpfnmeaaaGreatDoorVFnComesBackC15
set_option linter.all false
namespace Go.Ev
open Go.RowKit Go.Proofs Go.Proofs.YtlmicldpfnmeaaaGreatDoorW.PrintWords Go.Proofs.YtlmicldpfnmeaaaGreatDoorW.PrintLast Go.Proofs.YtlmicldpfnmeaaaGreatDoorW.PrintMore
set_option maxRecDepth 100000
set_option maxHeartbeats 4000000
theorem Z0.con (E:En) (hE:E = E0) {k l0 a1 r1 r2} (H:Z0.f k l0 a1 = some (r1,r2)) :
  Cn 166 [.c (.sl [.str,.int .i64,.int .i64,.int .i64] (E.e145 l0)),.c (.str a1),.c (.fn 167)] [] (.tup [.c (.int .i64 r1),.c (.bool r2)]) [] []:=by
 refine co_ Tryz.func166 Z0L [] fun F hF Q hQ => ?_
 simp only [Z0.f] at H
 (conv => cbv)
 repeat' first
  | replace H:=s_ H
  | (exfalso;with_reducible assumption)
  | (rw [Z7] at H;obtain ⟨hc,H⟩:=H)
  | (rw [Z2] at H;obtain ⟨hc,H⟩:=H)
  | ((with_reducible refine br2 hF H ?_ ?_) <;> (clear H;intro hb H;(try (conv => cbv))))
  | (refine w_ hF ?_;(try (conv => cbv)))
  | ((with_reducible refine k1_ 167 H ?_);clear H;intro _ hy H;refine ca_ hF (Z2V.con E hE hy) ?_;(try (conv => cbv)))
  | ((with_reducible refine lo_ hF (fun n t => n≤k∧∃ x0 x1 x8 x9 x10,t = At 49 [(0,.c (.sl [.str,.int .i64,.int .i64,.int .i64] (E.e145 x0))),(1,.c (.str x1)),(2,.c (.fn 167)),(8,.c (.int .i64 x8)),(9,.c (.int .i64 x9)),(10,.c (.int .i64 x10))] []∧Z0.l0 n x0 x1 x8 x9 x10 = some (r1,r2)) ⟨[0,1,2,8,9,10],[],[],[]⟩ fun n0 t ht Q0 hN0 hX0 => ?_);obtain ⟨hl,_,_,_,_,_,rfl,H⟩:=ht;rcases n0 with _ | n0;cases H;simp only [Z0.l0] at H;(try (conv => cbv)))
  | ((with_reducible show Q0 _ _);first | exact nx_ hN0 | (refine xt_ hX0 ?_;(try (conv => cbv))))
  | ((with_reducible show Q _ _);exact en_ ⟨[6,7],[],[],[]⟩ 49 hQ)
  | contradiction
theorem Z0s.con (E:En) (hE:E = E0) {k l0 l1 r1 r2} (H:Z0s.f k l0 l1 = some (r1,r2)) :
  Cn 82 [.c (.sl [.str,.int .i64,.int .i64,.int .i64] (E.e145 l0)),.c (.sl [.str,.int .i64,.int .i64,.int .i64] (E.e145 l1))] [] (.tup [.own 0,.c (.bool r2)]) [.row false 145 [.str,.int .i64,.int .i64,.int .i64] (E.e145 r1)] []:=by
 refine co_ Tryz.func82 Z0L [20004] fun F hF Q hQ => ?_
 simp only [Z0s.f] at H
 (conv => cbv)
 repeat' first
  | replace H:=s_ H
  | (exfalso;with_reducible assumption)
  | (rw [Z7] at H;obtain ⟨hc,H⟩:=H)
  | (rw [Z2] at H;obtain ⟨hc,H⟩:=H)
  | ((with_reducible refine br2 hF H ?_ ?_) <;> (clear H;intro hb H;(try (conv => cbv))))
  | (refine w_ hF ?_;(try (conv => cbv)))
  | ((with_reducible refine k1_ 107 H ?_);clear H;intro _ hy H;refine ca_ hF (Z1h.con E hE hy) ?_;(try (conv => cbv)))
  | ((with_reducible refine k2_ 166 H ?_);clear H;intro _ _ hy H;refine ca_ hF (Z0.con E hE hy) ?_;(try (conv => cbv)))
  | ((with_reducible refine k1_ 169 H ?_);clear H;intro _ hy H;refine ca_ hF (Z0i.con E hE hy) ?_;(try (conv => cbv)))
  | ((with_reducible refine k2_ 170 H ?_);clear H;intro _ _ hy H;refine ca_ hF (Z03.con E hE hy) ?_;(try (conv => cbv)))
  | ((with_reducible refine lo_ hF (fun n t => n≤k∧∃ x6 x16 x17 x18,t = At 61 [(6,.own 20006),(16,.c (.sl [.str,.int .i64,.int .i64,.int .i64] (E.e145 x16))),(17,.c (.int .i64 x17)),(18,.c (.int .i64 x18))] [(20006,.row false 145 [.str,.int .i64,.int .i64,.int .i64] (E.e145 x6))]∧Z0s.l0 n x6 x16 x17 x18 = some (r1,r2)) ⟨[6,16,17,18],[],[(6,145)],[]⟩ fun n0 t ht Q0 hN0 hX0 => ?_);obtain ⟨hl,_,_,_,_,rfl,H⟩:=ht;rcases n0 with _ | n0;cases H;simp only [Z0s.l0] at H;(try (conv => cbv)))
  | ((with_reducible show Q0 _ _);first | exact nx_ hN0 | (refine xt_ hX0 ?_;(try (conv => cbv))))
  | ((with_reducible show Q _ _);exact en_ ⟨[4,5],[],[(4,145)],[]⟩ 61 hQ)
  | contradiction
theorem Zm.con (E:En) (hE:E = E0) {k l0_0 r1 r2 r3 r4 r5 r6 r7 r8 r9} (H:Zm.f k l0_0 = some (r1,r2,r3,r4,r5,r6,r7,r8,r9)) :
  Cn 21 [.agg [.c (.sl [.str,.str] (E.e122 l0_0))]] [] (.tup [.agg [.own 0,.c (.int .i64 r2),.c (.int .i64 r3),.c (.int .i64 r4),.own 1,.own 2,.c (.int .i64 r7)],.own 3,.c (.int .i64 r9)]) [.row false 3 [.int .i64] (E.eI .i64 r1),.row false 3 [.int .i64] (E.eI .i64 r5),.row false 145 [.str,.int .i64,.int .i64,.int .i64] (E.e145 r6),.row false 119 [.int .i64,.str,.str,.str] (E.e119 r8)] []:=by
 refine co_ Tryz.func21 Z0L [400040,400044,400045,20003] fun F hF Q hQ => ?_
 simp only [Zm.f] at H
 (conv => cbv)
 repeat' first
  | replace H:=s_ H
  | (exfalso;with_reducible assumption)
  | (rw [Z7] at H;obtain ⟨hc,H⟩:=H)
  | (rw [Z2] at H;obtain ⟨hc,H⟩:=H)
  | ((with_reducible refine br2 hF H ?_ ?_) <;> (clear H;intro hb H;(try (conv => cbv))))
  | (refine w_ hF ?_;(try (conv => cbv)))
  | ((with_reducible refine k1_ 78 H ?_);clear H;intro _ hy H;refine ca_ hF (Z02.con E hE hy) ?_;(try (conv => cbv)))
  | ((with_reducible refine k2_ 68 H ?_);clear H;intro _ _ hy H;refine ca_ hF (Z1g.con E hE hy) ?_;(try (conv => cbv)))
  | ((with_reducible refine k6_ 79 H ?_);clear H;intro _ _ _ _ _ _ hy H;refine ca_ hF (Z0U.con E hE hy) ?_;(try (conv => cbv)))
  | ((with_reducible refine k1_ 69 H ?_);clear H;intro _ hy H;refine ca_ hF (Z0l.con E hE hy) ?_;(try (conv => cbv)))
  | ((with_reducible refine k1_ 80 H ?_);clear H;intro _ hy H;refine ca_ hF (Z0r.con E hE hy) ?_;(try (conv => cbv)))
  | ((with_reducible refine k3_ 81 H ?_);clear H;intro _ _ _ hy H;refine ca_ hF (Z1d.con E hE hy) ?_;(try (conv => cbv)))
  | ((with_reducible refine k2_ 70 H ?_);clear H;intro _ _ hy H;refine ca_ hF (ZW.con E hE hy) ?_;(try (conv => cbv)))
  | ((with_reducible refine k2_ 82 H ?_);clear H;intro _ _ hy H;refine ca_ hF (Z0s.con E hE hy) ?_;(try (conv => cbv)))
  | ((with_reducible refine lo_ hF (fun n t => n≤k∧∃ x49 x50 x51 v0 v1 v2 v3 v4 v5 v6 v7 v8 v9 v10 v11,t = At 147 [(1,.ptr 1 0),(2,.ptr 2 0),(7,.ptr 7 0),(49,.own 20049),(50,.c (.int .i64 x50)),(51,.c (.int .i64 x51))] [(1,.box [.c (.sl [.str,.str] (E.e122 v0))]),(2,.box [.own 400040,.c (.int .i64 v2),.c (.int .i64 v3),.c (.int .i64 v4),.own 400044,.own 400045,.c (.int .i64 v7)]),(7,.box [.own 20049,.c (.int .i64 v8),.c (.int .i64 v9),.c (.int .i64 v10),.own 400144]),(20049,.row false 3 [.int .i64] (E.eI .i64 x49)),(400040,.row false 3 [.int .i64] (E.eI .i64 v1)),(400044,.row false 3 [.int .i64] (E.eI .i64 v5)),(400045,.row false 145 [.str,.int .i64,.int .i64,.int .i64] (E.e145 v6)),(400144,.row false 3 [.int .i64] (E.eI .i64 v11))]∧Zm.l0 n x49 x50 x51 v0 v1 v2 v3 v4 v5 v6 v7 v8 v9 v10 v11 = some (r1,r2,r3,r4,r5,r6,r7,r8,r9)) ⟨[1,2,7,49,50,51],[1,2,7],[(49,3)],[(2,0,3),(2,4,3),(2,5,145),(7,4,3)]⟩ fun n0 t ht Q0 hN0 hX0 => ?_);obtain ⟨hl,_,_,_,_,_,_,_,_,_,_,_,_,_,_,_,rfl,H⟩:=ht;rcases n0 with _ | n0;cases H;simp only [Zm.l0] at H;(try (conv => cbv)))
  | ((with_reducible show Q0 _ _);first | exact nx_ hN0 | (refine xt_ hX0 ?_;(try (conv => cbv))))
  | ((with_reducible refine lo_ hF (fun n t => n≤k∧∃ x14 x15 x74 x75 x76 v0 v1 v2 v3 v4 v5 v6 v7 v8 v9 v10 v11 v12 v13 v14 v15 v16,t = At 147 [(1,.ptr 1 0),(2,.ptr 2 0),(7,.ptr 7 0),(13,.ptr 13 0),(14,.own 20014),(15,.own 20015),(74,.own 20074),(75,.c (.int .i64 x75)),(76,.c (.int .i64 x76))] [(1,.box [.c (.sl [.str,.str] (E.e122 v0))]),(2,.box [.own 400040,.c (.int .i64 v2),.c (.int .i64 v3),.c (.int .i64 v4),.own 400044,.own 400045,.c (.int .i64 v7)]),(7,.box [.own 20074,.c (.int .i64 v8),.c (.int .i64 v9),.c (.int .i64 v10),.own 400144]),(13,.box [.own 20074,.c (.int .i64 v12),.c (.int .i64 v13),.c (.int .i64 v14),.own 400144,.own 400265,.c (.int .i64 v16)]),(20014,.row false 119 [.int .i64,.str,.str,.str] (E.e119 x14)),(20015,.row false 145 [.str,.int .i64,.int .i64,.int .i64] (E.e145 x15)),(20074,.row false 3 [.int .i64] (E.eI .i64 x74)),(400040,.row false 3 [.int .i64] (E.eI .i64 v1)),(400044,.row false 3 [.int .i64] (E.eI .i64 v5)),(400045,.row false 145 [.str,.int .i64,.int .i64,.int .i64] (E.e145 v6)),(400144,.row false 3 [.int .i64] (E.eI .i64 v11)),(400265,.row false 145 [.str,.int .i64,.int .i64,.int .i64] (E.e145 v15))]∧Zm.l1 n x14 x15 x74 x75 x76 v0 v1 v2 v3 v4 v5 v6 v7 v8 v9 v10 v11 v12 v13 v14 v15 v16 = some (r1,r2,r3,r4,r5,r6,r7,r8,r9)) ⟨[1,2,7,13,14,15,74,75,76],[1,2,7,13],[(14,119),(15,145),(74,3)],[(2,0,3),(2,4,3),(2,5,145),(7,4,3),(13,5,145)]⟩ fun n1 t ht Q1 hN1 hX1 => ?_);obtain ⟨hl,_,_,_,_,_,_,_,_,_,_,_,_,_,_,_,_,_,_,_,_,_,_,rfl,H⟩:=ht;rcases n1 with _ | n1;cases H;simp only [Zm.l1] at H;(try (conv => cbv)))
  | ((with_reducible show Q1 _ _);first | exact nx_ hN1 | (refine xt_ hX1 ?_;(try (conv => cbv))))
  | ((with_reducible show Q _ _);exact en_ ⟨[2,3,4],[2],[(3,119)],[(2,0,3),(2,4,3),(2,5,145)]⟩ 147 hQ)
  | contradiction
theorem ZI.con (E:En) (hE:E = E0) {k l0 l1 r} (H:ZI.f k l0 l1 = some r) :
  Cn 199 [.c (.sl [.int .i64] (E.eI .i64 l0)),.c (.sl [.int .i64] (E.eI .i64 l1))] [] (.c (.bool r)) [] []:=by
 refine co_ Tryz.func199 Z0L [] fun F hF Q hQ => ?_
 simp only [ZI.f] at H
 (conv => cbv)
 repeat' first
  | replace H:=s_ H
  | (exfalso;with_reducible assumption)
  | (rw [Z7] at H;obtain ⟨hc,H⟩:=H)
  | (rw [Z2] at H;obtain ⟨hc,H⟩:=H)
  | ((with_reducible refine br2 hF H ?_ ?_) <;> (clear H;intro hb H;(try (conv => cbv))))
  | (refine w_ hF ?_;(try (conv => cbv)))
  | ((with_reducible refine lo_ hF (fun n t => n≤k∧∃ x0 x1 x12 x13,t = At 26 [(0,.c (.sl [.int .i64] (E.eI .i64 x0))),(1,.c (.sl [.int .i64] (E.eI .i64 x1))),(12,.c (.int .i64 x12)),(13,.c (.int .i64 x13))] []∧ZI.l0 n x0 x1 x12 x13 = some r) ⟨[0,1,12,13],[],[],[]⟩ fun n0 t ht Q0 hN0 hX0 => ?_);obtain ⟨hl,_,_,_,_,rfl,H⟩:=ht;rcases n0 with _ | n0;cases H;simp only [ZI.l0] at H;(try (conv => cbv)))
  | ((with_reducible show Q0 _ _);first | exact nx_ hN0 | (refine xt_ hX0 ?_;(try (conv => cbv))))
  | ((with_reducible show Q _ _);exact en_ ⟨[4],[],[],[]⟩ 26 hQ)
  | contradiction
theorem Z1M.con (E:En) (hE:E = E0) {k l0_0 a0_1 a0_2 a0_3 l0_4 l1_0 a1_1 a1_2 a1_3 l1_4 r} (H:Z1M.f k l0_0 a0_1 a0_2 a0_3 l0_4 l1_0 a1_1 a1_2 a1_3 l1_4 = some r) :
  Cn 141 [.agg [.c (.sl [.int .i64] (E.eI .i64 l0_0)),.c (.int .i64 a0_1),.c (.int .i64 a0_2),.c (.int .i64 a0_3),.c (.sl [.int .i64] (E.eI .i64 l0_4))],.agg [.c (.sl [.int .i64] (E.eI .i64 l1_0)),.c (.int .i64 a1_1),.c (.int .i64 a1_2),.c (.int .i64 a1_3),.c (.sl [.int .i64] (E.eI .i64 l1_4))]] [] (.c (.bool r)) [] []:=by
 refine co_ Tryz.func141 Z0L [] fun F hF Q hQ => ?_
 simp only [Z1M.f] at H
 (conv => cbv)
 repeat' first
  | replace H:=s_ H
  | (exfalso;with_reducible assumption)
  | (rw [Z7] at H;obtain ⟨hc,H⟩:=H)
  | (rw [Z2] at H;obtain ⟨hc,H⟩:=H)
  | ((with_reducible refine br2 hF H ?_ ?_) <;> (clear H;intro hb H;(try (conv => cbv))))
  | (refine w_ hF ?_;(try (conv => cbv)))
  | ((with_reducible refine k1_ 199 H ?_);clear H;intro _ hy H;refine ca_ hF (ZI.con E hE hy) ?_;(try (conv => cbv)))
  | ((with_reducible show Q _ _);exact en_ ⟨[4],[],[],[]⟩ 38 hQ)
  | contradiction
theorem Zd.con (E:En) (hE:E = E0) {k l0 l1 r} (H:Zd.f k l0 l1 = some r) :
  Cn 142 [.c (.sl [.str,.int .i64,.int .i64,.int .i64] (E.e145 l0)),.c (.sl [.str,.int .i64,.int .i64,.int .i64] (E.e145 l1))] [] (.c (.bool r)) [] []:=by
 refine co_ Tryz.func142 Z0L [] fun F hF Q hQ => ?_
 simp only [Zd.f] at H
 (conv => cbv)
 repeat' first
  | replace H:=s_ H
  | (exfalso;with_reducible assumption)
  | (rw [Z7] at H;obtain ⟨hc,H⟩:=H)
  | (rw [Z2] at H;obtain ⟨hc,H⟩:=H)
  | ((with_reducible refine br2 hF H ?_ ?_) <;> (clear H;intro hb H;(try (conv => cbv))))
  | (refine w_ hF ?_;(try (conv => cbv)))
  | ((with_reducible refine lo_ hF (fun n t => n≤k∧∃ x0 x1 x12 x13,t = At 26 [(0,.c (.sl [.str,.int .i64,.int .i64,.int .i64] (E.e145 x0))),(1,.c (.sl [.str,.int .i64,.int .i64,.int .i64] (E.e145 x1))),(12,.c (.int .i64 x12)),(13,.c (.int .i64 x13))] []∧Zd.l0 n x0 x1 x12 x13 = some r) ⟨[0,1,12,13],[],[],[]⟩ fun n0 t ht Q0 hN0 hX0 => ?_);obtain ⟨hl,_,_,_,_,rfl,H⟩:=ht;rcases n0 with _ | n0;cases H;simp only [Zd.l0] at H;(try (conv => cbv)))
  | ((with_reducible show Q0 _ _);first | exact nx_ hN0 | (refine xt_ hX0 ?_;(try (conv => cbv))))
  | ((with_reducible show Q _ _);exact en_ ⟨[4],[],[],[]⟩ 26 hQ)
  | contradiction
end Go.Ev
