/- Contracts of the Go functions that this law reaches: what each call returns, by its plain function. No conditions but those that each statement names. By this repo's programs; comments are taken out. -/
import Derived.Test.YtlmicldpfnmeaaaGreatDoorVFnComesBackD
import Derived.Test.YtlmicldpfnmeaaaGreatDoorVFnComesBackC0
import Derived.Test.YtlmicldpfnmeaaaGreatDoorVFnComesBackC1
import Derived.Test.YtlmicldpfnmeaaaGreatDoorVFnComesBackC8
import Derived.Test.YtlmicldpfnmeaaaGreatDoorVFnComesBackC11
import Derived.Test.YtlmicldpfnmeaaaGreatDoorVFnComesBackC12
import Derived.Test.YtlmicldpfnmeaaaGreatDoorVFnComesBackC13
import Derived.Test.YtlmicldpfnmeaaaGreatDoorVFnComesBackC15
import Derived.Test.YtlmicldpfnmeaaaGreatDoorVFnComesBackC17
set_option linter.all false
namespace Go.Ev
open Go.RowKit Go.Proofs Go.Proofs.YtlmicldpfnmeaaaGreatDoorW.PrintWords Go.Proofs.YtlmicldpfnmeaaaGreatDoorW.PrintLast Go.Proofs.YtlmicldpfnmeaaaGreatDoorW.PrintMore
set_option maxRecDepth 100000
set_option maxHeartbeats 4000000
theorem Z3x.con (E:En) (hE:E = E0) {k l0_0 a0_1 a0_2 a0_3 l0_4 r1 r2} (H:Z3x.f k l0_0 a0_1 a0_2 a0_3 l0_4 = some (r1,r2)) :
  Cn 111 [.agg [.c (.sl [.int .i64] (E.eI .i64 l0_0)),.c (.int .i64 a0_1),.c (.int .i64 a0_2),.c (.int .i64 a0_3),.c (.sl [.int .i64] (E.eI .i64 l0_4))]] [] (.tup [.own 0,.c (.bool r2)]) [.row false 119 [.int .i64,.str,.str,.str] (E.e119 r1)] []:=by
 refine co_ Tryz.func111 tabOk [20002] fun F hF Q hQ => ?_
 simp only [Z3x.f] at H
 (conv => cbv)
 repeat' first
  | replace H:=s_ H
  | (exfalso;with_reducible assumption)
  | (rw [Z7] at H;obtain ⟨hc,H⟩:=H)
  | (rw [Z2] at H;obtain ⟨hc,H⟩:=H)
  | ((with_reducible refine br2 hF H ?_ ?_) <;> (clear H;intro hb H;(try (conv => cbv))))
  | (refine w_ hF ?_;(try (conv => cbv)))
  | ((with_reducible refine k2_ 192 H ?_);clear H;intro _ _ hy H;refine ca_ hF (Z1N.con E hE hy) ?_;(try (conv => cbv)))
  | ((with_reducible show Q _ _);exact en_ ⟨[2,3],[],[(2,119)],[]⟩ 16 hQ)
  | contradiction
theorem Z3a.con (E:En) (hE:E = E0) {k l0_0 l1_0 a1_1 a1_2 a1_3 l1_4 l1_5 a1_6 a2_0 l2_1 r1 r2 r3 r4 r5 r6 r7 r8 r9} (H:Z3a.f k l0_0 l1_0 a1_1 a1_2 a1_3 l1_4 l1_5 a1_6 a2_0 l2_1 = some (r1,r2,r3,r4,r5,r6,r7,r8,r9)) :
  Cn 39 [.agg [.c (.sl [.str,.str] (E.e122 l0_0))],.agg [.c (.sl [.int .i64] (E.eI .i64 l1_0)),.c (.int .i64 a1_1),.c (.int .i64 a1_2),.c (.int .i64 a1_3),.c (.sl [.int .i64] (E.eI .i64 l1_4)),.c (.sl [.str,.int .i64,.int .i64,.int .i64] (E.e145 l1_5)),.c (.int .i64 a1_6)],.agg [.c (.int .i64 a2_0),.c (.sl [.str,.str,.bool] (E.e162 l2_1))]] [] (.tup [.agg [.own 0,.c (.int .i64 r2),.c (.int .i64 r3),.c (.int .i64 r4),.own 1,.own 2,.c (.int .i64 r7)],.own 3,.c (.bool r9)]) [.row false 3 [.int .i64] (E.eI .i64 r1),.row false 3 [.int .i64] (E.eI .i64 r5),.row false 145 [.str,.int .i64,.int .i64,.int .i64] (E.e145 r6),.row false 119 [.int .i64,.str,.str,.str] (E.e119 r8)] []:=by
 refine co_ Tryz.func39 Z0L [400120,400124,400125,20007] fun F hF Q hQ => ?_
 simp only [Z3a.f] at H
 (conv => cbv)
 repeat' first
  | replace H:=s_ H
  | (exfalso;with_reducible assumption)
  | (rw [Z7] at H;obtain ⟨hc,H⟩:=H)
  | (rw [Z2] at H;obtain ⟨hc,H⟩:=H)
  | ((with_reducible refine br2 hF H ?_ ?_) <;> (clear H;intro hb H;(try (conv => cbv))))
  | (refine w_ hF ?_;(try (conv => cbv)))
  | ((with_reducible refine k2_ 99 H ?_);clear H;intro _ _ hy H;refine ca_ hF (Z0u.con E hE hy) ?_;(try (conv => cbv)))
  | ((with_reducible refine k2_ 100 H ?_);clear H;intro _ _ hy H;refine ca_ hF (Z2X.con E hE hy) ?_;(try (conv => cbv)))
  | ((with_reducible refine k1_ 97 H ?_);clear H;intro _ hy H;refine ca_ hF (Z42.con E hE hy) ?_;(try (conv => cbv)))
  | ((with_reducible refine k1_ 69 H ?_);clear H;intro _ hy H;refine ca_ hF (Z0l.con E hE hy) ?_;(try (conv => cbv)))
  | ((with_reducible refine k2_ 68 H ?_);clear H;intro _ _ hy H;refine ca_ hF (Z1g.con E hE hy) ?_;(try (conv => cbv)))
  | ((with_reducible refine k9_ 109 H ?_);clear H;intro _ _ _ _ _ _ _ _ _ hy H;refine ca_ hF (Z2M.con E hE hy) ?_;(try (conv => cbv)))
  | ((with_reducible refine k5_ 110 H ?_);clear H;intro _ _ _ _ _ hy H;refine ca_ hF (Z2i.con E hE hy) ?_;(try (conv => cbv)))
  | ((with_reducible refine k2_ 111 H ?_);clear H;intro _ _ hy H;refine ca_ hF (Z3x.con E hE hy) ?_;(try (conv => cbv)))
  | ((with_reducible show Q _ _);exact en_ ⟨[6,7,8],[6],[(7,119)],[(6,0,3),(6,4,3),(6,5,145)]⟩ 128 hQ)
  | contradiction
theorem Z0w.con (E:En) (hE:E = E0) {k l0 r} (H:Z0w.f k l0 = some r) :
  Cn 52 [.c (.sl [.int .u8] (E.eI .u8 l0))] [] (.own 0) [.row false 3 [.int .i64] (E.eI .i64 r)] []:=by
 refine co_ Tryz.func52 Z0L [20002] fun F hF Q hQ => ?_
 simp only [Z0w.f] at H
 (conv => cbv)
 repeat' first
  | replace H:=s_ H
  | (exfalso;with_reducible assumption)
  | (rw [Z7] at H;obtain ⟨hc,H⟩:=H)
  | (rw [Z2] at H;obtain ⟨hc,H⟩:=H)
  | ((with_reducible refine br2 hF H ?_ ?_) <;> (clear H;intro hb H;(try (conv => cbv))))
  | (refine w_ hF ?_;(try (conv => cbv)))
  | ((with_reducible refine k3_ 90 H ?_);clear H;intro _ _ _ hy H;refine ca_ hF (Z1n.con E hE hy) ?_;(try (conv => cbv)))
  | ((with_reducible refine k4_ 124 H ?_);clear H;intro _ _ _ _ hy H;refine ca_ hF (Z1a.con E hE hy) ?_;(try (conv => cbv)))
  | ((with_reducible refine k4_ 92 H ?_);clear H;intro _ _ _ _ hy H;refine ca_ hF (Z0o.con E hE hy) ?_;(try (conv => cbv)))
  | ((with_reducible refine lo_ hF (fun n t => n≤k∧∃ x4 x5 v0 v1 v2,t = At 21 [(3,.ptr 50112 0),(4,.own 20004),(5,.c (.int .i64 x5))] [(50112,.box [.c (.sl [.int .u8] (E.eI .u8 v0)),.c (.int .i64 v1),.c (.int .i64 v2)]),(20004,.row false 3 [.int .i64] (E.eI .i64 x4))]∧Z0w.l0 n x4 x5 v0 v1 v2 = some r) ⟨[3,4,5],[50112],[(4,3)],[]⟩ fun n0 t ht Q0 hN0 hX0 => ?_);obtain ⟨hl,_,_,_,_,_,rfl,H⟩:=ht;rcases n0 with _ | n0;cases H;simp only [Z0w.l0] at H;(try (conv => cbv)))
  | ((with_reducible show Q0 _ _);first | exact nx_ hN0 | (refine xt_ hX0 ?_;(try (conv => cbv))))
  | ((with_reducible show Q _ _);exact en_ ⟨[2],[],[(2,3)],[]⟩ 21 hQ)
  | contradiction
theorem Z3D.con (E:En) (hE:E = E0) {l0 a1 r} (H:Z3D.f l0 a1 = some (r)) :
  Cn 196 [.c (.sl [.int .i64,.str,.str,.str] (E.e119 l0)),.c (.int .i64 a1)] [] (.c (.int .i64 r)) [] []:=by
 refine co_ Tryz.func196 tabOk [] fun F hF Q hQ => ?_
 simp only [Z3D.f] at H
 (conv => cbv)
 repeat' first
  | replace H:=s_ H
  | (exfalso;with_reducible assumption)
  | (rw [Z7] at H;obtain ⟨hc,H⟩:=H)
  | (rw [Z2] at H;obtain ⟨hc,H⟩:=H)
  | ((with_reducible refine br2 hF H ?_ ?_) <;> (clear H;intro hb H;(try (conv => cbv))))
  | (refine w_ hF ?_;(try (conv => cbv)))
  | ((with_reducible show Q _ _);exact en_ ⟨[4],[],[],[]⟩ 31 hQ)
  | contradiction
theorem Z2y.con (E:En) (hE:E = E0) {k l0_0 l1 a2 a3 r1 r2} (H:Z2y.f k l0_0 l1 a2 a3 = some (r1,r2)) :
  Cn 125 [.agg [.c (.sl [.str,.str] (E.e122 l0_0))],.c (.sl [.int .i64,.str,.str,.str] (E.e119 l1)),.c (.int .i64 a2),.c (.int .i64 a3)] [] (.tup [.agg [.own 0],.c (.bool r2)]) [.row false 122 [.str,.str] (E.e122 r1)] []:=by
 refine co_ Tryz.func125 Z0L [400160] fun F hF Q hQ => ?_
 simp only [Z2y.f] at H
 (conv => cbv)
 repeat' first
  | replace H:=s_ H
  | (exfalso;with_reducible assumption)
  | (rw [Z7] at H;obtain ⟨hc,H⟩:=H)
  | (rw [Z2] at H;obtain ⟨hc,H⟩:=H)
  | ((with_reducible refine br2 hF H ?_ ?_) <;> (clear H;intro hb H;(try (conv => cbv))))
  | (refine w_ hF ?_;(try (conv => cbv)))
  | ((with_reducible refine k1_ 95 H ?_);clear H;intro _ hy H;refine ca_ hF (ZO.con E hE hy) ?_;(try (conv => cbv)))
  | ((with_reducible refine k1_ 131 H ?_);clear H;intro _ hy H;refine ca_ hF (ZD.con E hE hy) ?_;(try (conv => cbv)))
  | ((with_reducible refine k1_ 196 H ?_);clear H;intro _ hy H;refine ca_ hF (Z3D.con E hE hy) ?_;(try (conv => cbv)))
  | ((with_reducible refine k2_ 33 H ?_);clear H;intro _ _ hy H;refine ca_ hF (Zg.con E hE hy) ?_;(try (conv => cbv)))
  | ((with_reducible show Q _ _);exact en_ ⟨[8,9],[8],[],[(8,0,122)]⟩ 70 hQ)
  | contradiction
theorem Z4u.con (E:En) (hE:E = E0) {k l0_0 l1 a2 a3 r1 r2} (H:Z4u.f k l0_0 l1 a2 a3 = some (r1,r2)) :
  Cn 53 [.agg [.c (.sl [.str,.str] (E.e122 l0_0))],.c (.sl [.int .i64,.str,.str,.str] (E.e119 l1)),.c (.int .i64 a2),.c (.int .i64 a3)] [] (.tup [.agg [.own 0],.c (.bool r2)]) [.row false 122 [.str,.str] (E.e122 r1)] []:=by
 refine co_ Tryz.func53 tabOk [400160] fun F hF Q hQ => ?_
 simp only [Z4u.f] at H
 (conv => cbv)
 repeat' first
  | replace H:=s_ H
  | (exfalso;with_reducible assumption)
  | (rw [Z7] at H;obtain ⟨hc,H⟩:=H)
  | (rw [Z2] at H;obtain ⟨hc,H⟩:=H)
  | ((with_reducible refine br2 hF H ?_ ?_) <;> (clear H;intro hb H;(try (conv => cbv))))
  | (refine w_ hF ?_;(try (conv => cbv)))
  | ((with_reducible refine k2_ 125 H ?_);clear H;intro _ _ hy H;refine ca_ hF (Z2y.con E hE hy) ?_;(try (conv => cbv)))
  | ((with_reducible show Q _ _);exact en_ ⟨[8,9],[8],[],[(8,0,122)]⟩ 45 hQ)
  | contradiction
theorem Zy.j0_s {k:Nat} {x19:Bool} {x1209000:List S122} {x1210000:List Int} {x1210001:Int} {x1210002:Int} {x1210003:Int} {x1210004:List Int} {x1210005:List S145} {x1210006:Int} {r:_} (h:Zy.j0 k x19 x1209000 x1210000 x1210001 x1210002 x1210003 x1210004 x1210005 x1210006 = some r):∃ m,k = m + 1∧Zy.j0 (m + 1) x19 x1209000 x1210000 x1210001 x1210002 x1210003 x1210004 x1210005 x1210006 = some r:=by
 cases k with
 | zero => simp [Zy.j0] at h
 | succ m => exact ⟨m,rfl,h⟩
theorem Zy.j0_i {k:Nat} {x19:Bool} {x1209000:List S122} {x1210000:List Int} {x1210001:Int} {x1210002:Int} {x1210003:Int} {x1210004:List Int} {x1210005:List S145} {x1210006:Int} {r:_}:(Zy.j0 k x19 x1209000 x1210000 x1210001 x1210002 x1210003 x1210004 x1210005 x1210006 = some r) = (∃ m,k = m + 1∧Zy.j0 (m + 1) x19 x1209000 x1210000 x1210001 x1210002 x1210003 x1210004 x1210005 x1210006 = some r):=propext ⟨Zy.j0_s,fun ⟨m,h,h2⟩ => by rw [h];exact h2⟩
theorem Zy.con (E:En) (hE:E = E0) {k l0_0 l1_0 a1_1 a1_2 a1_3 l1_4 l1_5 a1_6 r1 r2} (H:Zy.f k l0_0 l1_0 a1_1 a1_2 a1_3 l1_4 l1_5 a1_6 = some (r1,r2)) :
  Cn 34 [.agg [.c (.sl [.str,.str] (E.e122 l0_0))],.agg [.c (.sl [.int .i64] (E.eI .i64 l1_0)),.c (.int .i64 a1_1),.c (.int .i64 a1_2),.c (.int .i64 a1_3),.c (.sl [.int .i64] (E.eI .i64 l1_4)),.c (.sl [.str,.int .i64,.int .i64,.int .i64] (E.e145 l1_5)),.c (.int .i64 a1_6)]] [] (.tup [.own 0,.c (.bool r2)]) [.row false 147 [.str,.str] (E.e147 r1)] []:=by
 refine co_ Tryz.func34 tabOk [20004] fun F hF Q hQ => ?_
 simp only [Zy.f] at H
 (conv => cbv)
 repeat' first
  | (rw [Zy.j0_i] at H;obtain ⟨m,hm,H⟩:=H;simp only [Zy.j0] at H;(try simp only [decide_eq_true_eq,Bool.false_eq_true,if_false,if_true] at H))
  | replace H:=s_ H
  | (exfalso;with_reducible assumption)
  | (rw [Z7] at H;obtain ⟨hc,H⟩:=H)
  | (rw [Z2] at H;obtain ⟨hc,H⟩:=H)
  | ((with_reducible refine br2 hF H ?_ ?_) <;> (clear H;intro hb H;(try (conv => cbv))))
  | (refine w_ hF ?_;(try (conv => cbv)))
  | ((with_reducible refine k2_ 68 H ?_);clear H;intro _ _ hy H;refine ca_ hF (Z1g.con E hE hy) ?_;(try (conv => cbv)))
  | ((with_reducible refine k1_ 69 H ?_);clear H;intro _ hy H;refine ca_ hF (Z0l.con E hE hy) ?_;(try (conv => cbv)))
  | ((with_reducible refine k1_ 78 H ?_);clear H;intro _ hy H;refine ca_ hF (Z02.con E hE hy) ?_;(try (conv => cbv)))
  | ((with_reducible refine k1_ 107 H ?_);clear H;intro _ hy H;refine ca_ hF (Z1h.con E hE hy) ?_;(try (conv => cbv)))
  | ((with_reducible refine lo_ hF (fun n t => n≤k∧∃ x6 x21 x22 x23 v0,t = At 60 [(2,.ptr 2 0),(6,.own 20006),(21,.c (.sl [.str,.int .i64,.int .i64,.int .i64] (E.e145 x21))),(22,.c (.int .i64 x22)),(23,.c (.int .i64 x23))] [(2,.box [.c (.sl [.str,.str] (E.e122 v0))]),(20006,.row false 147 [.str,.str] (E.e147 x6))]∧Zy.l0 n x6 x21 x22 x23 v0 = some (r1,r2)) ⟨[2,6,21,22,23],[2],[(6,147)],[]⟩ fun n0 t ht Q0 hN0 hX0 => ?_);obtain ⟨hl,_,_,_,_,_,rfl,H⟩:=ht;rcases n0 with _ | n0;cases H;simp only [Zy.l0] at H;(try (conv => cbv)))
  | ((with_reducible show Q0 _ _);first | exact nx_ hN0 | (refine xt_ hX0 ?_;(try (conv => cbv))))
  | ((with_reducible show Q _ _);exact en_ ⟨[4,5],[],[(4,147)],[]⟩ 60 hQ)
  | contradiction
theorem Z1v.con (E:En) (hE:E = E0) {k l0 a1 r} (H:Z1v.f k l0 a1 = some (r)) :
  Cn 117 [.c (.sl [.str,.str] (E.e147 l0)),.c (.str a1)] [] (.own 0) [.row false 147 [.str,.str] (E.e147 r)] []:=by
 refine co_ Tryz.func117 tabOk [20004] fun F hF Q hQ => ?_
 simp only [Z1v.f] at H
 (conv => cbv)
 repeat' first
  | replace H:=s_ H
  | (exfalso;with_reducible assumption)
  | (rw [Z7] at H;obtain ⟨hc,H⟩:=H)
  | (rw [Z2] at H;obtain ⟨hc,H⟩:=H)
  | ((with_reducible refine br2 hF H ?_ ?_) <;> (clear H;intro hb H;(try (conv => cbv))))
  | (refine w_ hF ?_;(try (conv => cbv)))
  | ((with_reducible refine lo_ hF (fun n t => n≤k∧∃ x0 x1 x5 x6,t = At 29 [(0,.c (.sl [.str,.str] (E.e147 x0))),(1,.c (.str x1)),(5,.own 20005),(6,.c (.int .i64 x6))] [(20005,.row false 147 [.str,.str] (E.e147 x5))]∧Z1v.l0 n x0 x1 x5 x6 = some (r)) ⟨[0,1,5,6],[],[(5,147)],[]⟩ fun n0 t ht Q0 hN0 hX0 => ?_);obtain ⟨hl,_,_,_,_,rfl,H⟩:=ht;rcases n0 with _ | n0;cases H;simp only [Z1v.l0] at H;(try (conv => cbv)))
  | ((with_reducible show Q0 _ _);first | exact nx_ hN0 | (refine xt_ hX0 ?_;(try (conv => cbv))))
  | ((with_reducible show Q _ _);exact en_ ⟨[4],[],[(4,147)],[]⟩ 29 hQ)
  | contradiction
end Go.Ev
