/- Contracts of the Go functions that this law reaches: what each call returns, by its plain function. No conditions but those that each statement names. By this repo's programs; comments are taken out. -/
import Derived.Test.YtlmicldpfnmeaaaGreatDoorVFnComesBackD
import Derived.Test.YtlmicldpfnmeaaaGreatDoorVFnComesBackC0
import Derived.Test.YtlmicldpfnmeaaaGreatDoorVFnComesBackC2
import Derived.Test.YtlmicldpfnmeaaaGreatDoorVFnComesBackC3
set_option linter.all false
namespace Go.Ev
open Go.RowKit Go.Proofs Go.Proofs.YtlmicldpfnmeaaaGreatDoorW.PrintWords Go.Proofs.YtlmicldpfnmeaaaGreatDoorW.PrintLast Go.Proofs.YtlmicldpfnmeaaaGreatDoorW.PrintMore
set_option maxRecDepth 100000
set_option maxHeartbeats 4000000
theorem Z01.con (E:En) (hE:E = E0) {k a0 a1 r1 r2 r3} (H:Z01.f k a0 a1 = some (r1,r2,r3)) :
  Cn 152 [.c (.str a0),.c (.int .i64 a1)] [] (.tup [.own 0,.own 1,.c (.int .i64 r3)]) [.row false 145 [.str,.int .i64,.int .i64,.int .i64] (E.e145 r1),.row false 9 [.str] (E.eS r2)] []:=by
 refine co_ Tryz.func152 tabOk [20004,20005] fun F hF Q hQ => ?_
 simp only [Z01.f] at H
 (conv => cbv)
 repeat' first
  | replace H:=s_ H
  | (exfalso;with_reducible assumption)
  | (rw [Z7] at H;obtain ⟨hc,H⟩:=H)
  | (rw [Z2] at H;obtain ⟨hc,H⟩:=H)
  | ((with_reducible refine br2 hF H ?_ ?_) <;> (clear H;intro hb H;(try (conv => cbv))))
  | (refine w_ hF ?_;(try (conv => cbv)))
  | ((with_reducible refine k2_ 59 H ?_);clear H;intro _ _ hy H;refine ca_ hF (ZQ.con E hE hy) ?_;(try (conv => cbv)))
  | ((with_reducible refine k3_ 62 H ?_);clear H;intro _ _ _ hy H;refine ca_ hF (Zc.con E hE hy) ?_;(try (conv => cbv)))
  | ((with_reducible refine k2_ 63 H ?_);clear H;intro _ _ hy H;refine ca_ hF (Z1O.con E hE hy) ?_;(try (conv => cbv)))
  | ((with_reducible refine k1_ 136 H ?_);clear H;intro _ hy H;refine ca_ hF (ZP.con E hE hy) ?_;(try (conv => cbv)))
  | ((with_reducible refine k1_ 185 H ?_);clear H;intro _ hy H;refine ca_ hF (Z1D.con E hE hy) ?_;(try (conv => cbv)))
  | ((with_reducible refine lo_ hF (fun n t => n≤k∧∃ x1 x7 x8 x9 x10 x12 x13,t = At 146 [(1,.c (.int .i64 x1)),(7,.own 20007),(8,.own 20008),(9,.c (.int .i64 x9)),(10,.c (.sl [.str] (E.eS x10))),(12,.c (.int .i64 x12)),(13,.c (.int .i64 x13))] [(20007,.row false 145 [.str,.int .i64,.int .i64,.int .i64] (E.e145 x7)),(20008,.row false 9 [.str] (E.eS x8))]∧Z01.l0 n x1 x7 x8 x9 x10 x12 x13 = some (r1,r2,r3)) ⟨[1,7,8,9,10,12,13],[],[(7,145),(8,9)],[]⟩ fun n0 t ht Q0 hN0 hX0 => ?_);obtain ⟨hl,_,_,_,_,_,_,_,rfl,H⟩:=ht;rcases n0 with _ | n0;cases H;simp only [Z01.l0] at H;(try (conv => cbv)))
  | ((with_reducible show Q0 _ _);first | exact nx_ hN0 | (refine xt_ hX0 ?_;(try (conv => cbv))))
  | ((with_reducible refine lo_ hF (fun n t => n≤n0∧∃ x1 x7 x8 x9 x10 x12 x13 x16 x18 x19 v0 v1,t = At 146 [(1,.c (.int .i64 x1)),(7,.own 20007),(8,.own 20008),(9,.c (.int .i64 x9)),(10,.c (.sl [.str] (E.eS x10))),(12,.c (.int .i64 x12)),(13,.c (.int .i64 x13)),(14,.ptr 14 0),(16,.c (.str x16)),(18,.c (.int .i64 x18)),(19,.c (.int .i64 x19))] [(14,.box [.c (.int .i64 v0),.c (.sl [.str,.str,.bool] (E.e162 v1))]),(20007,.row false 145 [.str,.int .i64,.int .i64,.int .i64] (E.e145 x7)),(20008,.row false 9 [.str] (E.eS x8))]∧Z01.l1 n x1 x7 x8 x9 x10 x12 x13 x16 x18 x19 v0 v1 = some (r1,r2,r3)) ⟨[1,7,8,9,10,12,13,14,16,18,19],[14],[(7,145),(8,9)],[]⟩ fun n1 t ht Q1 hN1 hX1 => ?_);obtain ⟨hl,_,_,_,_,_,_,_,_,_,_,_,_,rfl,H⟩:=ht;rcases n1 with _ | n1;cases H;simp only [Z01.l1] at H;(try (conv => cbv)))
  | ((with_reducible show Q1 _ _);first | exact nx_ hN1 | (refine xt_ hX1 ?_;(try (conv => cbv))))
  | ((with_reducible show Q _ _);exact en_ ⟨[4,5,6],[],[(4,145),(5,9)],[]⟩ 146 hQ)
  | contradiction
theorem Zf.j2_s {k:Nat} {x1:List S145} {x5:List S145} {x6:Int} {x8:List S145} {x532000:ByteArray} {x532001:Int} {x532002:Int} {x532003:Int} {r:_} (h:Zf.j2 k x1 x5 x6 x8 x532000 x532001 x532002 x532003 = some r):∃ m,k = m + 1∧Zf.j2 (m + 1) x1 x5 x6 x8 x532000 x532001 x532002 x532003 = some r:=by
 cases k with
 | zero => simp [Zf.j2] at h
 | succ m => exact ⟨m,rfl,h⟩
theorem Zf.j2_i {k:Nat} {x1:List S145} {x5:List S145} {x6:Int} {x8:List S145} {x532000:ByteArray} {x532001:Int} {x532002:Int} {x532003:Int} {r:_}:(Zf.j2 k x1 x5 x6 x8 x532000 x532001 x532002 x532003 = some r) = (∃ m,k = m + 1∧Zf.j2 (m + 1) x1 x5 x6 x8 x532000 x532001 x532002 x532003 = some r):=propext ⟨Zf.j2_s,fun ⟨m,h,h2⟩ => by rw [h];exact h2⟩
theorem Zf.con (E:En) (hE:E = E0) {k l0 l1 r} (H:Zf.f k l0 l1 = some (r)) :
  Cn 153 [.c (.sl [.str,.int .i64,.int .i64,.int .i64] (E.e145 l0)),.c (.sl [.str,.int .i64,.int .i64,.int .i64] (E.e145 l1))] [] (.own 0) [.row false 145 [.str,.int .i64,.int .i64,.int .i64] (E.e145 r)] []:=by
 refine co_ Tryz.func153 tabOk [20004] fun F hF Q hQ => ?_
 simp only [Zf.f] at H
 (conv => cbv)
 repeat' first
  | (rw [Zf.j2_i] at H;obtain ⟨m,hm,H⟩:=H;simp only [Zf.j2] at H;(try simp only [decide_eq_true_eq,Bool.false_eq_true,if_false,if_true] at H))
  | replace H:=s_ H
  | (exfalso;with_reducible assumption)
  | (rw [Z7] at H;obtain ⟨hc,H⟩:=H)
  | (rw [Z2] at H;obtain ⟨hc,H⟩:=H)
  | ((with_reducible refine br2 hF H ?_ ?_) <;> (clear H;intro hb H;(try (conv => cbv))))
  | (refine w_ hF ?_;(try (conv => cbv)))
  | ((with_reducible refine lo_ hF (fun n t => n≤k∧∃ x1 x5 x6,t = At 76 [(1,.c (.sl [.str,.int .i64,.int .i64,.int .i64] (E.e145 x1))),(5,.own 20005),(6,.c (.int .i64 x6))] [(20005,.row false 145 [.str,.int .i64,.int .i64,.int .i64] (E.e145 x5))]∧Zf.l0 n x1 x5 x6 = some (r)) ⟨[1,5,6],[],[(5,145)],[]⟩ fun n0 t ht Q0 hN0 hX0 => ?_);obtain ⟨hl,_,_,_,rfl,H⟩:=ht;rcases n0 with _ | n0;cases H;simp only [Zf.l0] at H;(try (conv => cbv)))
  | ((with_reducible show Q0 _ _);first | exact nx_ hN0 | (refine xt_ hX0 ?_;(try (conv => cbv))))
  | ((with_reducible refine lo_ hF (fun n t => n≤n0∧∃ x1 x5 x6 x8 x9 v0 v1 v2 v3,t = At 76 [(1,.c (.sl [.str,.int .i64,.int .i64,.int .i64] (E.e145 x1))),(5,.own 20005),(6,.c (.int .i64 x6)),(7,.ptr 7 0),(8,.own 20008),(9,.c (.int .i64 x9))] [(7,.box [.c (.str v0),.c (.int .i64 v1),.c (.int .i64 v2),.c (.int .i64 v3)]),(20005,.row false 145 [.str,.int .i64,.int .i64,.int .i64] (E.e145 x5)),(20008,.row false 145 [.str,.int .i64,.int .i64,.int .i64] (E.e145 x8))]∧Zf.l1 n x1 x5 x6 x8 x9 v0 v1 v2 v3 = some (r)) ⟨[1,5,6,7,8,9],[7],[(5,145),(8,145)],[]⟩ fun n1 t ht Q1 hN1 hX1 => ?_);obtain ⟨hl,_,_,_,_,_,_,_,_,_,rfl,H⟩:=ht;rcases n1 with _ | n1;cases H;simp only [Zf.l1] at H;(try (conv => cbv)))
  | ((with_reducible show Q1 _ _);first | exact nx_ hN1 | (refine xt_ hX1 ?_;(try (conv => cbv))))
  | ((with_reducible refine lo_ hF (fun n t => n≤n0∧∃ x1 x5 x6 x8 x10 v0 v1 v2 v3,t = At 76 [(1,.c (.sl [.str,.int .i64,.int .i64,.int .i64] (E.e145 x1))),(5,.own 20005),(6,.c (.int .i64 x6)),(7,.ptr 7 0),(8,.own 20008),(10,.c (.int .i64 x10))] [(7,.box [.c (.str v0),.c (.int .i64 v1),.c (.int .i64 v2),.c (.int .i64 v3)]),(20005,.row false 145 [.str,.int .i64,.int .i64,.int .i64] (E.e145 x5)),(20008,.row false 145 [.str,.int .i64,.int .i64,.int .i64] (E.e145 x8))]∧Zf.l2 n x1 x5 x6 x8 x10 v0 v1 v2 v3 = some (r)) ⟨[1,5,6,7,8,10],[7],[(5,145),(8,145)],[]⟩ fun n2 t ht Q2 hN2 hX2 => ?_);obtain ⟨hl,_,_,_,_,_,_,_,_,_,rfl,H⟩:=ht;rcases n2 with _ | n2;cases H;simp only [Zf.l2] at H;(try (conv => cbv)))
  | ((with_reducible show Q2 _ _);first | exact nx_ hN2 | (refine xt_ hX2 ?_;(try (conv => cbv))))
  | ((with_reducible show Q _ _);exact en_ ⟨[4],[],[(4,145)],[]⟩ 76 hQ)
  | contradiction
theorem Z1j.con (E:En) (hE:E = E0) {k l0 r} (H:Z1j.f k l0 = some (r)) :
  Cn 96 [.c (.sl [.str,.int .i64,.int .i64,.int .i64] (E.e145 l0))] [] (.c (.bool r)) [] []:=by
 refine co_ Tryz.func96 tabOk [] fun F hF Q hQ => ?_
 simp only [Z1j.f] at H
 (conv => cbv)
 repeat' first
  | replace H:=s_ H
  | (exfalso;with_reducible assumption)
  | (rw [Z7] at H;obtain ⟨hc,H⟩:=H)
  | (rw [Z2] at H;obtain ⟨hc,H⟩:=H)
  | ((with_reducible refine br2 hF H ?_ ?_) <;> (clear H;intro hb H;(try (conv => cbv))))
  | (refine w_ hF ?_;(try (conv => cbv)))
  | ((with_reducible refine k1_ 131 H ?_);clear H;intro _ hy H;refine ca_ hF (ZD.con E hE hy) ?_;(try (conv => cbv)))
  | ((with_reducible refine k1_ 177 H ?_);clear H;intro _ hy H;refine ca_ hF (Z2n.con E hE hy) ?_;(try (conv => cbv)))
  | ((with_reducible refine lo_ hF (fun n t => n≤k∧∃ x0 x3,t = At 55 [(0,.c (.sl [.str,.int .i64,.int .i64,.int .i64] (E.e145 x0))),(3,.c (.int .i64 x3))] []∧Z1j.l0 n x0 x3 = some (r)) ⟨[0,3],[],[],[]⟩ fun n0 t ht Q0 hN0 hX0 => ?_);obtain ⟨hl,_,_,rfl,H⟩:=ht;rcases n0 with _ | n0;cases H;simp only [Z1j.l0] at H;(try (conv => cbv)))
  | ((with_reducible show Q0 _ _);first | exact nx_ hN0 | (refine xt_ hX0 ?_;(try (conv => cbv))))
  | ((with_reducible show Q _ _);exact en_ ⟨[2],[],[],[]⟩ 55 hQ)
  | contradiction
end Go.Ev
