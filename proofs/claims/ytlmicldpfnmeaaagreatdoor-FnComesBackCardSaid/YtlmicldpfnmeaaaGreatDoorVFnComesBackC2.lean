/- Contracts of the Go functions that this law reaches: what each call returns, by its plain function. No conditions but those that each statement names. By this repo's programs; comments are taken out. -/
import Derived.Test.YtlmicldpfnmeaaaGreatDoorVFnComesBackD
import Derived.Test.YtlmicldpfnmeaaaGreatDoorVFnComesBackC0
import Derived.Test.YtlmicldpfnmeaaaGreatDoorVFnComesBackC1
set_option linter.all false
namespace Go.Ev
open Go.RowKit Go.Proofs Go.Proofs.YtlmicldpfnmeaaaGreatDoorW.PrintWords Go.Proofs.YtlmicldpfnmeaaaGreatDoorW.PrintLast Go.Proofs.YtlmicldpfnmeaaaGreatDoorW.PrintMore
set_option maxRecDepth 100000
set_option maxHeartbeats 4000000
theorem Z44.con (E:En) (hE:E = E0) {k l0_0 a1 r1 r2} (H:Z44.f k l0_0 a1 = some (r1,r2)) :
  Cn 150 [.agg [.c (.sl [.str,.str] (E.e122 l0_0))],.c (.str a1)] [] (.tup [.c (.str r1),.c (.bool r2)]) [] []:=by
 refine co_ Tryz.func150 tabOk [] fun F hF Q hQ => ?_
 simp only [Z44.f] at H
 (conv => cbv)
 repeat' first
  | replace H:=s_ H
  | (exfalso;with_reducible assumption)
  | (rw [Z7] at H;obtain ⟨hc,H⟩:=H)
  | (rw [Z2] at H;obtain ⟨hc,H⟩:=H)
  | ((with_reducible refine br2 hF H ?_ ?_) <;> (clear H;intro hb H;(try (conv => cbv))))
  | (refine w_ hF ?_;(try (conv => cbv)))
  | ((with_reducible refine k1_ 75 H ?_);clear H;intro _ hy H;refine ca_ hF (Z0P.con E hE hy) ?_;(try (conv => cbv)))
  | ((with_reducible refine k1_ 95 H ?_);clear H;intro _ hy H;refine ca_ hF (ZO.con E hE hy) ?_;(try (conv => cbv)))
  | ((with_reducible show Q _ _);exact en_ ⟨[4,5],[],[],[]⟩ 23 hQ)
  | contradiction
theorem Z32.con (E:En) (hE:E = E0) {k a0 r1 r2} (H:Z32.f k a0 = some (r1,r2)) :
  Cn 207 [.c (.str a0)] [] (.tup [.c (.str r1),.c (.bool r2)]) [] []:=by
 refine co_ Tryz.func207 tabOk [] fun F hF Q hQ => ?_
 simp only [Z32.f] at H
 (conv => cbv)
 repeat' first
  | replace H:=s_ H
  | (exfalso;with_reducible assumption)
  | (rw [Z7] at H;obtain ⟨hc,H⟩:=H)
  | (rw [Z2] at H;obtain ⟨hc,H⟩:=H)
  | ((with_reducible refine br2 hF H ?_ ?_) <;> (clear H;intro hb H;(try (conv => cbv))))
  | (refine w_ hF ?_;(try (conv => cbv)))
  | ((with_reducible refine k1_ 137 H ?_);clear H;intro _ hy H;refine ca_ hF (Z2e.con E hE hy) ?_;(try (conv => cbv)))
  | ((with_reducible refine k1_ 138 H ?_);clear H;intro _ hy H;refine ca_ hF (Z3g.con E hE hy) ?_;(try (conv => cbv)))
  | ((with_reducible show Q _ _);exact en_ ⟨[2,3],[],[],[]⟩ 28 hQ)
  | contradiction
theorem ZA.j1_s {k:Nat} {x0:ByteArray} {x1:Int} {x7:Int} {x8:Int} {x9:Int} {x25:Bool} {r:_} (h:ZA.j1 k x0 x1 x7 x8 x9 x25 = some r):∃ m,k = m + 1∧ZA.j1 (m + 1) x0 x1 x7 x8 x9 x25 = some r:=by
 cases k with
 | zero => simp [ZA.j1] at h
 | succ m => exact ⟨m,rfl,h⟩
theorem ZA.j1_i {k:Nat} {x0:ByteArray} {x1:Int} {x7:Int} {x8:Int} {x9:Int} {x25:Bool} {r:_}:(ZA.j1 k x0 x1 x7 x8 x9 x25 = some r) = (∃ m,k = m + 1∧ZA.j1 (m + 1) x0 x1 x7 x8 x9 x25 = some r):=propext ⟨ZA.j1_s,fun ⟨m,h,h2⟩ => by rw [h];exact h2⟩
theorem ZA.con (E:En) (hE:E = E0) {k a0 a1 r1 r2 r3} (H:ZA.f k a0 a1 = some (r1,r2,r3)) :
  Cn 130 [.c (.str a0),.c (.int .i64 a1)] [] (.tup [.c (.int .i64 r1),.c (.int .i64 r2),.c (.bool r3)]) [] []:=by
 refine co_ Tryz.func130 tabOk [] fun F hF Q hQ => ?_
 simp only [ZA.f] at H
 (conv => cbv)
 repeat' first
  | (rw [ZA.j1_i] at H;obtain ⟨m,hm,H⟩:=H;simp only [ZA.j1] at H;(try simp only [decide_eq_true_eq,Bool.false_eq_true,if_false,if_true] at H))
  | replace H:=s_ H
  | (exfalso;with_reducible assumption)
  | (rw [Z7] at H;obtain ⟨hc,H⟩:=H)
  | (rw [Z2] at H;obtain ⟨hc,H⟩:=H)
  | ((with_reducible refine br2 hF H ?_ ?_) <;> (clear H;intro hb H;(try (conv => cbv))))
  | (refine w_ hF ?_;(try (conv => cbv)))
  | ((with_reducible refine k1_ 131 H ?_);clear H;intro _ hy H;refine ca_ hF (ZD.con E hE hy) ?_;(try (conv => cbv)))
  | ((with_reducible refine k1_ 136 H ?_);clear H;intro _ hy H;refine ca_ hF (ZP.con E hE hy) ?_;(try (conv => cbv)))
  | ((with_reducible refine lo_ hF (fun n t => n≤k∧∃ x0 x1 x7 x8 x9,t = At 58 [(0,.c (.str x0)),(1,.c (.int .i64 x1)),(7,.c (.int .i64 x7)),(8,.c (.int .i64 x8)),(9,.c (.int .i64 x9))] []∧ZA.l0 n x0 x1 x7 x8 x9 = some (r1,r2,r3)) ⟨[0,1,7,8,9],[],[],[]⟩ fun n0 t ht Q0 hN0 hX0 => ?_);obtain ⟨hl,_,_,_,_,_,rfl,H⟩:=ht;rcases n0 with _ | n0;cases H;simp only [ZA.l0] at H;(try (conv => cbv)))
  | ((with_reducible show Q0 _ _);first | exact nx_ hN0 | (refine xt_ hX0 ?_;(try (conv => cbv))))
  | ((with_reducible show Q _ _);exact en_ ⟨[4,5,6],[],[],[]⟩ 58 hQ)
  | contradiction
theorem Z11.con (E:En) (hE:E = E0) {k s0_0 s0_1 s0_2 r1 r2 r3 r4} (H:Z11.f k s0_0 s0_1 s0_2 = some (r1,r2,r3,r4)) :
  Cn 133 [.ptr 10000 0] [.box [.c (.str s0_0),.c (.int .i64 s0_1),.c (.bool s0_2)]] (.c (.int .i64 r1)) [] [.box [.c (.str r2),.c (.int .i64 r3),.c (.bool r4)]]:=by
 refine co_ Tryz.func133 tabOk [] fun F hF Q hQ => ?_
 simp only [Z11.f] at H
 (conv => cbv)
 repeat' first
  | replace H:=s_ H
  | (exfalso;with_reducible assumption)
  | (rw [Z7] at H;obtain ⟨hc,H⟩:=H)
  | (rw [Z2] at H;obtain ⟨hc,H⟩:=H)
  | ((with_reducible refine br2 hF H ?_ ?_) <;> (clear H;intro hb H;(try (conv => cbv))))
  | (refine w_ hF ?_;(try (conv => cbv)))
  | ((with_reducible refine k3_ 130 H ?_);clear H;intro _ _ _ hy H;refine ca_ hF (ZA.con E hE hy) ?_;(try (conv => cbv)))
  | ((with_reducible show Q _ _);exact en_ ⟨[2],[],[],[]⟩ 35 hQ)
  | contradiction
theorem Z3.j1_s {k:Nat} {x0:ByteArray} {x374000:ByteArray} {x374001:Int} {x374002:Bool} {x375000:List Int} {x375001:Int} {x375002:Int} {x375003:Int} {r:_} (h:Z3.j1 k x0 x374000 x374001 x374002 x375000 x375001 x375002 x375003 = some r):∃ m,k = m + 1∧Z3.j1 (m + 1) x0 x374000 x374001 x374002 x375000 x375001 x375002 x375003 = some r:=by
 cases k with
 | zero => simp [Z3.j1] at h
 | succ m => exact ⟨m,rfl,h⟩
theorem Z3.j1_i {k:Nat} {x0:ByteArray} {x374000:ByteArray} {x374001:Int} {x374002:Bool} {x375000:List Int} {x375001:Int} {x375002:Int} {x375003:Int} {r:_}:(Z3.j1 k x0 x374000 x374001 x374002 x375000 x375001 x375002 x375003 = some r) = (∃ m,k = m + 1∧Z3.j1 (m + 1) x0 x374000 x374001 x374002 x375000 x375001 x375002 x375003 = some r):=propext ⟨Z3.j1_s,fun ⟨m,h,h2⟩ => by rw [h];exact h2⟩
theorem Z3.con (E:En) (hE:E = E0) {k a0 r1 r2 r3 r4 r5 r6} (H:Z3.f k a0 = some (r1,r2,r3,r4,r5,r6)) :
  Cn 151 [.c (.str a0)] [] (.tup [.agg [.own 0,.c (.int .i64 r2),.c (.int .i64 r3),.c (.int .i64 r4),.own 1],.c (.bool r6)]) [.row false 3 [.int .i64] (E.eI .i64 r1),.row false 3 [.int .i64] (E.eI .i64 r5)] []:=by
 refine co_ Tryz.func151 tabOk [400040,400044] fun F hF Q hQ => ?_
 simp only [Z3.f] at H
 (conv => cbv)
 repeat' first
  | (rw [Z3.j1_i] at H;obtain ⟨m,hm,H⟩:=H;simp only [Z3.j1] at H;(try simp only [decide_eq_true_eq,Bool.false_eq_true,if_false,if_true] at H))
  | replace H:=s_ H
  | (exfalso;with_reducible assumption)
  | (rw [Z7] at H;obtain ⟨hc,H⟩:=H)
  | (rw [Z2] at H;obtain ⟨hc,H⟩:=H)
  | ((with_reducible refine br2 hF H ?_ ?_) <;> (clear H;intro hb H;(try (conv => cbv))))
  | (refine w_ hF ?_;(try (conv => cbv)))
  | ((with_reducible refine k2_ 108 H ?_);clear H;intro _ _ hy H;refine ca_ hF (Zh.con E hE hy) ?_;(try (conv => cbv)))
  | ((with_reducible refine k4_ 133 H ?_);clear H;intro _ _ _ _ hy H;refine ca_ hF (Z11.con E hE hy) ?_;(try (conv => cbv)))
  | ((with_reducible refine k2_ 207 H ?_);clear H;intro _ _ hy H;refine ca_ hF (Z32.con E hE hy) ?_;(try (conv => cbv)))
  | ((with_reducible refine lo_ hF (fun n t => n≤k∧∃ x0 x8 x9 v0 v1 v2 v3 v4 v5 v6,t = At 103 [(0,.c (.str x0)),(2,.ptr 2 0),(6,.ptr 22 0),(7,.ptr 7 0),(8,.c (.int .i64 x8)),(9,.c (.int .i64 x9)),(22,.ptr 22 0)] [(2,.box [.own 400040,.c (.int .i64 0),.c (.int .i64 0),.c (.int .i64 0),.own 400044]),(22,.box [.c (.str v0),.c (.int .i64 v1),.c (.bool v2)]),(7,.box [.own 400140,.c (.int .i64 v4),.c (.int .i64 v5),.c (.int .i64 v6),.own 400144]),(400040,.row false 3 [.int .i64] []),(400044,.row false 3 [.int .i64] []),(400140,.row false 3 [.int .i64] (E.eI .i64 v3)),(400144,.row false 3 [.int .i64] [])]∧Z3.l0 n x0 x8 x9 v0 v1 v2 v3 v4 v5 v6 = some (r1,r2,r3,r4,r5,r6)) ⟨[0,2,6,7,8,9,22],[2,22,7],[],[(2,0,3),(2,4,3),(7,0,3),(7,4,3)]⟩ fun n0 t ht Q0 hN0 hX0 => ?_);obtain ⟨hl,_,_,_,_,_,_,_,_,_,_,rfl,H⟩:=ht;rcases n0 with _ | n0;cases H;simp only [Z3.l0] at H;(try (conv => cbv)))
  | ((with_reducible show Q0 _ _);first | exact nx_ hN0 | (refine xt_ hX0 ?_;(try (conv => cbv))))
  | ((with_reducible refine lo_ hF (fun n t => n≤k∧∃ x0 x8 x10 v0 v1 v2 v3 v4 v5 v6 v7,t = At 103 [(0,.c (.str x0)),(2,.ptr 2 0),(6,.ptr 22 0),(7,.ptr 7 0),(8,.c (.int .i64 x8)),(10,.c (.int .i64 x10)),(22,.ptr 22 0)] [(2,.box [.own 400040,.c (.int .i64 0),.c (.int .i64 0),.c (.int .i64 0),.own 400044]),(22,.box [.c (.str v0),.c (.int .i64 v1),.c (.bool v2)]),(7,.box [.own 400140,.c (.int .i64 v4),.c (.int .i64 v5),.c (.int .i64 v6),.own 400144]),(400040,.row false 3 [.int .i64] []),(400044,.row false 3 [.int .i64] []),(400140,.row false 3 [.int .i64] (E.eI .i64 v3)),(400144,.row false 3 [.int .i64] (E.eI .i64 v7))]∧Z3.l1 n x0 x8 x10 v0 v1 v2 v3 v4 v5 v6 v7 = some (r1,r2,r3,r4,r5,r6)) ⟨[0,2,6,7,8,10,22],[2,22,7],[],[(2,0,3),(2,4,3),(7,0,3),(7,4,3)]⟩ fun n1 t ht Q1 hN1 hX1 => ?_);obtain ⟨hl,_,_,_,_,_,_,_,_,_,_,_,rfl,H⟩:=ht;rcases n1 with _ | n1;cases H;simp only [Z3.l1] at H;(try (conv => cbv)))
  | ((with_reducible show Q1 _ _);first | exact nx_ hN1 | (refine xt_ hX1 ?_;(try (conv => cbv))))
  | ((with_reducible show Q _ _);exact en_ ⟨[2,3],[2],[],[(2,0,3),(2,4,3)]⟩ 103 hQ)
  | contradiction
theorem Z1c.con (E:En) (hE:E = E0) {k l0_0 a1 r} (H:Z1c.f k l0_0 a1 = some (r)) :
  Cn 60 [.agg [.c (.sl [.str,.str] (E.e122 l0_0))],.c (.str a1)] [] (.c (.str r)) [] []:=by
 refine co_ Tryz.func60 tabOk [] fun F hF Q hQ => ?_
 simp only [Z1c.f] at H
 (conv => cbv)
 repeat' first
  | replace H:=s_ H
  | (exfalso;with_reducible assumption)
  | (rw [Z7] at H;obtain ⟨hc,H⟩:=H)
  | (rw [Z2] at H;obtain ⟨hc,H⟩:=H)
  | ((with_reducible refine br2 hF H ?_ ?_) <;> (clear H;intro hb H;(try (conv => cbv))))
  | (refine w_ hF ?_;(try (conv => cbv)))
  | ((with_reducible refine k1_ 75 H ?_);clear H;intro _ hy H;refine ca_ hF (Z0P.con E hE hy) ?_;(try (conv => cbv)))
  | ((with_reducible show Q _ _);exact en_ ⟨[4],[],[],[]⟩ 17 hQ)
  | contradiction
theorem Z1O.con (E:En) (hE:E = E0) {k a0 r1 r2} (H:Z1O.f k a0 = some (r1,r2)) :
  Cn 63 [.c (.str a0)] [] (.tup [.c (.str r1),.c (.bool r2)]) [] []:=by
 refine co_ Tryz.func63 tabOk [] fun F hF Q hQ => ?_
 simp only [Z1O.f] at H
 (conv => cbv)
 repeat' first
  | replace H:=s_ H
  | (exfalso;with_reducible assumption)
  | (rw [Z7] at H;obtain ⟨hc,H⟩:=H)
  | (rw [Z2] at H;obtain ⟨hc,H⟩:=H)
  | ((with_reducible refine br2 hF H ?_ ?_) <;> (clear H;intro hb H;(try (conv => cbv))))
  | (refine w_ hF ?_;(try (conv => cbv)))
  | ((with_reducible refine k1_ 131 H ?_);clear H;intro _ hy H;refine ca_ hF (ZD.con E hE hy) ?_;(try (conv => cbv)))
  | ((with_reducible refine k1_ 136 H ?_);clear H;intro _ hy H;refine ca_ hF (ZP.con E hE hy) ?_;(try (conv => cbv)))
  | ((with_reducible refine k1_ 137 H ?_);clear H;intro _ hy H;refine ca_ hF (Z2e.con E hE hy) ?_;(try (conv => cbv)))
  | ((with_reducible refine k1_ 138 H ?_);clear H;intro _ hy H;refine ca_ hF (Z3g.con E hE hy) ?_;(try (conv => cbv)))
  | ((with_reducible show Q _ _);exact en_ ⟨[2,3],[],[],[]⟩ 17 hQ)
  | contradiction
end Go.Ev
