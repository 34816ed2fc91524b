/- Contracts of the Go functions that this law reaches: what each call returns, by its plain function. No conditions but those that each statement names. By this repo's programs; comments are taken out. -/
import Derived.Test.YtlmicldpfnmeaaaGreatDoorVFnComesBackD
import Derived.Test.YtlmicldpfnmeaaaGreatDoorVFnComesBackC1
import Derived.Test.YtlmicldpfnmeaaaGreatDoorVFnComesBackC2
import Derived.Test.YtlmicldpfnmeaaaGreatDoorVFnComesBackC4
set_option linter.all false
namespace Go.Ev
open Go.RowKit Go.Proofs Go.Proofs.YtlmicldpfnmeaaaGreatDoorW.PrintWords Go.Proofs.YtlmicldpfnmeaaaGreatDoorW.PrintLast Go.Proofs.YtlmicldpfnmeaaaGreatDoorW.PrintMore
set_option maxRecDepth 100000
set_option maxHeartbeats 4000000
theorem Z6.j0_s {k:Nat} {x39:Bool} {x549000:List S122} {x564000:List Int} {x564001:Int} {x564002:Int} {x564003:Int} {x564004:List Int} {r:_} (h:Z6.j0 k x39 x549000 x564000 x564001 x564002 x564003 x564004 = some r):∃ m,k = m + 1∧Z6.j0 (m + 1) x39 x549000 x564000 x564001 x564002 x564003 x564004 = some r:=by
 cases k with
 | zero => simp [Z6.j0] at h
 | succ m => exact ⟨m,rfl,h⟩
theorem Z6.j4_s {k:Nat} {x11:Int} {x12:Int} {x14:List S145} {x16:Int} {x117:Bool} {x549000:List S122} {x564000:List Int} {x564001:Int} {x564002:Int} {x564003:Int} {x564004:List Int} {x565000:List Int} {x565001:Int} {x565002:Int} {x565003:Int} {x565004:List Int} {x565005:List S145} {x565006:Int} {r:_} (h:Z6.j4 k x11 x12 x14 x16 x117 x549000 x564000 x564001 x564002 x564003 x564004 x565000 x565001 x565002 x565003 x565004 x565005 x565006 = some r):∃ m,k = m + 1∧Z6.j4 (m + 1) x11 x12 x14 x16 x117 x549000 x564000 x564001 x564002 x564003 x564004 x565000 x565001 x565002 x565003 x565004 x565005 x565006 = some r:=by
 cases k with
 | zero => simp [Z6.j4] at h
 | succ m => exact ⟨m,rfl,h⟩
theorem Z6.j0_i {k:Nat} {x39:Bool} {x549000:List S122} {x564000:List Int} {x564001:Int} {x564002:Int} {x564003:Int} {x564004:List Int} {r:_}:(Z6.j0 k x39 x549000 x564000 x564001 x564002 x564003 x564004 = some r) = (∃ m,k = m + 1∧Z6.j0 (m + 1) x39 x549000 x564000 x564001 x564002 x564003 x564004 = some r):=propext ⟨Z6.j0_s,fun ⟨m,h,h2⟩ => by rw [h];exact h2⟩
theorem Z6.j4_i {k:Nat} {x11:Int} {x12:Int} {x14:List S145} {x16:Int} {x117:Bool} {x549000:List S122} {x564000:List Int} {x564001:Int} {x564002:Int} {x564003:Int} {x564004:List Int} {x565000:List Int} {x565001:Int} {x565002:Int} {x565003:Int} {x565004:List Int} {x565005:List S145} {x565006:Int} {r:_}:(Z6.j4 k x11 x12 x14 x16 x117 x549000 x564000 x564001 x564002 x564003 x564004 x565000 x565001 x565002 x565003 x565004 x565005 x565006 = some r) = (∃ m,k = m + 1∧Z6.j4 (m + 1) x11 x12 x14 x16 x117 x549000 x564000 x564001 x564002 x564003 x564004 x565000 x565001 x565002 x565003 x565004 x565005 x565006 = some r):=propext ⟨Z6.j4_s,fun ⟨m,h,h2⟩ => by rw [h];exact h2⟩
theorem Z6.con (E:En) (hE:E = E0) {k l0_0 r1 r2 r3 r4 r5 r6 r7 r8 r9} (H:Z6.f k l0_0 = some (r1,r2,r3,r4,r5,r6,r7,r8,r9)) :
  Cn 74 [.agg [.c (.sl [.str,.str] (E.e122 l0_0))]] [] (.tup [.agg [.own 0,.c (.int .i64 r2),.c (.int .i64 r3),.c (.int .i64 r4),.own 1,.own 2,.c (.int .i64 r7)],.c (.int .i64 r8),.c (.int .i64 r9)]) [.row false 3 [.int .i64] (E.eI .i64 r1),.row false 3 [.int .i64] (E.eI .i64 r5),.row false 145 [.str,.int .i64,.int .i64,.int .i64] (E.e145 r6)] []:=by
 refine co_ Tryz.func74 tabOk [400040,400044,400045] fun F hF Q hQ => ?_
 simp only [Z6.f] at H
 (conv => cbv)
 repeat' first
  | (rw [Z6.j0_i] at H;obtain ⟨m,hm,H⟩:=H;simp only [Z6.j0] at H;(try simp only [decide_eq_true_eq,Bool.false_eq_true,if_false,if_true] at H))
  | (rw [Z6.j4_i] at H;obtain ⟨m,hm,H⟩:=H;simp only [Z6.j4] at H;(try simp only [decide_eq_true_eq,Bool.false_eq_true,if_false,if_true] at H))
  | replace H:=s_ H
  | (exfalso;with_reducible assumption)
  | (rw [Z7] at H;obtain ⟨hc,H⟩:=H)
  | (rw [Z2] at H;obtain ⟨hc,H⟩:=H)
  | ((with_reducible refine br2 hF H ?_ ?_) <;> (clear H;intro hb H;(try (conv => cbv))))
  | (refine w_ hF ?_;(try (conv => cbv)))
  | ((with_reducible refine k1_ 60 H ?_);clear H;intro _ hy H;refine ca_ hF (Z1c.con E hE hy) ?_;(try (conv => cbv)))
  | ((with_reducible refine k1_ 61 H ?_);clear H;intro _ hy H;refine ca_ hF (Z0f.con E hE hy) ?_;(try (conv => cbv)))
  | ((with_reducible refine k2_ 63 H ?_);clear H;intro _ _ hy H;refine ca_ hF (Z1O.con E hE hy) ?_;(try (conv => cbv)))
  | ((with_reducible refine k1_ 75 H ?_);clear H;intro _ hy H;refine ca_ hF (Z0P.con E hE hy) ?_;(try (conv => cbv)))
  | ((with_reducible refine k1_ 95 H ?_);clear H;intro _ hy H;refine ca_ hF (ZO.con E hE hy) ?_;(try (conv => cbv)))
  | ((with_reducible refine k1_ 96 H ?_);clear H;intro _ hy H;refine ca_ hF (Z1j.con E hE hy) ?_;(try (conv => cbv)))
  | ((with_reducible refine k2_ 150 H ?_);clear H;intro _ _ hy H;refine ca_ hF (Z44.con E hE hy) ?_;(try (conv => cbv)))
  | ((with_reducible refine k6_ 151 H ?_);clear H;intro _ _ _ _ _ _ hy H;refine ca_ hF (Z3.con E hE hy) ?_;(try (conv => cbv)))
  | ((with_reducible refine k3_ 152 H ?_);clear H;intro _ _ _ hy H;refine ca_ hF (Z01.con E hE hy) ?_;(try (conv => cbv)))
  | ((with_reducible refine k1_ 153 H ?_);clear H;intro _ hy H;refine ca_ hF (Zf.con E hE hy) ?_;(try (conv => cbv)))
  | ((with_reducible refine lo_ hF (fun n t => n≤k∧∃ x10 v0 v1 v2 v3 v4 v5 v6 v7 v8 v9,t = At 137 [(1,.ptr 1 0),(2,.ptr 2 0),(7,.ptr 7 0),(9,.ptr 9 0),(10,.c (.int .i64 x10))] [(1,.box [.c (.sl [.str,.str] (E.e122 v0))]),(2,.box [.own 400040,.c (.int .i64 0),.c (.int .i64 0),.c (.int .i64 0),.own 400044,.own 400045,.c (.int .i64 0)]),(7,.box [.own 400180,.c (.int .i64 v1),.c (.int .i64 v2),.c (.int .i64 v3),.own 400184]),(9,.box [.own 400180,.c (.int .i64 v5),.c (.int .i64 v6),.c (.int .i64 v7),.own 400184,.own 400185,.c (.int .i64 v9)]),(400040,.row false 3 [.int .i64] []),(400044,.row false 3 [.int .i64] []),(400045,.row false 145 [.str,.int .i64,.int .i64,.int .i64] []),(400180,.row false 3 [.int .i64] (E.eI .i64 v4)),(400184,.row false 3 [.int .i64] (E.eI .i64 v8)),(400185,.row false 145 [.str,.int .i64,.int .i64,.int .i64] [])]∧Z6.l0 n x10 v0 v4 v1 v2 v3 v8 v4 v5 v6 v7 v8 v9 = some (r1,r2,r3,r4,r5,r6,r7,r8,r9)) ⟨[1,2,7,9,10],[1,2,7,9],[],[(2,0,3),(2,4,3),(2,5,145),(9,0,3),(9,4,3),(9,5,145)]⟩ fun n0 t ht Q0 hN0 hX0 => ?_);obtain ⟨hl,_,_,_,_,_,_,_,_,_,_,_,rfl,H⟩:=ht;rcases n0 with _ | n0;cases H;simp only [Z6.l0] at H;(try (conv => cbv)))
  | ((with_reducible show Q0 _ _);first | exact nx_ hN0 | (refine xt_ hX0 ?_;(try (conv => cbv))))
  | ((with_reducible refine lo_ hF (fun n t => n≤k∧∃ x11 x12 v0 v1 v2 v3 v4 v5 v6 v7 v8 v9 v10,t = At 137 [(1,.ptr 1 0),(2,.ptr 2 0),(7,.ptr 7 0),(9,.ptr 9 0),(11,.c (.int .i64 x11)),(12,.c (.int .i64 x12))] [(1,.box [.c (.sl [.str,.str] (E.e122 v0))]),(2,.box [.own 400040,.c (.int .i64 0),.c (.int .i64 0),.c (.int .i64 0),.own 400044,.own 400045,.c (.int .i64 0)]),(7,.box [.own 400180,.c (.int .i64 v1),.c (.int .i64 v2),.c (.int .i64 v3),.own 400184]),(9,.box [.own 400180,.c (.int .i64 v5),.c (.int .i64 v6),.c (.int .i64 v7),.own 400184,.own 400185,.c (.int .i64 v10)]),(400040,.row false 3 [.int .i64] []),(400044,.row false 3 [.int .i64] []),(400045,.row false 145 [.str,.int .i64,.int .i64,.int .i64] []),(400180,.row false 3 [.int .i64] (E.eI .i64 v4)),(400184,.row false 3 [.int .i64] (E.eI .i64 v8)),(400185,.row false 145 [.str,.int .i64,.int .i64,.int .i64] (E.e145 v9))]∧Z6.l1 n x11 x12 v0 v4 v1 v2 v3 v8 v4 v5 v6 v7 v8 v9 v10 = some (r1,r2,r3,r4,r5,r6,r7,r8,r9)) ⟨[1,2,7,9,11,12],[1,2,7,9],[],[(2,0,3),(2,4,3),(2,5,145),(9,0,3),(9,4,3),(9,5,145)]⟩ fun n1 t ht Q1 hN1 hX1 => ?_);obtain ⟨hl,_,_,_,_,_,_,_,_,_,_,_,_,_,rfl,H⟩:=ht;rcases n1 with _ | n1;cases H;simp only [Z6.l1] at H;(try (conv => cbv)))
  | ((with_reducible show Q1 _ _);first | exact nx_ hN1 | (refine xt_ hX1 ?_;(try (conv => cbv))))
  | ((with_reducible refine lo_ hF (fun n t => n≤n1∧∃ x11 x12 x13 x14 x15 x16 x17 v0 v1 v2 v3 v4 v5 v6 v7 v8 v9 v10,t = At 137 [(1,.ptr 1 0),(2,.ptr 2 0),(7,.ptr 7 0),(9,.ptr 9 0),(11,.c (.int .i64 x11)),(12,.c (.int .i64 x12)),(13,.c (.str x13)),(14,.c (.sl [.str,.int .i64,.int .i64,.int .i64] (E.e145 x14))),(15,.c (.sl [.str] (E.eS x15))),(16,.c (.int .i64 x16)),(17,.c (.int .i64 x17))] [(1,.box [.c (.sl [.str,.str] (E.e122 v0))]),(2,.box [.own 400040,.c (.int .i64 0),.c (.int .i64 0),.c (.int .i64 0),.own 400044,.own 400045,.c (.int .i64 0)]),(7,.box [.own 400180,.c (.int .i64 v1),.c (.int .i64 v2),.c (.int .i64 v3),.own 400184]),(9,.box [.own 400180,.c (.int .i64 v5),.c (.int .i64 v6),.c (.int .i64 v7),.own 400184,.own 400185,.c (.int .i64 v10)]),(400040,.row false 3 [.int .i64] []),(400044,.row false 3 [.int .i64] []),(400045,.row false 145 [.str,.int .i64,.int .i64,.int .i64] []),(400180,.row false 3 [.int .i64] (E.eI .i64 v4)),(400184,.row false 3 [.int .i64] (E.eI .i64 v8)),(400185,.row false 145 [.str,.int .i64,.int .i64,.int .i64] (E.e145 v9))]∧Z6.l2 n x11 x12 x13 x14 x15 x16 x17 v0 v4 v1 v2 v3 v8 v4 v5 v6 v7 v8 v9 v10 = some (r1,r2,r3,r4,r5,r6,r7,r8,r9)) ⟨[1,2,7,9,11,12,13,14,15,16,17],[1,2,7,9],[],[(2,0,3),(2,4,3),(2,5,145),(9,0,3),(9,4,3),(9,5,145)]⟩ fun n2 t ht Q2 hN2 hX2 => ?_);obtain ⟨hl,_,_,_,_,_,_,_,_,_,_,_,_,_,_,_,_,_,_,rfl,H⟩:=ht;rcases n2 with _ | n2;cases H;simp only [Z6.l2] at H;(try (conv => cbv)))
  | ((with_reducible show Q2 _ _);first | exact nx_ hN2 | (refine xt_ hX2 ?_;(try (conv => cbv))))
  | ((with_reducible show Q _ _);exact en_ ⟨[2,3,4],[2],[],[(2,0,3),(2,4,3),(2,5,145)]⟩ 137 hQ)
  | contradiction
theorem ZH.con (E:En) (hE:E = E0) {k a0 r1 r2} (H:ZH.f k a0 = some (r1,r2)) :
  Cn 154 [.c (.str a0)] [] (.tup [.c (.int .i64 r1),.c (.bool r2)]) [] []:=by
 refine co_ Tryz.func154 tabOk [] fun F hF Q hQ => ?_
 simp only [ZH.f] at H
 (conv => cbv)
 repeat' first
  | replace H:=s_ H
  | (exfalso;with_reducible assumption)
  | (rw [Z7] at H;obtain ⟨hc,H⟩:=H)
  | (rw [Z2] at H;obtain ⟨hc,H⟩:=H)
  | ((with_reducible refine br2 hF H ?_ ?_) <;> (clear H;intro hb H;(try (conv => cbv))))
  | (refine w_ hF ?_;(try (conv => cbv)))
  | ((with_reducible refine k1_ 132 H ?_);clear H;intro _ hy H;refine ca_ hF (Z0C.con E hE hy) ?_;(try (conv => cbv)))
  | ((with_reducible refine lo_ hF (fun n t => n≤k∧∃ x0 x4 x5,t = At 42 [(0,.c (.str x0)),(4,.c (.int .i64 x4)),(5,.c (.int .i64 x5))] []∧ZH.l0 n x0 x4 x5 = some (r1,r2)) ⟨[0,4,5],[],[],[]⟩ fun n0 t ht Q0 hN0 hX0 => ?_);obtain ⟨hl,_,_,_,rfl,H⟩:=ht;rcases n0 with _ | n0;cases H;simp only [ZH.l0] at H;(try (conv => cbv)))
  | ((with_reducible show Q0 _ _);first | exact nx_ hN0 | (refine xt_ hX0 ?_;(try (conv => cbv))))
  | ((with_reducible show Q _ _);exact en_ ⟨[2,3],[],[],[]⟩ 42 hQ)
  | contradiction
theorem Z3Y.con (E:En) (hE:E = E0) {k a0 r} (H:Z3Y.f k a0 = some (r)) :
  Cn 76 [.c (.str a0)] [] (.c (.int .i64 r)) [] []:=by
 refine co_ Tryz.func76 tabOk [] fun F hF Q hQ => ?_
 simp only [Z3Y.f] at H
 (conv => cbv)
 repeat' first
  | replace H:=s_ H
  | (exfalso;with_reducible assumption)
  | (rw [Z7] at H;obtain ⟨hc,H⟩:=H)
  | (rw [Z2] at H;obtain ⟨hc,H⟩:=H)
  | ((with_reducible refine br2 hF H ?_ ?_) <;> (clear H;intro hb H;(try (conv => cbv))))
  | (refine w_ hF ?_;(try (conv => cbv)))
  | ((with_reducible refine k1_ 61 H ?_);clear H;intro _ hy H;refine ca_ hF (Z0f.con E hE hy) ?_;(try (conv => cbv)))
  | ((with_reducible refine k2_ 154 H ?_);clear H;intro _ _ hy H;refine ca_ hF (ZH.con E hE hy) ?_;(try (conv => cbv)))
  | ((with_reducible show Q _ _);exact en_ ⟨[2],[],[],[]⟩ 23 hQ)
  | contradiction
theorem Z20.con (E:En) (hE:E = E0) {k l0 a1 r} (H:Z20.f k l0 a1 = some (r)) :
  Cn 77 [.c (.sl [.int .i64] (E.eI .i64 l0)),.c (.int .i64 a1)] [] (.c (.bool r)) [] []:=by
 refine co_ Tryz.func77 tabOk [] fun F hF Q hQ => ?_
 simp only [Z20.f] at H
 (conv => cbv)
 repeat' first
  | replace H:=s_ H
  | (exfalso;with_reducible assumption)
  | (rw [Z7] at H;obtain ⟨hc,H⟩:=H)
  | (rw [Z2] at H;obtain ⟨hc,H⟩:=H)
  | ((with_reducible refine br2 hF H ?_ ?_) <;> (clear H;intro hb H;(try (conv => cbv))))
  | (refine w_ hF ?_;(try (conv => cbv)))
  | ((with_reducible refine lo_ hF (fun n t => n≤k∧∃ x0 x1 x5,t = At 18 [(0,.c (.sl [.int .i64] (E.eI .i64 x0))),(1,.c (.int .i64 x1)),(5,.c (.int .i64 x5))] []∧Z20.l0 n x0 x1 x5 = some (r)) ⟨[0,1,5],[],[],[]⟩ fun n0 t ht Q0 hN0 hX0 => ?_);obtain ⟨hl,_,_,_,rfl,H⟩:=ht;rcases n0 with _ | n0;cases H;simp only [Z20.l0] at H;(try (conv => cbv)))
  | ((with_reducible show Q0 _ _);first | exact nx_ hN0 | (refine xt_ hX0 ?_;(try (conv => cbv))))
  | ((with_reducible show Q _ _);exact en_ ⟨[4],[],[],[]⟩ 18 hQ)
  | contradiction
end Go.Ev
