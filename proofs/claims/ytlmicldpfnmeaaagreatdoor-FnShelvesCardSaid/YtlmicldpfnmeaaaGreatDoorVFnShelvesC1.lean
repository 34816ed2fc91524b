/- Contracts of the Go functions that this law reaches: what each call returns, by its plain function. No conditions but those that each statement names. By this repo's programs; comments are taken out. -/
import Derived.Test.YtlmicldpfnmeaaaGreatDoorVFnShelvesD
import Derived.Test.YtlmicldpfnmeaaaGreatDoorVFnShelvesC0
set_option linter.all false
namespace Go.Ev
open Go.RowKit Go.Proofs Go.Proofs.YtlmicldpfnmeaaaGreatDoorW.PrintWords Go.Proofs.YtlmicldpfnmeaaaGreatDoorW.PrintLast Go.Proofs.YtlmicldpfnmeaaaGreatDoorW.PrintMore
set_option maxRecDepth 100000
set_option maxHeartbeats 4000000
theorem ZR.con (E:En) (hE:E = E0) {k l0_0 r} (H:ZR.f k l0_0 = some (r)) :
  Cn 95 [.agg [.c (.sl [.str,.str] (E.e122 l0_0))]] [] (.c (.bool r)) [] []:=by
 refine co_ Tryz.func95 tabOk [] fun F hF Q hQ => ?_
 simp only [ZR.f] at H
 (conv => cbv)
 repeat' first
  | replace H:=s_ H
  | (exfalso;with_reducible assumption)
  | (rw [Z6] at H;obtain ⟨hc,H⟩:=H)
  | (rw [Z2] at H;obtain ⟨hc,H⟩:=H)
  | ((with_reducible refine br2 hF H ?_ ?_) <;> (clear H;intro hb H;(try (conv => cbv))))
  | (refine w_ hF ?_;(try (conv => cbv)))
  | ((with_reducible refine k1_ 131 H ?_);clear H;intro _ hy H;refine ca_ hF (ZH.con E hE hy) ?_;(try (conv => cbv)))
  | ((with_reducible refine lo_ hF (fun n t => n≤k∧∃ x3 v0,t = At 54 [(1,.ptr 1 0),(3,.c (.int .i64 x3))] [(1,.box [.c (.sl [.str,.str] (E.e122 v0))])]∧ZR.l0 n x3 v0 = some (r)) ⟨[1,3],[1],[],[]⟩ fun n0 t ht Q0 hN0 hX0 => ?_);obtain ⟨hl,_,_,rfl,H⟩:=ht;rcases n0 with _ | n0;cases H;simp only [ZR.l0] at H;(try (conv => cbv)))
  | ((with_reducible show Q0 _ _);first | exact nx_ hN0 | (refine xt_ hX0 ?_;(try (conv => cbv))))
  | ((with_reducible show Q _ _);exact en_ ⟨[2],[],[],[]⟩ 54 hQ)
  | contradiction
theorem Z0K.con (E:En) (hE:E = E0) {k l0_0 a1 r} (H:Z0K.f k l0_0 a1 = some (r)) :
  Cn 75 [.agg [.c (.sl [.str,.str] (E.e122 l0_0))],.c (.str a1)] [] (.c (.int .i64 r)) [] []:=by
 refine co_ Tryz.func75 tabOk [] fun F hF Q hQ => ?_
 simp only [Z0K.f] at H
 (conv => cbv)
 repeat' first
  | replace H:=s_ H
  | (exfalso;with_reducible assumption)
  | (rw [Z6] at H;obtain ⟨hc,H⟩:=H)
  | (rw [Z2] at H;obtain ⟨hc,H⟩:=H)
  | ((with_reducible refine br2 hF H ?_ ?_) <;> (clear H;intro hb H;(try (conv => cbv))))
  | (refine w_ hF ?_;(try (conv => cbv)))
  | ((with_reducible refine lo_ hF (fun n t => n≤k∧∃ x1 x5 v0,t = At 22 [(1,.c (.str x1)),(2,.ptr 2 0),(5,.c (.int .i64 x5))] [(2,.box [.c (.sl [.str,.str] (E.e122 v0))])]∧Z0K.l0 n x1 x5 v0 = some (r)) ⟨[1,2,5],[2],[],[]⟩ fun n0 t ht Q0 hN0 hX0 => ?_);obtain ⟨hl,_,_,_,rfl,H⟩:=ht;rcases n0 with _ | n0;cases H;simp only [Z0K.l0] at H;(try (conv => cbv)))
  | ((with_reducible show Q0 _ _);first | exact nx_ hN0 | (refine xt_ hX0 ?_;(try (conv => cbv))))
  | ((with_reducible show Q _ _);exact en_ ⟨[4],[],[],[]⟩ 22 hQ)
  | contradiction
theorem spec_FileAt.con (E:En) (hE:E = E0) {k l0_0 a1 r1 r2} (H:spec_FileAt.f k l0_0 a1 = some (r1,r2)) :
  Cn 150 [.agg [.c (.sl [.str,.str] (E.e122 l0_0))],.c (.str a1)] [] (.tup [.c (.str r1),.c (.bool r2)]) [] []:=by
 refine co_ Tryz.func150 tabOk [] fun F hF Q hQ => ?_
 simp only [spec_FileAt.f] at H
 (conv => cbv)
 repeat' first
  | replace H:=s_ H
  | (exfalso;with_reducible assumption)
  | (rw [Z6] at H;obtain ⟨hc,H⟩:=H)
  | (rw [Z2] at H;obtain ⟨hc,H⟩:=H)
  | ((with_reducible refine br2 hF H ?_ ?_) <;> (clear H;intro hb H;(try (conv => cbv))))
  | (refine w_ hF ?_;(try (conv => cbv)))
  | ((with_reducible refine k1_ 75 H ?_);clear H;intro _ hy H;refine ca_ hF (Z0K.con E hE hy) ?_;(try (conv => cbv)))
  | ((with_reducible refine k1_ 95 H ?_);clear H;intro _ hy H;refine ca_ hF (ZR.con E hE hy) ?_;(try (conv => cbv)))
  | ((with_reducible show Q _ _);exact en_ ⟨[4,5],[],[],[]⟩ 23 hQ)
  | contradiction
theorem spec_Unsealed.con (E:En) (hE:E = E0) {k a0 r1 r2} (H:spec_Unsealed.f k a0 = some (r1,r2)) :
  Cn 207 [.c (.str a0)] [] (.tup [.c (.str r1),.c (.bool r2)]) [] []:=by
 refine co_ Tryz.func207 tabOk [] fun F hF Q hQ => ?_
 simp only [spec_Unsealed.f] at H
 (conv => cbv)
 repeat' first
  | replace H:=s_ H
  | (exfalso;with_reducible assumption)
  | (rw [Z6] at H;obtain ⟨hc,H⟩:=H)
  | (rw [Z2] at H;obtain ⟨hc,H⟩:=H)
  | ((with_reducible refine br2 hF H ?_ ?_) <;> (clear H;intro hb H;(try (conv => cbv))))
  | (refine w_ hF ?_;(try (conv => cbv)))
  | ((with_reducible refine k1_ 137 H ?_);clear H;intro _ hy H;refine ca_ hF (spec_l02Four.con E hE hy) ?_;(try (conv => cbv)))
  | ((with_reducible refine k1_ 138 H ?_);clear H;intro _ hy H;refine ca_ hF (spec_SumOf.con E hE hy) ?_;(try (conv => cbv)))
  | ((with_reducible show Q _ _);exact en_ ⟨[2,3],[],[],[]⟩ 28 hQ)
  | contradiction
theorem ZB.j1_s {k:Nat} {x0:ByteArray} {x1:Int} {x7:Int} {x8:Int} {x9:Int} {x25:Bool} {r:_} (h:ZB.j1 k x0 x1 x7 x8 x9 x25 = some r):∃ m,k = m + 1∧ZB.j1 (m + 1) x0 x1 x7 x8 x9 x25 = some r:=by
 cases k with
 | zero => simp [ZB.j1] at h
 | succ m => exact ⟨m,rfl,h⟩
theorem ZB.j1_i {k:Nat} {x0:ByteArray} {x1:Int} {x7:Int} {x8:Int} {x9:Int} {x25:Bool} {r:_}:(ZB.j1 k x0 x1 x7 x8 x9 x25 = some r) = (∃ m,k = m + 1∧ZB.j1 (m + 1) x0 x1 x7 x8 x9 x25 = some r):=propext ⟨ZB.j1_s,fun ⟨m,h,h2⟩ => by rw [h];exact h2⟩
theorem ZB.con (E:En) (hE:E = E0) {k a0 a1 r1 r2 r3} (H:ZB.f k a0 a1 = some (r1,r2,r3)) :
  Cn 130 [.c (.str a0),.c (.int .i64 a1)] [] (.tup [.c (.int .i64 r1),.c (.int .i64 r2),.c (.bool r3)]) [] []:=by
 refine co_ Tryz.func130 tabOk [] fun F hF Q hQ => ?_
 simp only [ZB.f] at H
 (conv => cbv)
 repeat' first
  | (rw [ZB.j1_i] at H;obtain ⟨m,hm,H⟩:=H;simp only [ZB.j1] at H;(try simp only [decide_eq_true_eq,Bool.false_eq_true,if_false,if_true] at H))
  | replace H:=s_ H
  | (exfalso;with_reducible assumption)
  | (rw [Z6] at H;obtain ⟨hc,H⟩:=H)
  | (rw [Z2] at H;obtain ⟨hc,H⟩:=H)
  | ((with_reducible refine br2 hF H ?_ ?_) <;> (clear H;intro hb H;(try (conv => cbv))))
  | (refine w_ hF ?_;(try (conv => cbv)))
  | ((with_reducible refine k1_ 131 H ?_);clear H;intro _ hy H;refine ca_ hF (ZH.con E hE hy) ?_;(try (conv => cbv)))
  | ((with_reducible refine k1_ 136 H ?_);clear H;intro _ hy H;refine ca_ hF (ZL.con E hE hy) ?_;(try (conv => cbv)))
  | ((with_reducible refine lo_ hF (fun n t => n≤k∧∃ x0 x1 x7 x8 x9,t = At 58 [(0,.c (.str x0)),(1,.c (.int .i64 x1)),(7,.c (.int .i64 x7)),(8,.c (.int .i64 x8)),(9,.c (.int .i64 x9))] []∧ZB.l0 n x0 x1 x7 x8 x9 = some (r1,r2,r3)) ⟨[0,1,7,8,9],[],[],[]⟩ fun n0 t ht Q0 hN0 hX0 => ?_);obtain ⟨hl,_,_,_,_,_,rfl,H⟩:=ht;rcases n0 with _ | n0;cases H;simp only [ZB.l0] at H;(try (conv => cbv)))
  | ((with_reducible show Q0 _ _);first | exact nx_ hN0 | (refine xt_ hX0 ?_;(try (conv => cbv))))
  | ((with_reducible show Q _ _);exact en_ ⟨[4,5,6],[],[],[]⟩ 58 hQ)
  | contradiction
theorem Z0U.con (E:En) (hE:E = E0) {k s0_0 s0_1 s0_2 r1 r2 r3 r4} (H:Z0U.f k s0_0 s0_1 s0_2 = some (r1,r2,r3,r4)) :
  Cn 133 [.ptr 10000 0] [.box [.c (.str s0_0),.c (.int .i64 s0_1),.c (.bool s0_2)]] (.c (.int .i64 r1)) [] [.box [.c (.str r2),.c (.int .i64 r3),.c (.bool r4)]]:=by
 refine co_ Tryz.func133 tabOk [] fun F hF Q hQ => ?_
 simp only [Z0U.f] at H
 (conv => cbv)
 repeat' first
  | replace H:=s_ H
  | (exfalso;with_reducible assumption)
  | (rw [Z6] at H;obtain ⟨hc,H⟩:=H)
  | (rw [Z2] at H;obtain ⟨hc,H⟩:=H)
  | ((with_reducible refine br2 hF H ?_ ?_) <;> (clear H;intro hb H;(try (conv => cbv))))
  | (refine w_ hF ?_;(try (conv => cbv)))
  | ((with_reducible refine k3_ 130 H ?_);clear H;intro _ _ _ hy H;refine ca_ hF (ZB.con E hE hy) ?_;(try (conv => cbv)))
  | ((with_reducible show Q _ _);exact en_ ⟨[2],[],[],[]⟩ 35 hQ)
  | contradiction
theorem Z3.j1_s {k:Nat} {x0:ByteArray} {x374000:ByteArray} {x374001:Int} {x374002:Bool} {x375000:List Int} {x375001:Int} {x375002:Int} {x375003:Int} {r:_} (h:Z3.j1 k x0 x374000 x374001 x374002 x375000 x375001 x375002 x375003 = some r):∃ m,k = m + 1∧Z3.j1 (m + 1) x0 x374000 x374001 x374002 x375000 x375001 x375002 x375003 = some r:=by
 cases k with
 | zero => simp [Z3.j1] at h
 | succ m => exact ⟨m,rfl,h⟩
theorem Z3.j1_i {k:Nat} {x0:ByteArray} {x374000:ByteArray} {x374001:Int} {x374002:Bool} {x375000:List Int} {x375001:Int} {x375002:Int} {x375003:Int} {r:_}:(Z3.j1 k x0 x374000 x374001 x374002 x375000 x375001 x375002 x375003 = some r) = (∃ m,k = m + 1∧Z3.j1 (m + 1) x0 x374000 x374001 x374002 x375000 x375001 x375002 x375003 = some r):=propext ⟨Z3.j1_s,fun ⟨m,h,h2⟩ => by rw [h];exact h2⟩
theorem Z3.con (E:En) (hE:E = E0) {k a0 r1 r2 r3 r4 r5 r6} (H:Z3.f k a0 = some (r1,r2,r3,r4,r5,r6)) :
  Cn 151 [.c (.str a0)] [] (.tup [.agg [.own 0,.c (.int .i64 r2),.c (.int .i64 r3),.c (.int .i64 r4),.own 1],.c (.bool r6)]) [.row false 3 [.int .i64] (E.eI .i64 r1),.row false 3 [.int .i64] (E.eI .i64 r5)] []:=by
 refine co_ Tryz.func151 tabOk [400040,400044] fun F hF Q hQ => ?_
 simp only [Z3.f] at H
 (conv => cbv)
 repeat' first
  | (rw [Z3.j1_i] at H;obtain ⟨m,hm,H⟩:=H;simp only [Z3.j1] at H;(try simp only [decide_eq_true_eq,Bool.false_eq_true,if_false,if_true] at H))
  | replace H:=s_ H
  | (exfalso;with_reducible assumption)
  | (rw [Z6] at H;obtain ⟨hc,H⟩:=H)
  | (rw [Z2] at H;obtain ⟨hc,H⟩:=H)
  | ((with_reducible refine br2 hF H ?_ ?_) <;> (clear H;intro hb H;(try (conv => cbv))))
  | (refine w_ hF ?_;(try (conv => cbv)))
  | ((with_reducible refine k2_ 108 H ?_);clear H;intro _ _ hy H;refine ca_ hF (Zf.con E hE hy) ?_;(try (conv => cbv)))
  | ((with_reducible refine k4_ 133 H ?_);clear H;intro _ _ _ _ hy H;refine ca_ hF (Z0U.con E hE hy) ?_;(try (conv => cbv)))
  | ((with_reducible refine k2_ 207 H ?_);clear H;intro _ _ hy H;refine ca_ hF (spec_Unsealed.con E hE hy) ?_;(try (conv => cbv)))
  | ((with_reducible refine lo_ hF (fun n t => n≤k∧∃ x0 x8 x9 v0 v1 v2 v3 v4 v5 v6,t = At 103 [(0,.c (.str x0)),(2,.ptr 2 0),(6,.ptr 22 0),(7,.ptr 7 0),(8,.c (.int .i64 x8)),(9,.c (.int .i64 x9)),(22,.ptr 22 0)] [(2,.box [.own 400040,.c (.int .i64 0),.c (.int .i64 0),.c (.int .i64 0),.own 400044]),(22,.box [.c (.str v0),.c (.int .i64 v1),.c (.bool v2)]),(7,.box [.own 400140,.c (.int .i64 v4),.c (.int .i64 v5),.c (.int .i64 v6),.own 400144]),(400040,.row false 3 [.int .i64] []),(400044,.row false 3 [.int .i64] []),(400140,.row false 3 [.int .i64] (E.eI .i64 v3)),(400144,.row false 3 [.int .i64] [])]∧Z3.l0 n x0 x8 x9 v0 v1 v2 v3 v4 v5 v6 = some (r1,r2,r3,r4,r5,r6)) ⟨[0,2,6,7,8,9,22],[2,22,7],[],[(2,0,3),(2,4,3),(7,0,3),(7,4,3)]⟩ fun n0 t ht Q0 hN0 hX0 => ?_);obtain ⟨hl,_,_,_,_,_,_,_,_,_,_,rfl,H⟩:=ht;rcases n0 with _ | n0;cases H;simp only [Z3.l0] at H;(try (conv => cbv)))
  | ((with_reducible show Q0 _ _);first | exact nx_ hN0 | (refine xt_ hX0 ?_;(try (conv => cbv))))
  | ((with_reducible refine lo_ hF (fun n t => n≤k∧∃ x0 x8 x10 v0 v1 v2 v3 v4 v5 v6 v7,t = At 103 [(0,.c (.str x0)),(2,.ptr 2 0),(6,.ptr 22 0),(7,.ptr 7 0),(8,.c (.int .i64 x8)),(10,.c (.int .i64 x10)),(22,.ptr 22 0)] [(2,.box [.own 400040,.c (.int .i64 0),.c (.int .i64 0),.c (.int .i64 0),.own 400044]),(22,.box [.c (.str v0),.c (.int .i64 v1),.c (.bool v2)]),(7,.box [.own 400140,.c (.int .i64 v4),.c (.int .i64 v5),.c (.int .i64 v6),.own 400144]),(400040,.row false 3 [.int .i64] []),(400044,.row false 3 [.int .i64] []),(400140,.row false 3 [.int .i64] (E.eI .i64 v3)),(400144,.row false 3 [.int .i64] (E.eI .i64 v7))]∧Z3.l1 n x0 x8 x10 v0 v1 v2 v3 v4 v5 v6 v7 = some (r1,r2,r3,r4,r5,r6)) ⟨[0,2,6,7,8,10,22],[2,22,7],[],[(2,0,3),(2,4,3),(7,0,3),(7,4,3)]⟩ fun n1 t ht Q1 hN1 hX1 => ?_);obtain ⟨hl,_,_,_,_,_,_,_,_,_,_,_,rfl,H⟩:=ht;rcases n1 with _ | n1;cases H;simp only [Z3.l1] at H;(try (conv => cbv)))
  | ((with_reducible show Q1 _ _);first | exact nx_ hN1 | (refine xt_ hX1 ?_;(try (conv => cbv))))
  | ((with_reducible show Q _ _);exact en_ ⟨[2,3],[2],[],[(2,0,3),(2,4,3)]⟩ 103 hQ)
  | contradiction
theorem Z12.con (E:En) (hE:E = E0) {k l0_0 a1 r} (H:Z12.f k l0_0 a1 = some (r)) :
  Cn 60 [.agg [.c (.sl [.str,.str] (E.e122 l0_0))],.c (.str a1)] [] (.c (.str r)) [] []:=by
 refine co_ Tryz.func60 tabOk [] fun F hF Q hQ => ?_
 simp only [Z12.f] at H
 (conv => cbv)
 repeat' first
  | replace H:=s_ H
  | (exfalso;with_reducible assumption)
  | (rw [Z6] at H;obtain ⟨hc,H⟩:=H)
  | (rw [Z2] at H;obtain ⟨hc,H⟩:=H)
  | ((with_reducible refine br2 hF H ?_ ?_) <;> (clear H;intro hb H;(try (conv => cbv))))
  | (refine w_ hF ?_;(try (conv => cbv)))
  | ((with_reducible refine k1_ 75 H ?_);clear H;intro _ hy H;refine ca_ hF (Z0K.con E hE hy) ?_;(try (conv => cbv)))
  | ((with_reducible show Q _ _);exact en_ ⟨[4],[],[],[]⟩ 17 hQ)
  | contradiction
theorem spec_Frame.con (E:En) (hE:E = E0) {k a0 r1 r2} (H:spec_Frame.f k a0 = some (r1,r2)) :
  Cn 63 [.c (.str a0)] [] (.tup [.c (.str r1),.c (.bool r2)]) [] []:=by
 refine co_ Tryz.func63 tabOk [] fun F hF Q hQ => ?_
 simp only [spec_Frame.f] at H
 (conv => cbv)
 repeat' first
  | replace H:=s_ H
  | (exfalso;with_reducible assumption)
  | (rw [Z6] at H;obtain ⟨hc,H⟩:=H)
  | (rw [Z2] at H;obtain ⟨hc,H⟩:=H)
  | ((with_reducible refine br2 hF H ?_ ?_) <;> (clear H;intro hb H;(try (conv => cbv))))
  | (refine w_ hF ?_;(try (conv => cbv)))
  | ((with_reducible refine k1_ 131 H ?_);clear H;intro _ hy H;refine ca_ hF (ZH.con E hE hy) ?_;(try (conv => cbv)))
  | ((with_reducible refine k1_ 136 H ?_);clear H;intro _ hy H;refine ca_ hF (ZL.con E hE hy) ?_;(try (conv => cbv)))
  | ((with_reducible refine k1_ 137 H ?_);clear H;intro _ hy H;refine ca_ hF (spec_l02Four.con E hE hy) ?_;(try (conv => cbv)))
  | ((with_reducible refine k1_ 138 H ?_);clear H;intro _ hy H;refine ca_ hF (spec_SumOf.con E hE hy) ?_;(try (conv => cbv)))
  | ((with_reducible show Q _ _);exact en_ ⟨[2,3],[],[],[]⟩ 17 hQ)
  | contradiction
theorem ZN.j1_s {k:Nat} {x0:ByteArray} {x4:List ByteArray} {x5:Int} {x6:Int} {x7:Int} {x38:Bool} {r:_} (h:ZN.j1 k x0 x4 x5 x6 x7 x38 = some r):∃ m,k = m + 1∧ZN.j1 (m + 1) x0 x4 x5 x6 x7 x38 = some r:=by
 cases k with
 | zero => simp [ZN.j1] at h
 | succ m => exact ⟨m,rfl,h⟩
theorem ZN.j1_i {k:Nat} {x0:ByteArray} {x4:List ByteArray} {x5:Int} {x6:Int} {x7:Int} {x38:Bool} {r:_}:(ZN.j1 k x0 x4 x5 x6 x7 x38 = some r) = (∃ m,k = m + 1∧ZN.j1 (m + 1) x0 x4 x5 x6 x7 x38 = some r):=propext ⟨ZN.j1_s,fun ⟨m,h,h2⟩ => by rw [h];exact h2⟩
theorem ZN.con (E:En) (hE:E = E0) {k a0 r1 r2} (H:ZN.f k a0 = some (r1,r2)) :
  Cn 59 [.c (.str a0)] [] (.tup [.own 0,.c (.int .i64 r2)]) [.row false 9 [.str] (E.eS r1)] []:=by
 refine co_ Tryz.func59 tabOk [20002] fun F hF Q hQ => ?_
 simp only [ZN.f] at H
 (conv => cbv)
 repeat' first
  | (rw [ZN.j1_i] at H;obtain ⟨m,hm,H⟩:=H;simp only [ZN.j1] at H;(try simp only [decide_eq_true_eq,Bool.false_eq_true,if_false,if_true] at H))
  | replace H:=s_ H
  | (exfalso;with_reducible assumption)
  | (rw [Z6] at H;obtain ⟨hc,H⟩:=H)
  | (rw [Z2] at H;obtain ⟨hc,H⟩:=H)
  | ((with_reducible refine br2 hF H ?_ ?_) <;> (clear H;intro hb H;(try (conv => cbv))))
  | (refine w_ hF ?_;(try (conv => cbv)))
  | ((with_reducible refine k2_ 63 H ?_);clear H;intro _ _ hy H;refine ca_ hF (spec_Frame.con E hE hy) ?_;(try (conv => cbv)))
  | ((with_reducible refine k3_ 130 H ?_);clear H;intro _ _ _ hy H;refine ca_ hF (ZB.con E hE hy) ?_;(try (conv => cbv)))
  | ((with_reducible refine lo_ hF (fun n t => n≤k∧∃ x0 x4 x5,t = At 79 [(0,.c (.str x0)),(4,.own 20004),(5,.c (.int .i64 x5))] [(20004,.row false 9 [.str] (E.eS x4))]∧ZN.l0 n x0 x4 x5 = some (r1,r2)) ⟨[0,4,5],[],[(4,9)],[]⟩ fun n0 t ht Q0 hN0 hX0 => ?_);obtain ⟨hl,_,_,_,rfl,H⟩:=ht;rcases n0 with _ | n0;cases H;simp only [ZN.l0] at H;(try (conv => cbv)))
  | ((with_reducible show Q0 _ _);first | exact nx_ hN0 | (refine xt_ hX0 ?_;(try (conv => cbv))))
  | ((with_reducible show Q _ _);exact en_ ⟨[2,3],[],[(2,9)],[]⟩ 79 hQ)
  | contradiction
theorem spec_l05Take.con (E:En) (hE:E = E0) {s0_0 s0_1 s0_2 a1 r1 r2 r3 r4} (H:spec_l05Take.f s0_0 s0_1 s0_2 a1 = some (r1,r2,r3,r4)) :
  Cn 135 [.ptr 10000 0,.c (.int .i64 a1)] [.box [.c (.str s0_0),.c (.int .i64 s0_1),.c (.bool s0_2)]] (.c (.str r1)) [] [.box [.c (.str r2),.c (.int .i64 r3),.c (.bool r4)]]:=by
 refine co_ Tryz.func135 tabOk [] fun F hF Q hQ => ?_
 simp only [spec_l05Take.f] at H
 (conv => cbv)
 repeat' first
  | replace H:=s_ H
  | (exfalso;with_reducible assumption)
  | (rw [Z6] at H;obtain ⟨hc,H⟩:=H)
  | (rw [Z2] at H;obtain ⟨hc,H⟩:=H)
  | ((with_reducible refine br2 hF H ?_ ?_) <;> (clear H;intro hb H;(try (conv => cbv))))
  | (refine w_ hF ?_;(try (conv => cbv)))
  | ((with_reducible show Q _ _);exact en_ ⟨[4],[],[],[]⟩ 50 hQ)
  | contradiction
theorem spec_l05ReadShort.con (E:En) (hE:E = E0) {k s0_0 s0_1 s0_2 r1 r2 r3 r4} (H:spec_l05ReadShort.f k s0_0 s0_1 s0_2 = some (r1,r2,r3,r4)) :
  Cn 134 [.ptr 10000 0] [.box [.c (.str s0_0),.c (.int .i64 s0_1),.c (.bool s0_2)]] (.c (.str r1)) [] [.box [.c (.str r2),.c (.int .i64 r3),.c (.bool r4)]]:=by
 refine co_ Tryz.func134 tabOk [] fun F hF Q hQ => ?_
 simp only [spec_l05ReadShort.f] at H
 (conv => cbv)
 repeat' first
  | replace H:=s_ H
  | (exfalso;with_reducible assumption)
  | (rw [Z6] at H;obtain ⟨hc,H⟩:=H)
  | (rw [Z2] at H;obtain ⟨hc,H⟩:=H)
  | ((with_reducible refine br2 hF H ?_ ?_) <;> (clear H;intro hb H;(try (conv => cbv))))
  | (refine w_ hF ?_;(try (conv => cbv)))
  | ((with_reducible refine k4_ 133 H ?_);clear H;intro _ _ _ _ hy H;refine ca_ hF (Z0U.con E hE hy) ?_;(try (conv => cbv)))
  | ((with_reducible refine k4_ 135 H ?_);clear H;intro _ _ _ _ hy H;refine ca_ hF (spec_l05Take.con E hE hy) ?_;(try (conv => cbv)))
  | ((with_reducible show Q _ _);exact en_ ⟨[2],[],[],[]⟩ 9 hQ)
  | contradiction
theorem spec_l05Key.con (E:En) (hE:E = E0) {a0 r} (H:spec_l05Key.f a0 = some (r)) :
  Cn 177 [.c (.str a0)] [] (.c (.bool r)) [] []:=by
 refine co_ Tryz.func177 tabOk [] fun F hF Q hQ => ?_
 simp only [spec_l05Key.f] at H
 (conv => cbv)
 repeat' first
  | replace H:=s_ H
  | (exfalso;with_reducible assumption)
  | (rw [Z6] at H;obtain ⟨hc,H⟩:=H)
  | (rw [Z2] at H;obtain ⟨hc,H⟩:=H)
  | ((with_reducible refine br2 hF H ?_ ?_) <;> (clear H;intro hb H;(try (conv => cbv))))
  | (refine w_ hF ?_;(try (conv => cbv)))
  | ((with_reducible refine k1_ 131 H ?_);clear H;intro _ hy H;refine ca_ hF (ZH.con E hE hy) ?_;(try (conv => cbv)))
  | ((with_reducible show Q _ _);exact en_ ⟨[2],[],[],[]⟩ 6 hQ)
  | contradiction
theorem Zp.j0_s {k:Nat} {x14:Bool} {x427000:Int} {x427001:List S162} {r:_} (h:Zp.j0 k x14 x427000 x427001 = some r):∃ m,k = m + 1∧Zp.j0 (m + 1) x14 x427000 x427001 = some r:=by
 cases k with
 | zero => simp [Zp.j0] at h
 | succ m => exact ⟨m,rfl,h⟩
theorem Zp.j0_i {k:Nat} {x14:Bool} {x427000:Int} {x427001:List S162} {r:_}:(Zp.j0 k x14 x427000 x427001 = some r) = (∃ m,k = m + 1∧Zp.j0 (m + 1) x14 x427000 x427001 = some r):=propext ⟨Zp.j0_s,fun ⟨m,h,h2⟩ => by rw [h];exact h2⟩
theorem Zp.con (E:En) (hE:E = E0) {k a0_0 l0_1 r} (H:Zp.f k a0_0 l0_1 = some (r)) :
  Cn 116 [.agg [.c (.int .i64 a0_0),.c (.sl [.str,.str,.bool] (E.e162 l0_1))]] [] (.c (.bool r)) [] []:=by
 refine co_ Tryz.func116 tabOk [] fun F hF Q hQ => ?_
 simp only [Zp.f] at H
 (conv => cbv)
 repeat' first
  | (rw [Zp.j0_i] at H;obtain ⟨m,hm,H⟩:=H;simp only [Zp.j0] at H;(try simp only [decide_eq_true_eq,Bool.false_eq_true,if_false,if_true] at H))
  | replace H:=s_ H
  | (exfalso;with_reducible assumption)
  | (rw [Z6] at H;obtain ⟨hc,H⟩:=H)
  | (rw [Z2] at H;obtain ⟨hc,H⟩:=H)
  | ((with_reducible refine br2 hF H ?_ ?_) <;> (clear H;intro hb H;(try (conv => cbv))))
  | (refine w_ hF ?_;(try (conv => cbv)))
  | ((with_reducible refine k1_ 131 H ?_);clear H;intro _ hy H;refine ca_ hF (ZH.con E hE hy) ?_;(try (conv => cbv)))
  | ((with_reducible refine k1_ 177 H ?_);clear H;intro _ hy H;refine ca_ hF (spec_l05Key.con E hE hy) ?_;(try (conv => cbv)))
  | ((with_reducible refine lo_ hF (fun n t => n≤k∧∃ x3 v0 v1,t = At 62 [(1,.ptr 1 0),(3,.c (.int .i64 x3))] [(1,.box [.c (.int .i64 v0),.c (.sl [.str,.str,.bool] (E.e162 v1))])]∧Zp.l0 n x3 v0 v1 = some (r)) ⟨[1,3],[1],[],[]⟩ fun n0 t ht Q0 hN0 hX0 => ?_);obtain ⟨hl,_,_,_,rfl,H⟩:=ht;rcases n0 with _ | n0;cases H;simp only [Zp.l0] at H;(try (conv => cbv)))
  | ((with_reducible show Q0 _ _);first | exact nx_ hN0 | (refine xt_ hX0 ?_;(try (conv => cbv))))
  | ((with_reducible show Q _ _);exact en_ ⟨[2],[],[],[]⟩ 62 hQ)
  | contradiction
theorem spec_l05Short.con (E:En) (hE:E = E0) {k a0 r} (H:spec_l05Short.f k a0 = some (r)) :
  Cn 185 [.c (.str a0)] [] (.c (.str r)) [] []:=by
 refine co_ Tryz.func185 tabOk [] fun F hF Q hQ => ?_
 simp only [spec_l05Short.f] at H
 (conv => cbv)
 repeat' first
  | replace H:=s_ H
  | (exfalso;with_reducible assumption)
  | (rw [Z6] at H;obtain ⟨hc,H⟩:=H)
  | (rw [Z2] at H;obtain ⟨hc,H⟩:=H)
  | ((with_reducible refine br2 hF H ?_ ?_) <;> (clear H;intro hb H;(try (conv => cbv))))
  | (refine w_ hF ?_;(try (conv => cbv)))
  | ((with_reducible refine k1_ 136 H ?_);clear H;intro _ hy H;refine ca_ hF (ZL.con E hE hy) ?_;(try (conv => cbv)))
  | ((with_reducible show Q _ _);exact en_ ⟨[2],[],[],[]⟩ 8 hQ)
  | contradiction
end Go.Ev
