/- Contracts of the Go functions that this law reaches: what each call returns, by its plain function. No conditions but those that each statement names. By this repo's programs; comments are taken out. -/
import Derived.Test.YtlmicldpfnmeaaaGreatDoorVFnComesBackD
import Derived.Test.YtlmicldpfnmeaaaGreatDoorVFnComesBackC1
import Derived.Test.YtlmicldpfnmeaaaGreatDoorVFnComesBackC6
set_option linter.all false
namespace Go.Ev
open Go.RowKit Go.Proofs Go.Proofs.YtlmicldpfnmeaaaGreatDoorW.PrintWords Go.Proofs.YtlmicldpfnmeaaaGreatDoorW.PrintLast Go.Proofs.YtlmicldpfnmeaaaGreatDoorW.PrintMore
set_option maxRecDepth 100000
set_option maxHeartbeats 4000000
theorem Z17.con (E:En) (hE:E = E0) {k a0 a1 r} (H:Z17.f k a0 a1 = some (r)) :
  Cn 174 [.c (.int .i64 a0),.c (.int .u8 a1)] [] (.c (.str r)) [] []:=by
 refine co_ Tryz.func174 tabOk [] fun F hF Q hQ => ?_
 simp only [Z17.f] at H
 (conv => cbv)
 repeat' first
  | replace H:=s_ H
  | (exfalso;with_reducible assumption)
  | (rw [Z7] at H;obtain ⟨hc,H⟩:=H)
  | (rw [Z2] at H;obtain ⟨hc,H⟩:=H)
  | ((with_reducible refine br2 hF H ?_ ?_) <;> (clear H;intro hb H;(try (conv => cbv))))
  | (refine w_ hF ?_;(try (conv => cbv)))
  | ((with_reducible refine lo_ hF (fun n t => n≤k∧∃ x0 x1 x5 x6,t = At 20 [(0,.c (.int .i64 x0)),(1,.c (.int .u8 x1)),(5,.own 20005),(6,.c (.int .i64 x6))] [(20005,.row false 5 [.int .u8] (E.eI .u8 x5))]∧Z17.l0 n x0 x1 x5 x6 = some (r)) ⟨[0,1,5,6],[],[(5,5)],[]⟩ fun n0 t ht Q0 hN0 hX0 => ?_);obtain ⟨hl,_,_,_,_,rfl,H⟩:=ht;rcases n0 with _ | n0;cases H;simp only [Z17.l0] at H;(try (conv => cbv)))
  | ((with_reducible show Q0 _ _);first | exact nx_ hN0 | (refine xt_ hX0 ?_;(try (conv => cbv))))
  | ((with_reducible show Q _ _);exact en_ ⟨[4],[],[],[]⟩ 20 hQ)
  | contradiction
theorem Z0b.con (E:En) (hE:E = E0) {k l0 l1 r} (H:Z0b.f k l0 l1 = some (r)) :
  Cn 129 [.c (.sl [.int .i64] (E.eI .i64 l0)),.c (.sl [.int .i64] (E.eI .i64 l1))] [] (.c (.bool r)) [] []:=by
 refine co_ Tryz.func129 tabOk [] fun F hF Q hQ => ?_
 simp only [Z0b.f] at H
 (conv => cbv)
 repeat' first
  | replace H:=s_ H
  | (exfalso;with_reducible assumption)
  | (rw [Z7] at H;obtain ⟨hc,H⟩:=H)
  | (rw [Z2] at H;obtain ⟨hc,H⟩:=H)
  | ((with_reducible refine br2 hF H ?_ ?_) <;> (clear H;intro hb H;(try (conv => cbv))))
  | (refine w_ hF ?_;(try (conv => cbv)))
  | ((with_reducible refine lo_ hF (fun n t => n≤k∧∃ x0 x1 x5,t = At 26 [(0,.c (.sl [.int .i64] (E.eI .i64 x0))),(1,.c (.sl [.int .i64] (E.eI .i64 x1))),(5,.c (.int .i64 x5))] []∧Z0b.l0 n x0 x1 x5 = some (r)) ⟨[0,1,5],[],[],[]⟩ fun n0 t ht Q0 hN0 hX0 => ?_);obtain ⟨hl,_,_,_,rfl,H⟩:=ht;rcases n0 with _ | n0;cases H;simp only [Z0b.l0] at H;(try (conv => cbv)))
  | ((with_reducible show Q0 _ _);first | exact nx_ hN0 | (refine xt_ hX0 ?_;(try (conv => cbv))))
  | ((with_reducible show Q _ _);exact en_ ⟨[4],[],[],[]⟩ 26 hQ)
  | contradiction
theorem Zv.j0_s {k:Nat} {x66:Bool} {x649000:List Int} {x649001:Int} {x649002:Int} {x649003:Int} {x649004:List Int} {x649005:List S145} {x649006:Int} {x650000:List Int} {x650001:Int} {x650002:Int} {x650003:Int} {x650004:List Int} {x650005:List S145} {x650006:Int} {r:_} (h:Zv.j0 k x66 x649000 x649001 x649002 x649003 x649004 x649005 x649006 x650000 x650001 x650002 x650003 x650004 x650005 x650006 = some r):∃ m,k = m + 1∧Zv.j0 (m + 1) x66 x649000 x649001 x649002 x649003 x649004 x649005 x649006 x650000 x650001 x650002 x650003 x650004 x650005 x650006 = some r:=by
 cases k with
 | zero => simp [Zv.j0] at h
 | succ m => exact ⟨m,rfl,h⟩
theorem Zv.j0_i {k:Nat} {x66:Bool} {x649000:List Int} {x649001:Int} {x649002:Int} {x649003:Int} {x649004:List Int} {x649005:List S145} {x649006:Int} {x650000:List Int} {x650001:Int} {x650002:Int} {x650003:Int} {x650004:List Int} {x650005:List S145} {x650006:Int} {r:_}:(Zv.j0 k x66 x649000 x649001 x649002 x649003 x649004 x649005 x649006 x650000 x650001 x650002 x650003 x650004 x650005 x650006 = some r) = (∃ m,k = m + 1∧Zv.j0 (m + 1) x66 x649000 x649001 x649002 x649003 x649004 x649005 x649006 x650000 x650001 x650002 x650003 x650004 x650005 x650006 = some r):=propext ⟨Zv.j0_s,fun ⟨m,h,h2⟩ => by rw [h];exact h2⟩
theorem Zv.con (E:En) (hE:E = E0) {k l0_0 a0_1 a0_2 a0_3 l0_4 l0_5 a0_6 l1_0 a1_1 a1_2 a1_3 l1_4 l1_5 a1_6 r} (H:Zv.f k l0_0 a0_1 a0_2 a0_3 l0_4 l0_5 a0_6 l1_0 a1_1 a1_2 a1_3 l1_4 l1_5 a1_6 = some (r)) :
  Cn 58 [.agg [.c (.sl [.int .i64] (E.eI .i64 l0_0)),.c (.int .i64 a0_1),.c (.int .i64 a0_2),.c (.int .i64 a0_3),.c (.sl [.int .i64] (E.eI .i64 l0_4)),.c (.sl [.str,.int .i64,.int .i64,.int .i64] (E.e145 l0_5)),.c (.int .i64 a0_6)],.agg [.c (.sl [.int .i64] (E.eI .i64 l1_0)),.c (.int .i64 a1_1),.c (.int .i64 a1_2),.c (.int .i64 a1_3),.c (.sl [.int .i64] (E.eI .i64 l1_4)),.c (.sl [.str,.int .i64,.int .i64,.int .i64] (E.e145 l1_5)),.c (.int .i64 a1_6)]] [] (.c (.bool r)) [] []:=by
 refine co_ Tryz.func58 tabOk [] fun F hF Q hQ => ?_
 simp only [Zv.f] at H
 (conv => cbv)
 repeat' first
  | (rw [Zv.j0_i] at H;obtain ⟨m,hm,H⟩:=H;simp only [Zv.j0] at H;(try simp only [decide_eq_true_eq,Bool.false_eq_true,if_false,if_true] at H))
  | replace H:=s_ H
  | (exfalso;with_reducible assumption)
  | (rw [Z7] at H;obtain ⟨hc,H⟩:=H)
  | (rw [Z2] at H;obtain ⟨hc,H⟩:=H)
  | ((with_reducible refine br2 hF H ?_ ?_) <;> (clear H;intro hb H;(try (conv => cbv))))
  | (refine w_ hF ?_;(try (conv => cbv)))
  | ((with_reducible refine k1_ 129 H ?_);clear H;intro _ hy H;refine ca_ hF (Z0b.con E hE hy) ?_;(try (conv => cbv)))
  | ((with_reducible refine lo_ hF (fun n t => n≤k∧∃ x5 v0 v1 v2 v3 v4 v5 v6 v7 v8 v9 v10 v11 v12 v13,t = At 85 [(2,.ptr 2 0),(3,.ptr 3 0),(5,.c (.int .i64 x5))] [(2,.box [.c (.sl [.int .i64] (E.eI .i64 v0)),.c (.int .i64 v1),.c (.int .i64 v2),.c (.int .i64 v3),.c (.sl [.int .i64] (E.eI .i64 v4)),.c (.sl [.str,.int .i64,.int .i64,.int .i64] (E.e145 v5)),.c (.int .i64 v6)]),(3,.box [.c (.sl [.int .i64] (E.eI .i64 v7)),.c (.int .i64 v8),.c (.int .i64 v9),.c (.int .i64 v10),.c (.sl [.int .i64] (E.eI .i64 v11)),.c (.sl [.str,.int .i64,.int .i64,.int .i64] (E.e145 v12)),.c (.int .i64 v13)])]∧Zv.l0 n x5 v0 v1 v2 v3 v4 v5 v6 v7 v8 v9 v10 v11 v12 v13 = some (r)) ⟨[2,3,5],[2,3],[],[]⟩ fun n0 t ht Q0 hN0 hX0 => ?_);obtain ⟨hl,_,_,_,_,_,_,_,_,_,_,_,_,_,_,_,rfl,H⟩:=ht;rcases n0 with _ | n0;cases H;simp only [Zv.l0] at H;(try (conv => cbv)))
  | ((with_reducible show Q0 _ _);first | exact nx_ hN0 | (refine xt_ hX0 ?_;(try (conv => cbv))))
  | ((with_reducible show Q _ _);exact en_ ⟨[4],[],[],[]⟩ 85 hQ)
  | contradiction
theorem Z28.con (E:En) (hE:E = E0) {k l0_0 l1_0 a1_1 a1_2 a1_3 l1_4 l1_5 a1_6 r} (H:Z28.f k l0_0 l1_0 a1_1 a1_2 a1_3 l1_4 l1_5 a1_6 = some (r)) :
  Cn 102 [.agg [.c (.sl [.str,.str] (E.e122 l0_0))],.agg [.c (.sl [.int .i64] (E.eI .i64 l1_0)),.c (.int .i64 a1_1),.c (.int .i64 a1_2),.c (.int .i64 a1_3),.c (.sl [.int .i64] (E.eI .i64 l1_4)),.c (.sl [.str,.int .i64,.int .i64,.int .i64] (E.e145 l1_5)),.c (.int .i64 a1_6)]] [] (.c (.bool r)) [] []:=by
 refine co_ Tryz.func102 tabOk [] fun F hF Q hQ => ?_
 simp only [Z28.f] at H
 (conv => cbv)
 repeat' first
  | replace H:=s_ H
  | (exfalso;with_reducible assumption)
  | (rw [Z7] at H;obtain ⟨hc,H⟩:=H)
  | (rw [Z2] at H;obtain ⟨hc,H⟩:=H)
  | ((with_reducible refine br2 hF H ?_ ?_) <;> (clear H;intro hb H;(try (conv => cbv))))
  | (refine w_ hF ?_;(try (conv => cbv)))
  | ((with_reducible refine k9_ 20 H ?_);clear H;intro _ _ _ _ _ _ _ _ _ hy H;refine ca_ hF (Zl.con E hE hy) ?_;(try (conv => cbv)))
  | ((with_reducible refine k1_ 58 H ?_);clear H;intro _ hy H;refine ca_ hF (Zv.con E hE hy) ?_;(try (conv => cbv)))
  | ((with_reducible show Q _ _);exact en_ ⟨[4],[],[],[]⟩ 26 hQ)
  | contradiction
theorem Z2k.con (E:En) (hE:E = E0) {l0_0 a0_1 a0_2 a0_3 l0_4 r1 r2 r3 r4 r5} (H:Z2k.f l0_0 a0_1 a0_2 a0_3 l0_4 = some (r1,r2,r3,r4,r5)) :
  Cn 112 [.agg [.c (.sl [.int .i64] (E.eI .i64 l0_0)),.c (.int .i64 a0_1),.c (.int .i64 a0_2),.c (.int .i64 a0_3),.c (.sl [.int .i64] (E.eI .i64 l0_4))]] [] (.agg [.own 0,.c (.int .i64 r2),.c (.int .i64 r3),.c (.int .i64 r4),.own 1]) [.row false 3 [.int .i64] (E.eI .i64 r1),.row false 3 [.int .i64] (E.eI .i64 r5)] []:=by
 refine co_ Tryz.func112 tabOk [400040,400044] fun F hF Q hQ => ?_
 simp only [Z2k.f] at H
 (conv => cbv)
 repeat' first
  | replace H:=s_ H
  | (exfalso;with_reducible assumption)
  | (rw [Z7] at H;obtain ⟨hc,H⟩:=H)
  | (rw [Z2] at H;obtain ⟨hc,H⟩:=H)
  | ((with_reducible refine br2 hF H ?_ ?_) <;> (clear H;intro hb H;(try (conv => cbv))))
  | (refine w_ hF ?_;(try (conv => cbv)))
  | ((with_reducible show Q _ _);exact en_ ⟨[2],[2],[],[(2,0,3),(2,4,3)]⟩ 14 hQ)
  | contradiction
theorem Z1q.con (E:En) (hE:E = E0) {k l0_0 a0_1 a0_2 a0_3 l0_4 r1 r2} (H:Z1q.f k l0_0 a0_1 a0_2 a0_3 l0_4 = some (r1,r2)) :
  Cn 113 [.agg [.c (.sl [.int .i64] (E.eI .i64 l0_0)),.c (.int .i64 a0_1),.c (.int .i64 a0_2),.c (.int .i64 a0_3),.c (.sl [.int .i64] (E.eI .i64 l0_4))]] [] (.tup [.own 0,.c (.bool r2)]) [.row false 119 [.int .i64,.str,.str,.str] (E.e119 r1)] []:=by
 refine co_ Tryz.func113 tabOk [20002] fun F hF Q hQ => ?_
 simp only [Z1q.f] at H
 (conv => cbv)
 repeat' first
  | replace H:=s_ H
  | (exfalso;with_reducible assumption)
  | (rw [Z7] at H;obtain ⟨hc,H⟩:=H)
  | (rw [Z2] at H;obtain ⟨hc,H⟩:=H)
  | ((with_reducible refine br2 hF H ?_ ?_) <;> (clear H;intro hb H;(try (conv => cbv))))
  | (refine w_ hF ?_;(try (conv => cbv)))
  | ((with_reducible refine k2_ 108 H ?_);clear H;intro _ _ hy H;refine ca_ hF (Zh.con E hE hy) ?_;(try (conv => cbv)))
  | ((with_reducible show Q _ _);exact en_ ⟨[2,3],[],[(2,119)],[]⟩ 16 hQ)
  | contradiction
theorem Z0d.con (E:En) (hE:E = E0) {k l0_0 a1_0 a1_1 r} (H:Z0d.f k l0_0 a1_0 a1_1 = some (r)) :
  Cn 186 [.agg [.c (.sl [.str,.str] (E.e122 l0_0))],.agg [.c (.str a1_0),.c (.str a1_1)]] [] (.agg [.own 0]) [.row false 122 [.str,.str] (E.e122 r)] []:=by
 refine co_ Tryz.func186 tabOk [400080] fun F hF Q hQ => ?_
 simp only [Z0d.f] at H
 (conv => cbv)
 repeat' first
  | replace H:=s_ H
  | (exfalso;with_reducible assumption)
  | (rw [Z7] at H;obtain ⟨hc,H⟩:=H)
  | (rw [Z2] at H;obtain ⟨hc,H⟩:=H)
  | ((with_reducible refine br2 hF H ?_ ?_) <;> (clear H;intro hb H;(try (conv => cbv))))
  | (refine w_ hF ?_;(try (conv => cbv)))
  | ((with_reducible refine lo_ hF (fun n t => n≤k∧∃ x6 v0 v1 v2 v3,t = At 68 [(2,.ptr 2 0),(3,.ptr 3 0),(4,.ptr 4 0),(5,.ptr 5 0),(6,.c (.int .i64 x6))] [(2,.box [.c (.sl [.str,.str] (E.e122 v0))]),(3,.box [.c (.str v1),.c (.str v2)]),(4,.box [.own 400080]),(5,.box [.own 400100]),(400080,.row false 122 [.str,.str] []),(400100,.row false 122 [.str,.str] (E.e122 v3))]∧Z0d.l0 n x6 v0 v1 v2 v3 = some (r)) ⟨[2,3,4,5,6],[2,3,4,5],[],[(4,0,122),(5,0,122)]⟩ fun n0 t ht Q0 hN0 hX0 => ?_);obtain ⟨hl,_,_,_,_,_,rfl,H⟩:=ht;rcases n0 with _ | n0;cases H;simp only [Z0d.l0] at H;(try (conv => cbv)))
  | ((with_reducible show Q0 _ _);first | exact nx_ hN0 | (refine xt_ hX0 ?_;(try (conv => cbv))))
  | ((with_reducible refine lo_ hF (fun n t => n≤k∧∃ x7 v0 v1 v2 v3,t = At 68 [(2,.ptr 2 0),(3,.ptr 3 0),(4,.ptr 4 0),(5,.ptr 5 0),(7,.c (.int .i64 x7))] [(2,.box [.c (.sl [.str,.str] (E.e122 v0))]),(3,.box [.c (.str v1),.c (.str v2)]),(4,.box [.own 400080]),(5,.box [.own 400100]),(400080,.row false 122 [.str,.str] []),(400100,.row false 122 [.str,.str] (E.e122 v3))]∧Z0d.l1 n x7 v0 v1 v2 v3 = some (r)) ⟨[2,3,4,5,7],[2,3,4,5],[],[(4,0,122),(5,0,122)]⟩ fun n1 t ht Q1 hN1 hX1 => ?_);obtain ⟨hl,_,_,_,_,_,rfl,H⟩:=ht;rcases n1 with _ | n1;cases H;simp only [Z0d.l1] at H;(try (conv => cbv)))
  | ((with_reducible show Q1 _ _);first | exact nx_ hN1 | (refine xt_ hX1 ?_;(try (conv => cbv))))
  | ((with_reducible show Q _ _);exact en_ ⟨[4],[4],[],[(4,0,122)]⟩ 68 hQ)
  | contradiction
end Go.Ev
