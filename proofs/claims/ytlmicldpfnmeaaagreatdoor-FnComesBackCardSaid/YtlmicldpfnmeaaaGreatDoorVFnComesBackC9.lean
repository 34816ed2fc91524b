/- Contracts of the Go functions that this law reaches: what each call returns, by its plain function. No conditions but those that each statement names. By this repo's programs; comments are taken out. -/
import Derived.Test.YtlmicldpfnmeaaaGreatDoorVFnComesBackD
import Derived.Test.YtlmicldpfnmeaaaGreatDoorVFnComesBackC0
import Derived.Test.YtlmicldpfnmeaaaGreatDoorVFnComesBackC1
import Derived.Test.YtlmicldpfnmeaaaGreatDoorVFnComesBackC2
import Derived.Test.YtlmicldpfnmeaaaGreatDoorVFnComesBackC3
import Derived.Test.YtlmicldpfnmeaaaGreatDoorVFnComesBackC4
import Derived.Test.YtlmicldpfnmeaaaGreatDoorVFnComesBackC7
import Derived.Test.YtlmicldpfnmeaaaGreatDoorVFnComesBackC8
set_option linter.all false
namespace Go.Ev
open Go.RowKit Go.Proofs Go.Proofs.YtlmicldpfnmeaaaGreatDoorW.PrintWords Go.Proofs.YtlmicldpfnmeaaaGreatDoorW.PrintLast Go.Proofs.YtlmicldpfnmeaaaGreatDoorW.PrintMore
set_option maxRecDepth 100000
set_option maxHeartbeats 4000000
theorem Zw.j0_s {k:Nat} {x6:List S147} {x19:Bool} {x630000:List S122} {x631000:List Int} {x631001:Int} {x631002:Int} {x631003:Int} {x631004:List Int} {x631005:List S145} {x631006:Int} {r:_} (h:Zw.j0 k x6 x19 x630000 x631000 x631001 x631002 x631003 x631004 x631005 x631006 = some r):∃ m,k = m + 1∧Zw.j0 (m + 1) x6 x19 x630000 x631000 x631001 x631002 x631003 x631004 x631005 x631006 = some r:=by
 cases k with
 | zero => simp [Zw.j0] at h
 | succ m => exact ⟨m,rfl,h⟩
theorem Zw.j0_i {k:Nat} {x6:List S147} {x19:Bool} {x630000:List S122} {x631000:List Int} {x631001:Int} {x631002:Int} {x631003:Int} {x631004:List Int} {x631005:List S145} {x631006:Int} {r:_}:(Zw.j0 k x6 x19 x630000 x631000 x631001 x631002 x631003 x631004 x631005 x631006 = some r) = (∃ m,k = m + 1∧Zw.j0 (m + 1) x6 x19 x630000 x631000 x631001 x631002 x631003 x631004 x631005 x631006 = some r):=propext ⟨Zw.j0_s,fun ⟨m,h,h2⟩ => by rw [h];exact h2⟩
theorem Zw.con (E:En) (hE:E = E0) {k l0_0 l1_0 a1_1 a1_2 a1_3 l1_4 l1_5 a1_6 r1 r2} (H:Zw.f k l0_0 l1_0 a1_1 a1_2 a1_3 l1_4 l1_5 a1_6 = some (r1,r2)) :
  Cn 30 [.agg [.c (.sl [.str,.str] (E.e122 l0_0))],.agg [.c (.sl [.int .i64] (E.eI .i64 l1_0)),.c (.int .i64 a1_1),.c (.int .i64 a1_2),.c (.int .i64 a1_3),.c (.sl [.int .i64] (E.eI .i64 l1_4)),.c (.sl [.str,.int .i64,.int .i64,.int .i64] (E.e145 l1_5)),.c (.int .i64 a1_6)]] [] (.tup [.own 0,.c (.bool r2)]) [.row false 147 [.str,.str] (E.e147 r1)] []:=by
 refine co_ Tryz.func30 tabOk [20004] fun F hF Q hQ => ?_
 simp only [Zw.f] at H
 (conv => cbv)
 repeat' first
  | (rw [Zw.j0_i] at H;obtain ⟨m,hm,H⟩:=H;simp only [Zw.j0] at H;(try simp only [decide_eq_true_eq,Bool.false_eq_true,if_false,if_true] at H))
  | replace H:=s_ H
  | (exfalso;with_reducible assumption)
  | (rw [Z7] at H;obtain ⟨hc,H⟩:=H)
  | (rw [Z2] at H;obtain ⟨hc,H⟩:=H)
  | ((with_reducible refine br2 hF H ?_ ?_) <;> (clear H;intro hb H;(try (conv => cbv))))
  | (refine w_ hF ?_;(try (conv => cbv)))
  | ((with_reducible refine k1_ 60 H ?_);clear H;intro _ hy H;refine ca_ hF (Z1c.con E hE hy) ?_;(try (conv => cbv)))
  | ((with_reducible refine k1_ 61 H ?_);clear H;intro _ hy H;refine ca_ hF (Z0f.con E hE hy) ?_;(try (conv => cbv)))
  | ((with_reducible refine k1_ 95 H ?_);clear H;intro _ hy H;refine ca_ hF (ZO.con E hE hy) ?_;(try (conv => cbv)))
  | ((with_reducible refine k1_ 96 H ?_);clear H;intro _ hy H;refine ca_ hF (Z1j.con E hE hy) ?_;(try (conv => cbv)))
  | ((with_reducible refine lo_ hF (fun n t => n≤k∧∃ x6 x7 v0 v1 v2 v3 v4 v5 v6 v7,t = At 63 [(2,.ptr 2 0),(3,.ptr 3 0),(6,.own 20006),(7,.c (.int .i64 x7))] [(2,.box [.c (.sl [.str,.str] (E.e122 v0))]),(3,.box [.c (.sl [.int .i64] (E.eI .i64 v1)),.c (.int .i64 v2),.c (.int .i64 v3),.c (.int .i64 v4),.c (.sl [.int .i64] (E.eI .i64 v5)),.c (.sl [.str,.int .i64,.int .i64,.int .i64] (E.e145 v6)),.c (.int .i64 v7)]),(20006,.row false 147 [.str,.str] (E.e147 x6))]∧Zw.l0 n x6 x7 v0 v1 v2 v3 v4 v5 v6 v7 = some (r1,r2)) ⟨[2,3,6,7],[2,3],[(6,147)],[]⟩ fun n0 t ht Q0 hN0 hX0 => ?_);obtain ⟨hl,_,_,_,_,_,_,_,_,_,_,rfl,H⟩:=ht;rcases n0 with _ | n0;cases H;simp only [Zw.l0] at H;(try (conv => cbv)))
  | ((with_reducible show Q0 _ _);first | exact nx_ hN0 | (refine xt_ hX0 ?_;(try (conv => cbv))))
  | ((with_reducible show Q _ _);exact en_ ⟨[4,5],[],[(4,147)],[]⟩ 63 hQ)
  | contradiction
theorem Z1i.con (E:En) (hE:E = E0) {k l0 r} (H:Z1i.f k l0 = some (r)) :
  Cn 115 [.c (.sl [.str,.str] (E.e147 l0))] [] (.c (.bool r)) [] []:=by
 refine co_ Tryz.func115 tabOk [] fun F hF Q hQ => ?_
 simp only [Z1i.f] at H
 (conv => cbv)
 repeat' first
  | replace H:=s_ H
  | (exfalso;with_reducible assumption)
  | (rw [Z7] at H;obtain ⟨hc,H⟩:=H)
  | (rw [Z2] at H;obtain ⟨hc,H⟩:=H)
  | ((with_reducible refine br2 hF H ?_ ?_) <;> (clear H;intro hb H;(try (conv => cbv))))
  | (refine w_ hF ?_;(try (conv => cbv)))
  | ((with_reducible refine k1_ 177 H ?_);clear H;intro _ hy H;refine ca_ hF (Z2n.con E hE hy) ?_;(try (conv => cbv)))
  | ((with_reducible refine lo_ hF (fun n t => n≤k∧∃ x0 x3,t = At 47 [(0,.c (.sl [.str,.str] (E.e147 x0))),(3,.c (.int .i64 x3))] []∧Z1i.l0 n x0 x3 = some (r)) ⟨[0,3],[],[],[]⟩ fun n0 t ht Q0 hN0 hX0 => ?_);obtain ⟨hl,_,_,rfl,H⟩:=ht;rcases n0 with _ | n0;cases H;simp only [Z1i.l0] at H;(try (conv => cbv)))
  | ((with_reducible show Q0 _ _);first | exact nx_ hN0 | (refine xt_ hX0 ?_;(try (conv => cbv))))
  | ((with_reducible show Q _ _);exact en_ ⟨[2],[],[],[]⟩ 47 hQ)
  | contradiction
theorem Zz.j0_s {k:Nat} {x0:List S147} {x1:Int} {x15:Bool} {r:_} (h:Zz.j0 k x0 x1 x15 = some r):∃ m,k = m + 1∧Zz.j0 (m + 1) x0 x1 x15 = some r:=by
 cases k with
 | zero => simp [Zz.j0] at h
 | succ m => exact ⟨m,rfl,h⟩
theorem Zz.j0_i {k:Nat} {x0:List S147} {x1:Int} {x15:Bool} {r:_}:(Zz.j0 k x0 x1 x15 = some r) = (∃ m,k = m + 1∧Zz.j0 (m + 1) x0 x1 x15 = some r):=propext ⟨Zz.j0_s,fun ⟨m,h,h2⟩ => by rw [h];exact h2⟩
theorem Zz.con (E:En) (hE:E = E0) {k l0 a1 r1 r2 r3} (H:Zz.f k l0 a1 = some (r1,r2,r3)) :
  Cn 103 [.c (.sl [.str,.str] (E.e147 l0)),.c (.int .i64 a1)] [] (.tup [.agg [.c (.int .i64 r1),.own 0],.c (.bool r3)]) [.row false 162 [.str,.str,.bool] (E.e162 r2)] []:=by
 refine co_ Tryz.func103 tabOk [400081] fun F hF Q hQ => ?_
 simp only [Zz.f] at H
 (conv => cbv)
 repeat' first
  | (rw [Zz.j0_i] at H;obtain ⟨m,hm,H⟩:=H;simp only [Zz.j0] at H;(try simp only [decide_eq_true_eq,Bool.false_eq_true,if_false,if_true] at H))
  | replace H:=s_ H
  | (exfalso;with_reducible assumption)
  | (rw [Z7] at H;obtain ⟨hc,H⟩:=H)
  | (rw [Z2] at H;obtain ⟨hc,H⟩:=H)
  | ((with_reducible refine br2 hF H ?_ ?_) <;> (clear H;intro hb H;(try (conv => cbv))))
  | (refine w_ hF ?_;(try (conv => cbv)))
  | ((with_reducible refine k1_ 115 H ?_);clear H;intro _ hy H;refine ca_ hF (Z1i.con E hE hy) ?_;(try (conv => cbv)))
  | ((with_reducible refine k1_ 131 H ?_);clear H;intro _ hy H;refine ca_ hF (ZD.con E hE hy) ?_;(try (conv => cbv)))
  | ((with_reducible refine lo_ hF (fun n t => n≤k∧∃ x0 x7 v0 v1,t = At 42 [(0,.c (.sl [.str,.str] (E.e147 x0))),(4,.ptr 4 0),(6,.ptr 6 0),(7,.c (.int .i64 x7))] [(4,.box [.c (.int .i64 0),.own 400081]),(6,.box [.c (.int .i64 v0),.own 400121]),(400081,.row false 162 [.str,.str,.bool] []),(400121,.row false 162 [.str,.str,.bool] (E.e162 v1))]∧Zz.l0 n x0 x7 v0 v1 = some (r1,r2,r3)) ⟨[0,4,6,7],[4,6],[],[(4,1,162),(6,1,162)]⟩ fun n0 t ht Q0 hN0 hX0 => ?_);obtain ⟨hl,_,_,_,_,rfl,H⟩:=ht;rcases n0 with _ | n0;cases H;simp only [Zz.l0] at H;(try (conv => cbv)))
  | ((with_reducible show Q0 _ _);first | exact nx_ hN0 | (refine xt_ hX0 ?_;(try (conv => cbv))))
  | ((with_reducible show Q _ _);exact en_ ⟨[4,5],[4],[],[(4,1,162)]⟩ 42 hQ)
  | contradiction
theorem ZU.j0_s {k:Nat} {x2:ByteArray} {x15:ByteArray} {x17:List S119} {x51:Bool} {x798000:List S122} {x799000:List Int} {x799001:Int} {x799002:Int} {x799003:Int} {x799004:List Int} {x799005:List S145} {x799006:Int} {r:_} (h:ZU.j0 k x2 x15 x17 x51 x798000 x799000 x799001 x799002 x799003 x799004 x799005 x799006 = some r):∃ m,k = m + 1∧ZU.j0 (m + 1) x2 x15 x17 x51 x798000 x799000 x799001 x799002 x799003 x799004 x799005 x799006 = some r:=by
 cases k with
 | zero => simp [ZU.j0] at h
 | succ m => exact ⟨m,rfl,h⟩
theorem ZU.j0_i {k:Nat} {x2:ByteArray} {x15:ByteArray} {x17:List S119} {x51:Bool} {x798000:List S122} {x799000:List Int} {x799001:Int} {x799002:Int} {x799003:Int} {x799004:List Int} {x799005:List S145} {x799006:Int} {r:_}:(ZU.j0 k x2 x15 x17 x51 x798000 x799000 x799001 x799002 x799003 x799004 x799005 x799006 = some r) = (∃ m,k = m + 1∧ZU.j0 (m + 1) x2 x15 x17 x51 x798000 x799000 x799001 x799002 x799003 x799004 x799005 x799006 = some r):=propext ⟨ZU.j0_s,fun ⟨m,h,h2⟩ => by rw [h];exact h2⟩
theorem ZU.con (E:En) (hE:E = E0) {k l0_0 l1_0 a1_1 a1_2 a1_3 l1_4 l1_5 a1_6 a2 a3 a4 l5 r1 r2 r3 r4 r5 r6 r7 r8 r9} (H:ZU.f k l0_0 l1_0 a1_1 a1_2 a1_3 l1_4 l1_5 a1_6 a2 a3 a4 l5 = some (r1,r2,r3,r4,r5,r6,r7,r8,r9)) :
  Cn 105 [.agg [.c (.sl [.str,.str] (E.e122 l0_0))],.agg [.c (.sl [.int .i64] (E.eI .i64 l1_0)),.c (.int .i64 a1_1),.c (.int .i64 a1_2),.c (.int .i64 a1_3),.c (.sl [.int .i64] (E.eI .i64 l1_4)),.c (.sl [.str,.int .i64,.int .i64,.int .i64] (E.e145 l1_5)),.c (.int .i64 a1_6)],.c (.str a2),.c (.int .i64 a3),.c (.int .i64 a4),.c (.sl [.int .i64] (E.eI .i64 l5))] [] (.tup [.agg [.own 0,.c (.int .i64 r2),.c (.int .i64 r3),.c (.int .i64 r4),.own 1,.own 2,.c (.int .i64 r7)],.own 3,.c (.bool r9)]) [.row false 3 [.int .i64] (E.eI .i64 r1),.row false 3 [.int .i64] (E.eI .i64 r5),.row false 145 [.str,.int .i64,.int .i64,.int .i64] (E.e145 r6),.row false 119 [.int .i64,.str,.str,.str] (E.e119 r8)] []:=by
 refine co_ Tryz.func105 tabOk [400240,400244,400245,20013] fun F hF Q hQ => ?_
 simp only [ZU.f] at H
 (conv => cbv)
 repeat' first
  | (rw [ZU.j0_i] at H;obtain ⟨m,hm,H⟩:=H;simp only [ZU.j0] at H;(try simp only [decide_eq_true_eq,Bool.false_eq_true,if_false,if_true] at H))
  | replace H:=s_ H
  | (exfalso;with_reducible assumption)
  | (rw [Z7] at H;obtain ⟨hc,H⟩:=H)
  | (rw [Z2] at H;obtain ⟨hc,H⟩:=H)
  | ((with_reducible refine br2 hF H ?_ ?_) <;> (clear H;intro hb H;(try (conv => cbv))))
  | (refine w_ hF ?_;(try (conv => cbv)))
  | ((with_reducible refine k1_ 61 H ?_);clear H;intro _ hy H;refine ca_ hF (Z0f.con E hE hy) ?_;(try (conv => cbv)))
  | ((with_reducible refine k2_ 113 H ?_);clear H;intro _ _ hy H;refine ca_ hF (Z1q.con E hE hy) ?_;(try (conv => cbv)))
  | ((with_reducible refine k8_ 114 H ?_);clear H;intro _ _ _ _ _ _ _ _ hy H;refine ca_ hF (Z1Q.con E hE hy) ?_;(try (conv => cbv)))
  | ((with_reducible refine lo_ hF (fun n t => n≤k∧∃ x19 x20 v0 v1 v2 v3 v4 v5 v6 v7,t = At 91 [(6,.ptr 6 0),(7,.ptr 7 0),(12,.ptr 12 0),(19,.own 20019),(20,.c (.int .i64 x20))] [(6,.box [.c (.sl [.str,.str] (E.e122 v0))]),(7,.box [.c (.sl [.int .i64] (E.eI .i64 v1)),.c (.int .i64 v2),.c (.int .i64 v3),.c (.int .i64 v4),.c (.sl [.int .i64] (E.eI .i64 v5)),.c (.sl [.str,.int .i64,.int .i64,.int .i64] (E.e145 v6)),.c (.int .i64 v7)]),(12,.box [.own 400240,.c (.int .i64 0),.c (.int .i64 0),.c (.int .i64 0),.own 400244,.own 400245,.c (.int .i64 0)]),(20019,.row false 119 [.int .i64,.str,.str,.str] (E.e119 x19)),(400240,.row false 3 [.int .i64] []),(400244,.row false 3 [.int .i64] []),(400245,.row false 145 [.str,.int .i64,.int .i64,.int .i64] [])]∧ZU.l0 n x19 x20 v0 v1 v2 v3 v4 v5 v6 v7 = some (r1,r2,r3,r4,r5,r6,r7,r8,r9)) ⟨[6,7,12,19,20],[6,7,12],[(19,119)],[(12,0,3),(12,4,3),(12,5,145)]⟩ fun n0 t ht Q0 hN0 hX0 => ?_);obtain ⟨hl,_,_,_,_,_,_,_,_,_,_,rfl,H⟩:=ht;rcases n0 with _ | n0;cases H;simp only [ZU.l0] at H;(try (conv => cbv)))
  | ((with_reducible show Q0 _ _);first | exact nx_ hN0 | (refine xt_ hX0 ?_;(try (conv => cbv))))
  | ((with_reducible show Q _ _);exact en_ ⟨[12,13,14],[12],[(13,119)],[(12,0,3),(12,4,3),(12,5,145)]⟩ 91 hQ)
  | contradiction
end Go.Ev
