/- Contracts of the Go functions that this law reaches: what each call returns, by its plain function. No conditions but those that each statement names. By this repo's programs; comments are taken out. -/
import Derived.Test.YtlmicldpfnmeaaaGreatDoorVFnComesBackD
import Derived.Test.YtlmicldpfnmeaaaGreatDoorVFnComesBackC0
import Derived.Test.YtlmicldpfnmeaaaGreatDoorVFnComesBackC3
import Derived.Test.YtlmicldpfnmeaaaGreatDoorVFnComesBackC8
import Derived.Test.YtlmicldpfnmeaaaGreatDoorVFnComesBackC9
import Derived.Test.YtlmicldpfnmeaaaGreatDoorVFnComesBackC10
import Derived.Test.YtlmicldpfnmeaaaGreatDoorVFnComesBackC16
import Derived.Test.YtlmicldpfnmeaaaGreatDoorVFnComesBackC18
set_option linter.all false
namespace Go.Ev
open Go.RowKit Go.Proofs Go.Proofs.YtlmicldpfnmeaaaGreatDoorW.PrintWords Go.Proofs.YtlmicldpfnmeaaaGreatDoorW.PrintLast Go.Proofs.YtlmicldpfnmeaaaGreatDoorW.PrintMore
set_option maxRecDepth 100000
set_option maxHeartbeats 4000000
theorem Z0n.con (E:En) (hE:E = E0) {k l0 a1 a2 r} (H:Z0n.f k l0 a1 a2 = some (r)) :
  Cn 118 [.c (.sl [.str,.str] (E.e147 l0)),.c (.str a1),.c (.str a2)] [] (.own 0) [.row false 147 [.str,.str] (E.e147 r)] []:=by
 refine co_ Tryz.func118 tabOk [20006] fun F hF Q hQ => ?_
 simp only [Z0n.f] at H
 (conv => cbv)
 repeat' first
  | replace H:=s_ H
  | (exfalso;with_reducible assumption)
  | (rw [Z7] at H;obtain ⟨hc,H⟩:=H)
  | (rw [Z2] at H;obtain ⟨hc,H⟩:=H)
  | ((with_reducible refine br2 hF H ?_ ?_) <;> (clear H;intro hb H;(try (conv => cbv))))
  | (refine w_ hF ?_;(try (conv => cbv)))
  | ((with_reducible refine lo_ hF (fun n t => n≤k∧∃ x0 x1 x2 x7 x8,t = At 58 [(0,.c (.sl [.str,.str] (E.e147 x0))),(1,.c (.str x1)),(2,.c (.str x2)),(7,.own 20007),(8,.c (.int .i64 x8))] [(20007,.row false 147 [.str,.str] (E.e147 x7))]∧Z0n.l0 n x0 x1 x2 x7 x8 = some (r)) ⟨[0,1,2,7,8],[],[(7,147)],[]⟩ fun n0 t ht Q0 hN0 hX0 => ?_);obtain ⟨hl,_,_,_,_,_,rfl,H⟩:=ht;rcases n0 with _ | n0;cases H;simp only [Z0n.l0] at H;(try (conv => cbv)))
  | ((with_reducible show Q0 _ _);first | exact nx_ hN0 | (refine xt_ hX0 ?_;(try (conv => cbv))))
  | ((with_reducible refine lo_ hF (fun n t => n≤k∧∃ x0 x1 x7 x9,t = At 58 [(0,.c (.sl [.str,.str] (E.e147 x0))),(1,.c (.str x1)),(7,.own 20007),(9,.c (.int .i64 x9))] [(20007,.row false 147 [.str,.str] (E.e147 x7))]∧Z0n.l1 n x0 x1 x7 x9 = some (r)) ⟨[0,1,7,9],[],[(7,147)],[]⟩ fun n1 t ht Q1 hN1 hX1 => ?_);obtain ⟨hl,_,_,_,_,rfl,H⟩:=ht;rcases n1 with _ | n1;cases H;simp only [Z0n.l1] at H;(try (conv => cbv)))
  | ((with_reducible show Q1 _ _);first | exact nx_ hN1 | (refine xt_ hX1 ?_;(try (conv => cbv))))
  | ((with_reducible show Q _ _);exact en_ ⟨[6],[],[(6,147)],[]⟩ 58 hQ)
  | contradiction
theorem Z04.j0_s {k:Nat} {x0:List S147} {x15:Bool} {x1303000:Int} {x1303001:List S162} {r:_} (h:Z04.j0 k x0 x15 x1303000 x1303001 = some r):∃ m,k = m + 1∧Z04.j0 (m + 1) x0 x15 x1303000 x1303001 = some r:=by
 cases k with
 | zero => simp [Z04.j0] at h
 | succ m => exact ⟨m,rfl,h⟩
theorem Z04.j0_i {k:Nat} {x0:List S147} {x15:Bool} {x1303000:Int} {x1303001:List S162} {r:_}:(Z04.j0 k x0 x15 x1303000 x1303001 = some r) = (∃ m,k = m + 1∧Z04.j0 (m + 1) x0 x15 x1303000 x1303001 = some r):=propext ⟨Z04.j0_s,fun ⟨m,h,h2⟩ => by rw [h];exact h2⟩
theorem Z04.con (E:En) (hE:E = E0) {k l0 a1_0 l1_1 r1 r2} (H:Z04.f k l0 a1_0 l1_1 = some (r1,r2)) :
  Cn 41 [.c (.sl [.str,.str] (E.e147 l0)),.agg [.c (.int .i64 a1_0),.c (.sl [.str,.str,.bool] (E.e162 l1_1))]] [] (.tup [.own 0,.c (.bool r2)]) [.row false 147 [.str,.str] (E.e147 r1)] []:=by
 refine co_ Tryz.func41 tabOk [20004] fun F hF Q hQ => ?_
 simp only [Z04.f] at H
 (conv => cbv)
 repeat' first
  | (rw [Z04.j0_i] at H;obtain ⟨m,hm,H⟩:=H;simp only [Z04.j0] at H;(try simp only [decide_eq_true_eq,Bool.false_eq_true,if_false,if_true] at H))
  | replace H:=s_ H
  | (exfalso;with_reducible assumption)
  | (rw [Z7] at H;obtain ⟨hc,H⟩:=H)
  | (rw [Z2] at H;obtain ⟨hc,H⟩:=H)
  | ((with_reducible refine br2 hF H ?_ ?_) <;> (clear H;intro hb H;(try (conv => cbv))))
  | (refine w_ hF ?_;(try (conv => cbv)))
  | ((with_reducible refine k1_ 115 H ?_);clear H;intro _ hy H;refine ca_ hF (Z1i.con E hE hy) ?_;(try (conv => cbv)))
  | ((with_reducible refine k1_ 116 H ?_);clear H;intro _ hy H;refine ca_ hF (Zq.con E hE hy) ?_;(try (conv => cbv)))
  | ((with_reducible refine k1_ 117 H ?_);clear H;intro _ hy H;refine ca_ hF (Z1v.con E hE hy) ?_;(try (conv => cbv)))
  | ((with_reducible refine k1_ 118 H ?_);clear H;intro _ hy H;refine ca_ hF (Z0n.con E hE hy) ?_;(try (conv => cbv)))
  | ((with_reducible refine lo_ hF (fun n t => n≤k∧∃ x6 x7 v0 v1,t = At 60 [(3,.ptr 3 0),(6,.own 20006),(7,.c (.int .i64 x7))] [(3,.box [.c (.int .i64 v0),.c (.sl [.str,.str,.bool] (E.e162 v1))]),(20006,.row false 147 [.str,.str] (E.e147 x6))]∧Z04.l0 n x6 x7 v0 v1 = some (r1,r2)) ⟨[3,6,7],[3],[(6,147)],[]⟩ fun n0 t ht Q0 hN0 hX0 => ?_);obtain ⟨hl,_,_,_,_,rfl,H⟩:=ht;rcases n0 with _ | n0;cases H;simp only [Z04.l0] at H;(try (conv => cbv)))
  | ((with_reducible show Q0 _ _);first | exact nx_ hN0 | (refine xt_ hX0 ?_;(try (conv => cbv))))
  | ((with_reducible show Q _ _);exact en_ ⟨[4,5],[],[(4,147)],[]⟩ 60 hQ)
  | contradiction
theorem Z05.con (E:En) (hE:E = E0) {k l0 l1 r} (H:Z05.f k l0 l1 = some (r)) :
  Cn 35 [.c (.sl [.str,.str] (E.e147 l0)),.c (.sl [.str,.str] (E.e147 l1))] [] (.c (.bool r)) [] []:=by
 refine co_ Tryz.func35 tabOk [] fun F hF Q hQ => ?_
 simp only [Z05.f] at H
 (conv => cbv)
 repeat' first
  | replace H:=s_ H
  | (exfalso;with_reducible assumption)
  | (rw [Z7] at H;obtain ⟨hc,H⟩:=H)
  | (rw [Z2] at H;obtain ⟨hc,H⟩:=H)
  | ((with_reducible refine br2 hF H ?_ ?_) <;> (clear H;intro hb H;(try (conv => cbv))))
  | (refine w_ hF ?_;(try (conv => cbv)))
  | ((with_reducible refine lo_ hF (fun n t => n≤k∧∃ x0 x1 x5,t = At 26 [(0,.c (.sl [.str,.str] (E.e147 x0))),(1,.c (.sl [.str,.str] (E.e147 x1))),(5,.c (.int .i64 x5))] []∧Z05.l0 n x0 x1 x5 = some (r)) ⟨[0,1,5],[],[],[]⟩ fun n0 t ht Q0 hN0 hX0 => ?_);obtain ⟨hl,_,_,_,rfl,H⟩:=ht;rcases n0 with _ | n0;cases H;simp only [Z05.l0] at H;(try (conv => cbv)))
  | ((with_reducible show Q0 _ _);first | exact nx_ hN0 | (refine xt_ hX0 ?_;(try (conv => cbv))))
  | ((with_reducible show Q _ _);exact en_ ⟨[4],[],[],[]⟩ 26 hQ)
  | contradiction
theorem laws_FnComesBack.con (E:En) (hE:E = E0) {k l0 r} (H:laws_FnComesBack.f k l0 = some r) :
  Cn 11 [.c (.sl [.int .u8] (E.eI .u8 l0))] [] (.c (.bool r)) [] []:=by
 refine co_ Tryz.func11 Z0L [] fun F hF Q hQ => ?_
 simp only [laws_FnComesBack.f] at H
 (conv => cbv)
 repeat' first
  | replace H:=s_ H
  | (exfalso;with_reducible assumption)
  | (rw [Z7] at H;obtain ⟨hc,H⟩:=H)
  | (rw [Z2] at H;obtain ⟨hc,H⟩:=H)
  | ((with_reducible refine br2 hF H ?_ ?_) <;> (clear H;intro hb H;(try (conv => cbv))))
  | (refine w_ hF ?_;(try (conv => cbv)))
  | ((with_reducible refine k1_ 28 H ?_);clear H;intro _ hy H;refine ca_ hF (Z7T.con E hE hy) ?_;(try (conv => cbv)))
  | ((with_reducible refine k10_ 29 H ?_);clear H;intro _ _ _ _ _ _ _ _ _ _ hy H;refine ca_ hF (Z1w.con E hE hy) ?_;(try (conv => cbv)))
  | ((with_reducible refine k2_ 30 H ?_);clear H;intro _ _ hy H;refine ca_ hF (Zw.con E hE hy) ?_;(try (conv => cbv)))
  | ((with_reducible refine k9_ 39 H ?_);clear H;intro _ _ _ _ _ _ _ _ _ hy H;refine ca_ hF (Z3a.con E hE hy) ?_;(try (conv => cbv)))
  | ((with_reducible refine k9_ 40 H ?_);clear H;intro _ _ _ _ _ _ _ _ _ hy H;refine ca_ hF (Zb.con E hE hy) ?_;(try (conv => cbv)))
  | ((with_reducible refine k1_ 52 H ?_);clear H;intro _ hy H;refine ca_ hF (Z0w.con E hE hy) ?_;(try (conv => cbv)))
  | ((with_reducible refine k2_ 53 H ?_);clear H;intro _ _ hy H;refine ca_ hF (Z4u.con E hE hy) ?_;(try (conv => cbv)))
  | ((with_reducible refine k9_ 21 H ?_);clear H;intro _ _ _ _ _ _ _ _ _ hy H;refine ca_ hF (Zm.con E hE hy) ?_;(try (conv => cbv)))
  | ((with_reducible refine k2_ 33 H ?_);clear H;intro _ _ hy H;refine ca_ hF (Zg.con E hE hy) ?_;(try (conv => cbv)))
  | ((with_reducible refine k2_ 34 H ?_);clear H;intro _ _ hy H;refine ca_ hF (Zy.con E hE hy) ?_;(try (conv => cbv)))
  | ((with_reducible refine k2_ 41 H ?_);clear H;intro _ _ hy H;refine ca_ hF (Z04.con E hE hy) ?_;(try (conv => cbv)))
  | ((with_reducible refine k1_ 35 H ?_);clear H;intro _ hy H;refine ca_ hF (Z05.con E hE hy) ?_;(try (conv => cbv)))
  | ((with_reducible show Q _ _);exact en_ ⟨[2],[],[],[]⟩ 162 hQ)
  | contradiction
end Go.Ev
