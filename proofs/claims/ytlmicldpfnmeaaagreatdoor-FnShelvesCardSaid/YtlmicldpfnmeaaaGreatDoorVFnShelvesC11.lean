/- Contracts of the Go functions that this law reaches: what each call returns, by its plain function. No conditions but those that each statement names. By this repo's programs; comments are taken out. -/
import Derived.Test.YtlmicldpfnmeaaaGreatDoorVFnShelvesD
import Derived.Test.YtlmicldpfnmeaaaGreatDoorVFnShelvesC0
import Derived.Test.YtlmicldpfnmeaaaGreatDoorVFnShelvesC1
import Derived.Test.YtlmicldpfnmeaaaGreatDoorVFnShelvesC5
import Derived.Test.YtlmicldpfnmeaaaGreatDoorVFnShelvesC6
import Derived.Test.YtlmicldpfnmeaaaGreatDoorVFnShelvesC9
import Derived.Test.YtlmicldpfnmeaaaGreatDoorVFnShelvesC10
set_option linter.all false
namespace Go.Ev
open Go.RowKit Go.Proofs Go.Proofs.YtlmicldpfnmeaaaGreatDoorW.PrintWords Go.Proofs.YtlmicldpfnmeaaaGreatDoorW.PrintLast Go.Proofs.YtlmicldpfnmeaaaGreatDoorW.PrintMore
set_option maxRecDepth 100000
set_option maxHeartbeats 4000000
theorem Z00.j0_s {k:Nat} {x0:List S147} {x15:Bool} {x1303000:Int} {x1303001:List S162} {r:_} (h:Z00.j0 k x0 x15 x1303000 x1303001 = some r):∃ m,k = m + 1∧Z00.j0 (m + 1) x0 x15 x1303000 x1303001 = some r:=by
 cases k with
 | zero => simp [Z00.j0] at h
 | succ m => exact ⟨m,rfl,h⟩
theorem Z00.j0_i {k:Nat} {x0:List S147} {x15:Bool} {x1303000:Int} {x1303001:List S162} {r:_}:(Z00.j0 k x0 x15 x1303000 x1303001 = some r) = (∃ m,k = m + 1∧Z00.j0 (m + 1) x0 x15 x1303000 x1303001 = some r):=propext ⟨Z00.j0_s,fun ⟨m,h,h2⟩ => by rw [h];exact h2⟩
theorem Z00.con (E:En) (hE:E = E0) {k l0 a1_0 l1_1 r1 r2} (H:Z00.f k l0 a1_0 l1_1 = some (r1,r2)) :
  Cn 41 [.c (.sl [.str,.str] (E.e147 l0)),.agg [.c (.int .i64 a1_0),.c (.sl [.str,.str,.bool] (E.e162 l1_1))]] [] (.tup [.own 0,.c (.bool r2)]) [.row false 147 [.str,.str] (E.e147 r1)] []:=by
 refine co_ Tryz.func41 tabOk [20004] fun F hF Q hQ => ?_
 simp only [Z00.f] at H
 (conv => cbv)
 repeat' first
  | (rw [Z00.j0_i] at H;obtain ⟨m,hm,H⟩:=H;simp only [Z00.j0] at H;(try simp only [decide_eq_true_eq,Bool.false_eq_true,if_false,if_true] at H))
  | replace H:=s_ H
  | (exfalso;with_reducible assumption)
  | (rw [Z6] at H;obtain ⟨hc,H⟩:=H)
  | (rw [Z2] at H;obtain ⟨hc,H⟩:=H)
  | ((with_reducible refine br2 hF H ?_ ?_) <;> (clear H;intro hb H;(try (conv => cbv))))
  | (refine w_ hF ?_;(try (conv => cbv)))
  | ((with_reducible refine k1_ 115 H ?_);clear H;intro _ hy H;refine ca_ hF (Z1c.con E hE hy) ?_;(try (conv => cbv)))
  | ((with_reducible refine k1_ 116 H ?_);clear H;intro _ hy H;refine ca_ hF (Zp.con E hE hy) ?_;(try (conv => cbv)))
  | ((with_reducible refine k1_ 117 H ?_);clear H;intro _ hy H;refine ca_ hF (spec_l06Cut.con E hE hy) ?_;(try (conv => cbv)))
  | ((with_reducible refine k1_ 118 H ?_);clear H;intro _ hy H;refine ca_ hF (Z0h.con E hE hy) ?_;(try (conv => cbv)))
  | ((with_reducible refine lo_ hF (fun n t => n≤k∧∃ x6 x7 v0 v1,t = At 60 [(3,.ptr 3 0),(6,.own 20006),(7,.c (.int .i64 x7))] [(3,.box [.c (.int .i64 v0),.c (.sl [.str,.str,.bool] (E.e162 v1))]),(20006,.row false 147 [.str,.str] (E.e147 x6))]∧Z00.l0 n x6 x7 v0 v1 = some (r1,r2)) ⟨[3,6,7],[3],[(6,147)],[]⟩ fun n0 t ht Q0 hN0 hX0 => ?_);obtain ⟨hl,_,_,_,_,rfl,H⟩:=ht;rcases n0 with _ | n0;cases H;simp only [Z00.l0] at H;(try (conv => cbv)))
  | ((with_reducible show Q0 _ _);first | exact nx_ hN0 | (refine xt_ hX0 ?_;(try (conv => cbv))))
  | ((with_reducible show Q _ _);exact en_ ⟨[4,5],[],[(4,147)],[]⟩ 60 hQ)
  | contradiction
theorem Z17.con (E:En) (hE:E = E0) {k l0 l1 r} (H:Z17.f k l0 l1 = some (r)) :
  Cn 35 [.c (.sl [.str,.str] (E.e147 l0)),.c (.sl [.str,.str] (E.e147 l1))] [] (.c (.bool r)) [] []:=by
 refine co_ Tryz.func35 tabOk [] fun F hF Q hQ => ?_
 simp only [Z17.f] at H
 (conv => cbv)
 repeat' first
  | replace H:=s_ H
  | (exfalso;with_reducible assumption)
  | (rw [Z6] at H;obtain ⟨hc,H⟩:=H)
  | (rw [Z2] at H;obtain ⟨hc,H⟩:=H)
  | ((with_reducible refine br2 hF H ?_ ?_) <;> (clear H;intro hb H;(try (conv => cbv))))
  | (refine w_ hF ?_;(try (conv => cbv)))
  | ((with_reducible refine lo_ hF (fun n t => n≤k∧∃ x0 x1 x5,t = At 26 [(0,.c (.sl [.str,.str] (E.e147 x0))),(1,.c (.sl [.str,.str] (E.e147 x1))),(5,.c (.int .i64 x5))] []∧Z17.l0 n x0 x1 x5 = some (r)) ⟨[0,1,5],[],[],[]⟩ fun n0 t ht Q0 hN0 hX0 => ?_);obtain ⟨hl,_,_,_,rfl,H⟩:=ht;rcases n0 with _ | n0;cases H;simp only [Z17.l0] at H;(try (conv => cbv)))
  | ((with_reducible show Q0 _ _);first | exact nx_ hN0 | (refine xt_ hX0 ?_;(try (conv => cbv))))
  | ((with_reducible show Q _ _);exact en_ ⟨[4],[],[],[]⟩ 26 hQ)
  | contradiction
theorem Z0y.con (E:En) (hE:E = E0) {k l0 l1 r} (H:Z0y.f k l0 l1 = some (r)) :
  Cn 42 [.c (.sl [.str,.int .i64,.int .i64,.int .i64] (E.e145 l0)),.c (.sl [.str,.int .i64,.int .i64,.int .i64] (E.e145 l1))] [] (.c (.bool r)) [] []:=by
 refine co_ Tryz.func42 tabOk [] fun F hF Q hQ => ?_
 simp only [Z0y.f] at H
 (conv => cbv)
 repeat' first
  | replace H:=s_ H
  | (exfalso;with_reducible assumption)
  | (rw [Z6] at H;obtain ⟨hc,H⟩:=H)
  | (rw [Z2] at H;obtain ⟨hc,H⟩:=H)
  | ((with_reducible refine br2 hF H ?_ ?_) <;> (clear H;intro hb H;(try (conv => cbv))))
  | (refine w_ hF ?_;(try (conv => cbv)))
  | ((with_reducible refine lo_ hF (fun n t => n≤k∧∃ x0 x1 x5,t = At 26 [(0,.c (.sl [.str,.int .i64,.int .i64,.int .i64] (E.e145 x0))),(1,.c (.sl [.str,.int .i64,.int .i64,.int .i64] (E.e145 x1))),(5,.c (.int .i64 x5))] []∧Z0y.l0 n x0 x1 x5 = some (r)) ⟨[0,1,5],[],[],[]⟩ fun n0 t ht Q0 hN0 hX0 => ?_);obtain ⟨hl,_,_,_,rfl,H⟩:=ht;rcases n0 with _ | n0;cases H;simp only [Z0y.l0] at H;(try (conv => cbv)))
  | ((with_reducible show Q0 _ _);first | exact nx_ hN0 | (refine xt_ hX0 ?_;(try (conv => cbv))))
  | ((with_reducible show Q _ _);exact en_ ⟨[4],[],[],[]⟩ 26 hQ)
  | contradiction
theorem Z0D.con (E:En) (hE:E = E0) {k l0 l1 r} (H:Z0D.f k l0 l1 = some (r)) :
  Cn 38 [.c (.sl [.int .i64] (E.eI .i64 l0)),.c (.sl [.int .i64] (E.eI .i64 l1))] [] (.c (.bool r)) [] []:=by
 refine co_ Tryz.func38 tabOk [] fun F hF Q hQ => ?_
 simp only [Z0D.f] at H
 (conv => cbv)
 repeat' first
  | replace H:=s_ H
  | (exfalso;with_reducible assumption)
  | (rw [Z6] at H;obtain ⟨hc,H⟩:=H)
  | (rw [Z2] at H;obtain ⟨hc,H⟩:=H)
  | ((with_reducible refine br2 hF H ?_ ?_) <;> (clear H;intro hb H;(try (conv => cbv))))
  | (refine w_ hF ?_;(try (conv => cbv)))
  | ((with_reducible refine lo_ hF (fun n t => n≤k∧∃ x0 x1 x5,t = At 26 [(0,.c (.sl [.int .i64] (E.eI .i64 x0))),(1,.c (.sl [.int .i64] (E.eI .i64 x1))),(5,.c (.int .i64 x5))] []∧Z0D.l0 n x0 x1 x5 = some (r)) ⟨[0,1,5],[],[],[]⟩ fun n0 t ht Q0 hN0 hX0 => ?_);obtain ⟨hl,_,_,_,rfl,H⟩:=ht;rcases n0 with _ | n0;cases H;simp only [Z0D.l0] at H;(try (conv => cbv)))
  | ((with_reducible show Q0 _ _);first | exact nx_ hN0 | (refine xt_ hX0 ?_;(try (conv => cbv))))
  | ((with_reducible show Q _ _);exact en_ ⟨[4],[],[],[]⟩ 26 hQ)
  | contradiction
theorem laws_sameMan.con (E:En) (hE:E = E0) {k l0_0 a0_1 a0_2 a0_3 l0_4 l1_0 a1_1 a1_2 a1_3 l1_4 r} (H:laws_sameMan.f k l0_0 a0_1 a0_2 a0_3 l0_4 l1_0 a1_1 a1_2 a1_3 l1_4 = some (r)) :
  Cn 43 [.agg [.c (.sl [.int .i64] (E.eI .i64 l0_0)),.c (.int .i64 a0_1),.c (.int .i64 a0_2),.c (.int .i64 a0_3),.c (.sl [.int .i64] (E.eI .i64 l0_4))],.agg [.c (.sl [.int .i64] (E.eI .i64 l1_0)),.c (.int .i64 a1_1),.c (.int .i64 a1_2),.c (.int .i64 a1_3),.c (.sl [.int .i64] (E.eI .i64 l1_4))]] [] (.c (.bool r)) [] []:=by
 refine co_ Tryz.func43 tabOk [] fun F hF Q hQ => ?_
 simp only [laws_sameMan.f] at H
 (conv => cbv)
 repeat' first
  | replace H:=s_ H
  | (exfalso;with_reducible assumption)
  | (rw [Z6] at H;obtain ⟨hc,H⟩:=H)
  | (rw [Z2] at H;obtain ⟨hc,H⟩:=H)
  | ((with_reducible refine br2 hF H ?_ ?_) <;> (clear H;intro hb H;(try (conv => cbv))))
  | (refine w_ hF ?_;(try (conv => cbv)))
  | ((with_reducible refine k1_ 38 H ?_);clear H;intro _ hy H;refine ca_ hF (Z0D.con E hE hy) ?_;(try (conv => cbv)))
  | ((with_reducible show Q _ _);exact en_ ⟨[4],[],[],[]⟩ 38 hQ)
  | contradiction
theorem laws_FnShelves.con (E:En) (hE:E = E0) {k l0 r} (H:laws_FnShelves.f k l0 = some r) :
  Cn 6 [.c (.sl [.int .u8] (E.eI .u8 l0))] [] (.c (.bool r)) [] []:=by
 refine co_ Tryz.func6 Z0I [] fun F hF Q hQ => ?_
 simp only [laws_FnShelves.f] at H
 (conv => cbv)
 repeat' first
  | replace H:=s_ H
  | (exfalso;with_reducible assumption)
  | (rw [Z6] at H;obtain ⟨hc,H⟩:=H)
  | (rw [Z2] at H;obtain ⟨hc,H⟩:=H)
  | ((with_reducible refine br2 hF H ?_ ?_) <;> (clear H;intro hb H;(try (conv => cbv))))
  | (refine w_ hF ?_;(try (conv => cbv)))
  | ((with_reducible refine k1_ 28 H ?_);clear H;intro _ hy H;refine ca_ hF (laws_big.con E hE hy) ?_;(try (conv => cbv)))
  | ((with_reducible refine k10_ 29 H ?_);clear H;intro _ _ _ _ _ _ _ _ _ _ hy H;refine ca_ hF (spec_DrawRightShelf.con E hE hy) ?_;(try (conv => cbv)))
  | ((with_reducible refine k2_ 34 H ?_);clear H;intro _ _ hy H;refine ca_ hF (Zw.con E hE hy) ?_;(try (conv => cbv)))
  | ((with_reducible refine k9_ 39 H ?_);clear H;intro _ _ _ _ _ _ _ _ _ hy H;refine ca_ hF (impl_AddBatch.con E hE hy) ?_;(try (conv => cbv)))
  | ((with_reducible refine k9_ 40 H ?_);clear H;intro _ _ _ _ _ _ _ _ _ hy H;refine ca_ hF (Za.con E hE hy) ?_;(try (conv => cbv)))
  | ((with_reducible refine k2_ 33 H ?_);clear H;intro _ _ hy H;refine ca_ hF (Zl.con E hE hy) ?_;(try (conv => cbv)))
  | ((with_reducible refine k9_ 21 H ?_);clear H;intro _ _ _ _ _ _ _ _ _ hy H;refine ca_ hF (Zm.con E hE hy) ?_;(try (conv => cbv)))
  | ((with_reducible refine k2_ 41 H ?_);clear H;intro _ _ hy H;refine ca_ hF (Z00.con E hE hy) ?_;(try (conv => cbv)))
  | ((with_reducible refine k1_ 35 H ?_);clear H;intro _ hy H;refine ca_ hF (Z17.con E hE hy) ?_;(try (conv => cbv)))
  | ((with_reducible refine k1_ 42 H ?_);clear H;intro _ hy H;refine ca_ hF (Z0y.con E hE hy) ?_;(try (conv => cbv)))
  | ((with_reducible refine k1_ 43 H ?_);clear H;intro _ hy H;refine ca_ hF (laws_sameMan.con E hE hy) ?_;(try (conv => cbv)))
  | ((with_reducible show Q _ _);exact en_ ⟨[2],[],[],[]⟩ 134 hQ)
  | contradiction
end Go.Ev
