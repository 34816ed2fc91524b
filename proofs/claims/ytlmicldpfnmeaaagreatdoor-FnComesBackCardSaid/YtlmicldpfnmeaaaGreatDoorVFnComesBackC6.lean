/- Contracts of the Go functions that this law reaches: what each call returns, by its plain function. No conditions but those that each statement names. By this repo's programs; comments are taken out. -/
import Derived.Test.YtlmicldpfnmeaaaGreatDoorVFnComesBackD
import Derived.Test.YtlmicldpfnmeaaaGreatDoorVFnComesBackC0
import Derived.Test.YtlmicldpfnmeaaaGreatDoorVFnComesBackC1
import Derived.Test.YtlmicldpfnmeaaaGreatDoorVFnComesBackC2
import Derived.Test.YtlmicldpfnmeaaaGreatDoorVFnComesBackC5
set_option linter.all false
namespace Go.Ev
open Go.RowKit Go.Proofs Go.Proofs.YtlmicldpfnmeaaaGreatDoorW.PrintWords Go.Proofs.YtlmicldpfnmeaaaGreatDoorW.PrintLast Go.Proofs.YtlmicldpfnmeaaaGreatDoorW.PrintMore
set_option maxRecDepth 100000
set_option maxHeartbeats 4000000
theorem Zl.j0_s {k:Nat} {x6:Int} {x8:List S119} {x592000:List S122} {x609000:List Int} {x609001:Int} {x609002:Int} {x609003:Int} {x609004:List Int} {x609005:List S145} {x609006:Int} {r:_} (h:Zl.j0 k x6 x8 x592000 x609000 x609001 x609002 x609003 x609004 x609005 x609006 = some r):∃ m,k = m + 1∧Zl.j0 (m + 1) x6 x8 x592000 x609000 x609001 x609002 x609003 x609004 x609005 x609006 = some r:=by
 cases k with
 | zero => simp [Zl.j0] at h
 | succ m => exact ⟨m,rfl,h⟩
theorem Zl.j0_i {k:Nat} {x6:Int} {x8:List S119} {x592000:List S122} {x609000:List Int} {x609001:Int} {x609002:Int} {x609003:Int} {x609004:List Int} {x609005:List S145} {x609006:Int} {r:_}:(Zl.j0 k x6 x8 x592000 x609000 x609001 x609002 x609003 x609004 x609005 x609006 = some r) = (∃ m,k = m + 1∧Zl.j0 (m + 1) x6 x8 x592000 x609000 x609001 x609002 x609003 x609004 x609005 x609006 = some r):=propext ⟨Zl.j0_s,fun ⟨m,h,h2⟩ => by rw [h];exact h2⟩
theorem Zl.con (E:En) (hE:E = E0) {k l0_0 r1 r2 r3 r4 r5 r6 r7 r8 r9} (H:Zl.f k l0_0 = some (r1,r2,r3,r4,r5,r6,r7,r8,r9)) :
  Cn 20 [.agg [.c (.sl [.str,.str] (E.e122 l0_0))]] [] (.tup [.agg [.own 0,.c (.int .i64 r2),.c (.int .i64 r3),.c (.int .i64 r4),.own 1,.own 2,.c (.int .i64 r7)],.own 3,.c (.int .i64 r9)]) [.row false 3 [.int .i64] (E.eI .i64 r1),.row false 3 [.int .i64] (E.eI .i64 r5),.row false 145 [.str,.int .i64,.int .i64,.int .i64] (E.e145 r6),.row false 119 [.int .i64,.str,.str,.str] (E.e119 r8)] []:=by
 refine co_ Tryz.func20 tabOk [400040,400044,400045,20003] fun F hF Q hQ => ?_
 simp only [Zl.f] at H
 (conv => cbv)
 repeat' first
  | (rw [Zl.j0_i] at H;obtain ⟨m,hm,H⟩:=H;simp only [Zl.j0] at H;(try simp only [decide_eq_true_eq,Bool.false_eq_true,if_false,if_true] at H))
  | replace H:=s_ H
  | (exfalso;with_reducible assumption)
  | (rw [Z7] at H;obtain ⟨hc,H⟩:=H)
  | (rw [Z2] at H;obtain ⟨hc,H⟩:=H)
  | ((with_reducible refine br2 hF H ?_ ?_) <;> (clear H;intro hb H;(try (conv => cbv))))
  | (refine w_ hF ?_;(try (conv => cbv)))
  | ((with_reducible refine k1_ 60 H ?_);clear H;intro _ hy H;refine ca_ hF (Z1c.con E hE hy) ?_;(try (conv => cbv)))
  | ((with_reducible refine k1_ 61 H ?_);clear H;intro _ hy H;refine ca_ hF (Z0f.con E hE hy) ?_;(try (conv => cbv)))
  | ((with_reducible refine k9_ 74 H ?_);clear H;intro _ _ _ _ _ _ _ _ _ hy H;refine ca_ hF (Z6.con E hE hy) ?_;(try (conv => cbv)))
  | ((with_reducible refine k1_ 75 H ?_);clear H;intro _ hy H;refine ca_ hF (Z0P.con E hE hy) ?_;(try (conv => cbv)))
  | ((with_reducible refine k1_ 76 H ?_);clear H;intro _ hy H;refine ca_ hF (Z3Y.con E hE hy) ?_;(try (conv => cbv)))
  | ((with_reducible refine k1_ 77 H ?_);clear H;intro _ hy H;refine ca_ hF (Z20.con E hE hy) ?_;(try (conv => cbv)))
  | ((with_reducible refine lo_ hF (fun n t => n≤k∧∃ x6 x8 x9 v0 v1 v2 v3 v4 v5 v6 v7,t = At 94 [(1,.ptr 1 0),(2,.ptr 2 0),(5,.ptr 5 0),(6,.c (.int .i64 x6)),(8,.own 20008),(9,.c (.int .i64 x9))] [(1,.box [.c (.sl [.str,.str] (E.e122 v0))]),(2,.box [.own 400040,.c (.int .i64 0),.c (.int .i64 0),.c (.int .i64 0),.own 400044,.own 400045,.c (.int .i64 0)]),(5,.box [.own 400100,.c (.int .i64 v2),.c (.int .i64 v3),.c (.int .i64 v4),.own 400104,.own 400105,.c (.int .i64 v7)]),(20008,.row false 119 [.int .i64,.str,.str,.str] (E.e119 x8)),(400040,.row false 3 [.int .i64] []),(400044,.row false 3 [.int .i64] []),(400045,.row false 145 [.str,.int .i64,.int .i64,.int .i64] []),(400100,.row false 3 [.int .i64] (E.eI .i64 v1)),(400104,.row false 3 [.int .i64] (E.eI .i64 v5)),(400105,.row false 145 [.str,.int .i64,.int .i64,.int .i64] (E.e145 v6))]∧Zl.l0 n x6 x8 x9 v0 v1 v2 v3 v4 v5 v6 v7 = some (r1,r2,r3,r4,r5,r6,r7,r8,r9)) ⟨[1,2,5,6,8,9],[1,2,5],[(8,119)],[(2,0,3),(2,4,3),(2,5,145),(5,0,3),(5,4,3),(5,5,145)]⟩ fun n0 t ht Q0 hN0 hX0 => ?_);obtain ⟨hl,_,_,_,_,_,_,_,_,_,_,_,rfl,H⟩:=ht;rcases n0 with _ | n0;cases H;simp only [Zl.l0] at H;(try (conv => cbv)))
  | ((with_reducible show Q0 _ _);first | exact nx_ hN0 | (refine xt_ hX0 ?_;(try (conv => cbv))))
  | ((with_reducible show Q _ _);exact en_ ⟨[2,3,4],[2],[(3,119)],[(2,0,3),(2,4,3),(2,5,145)]⟩ 94 hQ)
  | contradiction
theorem Z3v.con (E:En) (hE:E = E0) {s0_0 s0_1 s0_2 l1 r1 r2 r3 r4} (H:Z3v.f s0_0 s0_1 s0_2 l1 = some (r1,r2,r3,r4)) :
  Cn 216 [.ptr 10000 0,.c (.sl [.str] (E.eS l1))] [.box [.c (.sl [.int .u8] (E.eI .u8 s0_0)),.c (.int .i64 s0_1),.c (.int .i64 s0_2)]] (.c (.str r1)) [] [.box [.c (.sl [.int .u8] (E.eI .u8 r2)),.c (.int .i64 r3),.c (.int .i64 r4)]]:=by
 refine co_ Tryz.func216 Z0L [] fun F hF Q hQ => ?_
 simp only [Z3v.f] at H
 (conv => cbv)
 repeat' first
  | replace H:=s_ H
  | (exfalso;with_reducible assumption)
  | (rw [Z7] at H;obtain ⟨hc,H⟩:=H)
  | (rw [Z2] at H;obtain ⟨hc,H⟩:=H)
  | ((with_reducible refine br2 hF H ?_ ?_) <;> (clear H;intro hb H;(try (conv => cbv))))
  | (refine w_ hF ?_;(try (conv => cbv)))
  | ((with_reducible refine k4_ 92 H ?_);clear H;intro _ _ _ _ hy H;refine ca_ hF (Z0o.con E hE hy) ?_;(try (conv => cbv)))
  | ((with_reducible show Q _ _);exact en_ ⟨[4],[],[],[]⟩ 12 hQ)
  | contradiction
theorem Z37.con (E:En) (hE:E = E0) {s0_0 s0_1 s0_2 r1 r2 r3 r4} (H:Z37.f s0_0 s0_1 s0_2 = some (r1,r2,r3,r4)) :
  Cn 175 [.ptr 10000 0] [.box [.c (.sl [.int .u8] (E.eI .u8 s0_0)),.c (.int .i64 s0_1),.c (.int .i64 s0_2)]] (.c (.str r1)) [] [.box [.c (.sl [.int .u8] (E.eI .u8 r2)),.c (.int .i64 r3),.c (.int .i64 r4)]]:=by
 refine co_ Tryz.func175 Z0L [] fun F hF Q hQ => ?_
 simp only [Z37.f] at H
 (conv => cbv)
 repeat' first
  | replace H:=s_ H
  | (exfalso;with_reducible assumption)
  | (rw [Z7] at H;obtain ⟨hc,H⟩:=H)
  | (rw [Z2] at H;obtain ⟨hc,H⟩:=H)
  | ((with_reducible refine br2 hF H ?_ ?_) <;> (clear H;intro hb H;(try (conv => cbv))))
  | (refine w_ hF ?_;(try (conv => cbv)))
  | ((with_reducible refine k4_ 216 H ?_);clear H;intro _ _ _ _ hy H;refine ca_ hF (Z3v.con E hE hy) ?_;(try (conv => cbv)))
  | ((with_reducible show Q _ _);exact en_ ⟨[2],[],[],[]⟩ 6 hQ)
  | contradiction
theorem Z0Y.con (E:En) (hE:E = E0) {k s0_0 s0_1 s0_2 a1 r1 r2 r3 r4} (H:Z0Y.f k s0_0 s0_1 s0_2 a1 = some (r1,r2,r3,r4)) :
  Cn 176 [.ptr 10000 0,.c (.int .i64 a1)] [.box [.c (.sl [.int .u8] (E.eI .u8 s0_0)),.c (.int .i64 s0_1),.c (.int .i64 s0_2)]] (.c (.str r1)) [] [.box [.c (.sl [.int .u8] (E.eI .u8 r2)),.c (.int .i64 r3),.c (.int .i64 r4)]]:=by
 refine co_ Tryz.func176 Z0L [] fun F hF Q hQ => ?_
 simp only [Z0Y.f] at H
 (conv => cbv)
 repeat' first
  | replace H:=s_ H
  | (exfalso;with_reducible assumption)
  | (rw [Z7] at H;obtain ⟨hc,H⟩:=H)
  | (rw [Z2] at H;obtain ⟨hc,H⟩:=H)
  | ((with_reducible refine br2 hF H ?_ ?_) <;> (clear H;intro hb H;(try (conv => cbv))))
  | (refine w_ hF ?_;(try (conv => cbv)))
  | ((with_reducible refine k4_ 124 H ?_);clear H;intro _ _ _ _ hy H;refine ca_ hF (Z1a.con E hE hy) ?_;(try (conv => cbv)))
  | ((with_reducible refine lo_ hF (fun n t => n≤k∧∃ x1 x5 x6 v0 v1 v2,t = At 23 [(0,.ptr 10000 0),(1,.c (.int .i64 x1)),(5,.own 20005),(6,.c (.int .i64 x6))] [(10000,.box [.c (.sl [.int .u8] (E.eI .u8 v0)),.c (.int .i64 v1),.c (.int .i64 v2)]),(20005,.row false 5 [.int .u8] (E.eI .u8 x5))]∧Z0Y.l0 n x1 x5 x6 v0 v1 v2 = some (r1,r2,r3,r4)) ⟨[0,1,5,6],[],[(5,5)],[]⟩ fun n0 t ht Q0 hN0 hX0 => ?_);obtain ⟨hl,_,_,_,_,_,_,rfl,H⟩:=ht;rcases n0 with _ | n0;cases H;simp only [Z0Y.l0] at H;(try (conv => cbv)))
  | ((with_reducible show Q0 _ _);first | exact nx_ hN0 | (refine xt_ hX0 ?_;(try (conv => cbv))))
  | ((with_reducible show Q _ _);exact en_ ⟨[4],[],[],[]⟩ 23 hQ)
  | contradiction
theorem Zj.con (E:En) (hE:E = E0) {k s0_0 s0_1 s0_2 a1 r1 r2 r3 r4 r5} (H:Zj.f k s0_0 s0_1 s0_2 a1 = some (r1,r2,r3,r4,r5)) :
  Cn 94 [.ptr 10000 0,.c (.int .i64 a1)] [.box [.c (.sl [.int .u8] (E.eI .u8 s0_0)),.c (.int .i64 s0_1),.c (.int .i64 s0_2)]] (.agg [.c (.int .i64 r1),.own 0]) [.row false 162 [.str,.str,.bool] (E.e162 r2)] [.box [.c (.sl [.int .u8] (E.eI .u8 r3)),.c (.int .i64 r4),.c (.int .i64 r5)]]:=by
 refine co_ Tryz.func94 Z0L [400081] fun F hF Q hQ => ?_
 simp only [Zj.f] at H
 (conv => cbv)
 repeat' first
  | replace H:=s_ H
  | (exfalso;with_reducible assumption)
  | (rw [Z7] at H;obtain ⟨hc,H⟩:=H)
  | (rw [Z2] at H;obtain ⟨hc,H⟩:=H)
  | ((with_reducible refine br2 hF H ?_ ?_) <;> (clear H;intro hb H;(try (conv => cbv))))
  | (refine w_ hF ?_;(try (conv => cbv)))
  | ((with_reducible refine k4_ 92 H ?_);clear H;intro _ _ _ _ hy H;refine ca_ hF (Z0o.con E hE hy) ?_;(try (conv => cbv)))
  | ((with_reducible refine k4_ 175 H ?_);clear H;intro _ _ _ _ hy H;refine ca_ hF (Z37.con E hE hy) ?_;(try (conv => cbv)))
  | ((with_reducible refine k4_ 176 H ?_);clear H;intro _ _ _ _ hy H;refine ca_ hF (Z0Y.con E hE hy) ?_;(try (conv => cbv)))
  | ((with_reducible refine k4_ 173 H ?_);clear H;intro _ _ _ _ hy H;refine ca_ hF (Z0I.con E hE hy) ?_;(try (conv => cbv)))
  | ((with_reducible refine lo_ hF (fun n t => n≤k∧∃ x6 v0 v1 v2 v3 v4 v5 v6,t = At 86 [(0,.ptr 10000 0),(4,.ptr 4 0),(5,.ptr 5 0),(6,.c (.int .i64 x6))] [(10000,.box [.c (.sl [.int .u8] (E.eI .u8 v4)),.c (.int .i64 v5),.c (.int .i64 v6)]),(4,.box [.c (.int .i64 v0),.own 400081]),(5,.box [.c (.int .i64 v2),.own 400101]),(400081,.row false 162 [.str,.str,.bool] (E.e162 v1)),(400101,.row false 162 [.str,.str,.bool] (E.e162 v3))]∧Zj.l0 n x6 v0 v1 v2 v3 v4 v5 v6 = some (r1,r2,r3,r4,r5)) ⟨[0,4,5,6],[4,5],[],[(4,1,162),(5,1,162)]⟩ fun n0 t ht Q0 hN0 hX0 => ?_);obtain ⟨hl,_,_,_,_,_,_,_,_,rfl,H⟩:=ht;rcases n0 with _ | n0;cases H;simp only [Zj.l0] at H;(try (conv => cbv)))
  | ((with_reducible show Q0 _ _);first | exact nx_ hN0 | (refine xt_ hX0 ?_;(try (conv => cbv))))
  | ((with_reducible refine lo_ hF (fun n t => n≤n0∧∃ x6 x8 x9 v0 v1 v2 v3 v4 v5 v6 v7 v8 v9,t = At 86 [(0,.ptr 10000 0),(4,.ptr 4 0),(5,.ptr 5 0),(6,.c (.int .i64 x6)),(7,.ptr 7 0),(8,.own 20008),(9,.c (.int .i64 x9))] [(10000,.box [.c (.sl [.int .u8] (E.eI .u8 v7)),.c (.int .i64 v8),.c (.int .i64 v9)]),(4,.box [.c (.int .i64 v0),.own 400081]),(5,.box [.c (.int .i64 v2),.own 400101]),(7,.box [.c (.str v4),.c (.str v5),.c (.bool v6)]),(20008,.row false 162 [.str,.str,.bool] (E.e162 x8)),(400081,.row false 162 [.str,.str,.bool] (E.e162 v1)),(400101,.row false 162 [.str,.str,.bool] (E.e162 v3))]∧Zj.l1 n x6 x8 x9 v0 v1 v2 v3 v4 v5 v6 v7 v8 v9 = some (r1,r2,r3,r4,r5)) ⟨[0,4,5,6,7,8,9],[4,5,7],[(8,162)],[(4,1,162),(5,1,162)]⟩ fun n1 t ht Q1 hN1 hX1 => ?_);obtain ⟨hl,_,_,_,_,_,_,_,_,_,_,_,_,_,rfl,H⟩:=ht;rcases n1 with _ | n1;cases H;simp only [Zj.l1] at H;(try (conv => cbv)))
  | ((with_reducible show Q1 _ _);first | exact nx_ hN1 | (refine xt_ hX1 ?_;(try (conv => cbv))))
  | ((with_reducible refine lo_ hF (fun n t => n≤n0∧∃ x6 x8 x10 v0 v1 v2 v3 v4 v5 v6 v7 v8 v9,t = At 86 [(0,.ptr 10000 0),(4,.ptr 4 0),(5,.ptr 5 0),(6,.c (.int .i64 x6)),(7,.ptr 7 0),(8,.own 20008),(10,.c (.int .i64 x10))] [(10000,.box [.c (.sl [.int .u8] (E.eI .u8 v7)),.c (.int .i64 v8),.c (.int .i64 v9)]),(4,.box [.c (.int .i64 v0),.own 400081]),(5,.box [.c (.int .i64 v2),.own 400101]),(7,.box [.c (.str v4),.c (.str v5),.c (.bool v6)]),(20008,.row false 162 [.str,.str,.bool] (E.e162 x8)),(400081,.row false 162 [.str,.str,.bool] (E.e162 v1)),(400101,.row false 162 [.str,.str,.bool] (E.e162 v3))]∧Zj.l2 n x6 x8 x10 v0 v1 v2 v3 v4 v5 v6 v7 v8 v9 = some (r1,r2,r3,r4,r5)) ⟨[0,4,5,6,7,8,10],[4,5,7],[(8,162)],[(4,1,162),(5,1,162)]⟩ fun n2 t ht Q2 hN2 hX2 => ?_);obtain ⟨hl,_,_,_,_,_,_,_,_,_,_,_,_,_,rfl,H⟩:=ht;rcases n2 with _ | n2;cases H;simp only [Zj.l2] at H;(try (conv => cbv)))
  | ((with_reducible show Q2 _ _);first | exact nx_ hN2 | (refine xt_ hX2 ?_;(try (conv => cbv))))
  | ((with_reducible show Q _ _);exact en_ ⟨[4],[4],[],[(4,1,162)]⟩ 86 hQ)
  | contradiction
end Go.Ev
