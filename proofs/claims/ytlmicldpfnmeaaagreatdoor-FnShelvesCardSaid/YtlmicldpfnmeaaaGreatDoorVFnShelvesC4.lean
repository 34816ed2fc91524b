/- Contracts of the Go functions that this law reaches: what each call returns, by its plain function. No conditions but those that each statement names. By this repo's programs; comments are taken out. -/
import Derived.Test.YtlmicldpfnmeaaaGreatDoorVFnShelvesD
import Derived.Test.YtlmicldpfnmeaaaGreatDoorVFnShelvesC0
import Derived.Test.YtlmicldpfnmeaaaGreatDoorVFnShelvesC1
import Derived.Test.YtlmicldpfnmeaaaGreatDoorVFnShelvesC3
set_option linter.all false
namespace Go.Ev
open Go.RowKit Go.Proofs Go.Proofs.YtlmicldpfnmeaaaGreatDoorW.PrintWords Go.Proofs.YtlmicldpfnmeaaaGreatDoorW.PrintLast Go.Proofs.YtlmicldpfnmeaaaGreatDoorW.PrintMore
set_option maxRecDepth 100000
set_option maxHeartbeats 4000000
theorem Zh.con (E:En) (hE:E = E0) {k s0_0 s0_1 s0_2 a1 r1 r2 r3 r4 r5} (H:Zh.f k s0_0 s0_1 s0_2 a1 = some (r1,r2,r3,r4,r5)) :
  Cn 94 [.ptr 10000 0,.c (.int .i64 a1)] [.box [.c (.sl [.int .u8] (E.eI .u8 s0_0)),.c (.int .i64 s0_1),.c (.int .i64 s0_2)]] (.agg [.c (.int .i64 r1),.own 0]) [.row false 162 [.str,.str,.bool] (E.e162 r2)] [.box [.c (.sl [.int .u8] (E.eI .u8 r3)),.c (.int .i64 r4),.c (.int .i64 r5)]]:=by
 refine co_ Tryz.func94 Z0I [400081] fun F hF Q hQ => ?_
 simp only [Zh.f] at H
 (conv => cbv)
 repeat' first
  | replace H:=s_ H
  | (exfalso;with_reducible assumption)
  | (rw [Z6] at H;obtain ⟨hc,H⟩:=H)
  | (rw [Z2] at H;obtain ⟨hc,H⟩:=H)
  | ((with_reducible refine br2 hF H ?_ ?_) <;> (clear H;intro hb H;(try (conv => cbv))))
  | (refine w_ hF ?_;(try (conv => cbv)))
  | ((with_reducible refine k4_ 92 H ?_);clear H;intro _ _ _ _ hy H;refine ca_ hF (Z0t.con E hE hy) ?_;(try (conv => cbv)))
  | ((with_reducible refine k4_ 175 H ?_);clear H;intro _ _ _ _ hy H;refine ca_ hF (spec_l05KeyOf.con E hE hy) ?_;(try (conv => cbv)))
  | ((with_reducible refine k4_ 176 H ?_);clear H;intro _ _ _ _ hy H;refine ca_ hF (Z0R.con E hE hy) ?_;(try (conv => cbv)))
  | ((with_reducible refine k4_ 173 H ?_);clear H;intro _ _ _ _ hy H;refine ca_ hF (Z0A.con E hE hy) ?_;(try (conv => cbv)))
  | ((with_reducible refine lo_ hF (fun n t => n≤k∧∃ x6 v0 v1 v2 v3 v4 v5 v6,t = At 86 [(0,.ptr 10000 0),(4,.ptr 4 0),(5,.ptr 5 0),(6,.c (.int .i64 x6))] [(10000,.box [.c (.sl [.int .u8] (E.eI .u8 v4)),.c (.int .i64 v5),.c (.int .i64 v6)]),(4,.box [.c (.int .i64 v0),.own 400081]),(5,.box [.c (.int .i64 v2),.own 400101]),(400081,.row false 162 [.str,.str,.bool] (E.e162 v1)),(400101,.row false 162 [.str,.str,.bool] (E.e162 v3))]∧Zh.l0 n x6 v0 v1 v2 v3 v4 v5 v6 = some (r1,r2,r3,r4,r5)) ⟨[0,4,5,6],[4,5],[],[(4,1,162),(5,1,162)]⟩ fun n0 t ht Q0 hN0 hX0 => ?_);obtain ⟨hl,_,_,_,_,_,_,_,_,rfl,H⟩:=ht;rcases n0 with _ | n0;cases H;simp only [Zh.l0] at H;(try (conv => cbv)))
  | ((with_reducible show Q0 _ _);first | exact nx_ hN0 | (refine xt_ hX0 ?_;(try (conv => cbv))))
  | ((with_reducible refine lo_ hF (fun n t => n≤n0∧∃ x6 x8 x9 v0 v1 v2 v3 v4 v5 v6 v7 v8 v9,t = At 86 [(0,.ptr 10000 0),(4,.ptr 4 0),(5,.ptr 5 0),(6,.c (.int .i64 x6)),(7,.ptr 7 0),(8,.own 20008),(9,.c (.int .i64 x9))] [(10000,.box [.c (.sl [.int .u8] (E.eI .u8 v7)),.c (.int .i64 v8),.c (.int .i64 v9)]),(4,.box [.c (.int .i64 v0),.own 400081]),(5,.box [.c (.int .i64 v2),.own 400101]),(7,.box [.c (.str v4),.c (.str v5),.c (.bool v6)]),(20008,.row false 162 [.str,.str,.bool] (E.e162 x8)),(400081,.row false 162 [.str,.str,.bool] (E.e162 v1)),(400101,.row false 162 [.str,.str,.bool] (E.e162 v3))]∧Zh.l1 n x6 x8 x9 v0 v1 v2 v3 v4 v5 v6 v7 v8 v9 = some (r1,r2,r3,r4,r5)) ⟨[0,4,5,6,7,8,9],[4,5,7],[(8,162)],[(4,1,162),(5,1,162)]⟩ fun n1 t ht Q1 hN1 hX1 => ?_);obtain ⟨hl,_,_,_,_,_,_,_,_,_,_,_,_,_,rfl,H⟩:=ht;rcases n1 with _ | n1;cases H;simp only [Zh.l1] at H;(try (conv => cbv)))
  | ((with_reducible show Q1 _ _);first | exact nx_ hN1 | (refine xt_ hX1 ?_;(try (conv => cbv))))
  | ((with_reducible refine lo_ hF (fun n t => n≤n0∧∃ x6 x8 x10 v0 v1 v2 v3 v4 v5 v6 v7 v8 v9,t = At 86 [(0,.ptr 10000 0),(4,.ptr 4 0),(5,.ptr 5 0),(6,.c (.int .i64 x6)),(7,.ptr 7 0),(8,.own 20008),(10,.c (.int .i64 x10))] [(10000,.box [.c (.sl [.int .u8] (E.eI .u8 v7)),.c (.int .i64 v8),.c (.int .i64 v9)]),(4,.box [.c (.int .i64 v0),.own 400081]),(5,.box [.c (.int .i64 v2),.own 400101]),(7,.box [.c (.str v4),.c (.str v5),.c (.bool v6)]),(20008,.row false 162 [.str,.str,.bool] (E.e162 x8)),(400081,.row false 162 [.str,.str,.bool] (E.e162 v1)),(400101,.row false 162 [.str,.str,.bool] (E.e162 v3))]∧Zh.l2 n x6 x8 x10 v0 v1 v2 v3 v4 v5 v6 v7 v8 v9 = some (r1,r2,r3,r4,r5)) ⟨[0,4,5,6,7,8,10],[4,5,7],[(8,162)],[(4,1,162),(5,1,162)]⟩ fun n2 t ht Q2 hN2 hX2 => ?_);obtain ⟨hl,_,_,_,_,_,_,_,_,_,_,_,_,_,rfl,H⟩:=ht;rcases n2 with _ | n2;cases H;simp only [Zh.l2] at H;(try (conv => cbv)))
  | ((with_reducible show Q2 _ _);first | exact nx_ hN2 | (refine xt_ hX2 ?_;(try (conv => cbv))))
  | ((with_reducible show Q _ _);exact en_ ⟨[4],[4],[],[(4,1,162)]⟩ 86 hQ)
  | contradiction
theorem Z14.con (E:En) (hE:E = E0) {k a0 a1 r} (H:Z14.f k a0 a1 = some (r)) :
  Cn 174 [.c (.int .i64 a0),.c (.int .u8 a1)] [] (.c (.str r)) [] []:=by
 refine co_ Tryz.func174 tabOk [] fun F hF Q hQ => ?_
 simp only [Z14.f] at H
 (conv => cbv)
 repeat' first
  | replace H:=s_ H
  | (exfalso;with_reducible assumption)
  | (rw [Z6] at H;obtain ⟨hc,H⟩:=H)
  | (rw [Z2] at H;obtain ⟨hc,H⟩:=H)
  | ((with_reducible refine br2 hF H ?_ ?_) <;> (clear H;intro hb H;(try (conv => cbv))))
  | (refine w_ hF ?_;(try (conv => cbv)))
  | ((with_reducible refine lo_ hF (fun n t => n≤k∧∃ x0 x1 x5 x6,t = At 20 [(0,.c (.int .i64 x0)),(1,.c (.int .u8 x1)),(5,.own 20005),(6,.c (.int .i64 x6))] [(20005,.row false 5 [.int .u8] (E.eI .u8 x5))]∧Z14.l0 n x0 x1 x5 x6 = some (r)) ⟨[0,1,5,6],[],[(5,5)],[]⟩ fun n0 t ht Q0 hN0 hX0 => ?_);obtain ⟨hl,_,_,_,_,rfl,H⟩:=ht;rcases n0 with _ | n0;cases H;simp only [Z14.l0] at H;(try (conv => cbv)))
  | ((with_reducible show Q0 _ _);first | exact nx_ hN0 | (refine xt_ hX0 ?_;(try (conv => cbv))))
  | ((with_reducible show Q _ _);exact en_ ⟨[4],[],[],[]⟩ 20 hQ)
  | contradiction
theorem Z04.con (E:En) (hE:E = E0) {k l0 l1 r} (H:Z04.f k l0 l1 = some (r)) :
  Cn 129 [.c (.sl [.int .i64] (E.eI .i64 l0)),.c (.sl [.int .i64] (E.eI .i64 l1))] [] (.c (.bool r)) [] []:=by
 refine co_ Tryz.func129 tabOk [] fun F hF Q hQ => ?_
 simp only [Z04.f] at H
 (conv => cbv)
 repeat' first
  | replace H:=s_ H
  | (exfalso;with_reducible assumption)
  | (rw [Z6] at H;obtain ⟨hc,H⟩:=H)
  | (rw [Z2] at H;obtain ⟨hc,H⟩:=H)
  | ((with_reducible refine br2 hF H ?_ ?_) <;> (clear H;intro hb H;(try (conv => cbv))))
  | (refine w_ hF ?_;(try (conv => cbv)))
  | ((with_reducible refine lo_ hF (fun n t => n≤k∧∃ x0 x1 x5,t = At 26 [(0,.c (.sl [.int .i64] (E.eI .i64 x0))),(1,.c (.sl [.int .i64] (E.eI .i64 x1))),(5,.c (.int .i64 x5))] []∧Z04.l0 n x0 x1 x5 = some (r)) ⟨[0,1,5],[],[],[]⟩ fun n0 t ht Q0 hN0 hX0 => ?_);obtain ⟨hl,_,_,_,rfl,H⟩:=ht;rcases n0 with _ | n0;cases H;simp only [Z04.l0] at H;(try (conv => cbv)))
  | ((with_reducible show Q0 _ _);first | exact nx_ hN0 | (refine xt_ hX0 ?_;(try (conv => cbv))))
  | ((with_reducible show Q _ _);exact en_ ⟨[4],[],[],[]⟩ 26 hQ)
  | contradiction
theorem Zt.j0_s {k:Nat} {x66:Bool} {x649000:List Int} {x649001:Int} {x649002:Int} {x649003:Int} {x649004:List Int} {x649005:List S145} {x649006:Int} {x650000:List Int} {x650001:Int} {x650002:Int} {x650003:Int} {x650004:List Int} {x650005:List S145} {x650006:Int} {r:_} (h:Zt.j0 k x66 x649000 x649001 x649002 x649003 x649004 x649005 x649006 x650000 x650001 x650002 x650003 x650004 x650005 x650006 = some r):∃ m,k = m + 1∧Zt.j0 (m + 1) x66 x649000 x649001 x649002 x649003 x649004 x649005 x649006 x650000 x650001 x650002 x650003 x650004 x650005 x650006 = some r:=by
 cases k with
 | zero => simp [Zt.j0] at h
 | succ m => exact ⟨m,rfl,h⟩
theorem Zt.j0_i {k:Nat} {x66:Bool} {x649000:List Int} {x649001:Int} {x649002:Int} {x649003:Int} {x649004:List Int} {x649005:List S145} {x649006:Int} {x650000:List Int} {x650001:Int} {x650002:Int} {x650003:Int} {x650004:List Int} {x650005:List S145} {x650006:Int} {r:_}:(Zt.j0 k x66 x649000 x649001 x649002 x649003 x649004 x649005 x649006 x650000 x650001 x650002 x650003 x650004 x650005 x650006 = some r) = (∃ m,k = m + 1∧Zt.j0 (m + 1) x66 x649000 x649001 x649002 x649003 x649004 x649005 x649006 x650000 x650001 x650002 x650003 x650004 x650005 x650006 = some r):=propext ⟨Zt.j0_s,fun ⟨m,h,h2⟩ => by rw [h];exact h2⟩
theorem Zt.con (E:En) (hE:E = E0) {k l0_0 a0_1 a0_2 a0_3 l0_4 l0_5 a0_6 l1_0 a1_1 a1_2 a1_3 l1_4 l1_5 a1_6 r} (H:Zt.f k l0_0 a0_1 a0_2 a0_3 l0_4 l0_5 a0_6 l1_0 a1_1 a1_2 a1_3 l1_4 l1_5 a1_6 = some (r)) :
  Cn 58 [.agg [.c (.sl [.int .i64] (E.eI .i64 l0_0)),.c (.int .i64 a0_1),.c (.int .i64 a0_2),.c (.int .i64 a0_3),.c (.sl [.int .i64] (E.eI .i64 l0_4)),.c (.sl [.str,.int .i64,.int .i64,.int .i64] (E.e145 l0_5)),.c (.int .i64 a0_6)],.agg [.c (.sl [.int .i64] (E.eI .i64 l1_0)),.c (.int .i64 a1_1),.c (.int .i64 a1_2),.c (.int .i64 a1_3),.c (.sl [.int .i64] (E.eI .i64 l1_4)),.c (.sl [.str,.int .i64,.int .i64,.int .i64] (E.e145 l1_5)),.c (.int .i64 a1_6)]] [] (.c (.bool r)) [] []:=by
 refine co_ Tryz.func58 tabOk [] fun F hF Q hQ => ?_
 simp only [Zt.f] at H
 (conv => cbv)
 repeat' first
  | (rw [Zt.j0_i] at H;obtain ⟨m,hm,H⟩:=H;simp only [Zt.j0] at H;(try simp only [decide_eq_true_eq,Bool.false_eq_true,if_false,if_true] at H))
  | replace H:=s_ H
  | (exfalso;with_reducible assumption)
  | (rw [Z6] at H;obtain ⟨hc,H⟩:=H)
  | (rw [Z2] at H;obtain ⟨hc,H⟩:=H)
  | ((with_reducible refine br2 hF H ?_ ?_) <;> (clear H;intro hb H;(try (conv => cbv))))
  | (refine w_ hF ?_;(try (conv => cbv)))
  | ((with_reducible refine k1_ 129 H ?_);clear H;intro _ hy H;refine ca_ hF (Z04.con E hE hy) ?_;(try (conv => cbv)))
  | ((with_reducible refine lo_ hF (fun n t => n≤k∧∃ x5 v0 v1 v2 v3 v4 v5 v6 v7 v8 v9 v10 v11 v12 v13,t = At 85 [(2,.ptr 2 0),(3,.ptr 3 0),(5,.c (.int .i64 x5))] [(2,.box [.c (.sl [.int .i64] (E.eI .i64 v0)),.c (.int .i64 v1),.c (.int .i64 v2),.c (.int .i64 v3),.c (.sl [.int .i64] (E.eI .i64 v4)),.c (.sl [.str,.int .i64,.int .i64,.int .i64] (E.e145 v5)),.c (.int .i64 v6)]),(3,.box [.c (.sl [.int .i64] (E.eI .i64 v7)),.c (.int .i64 v8),.c (.int .i64 v9),.c (.int .i64 v10),.c (.sl [.int .i64] (E.eI .i64 v11)),.c (.sl [.str,.int .i64,.int .i64,.int .i64] (E.e145 v12)),.c (.int .i64 v13)])]∧Zt.l0 n x5 v0 v1 v2 v3 v4 v5 v6 v7 v8 v9 v10 v11 v12 v13 = some (r)) ⟨[2,3,5],[2,3],[],[]⟩ fun n0 t ht Q0 hN0 hX0 => ?_);obtain ⟨hl,_,_,_,_,_,_,_,_,_,_,_,_,_,_,_,rfl,H⟩:=ht;rcases n0 with _ | n0;cases H;simp only [Zt.l0] at H;(try (conv => cbv)))
  | ((with_reducible show Q0 _ _);first | exact nx_ hN0 | (refine xt_ hX0 ?_;(try (conv => cbv))))
  | ((with_reducible show Q _ _);exact en_ ⟨[4],[],[],[]⟩ 85 hQ)
  | contradiction
theorem spec_l09Clean.con (E:En) (hE:E = E0) {k l0_0 l1_0 a1_1 a1_2 a1_3 l1_4 l1_5 a1_6 r} (H:spec_l09Clean.f k l0_0 l1_0 a1_1 a1_2 a1_3 l1_4 l1_5 a1_6 = some (r)) :
  Cn 102 [.agg [.c (.sl [.str,.str] (E.e122 l0_0))],.agg [.c (.sl [.int .i64] (E.eI .i64 l1_0)),.c (.int .i64 a1_1),.c (.int .i64 a1_2),.c (.int .i64 a1_3),.c (.sl [.int .i64] (E.eI .i64 l1_4)),.c (.sl [.str,.int .i64,.int .i64,.int .i64] (E.e145 l1_5)),.c (.int .i64 a1_6)]] [] (.c (.bool r)) [] []:=by
 refine co_ Tryz.func102 tabOk [] fun F hF Q hQ => ?_
 simp only [spec_l09Clean.f] at H
 (conv => cbv)
 repeat' first
  | replace H:=s_ H
  | (exfalso;with_reducible assumption)
  | (rw [Z6] at H;obtain ⟨hc,H⟩:=H)
  | (rw [Z2] at H;obtain ⟨hc,H⟩:=H)
  | ((with_reducible refine br2 hF H ?_ ?_) <;> (clear H;intro hb H;(try (conv => cbv))))
  | (refine w_ hF ?_;(try (conv => cbv)))
  | ((with_reducible refine k9_ 20 H ?_);clear H;intro _ _ _ _ _ _ _ _ _ hy H;refine ca_ hF (Zj.con E hE hy) ?_;(try (conv => cbv)))
  | ((with_reducible refine k1_ 58 H ?_);clear H;intro _ hy H;refine ca_ hF (Zt.con E hE hy) ?_;(try (conv => cbv)))
  | ((with_reducible show Q _ _);exact en_ ⟨[4],[],[],[]⟩ 26 hQ)
  | contradiction
theorem spec_l09CopyMan.con (E:En) (hE:E = E0) {l0_0 a0_1 a0_2 a0_3 l0_4 r1 r2 r3 r4 r5} (H:spec_l09CopyMan.f l0_0 a0_1 a0_2 a0_3 l0_4 = some (r1,r2,r3,r4,r5)) :
  Cn 112 [.agg [.c (.sl [.int .i64] (E.eI .i64 l0_0)),.c (.int .i64 a0_1),.c (.int .i64 a0_2),.c (.int .i64 a0_3),.c (.sl [.int .i64] (E.eI .i64 l0_4))]] [] (.agg [.own 0,.c (.int .i64 r2),.c (.int .i64 r3),.c (.int .i64 r4),.own 1]) [.row false 3 [.int .i64] (E.eI .i64 r1),.row false 3 [.int .i64] (E.eI .i64 r5)] []:=by
 refine co_ Tryz.func112 tabOk [400040,400044] fun F hF Q hQ => ?_
 simp only [spec_l09CopyMan.f] at H
 (conv => cbv)
 repeat' first
  | replace H:=s_ H
  | (exfalso;with_reducible assumption)
  | (rw [Z6] at H;obtain ⟨hc,H⟩:=H)
  | (rw [Z2] at H;obtain ⟨hc,H⟩:=H)
  | ((with_reducible refine br2 hF H ?_ ?_) <;> (clear H;intro hb H;(try (conv => cbv))))
  | (refine w_ hF ?_;(try (conv => cbv)))
  | ((with_reducible show Q _ _);exact en_ ⟨[2],[2],[],[(2,0,3),(2,4,3)]⟩ 14 hQ)
  | contradiction
theorem spec_l09NewMan.con (E:En) (hE:E = E0) {k l0_0 a0_1 a0_2 a0_3 l0_4 r1 r2} (H:spec_l09NewMan.f k l0_0 a0_1 a0_2 a0_3 l0_4 = some (r1,r2)) :
  Cn 113 [.agg [.c (.sl [.int .i64] (E.eI .i64 l0_0)),.c (.int .i64 a0_1),.c (.int .i64 a0_2),.c (.int .i64 a0_3),.c (.sl [.int .i64] (E.eI .i64 l0_4))]] [] (.tup [.own 0,.c (.bool r2)]) [.row false 119 [.int .i64,.str,.str,.str] (E.e119 r1)] []:=by
 refine co_ Tryz.func113 tabOk [20002] fun F hF Q hQ => ?_
 simp only [spec_l09NewMan.f] at H
 (conv => cbv)
 repeat' first
  | replace H:=s_ H
  | (exfalso;with_reducible assumption)
  | (rw [Z6] at H;obtain ⟨hc,H⟩:=H)
  | (rw [Z2] at H;obtain ⟨hc,H⟩:=H)
  | ((with_reducible refine br2 hF H ?_ ?_) <;> (clear H;intro hb H;(try (conv => cbv))))
  | (refine w_ hF ?_;(try (conv => cbv)))
  | ((with_reducible refine k2_ 108 H ?_);clear H;intro _ _ hy H;refine ca_ hF (Zf.con E hE hy) ?_;(try (conv => cbv)))
  | ((with_reducible show Q _ _);exact en_ ⟨[2,3],[],[(2,119)],[]⟩ 16 hQ)
  | contradiction
theorem Z09.con (E:En) (hE:E = E0) {k l0_0 a1_0 a1_1 r} (H:Z09.f k l0_0 a1_0 a1_1 = some (r)) :
  Cn 186 [.agg [.c (.sl [.str,.str] (E.e122 l0_0))],.agg [.c (.str a1_0),.c (.str a1_1)]] [] (.agg [.own 0]) [.row false 122 [.str,.str] (E.e122 r)] []:=by
 refine co_ Tryz.func186 tabOk [400080] fun F hF Q hQ => ?_
 simp only [Z09.f] at H
 (conv => cbv)
 repeat' first
  | replace H:=s_ H
  | (exfalso;with_reducible assumption)
  | (rw [Z6] at H;obtain ⟨hc,H⟩:=H)
  | (rw [Z2] at H;obtain ⟨hc,H⟩:=H)
  | ((with_reducible refine br2 hF H ?_ ?_) <;> (clear H;intro hb H;(try (conv => cbv))))
  | (refine w_ hF ?_;(try (conv => cbv)))
  | ((with_reducible refine lo_ hF (fun n t => n≤k∧∃ x6 v0 v1 v2 v3,t = At 68 [(2,.ptr 2 0),(3,.ptr 3 0),(4,.ptr 4 0),(5,.ptr 5 0),(6,.c (.int .i64 x6))] [(2,.box [.c (.sl [.str,.str] (E.e122 v0))]),(3,.box [.c (.str v1),.c (.str v2)]),(4,.box [.own 400080]),(5,.box [.own 400100]),(400080,.row false 122 [.str,.str] []),(400100,.row false 122 [.str,.str] (E.e122 v3))]∧Z09.l0 n x6 v0 v1 v2 v3 = some (r)) ⟨[2,3,4,5,6],[2,3,4,5],[],[(4,0,122),(5,0,122)]⟩ fun n0 t ht Q0 hN0 hX0 => ?_);obtain ⟨hl,_,_,_,_,_,rfl,H⟩:=ht;rcases n0 with _ | n0;cases H;simp only [Z09.l0] at H;(try (conv => cbv)))
  | ((with_reducible show Q0 _ _);first | exact nx_ hN0 | (refine xt_ hX0 ?_;(try (conv => cbv))))
  | ((with_reducible refine lo_ hF (fun n t => n≤k∧∃ x7 v0 v1 v2 v3,t = At 68 [(2,.ptr 2 0),(3,.ptr 3 0),(4,.ptr 4 0),(5,.ptr 5 0),(7,.c (.int .i64 x7))] [(2,.box [.c (.sl [.str,.str] (E.e122 v0))]),(3,.box [.c (.str v1),.c (.str v2)]),(4,.box [.own 400080]),(5,.box [.own 400100]),(400080,.row false 122 [.str,.str] []),(400100,.row false 122 [.str,.str] (E.e122 v3))]∧Z09.l1 n x7 v0 v1 v2 v3 = some (r)) ⟨[2,3,4,5,7],[2,3,4,5],[],[(4,0,122),(5,0,122)]⟩ fun n1 t ht Q1 hN1 hX1 => ?_);obtain ⟨hl,_,_,_,_,_,rfl,H⟩:=ht;rcases n1 with _ | n1;cases H;simp only [Z09.l1] at H;(try (conv => cbv)))
  | ((with_reducible show Q1 _ _);first | exact nx_ hN1 | (refine xt_ hX1 ?_;(try (conv => cbv))))
  | ((with_reducible show Q _ _);exact en_ ⟨[4],[4],[],[(4,0,122)]⟩ 68 hQ)
  | contradiction
theorem Z0S.con (E:En) (hE:E = E0) {k l0_0 a1 r} (H:Z0S.f k l0_0 a1 = some (r)) :
  Cn 187 [.agg [.c (.sl [.str,.str] (E.e122 l0_0))],.c (.str a1)] [] (.agg [.own 0]) [.row false 122 [.str,.str] (E.e122 r)] []:=by
 refine co_ Tryz.func187 tabOk [400080] fun F hF Q hQ => ?_
 simp only [Z0S.f] at H
 (conv => cbv)
 repeat' first
  | replace H:=s_ H
  | (exfalso;with_reducible assumption)
  | (rw [Z6] at H;obtain ⟨hc,H⟩:=H)
  | (rw [Z2] at H;obtain ⟨hc,H⟩:=H)
  | ((with_reducible refine br2 hF H ?_ ?_) <;> (clear H;intro hb H;(try (conv => cbv))))
  | (refine w_ hF ?_;(try (conv => cbv)))
  | ((with_reducible refine lo_ hF (fun n t => n≤k∧∃ x1 x6 v0 v1,t = At 34 [(1,.c (.str x1)),(2,.ptr 2 0),(4,.ptr 4 0),(5,.ptr 5 0),(6,.c (.int .i64 x6))] [(2,.box [.c (.sl [.str,.str] (E.e122 v0))]),(4,.box [.own 400080]),(5,.box [.own 400100]),(400080,.row false 122 [.str,.str] []),(400100,.row false 122 [.str,.str] (E.e122 v1))]∧Z0S.l0 n x1 x6 v0 v1 = some (r)) ⟨[1,2,4,5,6],[2,4,5],[],[(4,0,122),(5,0,122)]⟩ fun n0 t ht Q0 hN0 hX0 => ?_);obtain ⟨hl,_,_,_,_,rfl,H⟩:=ht;rcases n0 with _ | n0;cases H;simp only [Z0S.l0] at H;(try (conv => cbv)))
  | ((with_reducible show Q0 _ _);first | exact nx_ hN0 | (refine xt_ hX0 ?_;(try (conv => cbv))))
  | ((with_reducible show Q _ _);exact en_ ⟨[4],[4],[],[(4,0,122)]⟩ 34 hQ)
  | contradiction
theorem Z08.j0_s {k:Nat} {x6:Int} {x29:Bool} {x721000:List S122} {x722000:Int} {x722001:ByteArray} {x722002:ByteArray} {x722003:ByteArray} {r:_} (h:Z08.j0 k x6 x29 x721000 x722000 x722001 x722002 x722003 = some r):∃ m,k = m + 1∧Z08.j0 (m + 1) x6 x29 x721000 x722000 x722001 x722002 x722003 = some r:=by
 cases k with
 | zero => simp [Z08.j0] at h
 | succ m => exact ⟨m,rfl,h⟩
theorem Z08.j0_i {k:Nat} {x6:Int} {x29:Bool} {x721000:List S122} {x722000:Int} {x722001:ByteArray} {x722002:ByteArray} {x722003:ByteArray} {r:_}:(Z08.j0 k x6 x29 x721000 x722000 x722001 x722002 x722003 = some r) = (∃ m,k = m + 1∧Z08.j0 (m + 1) x6 x29 x721000 x722000 x722001 x722002 x722003 = some r):=propext ⟨Z08.j0_s,fun ⟨m,h,h2⟩ => by rw [h];exact h2⟩
theorem Z08.con (E:En) (hE:E = E0) {k l0_0 a1_0 a1_1 a1_2 a1_3 r1 r2} (H:Z08.f k l0_0 a1_0 a1_1 a1_2 a1_3 = some (r1,r2)) :
  Cn 106 [.agg [.c (.sl [.str,.str] (E.e122 l0_0))],.agg [.c (.int .i64 a1_0),.c (.str a1_1),.c (.str a1_2),.c (.str a1_3)]] [] (.tup [.agg [.own 0],.c (.bool r2)]) [.row false 122 [.str,.str] (E.e122 r1)] []:=by
 refine co_ Tryz.func106 tabOk [400080] fun F hF Q hQ => ?_
 simp only [Z08.f] at H
 (conv => cbv)
 repeat' first
  | (rw [Z08.j0_i] at H;obtain ⟨m,hm,H⟩:=H;simp only [Z08.j0] at H;(try simp only [decide_eq_true_eq,Bool.false_eq_true,if_false,if_true] at H))
  | replace H:=s_ H
  | (exfalso;with_reducible assumption)
  | (rw [Z6] at H;obtain ⟨hc,H⟩:=H)
  | (rw [Z2] at H;obtain ⟨hc,H⟩:=H)
  | ((with_reducible refine br2 hF H ?_ ?_) <;> (clear H;intro hb H;(try (conv => cbv))))
  | (refine w_ hF ?_;(try (conv => cbv)))
  | ((with_reducible refine k1_ 60 H ?_);clear H;intro _ hy H;refine ca_ hF (Z12.con E hE hy) ?_;(try (conv => cbv)))
  | ((with_reducible refine k1_ 75 H ?_);clear H;intro _ hy H;refine ca_ hF (Z0K.con E hE hy) ?_;(try (conv => cbv)))
  | ((with_reducible refine k1_ 95 H ?_);clear H;intro _ hy H;refine ca_ hF (ZR.con E hE hy) ?_;(try (conv => cbv)))
  | ((with_reducible refine k1_ 131 H ?_);clear H;intro _ hy H;refine ca_ hF (ZH.con E hE hy) ?_;(try (conv => cbv)))
  | ((with_reducible refine k1_ 186 H ?_);clear H;intro _ hy H;refine ca_ hF (Z09.con E hE hy) ?_;(try (conv => cbv)))
  | ((with_reducible refine k1_ 187 H ?_);clear H;intro _ hy H;refine ca_ hF (Z0S.con E hE hy) ?_;(try (conv => cbv)))
  | ((with_reducible show Q _ _);exact en_ ⟨[4,5],[4],[],[(4,0,122)]⟩ 93 hQ)
  | contradiction
end Go.Ev
