/- Contracts of the Go functions that this law reaches: what each call returns, by its plain function. No conditions but those that each statement names. By this repo's programs; comments are taken out. -/
import Derived.Test.YtlmicldpfnmeaaaGreatDoorVFnComesBackD
import Derived.Test.YtlmicldpfnmeaaaGreatDoorVFnComesBackC0
import Derived.Test.YtlmicldpfnmeaaaGreatDoorVFnComesBackC1
import Derived.Test.YtlmicldpfnmeaaaGreatDoorVFnComesBackC2
import Derived.Test.YtlmicldpfnmeaaaGreatDoorVFnComesBackC3
import Derived.Test.YtlmicldpfnmeaaaGreatDoorVFnComesBackC6
import Derived.Test.YtlmicldpfnmeaaaGreatDoorVFnComesBackC7
import Derived.Test.YtlmicldpfnmeaaaGreatDoorVFnComesBackC8
import Derived.Test.YtlmicldpfnmeaaaGreatDoorVFnComesBackC9
set_option linter.all false
namespace Go.Ev
open Go.RowKit Go.Proofs Go.Proofs.YtlmicldpfnmeaaaGreatDoorW.PrintWords Go.Proofs.YtlmicldpfnmeaaaGreatDoorW.PrintLast Go.Proofs.YtlmicldpfnmeaaaGreatDoorW.PrintMore
set_option maxRecDepth 100000
set_option maxHeartbeats 4000000
theorem Zp.j0_s {k:Nat} {x2:Int} {x3:Int} {x4:List Int} {x30:Bool} {x848000:List S122} {x849000:List Int} {x849001:Int} {x849002:Int} {x849003:Int} {x849004:List Int} {x849005:List S145} {x849006:Int} {r:_} (h:Zp.j0 k x2 x3 x4 x30 x848000 x849000 x849001 x849002 x849003 x849004 x849005 x849006 = some r):∃ m,k = m + 1∧Zp.j0 (m + 1) x2 x3 x4 x30 x848000 x849000 x849001 x849002 x849003 x849004 x849005 x849006 = some r:=by
 cases k with
 | zero => simp [Zp.j0] at h
 | succ m => exact ⟨m,rfl,h⟩
theorem Zp.j0_i {k:Nat} {x2:Int} {x3:Int} {x4:List Int} {x30:Bool} {x848000:List S122} {x849000:List Int} {x849001:Int} {x849002:Int} {x849003:Int} {x849004:List Int} {x849005:List S145} {x849006:Int} {r:_}:(Zp.j0 k x2 x3 x4 x30 x848000 x849000 x849001 x849002 x849003 x849004 x849005 x849006 = some r) = (∃ m,k = m + 1∧Zp.j0 (m + 1) x2 x3 x4 x30 x848000 x849000 x849001 x849002 x849003 x849004 x849005 x849006 = some r):=propext ⟨Zp.j0_s,fun ⟨m,h,h2⟩ => by rw [h];exact h2⟩
theorem Zp.con (E:En) (hE:E = E0) {k l0_0 l1_0 a1_1 a1_2 a1_3 l1_4 l1_5 a1_6 a2 a3 l4 r1 r2 r3 r4 r5 r6 r7 r8 r9} (H:Zp.f k l0_0 l1_0 a1_1 a1_2 a1_3 l1_4 l1_5 a1_6 a2 a3 l4 = some (r1,r2,r3,r4,r5,r6,r7,r8,r9)) :
  Cn 32 [.agg [.c (.sl [.str,.str] (E.e122 l0_0))],.agg [.c (.sl [.int .i64] (E.eI .i64 l1_0)),.c (.int .i64 a1_1),.c (.int .i64 a1_2),.c (.int .i64 a1_3),.c (.sl [.int .i64] (E.eI .i64 l1_4)),.c (.sl [.str,.int .i64,.int .i64,.int .i64] (E.e145 l1_5)),.c (.int .i64 a1_6)],.c (.int .i64 a2),.c (.int .i64 a3),.c (.sl [.int .i64] (E.eI .i64 l4))] [] (.tup [.agg [.own 0,.c (.int .i64 r2),.c (.int .i64 r3),.c (.int .i64 r4),.own 1,.own 2,.c (.int .i64 r7)],.own 3,.c (.bool r9)]) [.row false 3 [.int .i64] (E.eI .i64 r1),.row false 3 [.int .i64] (E.eI .i64 r5),.row false 145 [.str,.int .i64,.int .i64,.int .i64] (E.e145 r6),.row false 119 [.int .i64,.str,.str,.str] (E.e119 r8)] []:=by
 refine co_ Tryz.func32 tabOk [400200,400204,400205,20011] fun F hF Q hQ => ?_
 simp only [Zp.f] at H
 (conv => cbv)
 repeat' first
  | (rw [Zp.j0_i] at H;obtain ⟨m,hm,H⟩:=H;simp only [Zp.j0] at H;(try simp only [decide_eq_true_eq,Bool.false_eq_true,if_false,if_true] at H))
  | replace H:=s_ H
  | (exfalso;with_reducible assumption)
  | (rw [Z7] at H;obtain ⟨hc,H⟩:=H)
  | (rw [Z2] at H;obtain ⟨hc,H⟩:=H)
  | ((with_reducible refine br2 hF H ?_ ?_) <;> (clear H;intro hb H;(try (conv => cbv))))
  | (refine w_ hF ?_;(try (conv => cbv)))
  | ((with_reducible refine k2_ 30 H ?_);clear H;intro _ _ hy H;refine ca_ hF (Zw.con E hE hy) ?_;(try (conv => cbv)))
  | ((with_reducible refine k2_ 63 H ?_);clear H;intro _ _ hy H;refine ca_ hF (Z1O.con E hE hy) ?_;(try (conv => cbv)))
  | ((with_reducible refine k1_ 102 H ?_);clear H;intro _ hy H;refine ca_ hF (Z28.con E hE hy) ?_;(try (conv => cbv)))
  | ((with_reducible refine k3_ 103 H ?_);clear H;intro _ _ _ hy H;refine ca_ hF (Zz.con E hE hy) ?_;(try (conv => cbv)))
  | ((with_reducible refine k2_ 104 H ?_);clear H;intro _ _ hy H;refine ca_ hF (Z06.con E hE hy) ?_;(try (conv => cbv)))
  | ((with_reducible refine k9_ 105 H ?_);clear H;intro _ _ _ _ _ _ _ _ _ hy H;refine ca_ hF (ZU.con E hE hy) ?_;(try (conv => cbv)))
  | ((with_reducible show Q _ _);exact en_ ⟨[10,11,12],[10],[(11,119)],[(10,0,3),(10,4,3),(10,5,145)]⟩ 66 hQ)
  | contradiction
theorem Zo.con (E:En) (hE:E = E0) {k s0_0 s0_1 s0_2 a1 r1 r2 r3 r4 r5 r6 r7 r8 r9 r10 r11} (H:Zo.f k s0_0 s0_1 s0_2 a1 = some (r1,r2,r3,r4,r5,r6,r7,r8,r9,r10,r11)) :
  Cn 91 [.ptr 10000 0,.c (.int .i64 a1)] [.box [.c (.sl [.int .u8] (E.eI .u8 s0_0)),.c (.int .i64 s0_1),.c (.int .i64 s0_2)]] (.tup [.agg [.own 0],.agg [.own 1,.c (.int .i64 r3),.c (.int .i64 r4),.c (.int .i64 r5),.own 2,.own 3,.c (.int .i64 r8)]]) [.row false 122 [.str,.str] (E.e122 r1),.row false 3 [.int .i64] (E.eI .i64 r2),.row false 3 [.int .i64] (E.eI .i64 r6),.row false 145 [.str,.int .i64,.int .i64,.int .i64] (E.e145 r7)] [.box [.c (.sl [.int .u8] (E.eI .u8 r9)),.c (.int .i64 r10),.c (.int .i64 r11)]]:=by
 refine co_ Tryz.func91 Z0L [400080,400100,400104,400105] fun F hF Q hQ => ?_
 simp only [Zo.f] at H
 (conv => cbv)
 repeat' first
  | replace H:=s_ H
  | (exfalso;with_reducible assumption)
  | (rw [Z7] at H;obtain ⟨hc,H⟩:=H)
  | (rw [Z2] at H;obtain ⟨hc,H⟩:=H)
  | ((with_reducible refine br2 hF H ?_ ?_) <;> (clear H;intro hb H;(try (conv => cbv))))
  | (refine w_ hF ?_;(try (conv => cbv)))
  | ((with_reducible refine k4_ 172 H ?_);clear H;intro _ _ _ _ hy H;refine ca_ hF (Z1b.con E hE hy) ?_;(try (conv => cbv)))
  | ((with_reducible refine k2_ 36 H ?_);clear H;intro _ _ hy H;refine ca_ hF (Z25.con E hE hy) ?_;(try (conv => cbv)))
  | ((with_reducible refine k9_ 20 H ?_);clear H;intro _ _ _ _ _ _ _ _ _ hy H;refine ca_ hF (Zl.con E hE hy) ?_;(try (conv => cbv)))
  | ((with_reducible refine k4_ 92 H ?_);clear H;intro _ _ _ _ hy H;refine ca_ hF (Z0o.con E hE hy) ?_;(try (conv => cbv)))
  | ((with_reducible refine k5_ 94 H ?_);clear H;intro _ _ _ _ _ hy H;refine ca_ hF (Zj.con E hE hy) ?_;(try (conv => cbv)))
  | ((with_reducible refine k4_ 173 H ?_);clear H;intro _ _ _ _ hy H;refine ca_ hF (Z0I.con E hE hy) ?_;(try (conv => cbv)))
  | ((with_reducible refine k1_ 174 H ?_);clear H;intro _ hy H;refine ca_ hF (Z17.con E hE hy) ?_;(try (conv => cbv)))
  | ((with_reducible refine k9_ 40 H ?_);clear H;intro _ _ _ _ _ _ _ _ _ hy H;refine ca_ hF (Zb.con E hE hy) ?_;(try (conv => cbv)))
  | ((with_reducible refine k2_ 33 H ?_);clear H;intro _ _ hy H;refine ca_ hF (Zg.con E hE hy) ?_;(try (conv => cbv)))
  | ((with_reducible refine k9_ 32 H ?_);clear H;intro _ _ _ _ _ _ _ _ _ hy H;refine ca_ hF (Zp.con E hE hy) ?_;(try (conv => cbv)))
  | ((with_reducible refine lo_ hF (fun n t => n≤k∧∃ x1 x11 x12 v0 v1 v2 v3 v4 v5 v6 v7 v8 v9 v10 v11 v12 v13 v14 v15 v16 v17 v18,t = At 94 [(0,.ptr 10000 0),(1,.c (.int .i64 x1)),(4,.ptr 4 0),(5,.ptr 5 0),(6,.ptr 6 0),(8,.ptr 8 0),(11,.c (.int .i64 x11)),(12,.c (.int .i64 x12))] [(10000,.box [.c (.sl [.int .u8] (E.eI .u8 v16)),.c (.int .i64 v17),.c (.int .i64 v18)]),(4,.box [.own 400080]),(5,.box [.own 400100,.c (.int .i64 v2),.c (.int .i64 v3),.c (.int .i64 v4),.own 400104,.own 400105,.c (.int .i64 v7)]),(6,.box [.own 400120]),(8,.box [.own 400160,.c (.int .i64 v10),.c (.int .i64 v11),.c (.int .i64 v12),.own 400164,.own 400165,.c (.int .i64 v15)]),(400080,.row false 122 [.str,.str] (E.e122 v0)),(400100,.row false 3 [.int .i64] (E.eI .i64 v1)),(400104,.row false 3 [.int .i64] (E.eI .i64 v5)),(400105,.row false 145 [.str,.int .i64,.int .i64,.int .i64] (E.e145 v6)),(400120,.row false 122 [.str,.str] (E.e122 v8)),(400160,.row false 3 [.int .i64] (E.eI .i64 v9)),(400164,.row false 3 [.int .i64] (E.eI .i64 v13)),(400165,.row false 145 [.str,.int .i64,.int .i64,.int .i64] (E.e145 v14))]∧Zo.l0 n x1 x11 x12 v0 v1 v2 v3 v4 v5 v6 v7 v8 v9 v10 v11 v12 v13 v14 v15 v16 v17 v18 = some (r1,r2,r3,r4,r5,r6,r7,r8,r9,r10,r11)) ⟨[0,1,4,5,6,8,11,12],[4,5,6,8],[],[(4,0,122),(5,0,3),(5,4,3),(5,5,145),(6,0,122),(8,0,3),(8,4,3),(8,5,145)]⟩ fun n0 t ht Q0 hN0 hX0 => ?_);obtain ⟨hl,_,_,_,_,_,_,_,_,_,_,_,_,_,_,_,_,_,_,_,_,_,_,rfl,H⟩:=ht;rcases n0 with _ | n0;cases H;simp only [Zo.l0] at H;(try (conv => cbv)))
  | ((with_reducible show Q0 _ _);first | exact nx_ hN0 | (refine xt_ hX0 ?_;(try (conv => cbv))))
  | ((with_reducible show Q _ _);exact en_ ⟨[4,5],[4,5],[],[(4,0,122),(5,0,3),(5,4,3),(5,5,145)]⟩ 94 hQ)
  | contradiction
theorem Z1w.con (E:En) (hE:E = E0) {k l0 r1 r2 r3 r4 r5 r6 r7 r8 r9 r10} (H:Z1w.f k l0 = some (r1,r2,r3,r4,r5,r6,r7,r8,r9,r10)) :
  Cn 29 [.c (.sl [.int .u8] (E.eI .u8 l0))] [] (.tup [.agg [.own 0],.agg [.own 1,.c (.int .i64 r3),.c (.int .i64 r4),.c (.int .i64 r5),.own 2,.own 3,.c (.int .i64 r8)],.agg [.c (.int .i64 r9),.own 4]]) [.row false 122 [.str,.str] (E.e122 r1),.row false 3 [.int .i64] (E.eI .i64 r2),.row false 3 [.int .i64] (E.eI .i64 r6),.row false 145 [.str,.int .i64,.int .i64,.int .i64] (E.e145 r7),.row false 162 [.str,.str,.bool] (E.e162 r10)] []:=by
 refine co_ Tryz.func29 Z0L [400040,400060,400064,400065,400081] fun F hF Q hQ => ?_
 simp only [Z1w.f] at H
 (conv => cbv)
 repeat' first
  | replace H:=s_ H
  | (exfalso;with_reducible assumption)
  | (rw [Z7] at H;obtain ⟨hc,H⟩:=H)
  | (rw [Z2] at H;obtain ⟨hc,H⟩:=H)
  | ((with_reducible refine br2 hF H ?_ ?_) <;> (clear H;intro hb H;(try (conv => cbv))))
  | (refine w_ hF ?_;(try (conv => cbv)))
  | ((with_reducible refine k3_ 90 H ?_);clear H;intro _ _ _ hy H;refine ca_ hF (Z1n.con E hE hy) ?_;(try (conv => cbv)))
  | ((with_reducible refine k1_ 93 H ?_);clear H;intro _ hy H;refine ca_ hF (Z3u.con E hE hy) ?_;(try (conv => cbv)))
  | ((with_reducible refine k4_ 92 H ?_);clear H;intro _ _ _ _ hy H;refine ca_ hF (Z0o.con E hE hy) ?_;(try (conv => cbv)))
  | ((with_reducible refine k11_ 91 H ?_);clear H;intro _ _ _ _ _ _ _ _ _ _ _ hy H;refine ca_ hF (Zo.con E hE hy) ?_;(try (conv => cbv)))
  | ((with_reducible refine k5_ 94 H ?_);clear H;intro _ _ _ _ _ hy H;refine ca_ hF (Zj.con E hE hy) ?_;(try (conv => cbv)))
  | ((with_reducible show Q _ _);exact en_ ⟨[2,3,4],[2,3,4],[],[(2,0,122),(3,0,3),(3,4,3),(3,5,145),(4,1,162)]⟩ 29 hQ)
  | contradiction
theorem ZN.con (E:En) (hE:E = E0) {a0 a1 a2 r} (H:ZN.f a0 a1 a2 = some (r)) :
  Cn 144 [.c (.int .i64 a0),.c (.int .i64 a1),.c (.int .i64 a2)] [] (.c (.bool r)) [] []:=by
 refine co_ Tryz.func144 tabOk [] fun F hF Q hQ => ?_
 simp only [ZN.f] at H
 (conv => cbv)
 repeat' first
  | replace H:=s_ H
  | (exfalso;with_reducible assumption)
  | (rw [Z7] at H;obtain ⟨hc,H⟩:=H)
  | (rw [Z2] at H;obtain ⟨hc,H⟩:=H)
  | ((with_reducible refine br2 hF H ?_ ?_) <;> (clear H;intro hb H;(try (conv => cbv))))
  | (refine w_ hF ?_;(try (conv => cbv)))
  | ((with_reducible show Q _ _);exact en_ ⟨[6],[],[],[]⟩ 15 hQ)
  | contradiction
theorem Z3H.con (E:En) (hE:E = E0) {a0 r} (H:Z3H.f a0 = some (r)) :
  Cn 188 [.c (.str a0)] [] (.c (.bool r)) [] []:=by
 refine co_ Tryz.func188 tabOk [] fun F hF Q hQ => ?_
 simp only [Z3H.f] at H
 (conv => cbv)
 repeat' first
  | replace H:=s_ H
  | (exfalso;with_reducible assumption)
  | (rw [Z7] at H;obtain ⟨hc,H⟩:=H)
  | (rw [Z2] at H;obtain ⟨hc,H⟩:=H)
  | ((with_reducible refine br2 hF H ?_ ?_) <;> (clear H;intro hb H;(try (conv => cbv))))
  | (refine w_ hF ?_;(try (conv => cbv)))
  | ((with_reducible refine k1_ 144 H ?_);clear H;intro _ hy H;refine ca_ hF (ZN.con E hE hy) ?_;(try (conv => cbv)))
  | ((with_reducible show Q _ _);exact en_ ⟨[2],[],[],[]⟩ 6 hQ)
  | contradiction
theorem Z0B.con (E:En) (hE:E = E0) {k a0_0 l0_1 r} (H:Z0B.f k a0_0 l0_1 = some (r)) :
  Cn 179 [.agg [.c (.int .i64 a0_0),.c (.sl [.str,.str,.bool] (E.e162 l0_1))]] [] (.c (.bool r)) [] []:=by
 refine co_ Tryz.func179 tabOk [] fun F hF Q hQ => ?_
 simp only [Z0B.f] at H
 (conv => cbv)
 repeat' first
  | replace H:=s_ H
  | (exfalso;with_reducible assumption)
  | (rw [Z7] at H;obtain ⟨hc,H⟩:=H)
  | (rw [Z2] at H;obtain ⟨hc,H⟩:=H)
  | ((with_reducible refine br2 hF H ?_ ?_) <;> (clear H;intro hb H;(try (conv => cbv))))
  | (refine w_ hF ?_;(try (conv => cbv)))
  | ((with_reducible refine k1_ 144 H ?_);clear H;intro _ hy H;refine ca_ hF (ZN.con E hE hy) ?_;(try (conv => cbv)))
  | ((with_reducible refine k1_ 188 H ?_);clear H;intro _ hy H;refine ca_ hF (Z3H.con E hE hy) ?_;(try (conv => cbv)))
  | ((with_reducible refine lo_ hF (fun n t => n≤k∧∃ x6 x7 x8 v0 v1,t = At 58 [(1,.ptr 1 0),(6,.c (.sl [.str,.str,.bool] (E.e162 x6))),(7,.c (.int .i64 x7)),(8,.c (.int .i64 x8))] [(1,.box [.c (.int .i64 v0),.c (.sl [.str,.str,.bool] (E.e162 v1))])]∧Z0B.l0 n x6 x7 x8 v0 v1 = some (r)) ⟨[1,6,7,8],[1],[],[]⟩ fun n0 t ht Q0 hN0 hX0 => ?_);obtain ⟨hl,_,_,_,_,_,rfl,H⟩:=ht;rcases n0 with _ | n0;cases H;simp only [Z0B.l0] at H;(try (conv => cbv)))
  | ((with_reducible show Q0 _ _);first | exact nx_ hN0 | (refine xt_ hX0 ?_;(try (conv => cbv))))
  | ((with_reducible show Q _ _);exact en_ ⟨[2],[],[],[]⟩ 58 hQ)
  | contradiction
end Go.Ev
