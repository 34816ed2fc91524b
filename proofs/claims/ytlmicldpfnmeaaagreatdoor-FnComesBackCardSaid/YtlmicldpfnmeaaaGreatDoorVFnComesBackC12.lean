/- Contracts of the Go functions that this law reaches: what each call returns, by its plain function. No conditions but those that each statement names. By this repo's programs; comments are taken out. -/
import Derived.Test.YtlmicldpfnmeaaaGreatDoorVFnComesBackD
import Derived.Test.YtlmicldpfnmeaaaGreatDoorVFnComesBackC10
import Derived.Test.YtlmicldpfnmeaaaGreatDoorVFnComesBackC11
set_option linter.all false
namespace Go.Ev
open Go.RowKit Go.Proofs Go.Proofs.YtlmicldpfnmeaaaGreatDoorW.PrintWords Go.Proofs.YtlmicldpfnmeaaaGreatDoorW.PrintLast Go.Proofs.YtlmicldpfnmeaaaGreatDoorW.PrintMore
set_option maxRecDepth 100000
set_option maxHeartbeats 4000000
theorem Z1.con (E:En) (hE:E = E0) {k l0 a1 r1 r2} (H:Z1.f k l0 a1 = some (r1,r2)) :
  Cn 200 [.c (.sl [.str,.str] (E.e122 l0)),.c (.str a1),.c (.fn 201)] [] (.tup [.c (.int .i64 r1),.c (.bool r2)]) [] []:=by
 refine co_ Tryz.func200 Z0L [] fun F hF Q hQ => ?_
 simp only [Z1.f] at H
 (conv => cbv)
 repeat' first
  | replace H:=s_ H
  | (exfalso;with_reducible assumption)
  | (rw [Z7] at H;obtain ⟨hc,H⟩:=H)
  | (rw [Z2] at H;obtain ⟨hc,H⟩:=H)
  | ((with_reducible refine br2 hF H ?_ ?_) <;> (clear H;intro hb H;(try (conv => cbv))))
  | (refine w_ hF ?_;(try (conv => cbv)))
  | ((with_reducible refine k1_ 201 H ?_);clear H;intro _ hy H;refine ca_ hF (Z3l.con E hE hy) ?_;(try (conv => cbv)))
  | ((with_reducible refine lo_ hF (fun n t => n≤k∧∃ x0 x1 x8 x9 x10,t = At 49 [(0,.c (.sl [.str,.str] (E.e122 x0))),(1,.c (.str x1)),(2,.c (.fn 201)),(8,.c (.int .i64 x8)),(9,.c (.int .i64 x9)),(10,.c (.int .i64 x10))] []∧Z1.l0 n x0 x1 x8 x9 x10 = some (r1,r2)) ⟨[0,1,2,8,9,10],[],[],[]⟩ fun n0 t ht Q0 hN0 hX0 => ?_);obtain ⟨hl,_,_,_,_,_,rfl,H⟩:=ht;rcases n0 with _ | n0;cases H;simp only [Z1.l0] at H;(try (conv => cbv)))
  | ((with_reducible show Q0 _ _);first | exact nx_ hN0 | (refine xt_ hX0 ?_;(try (conv => cbv))))
  | ((with_reducible show Q _ _);exact en_ ⟨[6,7],[],[],[]⟩ 49 hQ)
  | contradiction
theorem Z2m.con (E:En) (hE:E = E0) {k l0_0 a1 r1 r2} (H:Z2m.f k l0_0 a1 = some (r1,r2)) :
  Cn 143 [.agg [.c (.sl [.str,.str] (E.e122 l0_0))],.c (.str a1)] [] (.tup [.c (.int .i64 r1),.c (.bool r2)]) [] []:=by
 refine co_ Tryz.func143 Z0L [] fun F hF Q hQ => ?_
 simp only [Z2m.f] at H
 (conv => cbv)
 repeat' first
  | replace H:=s_ H
  | (exfalso;with_reducible assumption)
  | (rw [Z7] at H;obtain ⟨hc,H⟩:=H)
  | (rw [Z2] at H;obtain ⟨hc,H⟩:=H)
  | ((with_reducible refine br2 hF H ?_ ?_) <;> (clear H;intro hb H;(try (conv => cbv))))
  | (refine w_ hF ?_;(try (conv => cbv)))
  | ((with_reducible refine k2_ 200 H ?_);clear H;intro _ _ hy H;refine ca_ hF (Z1.con E hE hy) ?_;(try (conv => cbv)))
  | ((with_reducible show Q _ _);exact en_ ⟨[4,5],[],[],[]⟩ 12 hQ)
  | contradiction
theorem Z1g.con (E:En) (hE:E = E0) {k l0_0 a1 r1 r2} (H:Z1g.f k l0_0 a1 = some (r1,r2)) :
  Cn 68 [.agg [.c (.sl [.str,.str] (E.e122 l0_0))],.c (.str a1)] [] (.tup [.c (.str r1),.c (.bool r2)]) [] []:=by
 refine co_ Tryz.func68 Z0L [] fun F hF Q hQ => ?_
 simp only [Z1g.f] at H
 (conv => cbv)
 repeat' first
  | replace H:=s_ H
  | (exfalso;with_reducible assumption)
  | (rw [Z7] at H;obtain ⟨hc,H⟩:=H)
  | (rw [Z2] at H;obtain ⟨hc,H⟩:=H)
  | ((with_reducible refine br2 hF H ?_ ?_) <;> (clear H;intro hb H;(try (conv => cbv))))
  | (refine w_ hF ?_;(try (conv => cbv)))
  | ((with_reducible refine k1_ 78 H ?_);clear H;intro _ hy H;refine ca_ hF (Z02.con E hE hy) ?_;(try (conv => cbv)))
  | ((with_reducible refine k2_ 143 H ?_);clear H;intro _ _ hy H;refine ca_ hF (Z2m.con E hE hy) ?_;(try (conv => cbv)))
  | ((with_reducible show Q _ _);exact en_ ⟨[4,5],[],[],[]⟩ 25 hQ)
  | contradiction
theorem Z38.con (E:En) (hE:E = E0) {k a0 r1 r2} (H:Z38.f k a0 = some (r1,r2)) :
  Cn 208 [.c (.str a0)] [] (.tup [.c (.str r1),.c (.bool r2)]) [] []:=by
 refine co_ Tryz.func208 tabOk [] fun F hF Q hQ => ?_
 simp only [Z38.f] at H
 (conv => cbv)
 repeat' first
  | replace H:=s_ H
  | (exfalso;with_reducible assumption)
  | (rw [Z7] at H;obtain ⟨hc,H⟩:=H)
  | (rw [Z2] at H;obtain ⟨hc,H⟩:=H)
  | ((with_reducible refine br2 hF H ?_ ?_) <;> (clear H;intro hb H;(try (conv => cbv))))
  | (refine w_ hF ?_;(try (conv => cbv)))
  | ((with_reducible refine k1_ 184 H ?_);clear H;intro _ hy H;refine ca_ hF (Z47.con E hE hy) ?_;(try (conv => cbv)))
  | ((with_reducible show Q _ _);exact en_ ⟨[2,3],[],[],[]⟩ 25 hQ)
  | contradiction
theorem Z35.con (E:En) (hE:E = E0) {k a0 r1 r2} (H:Z35.f k a0 = some (r1,r2)) :
  Cn 155 [.c (.str a0)] [] (.tup [.c (.str r1),.c (.bool r2)]) [] []:=by
 refine co_ Tryz.func155 tabOk [] fun F hF Q hQ => ?_
 simp only [Z35.f] at H
 (conv => cbv)
 repeat' first
  | replace H:=s_ H
  | (exfalso;with_reducible assumption)
  | (rw [Z7] at H;obtain ⟨hc,H⟩:=H)
  | (rw [Z2] at H;obtain ⟨hc,H⟩:=H)
  | ((with_reducible refine br2 hF H ?_ ?_) <;> (clear H;intro hb H;(try (conv => cbv))))
  | (refine w_ hF ?_;(try (conv => cbv)))
  | ((with_reducible refine k2_ 208 H ?_);clear H;intro _ _ hy H;refine ca_ hF (Z38.con E hE hy) ?_;(try (conv => cbv)))
  | ((with_reducible show Q _ _);exact en_ ⟨[2,3],[],[],[]⟩ 28 hQ)
  | contradiction
theorem Zu.j1_s {k:Nat} {x0:ByteArray} {x1:Int} {x7:Int} {x8:Int} {x26:Bool} {r:_} (h:Zu.j1 k x0 x1 x7 x8 x26 = some r):∃ m,k = m + 1∧Zu.j1 (m + 1) x0 x1 x7 x8 x26 = some r:=by
 cases k with
 | zero => simp [Zu.j1] at h
 | succ m => exact ⟨m,rfl,h⟩
theorem Zu.j1_i {k:Nat} {x0:ByteArray} {x1:Int} {x7:Int} {x8:Int} {x26:Bool} {r:_}:(Zu.j1 k x0 x1 x7 x8 x26 = some r) = (∃ m,k = m + 1∧Zu.j1 (m + 1) x0 x1 x7 x8 x26 = some r):=propext ⟨Zu.j1_s,fun ⟨m,h,h2⟩ => by rw [h];exact h2⟩
theorem Zu.con (E:En) (hE:E = E0) {k a0 a1 r1 r2 r3} (H:Zu.f k a0 a1 = some (r1,r2,r3)) :
  Cn 203 [.c (.str a0),.c (.int .i64 a1)] [] (.tup [.c (.int .i64 r1),.c (.int .i64 r2),.c (.bool r3)]) [] []:=by
 refine co_ Tryz.func203 tabOk [] fun F hF Q hQ => ?_
 simp only [Zu.f] at H
 (conv => cbv)
 repeat' first
  | (rw [Zu.j1_i] at H;obtain ⟨m,hm,H⟩:=H;simp only [Zu.j1] at H;(try simp only [decide_eq_true_eq,Bool.false_eq_true,if_false,if_true] at H))
  | replace H:=s_ H
  | (exfalso;with_reducible assumption)
  | (rw [Z7] at H;obtain ⟨hc,H⟩:=H)
  | (rw [Z2] at H;obtain ⟨hc,H⟩:=H)
  | ((with_reducible refine br2 hF H ?_ ?_) <;> (clear H;intro hb H;(try (conv => cbv))))
  | (refine w_ hF ?_;(try (conv => cbv)))
  | ((with_reducible refine k1_ 144 H ?_);clear H;intro _ hy H;refine ca_ hF (ZN.con E hE hy) ?_;(try (conv => cbv)))
  | ((with_reducible refine k2_ 183 H ?_);clear H;intro _ _ hy H;refine ca_ hF (Z0t.con E hE hy) ?_;(try (conv => cbv)))
  | ((with_reducible refine lo_ hF (fun n t => n≤k∧∃ x0 x1 x7 x8,t = At 63 [(0,.c (.str x0)),(1,.c (.int .i64 x1)),(7,.c (.int .i64 x7)),(8,.c (.int .i64 x8))] []∧Zu.l0 n x0 x1 x7 x8 = some (r1,r2,r3)) ⟨[0,1,7,8],[],[],[]⟩ fun n0 t ht Q0 hN0 hX0 => ?_);obtain ⟨hl,_,_,_,_,rfl,H⟩:=ht;rcases n0 with _ | n0;cases H;simp only [Zu.l0] at H;(try (conv => cbv)))
  | ((with_reducible show Q0 _ _);first | exact nx_ hN0 | (refine xt_ hX0 ?_;(try (conv => cbv))))
  | ((with_reducible show Q _ _);exact en_ ⟨[4,5,6],[],[],[]⟩ 63 hQ)
  | contradiction
theorem ZK.con (E:En) (hE:E = E0) {k s0_0 s0_1 s0_2 r1 r2 r3 r4} (H:ZK.f k s0_0 s0_1 s0_2 = some (r1,r2,r3,r4)) :
  Cn 158 [.ptr 10000 0] [.box [.c (.str s0_0),.c (.int .i64 s0_1),.c (.bool s0_2)]] (.c (.int .i64 r1)) [] [.box [.c (.str r2),.c (.int .i64 r3),.c (.bool r4)]]:=by
 refine co_ Tryz.func158 tabOk [] fun F hF Q hQ => ?_
 simp only [ZK.f] at H
 (conv => cbv)
 repeat' first
  | replace H:=s_ H
  | (exfalso;with_reducible assumption)
  | (rw [Z7] at H;obtain ⟨hc,H⟩:=H)
  | (rw [Z2] at H;obtain ⟨hc,H⟩:=H)
  | ((with_reducible refine br2 hF H ?_ ?_) <;> (clear H;intro hb H;(try (conv => cbv))))
  | (refine w_ hF ?_;(try (conv => cbv)))
  | ((with_reducible refine k3_ 203 H ?_);clear H;intro _ _ _ hy H;refine ca_ hF (Zu.con E hE hy) ?_;(try (conv => cbv)))
  | ((with_reducible show Q _ _);exact en_ ⟨[2],[],[],[]⟩ 35 hQ)
  | contradiction
theorem Z1m.con (E:En) (hE:E = E0) {k l0_0 s0_1 s0_2 s0_3 l0_4 s1_0_0 s1_0_1 s1_0_2 r1 r2 r3 r4 r5 r6 r7 r8} (H:Z1m.f k l0_0 s0_1 s0_2 s0_3 l0_4 s1_0_0 s1_0_1 s1_0_2 = some (r1,r2,r3,r4,r5,r6,r7,r8)) :
  Cn 157 [.ptr 10000 0,.ptr 10001 0] [.box [.own 10002,.c (.int .i64 s0_1),.c (.int .i64 s0_2),.c (.int .i64 s0_3),.own 10003],.box [.ptr 10004 0],.row false 3 [.int .i64] (E.eI .i64 l0_0),.row false 3 [.int .i64] (E.eI .i64 l0_4),.box [.c (.str s1_0_0),.c (.int .i64 s1_0_1),.c (.bool s1_0_2)]] (.tup []) [.row false 3 [.int .i64] (E.eI .i64 r1)] [.box [.own 0,.c (.int .i64 r2),.c (.int .i64 r3),.c (.int .i64 r4),.own 10003],.box [.ptr 10004 0],.gone,.row false 3 [.int .i64] (E.eI .i64 r5),.box [.c (.str r6),.c (.int .i64 r7),.c (.bool r8)]]:=by
 refine co_ Tryz.func157 Z0L [600000] fun F hF Q hQ => ?_
 simp only [Z1m.f] at H
 (conv => cbv)
 repeat' first
  | replace H:=s_ H
  | (exfalso;with_reducible assumption)
  | (rw [Z7] at H;obtain ⟨hc,H⟩:=H)
  | (rw [Z2] at H;obtain ⟨hc,H⟩:=H)
  | ((with_reducible refine br2 hF H ?_ ?_) <;> (clear H;intro hb H;(try (conv => cbv))))
  | (refine w_ hF ?_;(try (conv => cbv)))
  | ((with_reducible refine k4_ 158 H ?_);clear H;intro _ _ _ _ hy H;refine ca_ hF (ZK.con E hE hy) ?_;(try (conv => cbv)))
  | ((with_reducible show Q _ _);exact en_ ⟨[],[],[],[(10000,0,3)]⟩ 9 hQ)
  | contradiction
theorem Zs.con (E:En) (hE:E = E0) {k s0_0 s0_1 s0_2 s1_0_1 s1_0_2 s1_0_3 r1 r2 r3 r4 r5 r6 r7 r8} (H:Zs.f k s0_0 s0_1 s0_2 s1_0_1 s1_0_2 s1_0_3 = some (r1,r2,r3,r4,r5,r6,r7,r8)) :
  Cn 156 [.ptr 10000 0,.clo 157 [.ptr 10001 0,.ptr 10002 0]] [.box [.c (.str s0_0),.c (.int .i64 s0_1),.c (.bool s0_2)],.box [.nil [.int .i64],.c (.int .i64 s1_0_1),.c (.int .i64 s1_0_2),.c (.int .i64 s1_0_3),.nil [.int .i64]],.box [.ptr 10000 0]] (.tup []) [.row false 3 [.int .i64] (E.eI .i64 r4),.row false 3 [.int .i64] (E.eI .i64 r8)] [.box [.c (.str r1),.c (.int .i64 r2),.c (.bool r3)],.box [.own 0,.c (.int .i64 r5),.c (.int .i64 r6),.c (.int .i64 r7),.own 1],.box [.ptr 10000 0]]:=by
 refine co_ Tryz.func156 Z0L [600020,600024] fun F hF Q hQ => ?_
 simp only [Zs.f] at H
 (conv => cbv)
 repeat' first
  | replace H:=s_ H
  | (exfalso;with_reducible assumption)
  | (rw [Z7] at H;obtain ⟨hc,H⟩:=H)
  | (rw [Z2] at H;obtain ⟨hc,H⟩:=H)
  | ((with_reducible refine br2 hF H ?_ ?_) <;> (clear H;intro hb H;(try (conv => cbv))))
  | (refine w_ hF ?_;(try (conv => cbv)))
  | ((with_reducible refine k4_ 158 H ?_);clear H;intro _ _ _ _ hy H;refine ca_ hF (ZK.con E hE hy) ?_;(try (conv => cbv)))
  | ((with_reducible refine k8_ 157 H ?_);clear H;intro _ _ _ _ _ _ _ _ hy H;refine ca_ hF (Z1m.con E hE hy) ?_;(try (conv => cbv)))
  | ((with_reducible refine lo_ hF (fun n t => n≤k∧∃ x4 x5 v0 v1 v2 v3 v4 v5 v6 v7,t = At 22 [(0,.ptr 10000 0),(1,.clo 157 [.ptr 10001 0,.ptr 10002 0]),(4,.c (.int .i64 x4)),(5,.c (.int .i64 x5))] [(10000,.box [.c (.str v0),.c (.int .i64 v1),.c (.bool v2)]),(10001,.box [.own 600020,.c (.int .i64 v4),.c (.int .i64 v5),.c (.int .i64 v6),.own 600024]),(10002,.box [.ptr 10000 0]),(600020,.row false 3 [.int .i64] (E.eI .i64 v3)),(600024,.row false 3 [.int .i64] (E.eI .i64 v7))]∧Zs.l0 n x4 x5 v0 v1 v2 v3 v4 v5 v6 v7 = some (r1,r2,r3,r4,r5,r6,r7,r8)) ⟨[0,1,4,5],[],[],[(10001,0,3),(10001,4,3)]⟩ fun n0 t ht Q0 hN0 hX0 => ?_);obtain ⟨hl,_,_,_,_,_,_,_,_,_,_,rfl,H⟩:=ht;rcases n0 with _ | n0;cases H;simp only [Zs.l0] at H;(try (conv => cbv)))
  | ((with_reducible show Q0 _ _);first | exact nx_ hN0 | (refine xt_ hX0 ?_;(try (conv => cbv))))
  | ((with_reducible show Q _ _);exact en_ ⟨[],[],[],[(10001,0,3),(10001,4,3)]⟩ 22 hQ)
  | contradiction
end Go.Ev
