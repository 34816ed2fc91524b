/- Contracts of the Go functions that this law reaches: what each call returns, by its plain function. No conditions but those that each statement names. By this repo's programs; comments are taken out. -/
import Derived.Test.YtlmicldpfnmeaaaGreatDoorVFnComesBackD
import Derived.Test.YtlmicldpfnmeaaaGreatDoorVFnComesBackC0
import Derived.Test.YtlmicldpfnmeaaaGreatDoorVFnComesBackC1
import Derived.Test.YtlmicldpfnmeaaaGreatDoorVFnComesBackC2
import Derived.Test.YtlmicldpfnmeaaaGreatDoorVFnComesBackC3
import Derived.Test.YtlmicldpfnmeaaaGreatDoorVFnComesBackC6
import Derived.Test.YtlmicldpfnmeaaaGreatDoorVFnComesBackC7
set_option linter.all false
namespace Go.Ev
open Go.RowKit Go.Proofs Go.Proofs.YtlmicldpfnmeaaaGreatDoorW.PrintWords Go.Proofs.YtlmicldpfnmeaaaGreatDoorW.PrintLast Go.Proofs.YtlmicldpfnmeaaaGreatDoorW.PrintMore
set_option maxRecDepth 100000
set_option maxHeartbeats 4000000
theorem Z0W.con (E:En) (hE:E = E0) {k l0_0 a1 r} (H:Z0W.f k l0_0 a1 = some (r)) :
  Cn 187 [.agg [.c (.sl [.str,.str] (E.e122 l0_0))],.c (.str a1)] [] (.agg [.own 0]) [.row false 122 [.str,.str] (E.e122 r)] []:=by
 refine co_ Tryz.func187 tabOk [400080] fun F hF Q hQ => ?_
 simp only [Z0W.f] at H
 (conv => cbv)
 repeat' first
  | replace H:=s_ H
  | (exfalso;with_reducible assumption)
  | (rw [Z7] at H;obtain ⟨hc,H⟩:=H)
  | (rw [Z2] at H;obtain ⟨hc,H⟩:=H)
  | ((with_reducible refine br2 hF H ?_ ?_) <;> (clear H;intro hb H;(try (conv => cbv))))
  | (refine w_ hF ?_;(try (conv => cbv)))
  | ((with_reducible refine lo_ hF (fun n t => n≤k∧∃ x1 x6 v0 v1,t = At 34 [(1,.c (.str x1)),(2,.ptr 2 0),(4,.ptr 4 0),(5,.ptr 5 0),(6,.c (.int .i64 x6))] [(2,.box [.c (.sl [.str,.str] (E.e122 v0))]),(4,.box [.own 400080]),(5,.box [.own 400100]),(400080,.row false 122 [.str,.str] []),(400100,.row false 122 [.str,.str] (E.e122 v1))]∧Z0W.l0 n x1 x6 v0 v1 = some (r)) ⟨[1,2,4,5,6],[2,4,5],[],[(4,0,122),(5,0,122)]⟩ fun n0 t ht Q0 hN0 hX0 => ?_);obtain ⟨hl,_,_,_,_,rfl,H⟩:=ht;rcases n0 with _ | n0;cases H;simp only [Z0W.l0] at H;(try (conv => cbv)))
  | ((with_reducible show Q0 _ _);first | exact nx_ hN0 | (refine xt_ hX0 ?_;(try (conv => cbv))))
  | ((with_reducible show Q _ _);exact en_ ⟨[4],[4],[],[(4,0,122)]⟩ 34 hQ)
  | contradiction
theorem Z0g.j0_s {k:Nat} {x6:Int} {x29:Bool} {x721000:List S122} {x722000:Int} {x722001:ByteArray} {x722002:ByteArray} {x722003:ByteArray} {r:_} (h:Z0g.j0 k x6 x29 x721000 x722000 x722001 x722002 x722003 = some r):∃ m,k = m + 1∧Z0g.j0 (m + 1) x6 x29 x721000 x722000 x722001 x722002 x722003 = some r:=by
 cases k with
 | zero => simp [Z0g.j0] at h
 | succ m => exact ⟨m,rfl,h⟩
theorem Z0g.j0_i {k:Nat} {x6:Int} {x29:Bool} {x721000:List S122} {x722000:Int} {x722001:ByteArray} {x722002:ByteArray} {x722003:ByteArray} {r:_}:(Z0g.j0 k x6 x29 x721000 x722000 x722001 x722002 x722003 = some r) = (∃ m,k = m + 1∧Z0g.j0 (m + 1) x6 x29 x721000 x722000 x722001 x722002 x722003 = some r):=propext ⟨Z0g.j0_s,fun ⟨m,h,h2⟩ => by rw [h];exact h2⟩
theorem Z0g.con (E:En) (hE:E = E0) {k l0_0 a1_0 a1_1 a1_2 a1_3 r1 r2} (H:Z0g.f k l0_0 a1_0 a1_1 a1_2 a1_3 = some (r1,r2)) :
  Cn 106 [.agg [.c (.sl [.str,.str] (E.e122 l0_0))],.agg [.c (.int .i64 a1_0),.c (.str a1_1),.c (.str a1_2),.c (.str a1_3)]] [] (.tup [.agg [.own 0],.c (.bool r2)]) [.row false 122 [.str,.str] (E.e122 r1)] []:=by
 refine co_ Tryz.func106 tabOk [400080] fun F hF Q hQ => ?_
 simp only [Z0g.f] at H
 (conv => cbv)
 repeat' first
  | (rw [Z0g.j0_i] at H;obtain ⟨m,hm,H⟩:=H;simp only [Z0g.j0] at H;(try simp only [decide_eq_true_eq,Bool.false_eq_true,if_false,if_true] at H))
  | replace H:=s_ H
  | (exfalso;with_reducible assumption)
  | (rw [Z7] at H;obtain ⟨hc,H⟩:=H)
  | (rw [Z2] at H;obtain ⟨hc,H⟩:=H)
  | ((with_reducible refine br2 hF H ?_ ?_) <;> (clear H;intro hb H;(try (conv => cbv))))
  | (refine w_ hF ?_;(try (conv => cbv)))
  | ((with_reducible refine k1_ 60 H ?_);clear H;intro _ hy H;refine ca_ hF (Z1c.con E hE hy) ?_;(try (conv => cbv)))
  | ((with_reducible refine k1_ 75 H ?_);clear H;intro _ hy H;refine ca_ hF (Z0P.con E hE hy) ?_;(try (conv => cbv)))
  | ((with_reducible refine k1_ 95 H ?_);clear H;intro _ hy H;refine ca_ hF (ZO.con E hE hy) ?_;(try (conv => cbv)))
  | ((with_reducible refine k1_ 131 H ?_);clear H;intro _ hy H;refine ca_ hF (ZD.con E hE hy) ?_;(try (conv => cbv)))
  | ((with_reducible refine k1_ 186 H ?_);clear H;intro _ hy H;refine ca_ hF (Z0d.con E hE hy) ?_;(try (conv => cbv)))
  | ((with_reducible refine k1_ 187 H ?_);clear H;intro _ hy H;refine ca_ hF (Z0W.con E hE hy) ?_;(try (conv => cbv)))
  | ((with_reducible show Q _ _);exact en_ ⟨[4,5],[4],[],[(4,0,122)]⟩ 93 hQ)
  | contradiction
theorem Zg.j0_s {k:Nat} {x1:List S119} {x17:Bool} {x757000:List S122} {r:_} (h:Zg.j0 k x1 x17 x757000 = some r):∃ m,k = m + 1∧Zg.j0 (m + 1) x1 x17 x757000 = some r:=by
 cases k with
 | zero => simp [Zg.j0] at h
 | succ m => exact ⟨m,rfl,h⟩
theorem Zg.j0_i {k:Nat} {x1:List S119} {x17:Bool} {x757000:List S122} {r:_}:(Zg.j0 k x1 x17 x757000 = some r) = (∃ m,k = m + 1∧Zg.j0 (m + 1) x1 x17 x757000 = some r):=propext ⟨Zg.j0_s,fun ⟨m,h,h2⟩ => by rw [h];exact h2⟩
theorem Zg.con (E:En) (hE:E = E0) {k l0_0 l1 r1 r2} (H:Zg.f k l0_0 l1 = some (r1,r2)) :
  Cn 33 [.agg [.c (.sl [.str,.str] (E.e122 l0_0))],.c (.sl [.int .i64,.str,.str,.str] (E.e119 l1))] [] (.tup [.agg [.own 0],.c (.int .i64 r2)]) [.row false 122 [.str,.str] (E.e122 r1)] []:=by
 refine co_ Tryz.func33 tabOk [400080] fun F hF Q hQ => ?_
 simp only [Zg.f] at H
 (conv => cbv)
 repeat' first
  | (rw [Zg.j0_i] at H;obtain ⟨m,hm,H⟩:=H;simp only [Zg.j0] at H;(try simp only [decide_eq_true_eq,Bool.false_eq_true,if_false,if_true] at H))
  | replace H:=s_ H
  | (exfalso;with_reducible assumption)
  | (rw [Z7] at H;obtain ⟨hc,H⟩:=H)
  | (rw [Z2] at H;obtain ⟨hc,H⟩:=H)
  | ((with_reducible refine br2 hF H ?_ ?_) <;> (clear H;intro hb H;(try (conv => cbv))))
  | (refine w_ hF ?_;(try (conv => cbv)))
  | ((with_reducible refine k1_ 95 H ?_);clear H;intro _ hy H;refine ca_ hF (ZO.con E hE hy) ?_;(try (conv => cbv)))
  | ((with_reducible refine k2_ 106 H ?_);clear H;intro _ _ hy H;refine ca_ hF (Z0g.con E hE hy) ?_;(try (conv => cbv)))
  | ((with_reducible refine lo_ hF (fun n t => n≤k∧∃ x1 x7 v0,t = At 47 [(1,.c (.sl [.int .i64,.str,.str,.str] (E.e119 x1))),(4,.ptr 4 0),(6,.ptr 6 0),(7,.c (.int .i64 x7))] [(4,.box [.own 400080]),(6,.box [.own 400120]),(400080,.row false 122 [.str,.str] []),(400120,.row false 122 [.str,.str] (E.e122 v0))]∧Zg.l0 n x1 x7 v0 = some (r1,r2)) ⟨[1,4,6,7],[4,6],[],[(4,0,122),(6,0,122)]⟩ fun n0 t ht Q0 hN0 hX0 => ?_);obtain ⟨hl,_,_,_,rfl,H⟩:=ht;rcases n0 with _ | n0;cases H;simp only [Zg.l0] at H;(try (conv => cbv)))
  | ((with_reducible show Q0 _ _);first | exact nx_ hN0 | (refine xt_ hX0 ?_;(try (conv => cbv))))
  | ((with_reducible show Q _ _);exact en_ ⟨[4,5],[4],[],[(4,0,122)]⟩ 47 hQ)
  | contradiction
theorem Z1Q.con (E:En) (hE:E = E0) {k l0_0 l1 r1 r2 r3 r4 r5 r6 r7 r8} (H:Z1Q.f k l0_0 l1 = some (r1,r2,r3,r4,r5,r6,r7,r8)) :
  Cn 114 [.agg [.c (.sl [.str,.str] (E.e122 l0_0))],.c (.sl [.int .i64,.str,.str,.str] (E.e119 l1))] [] (.tup [.agg [.own 0,.c (.int .i64 r2),.c (.int .i64 r3),.c (.int .i64 r4),.own 1,.own 2,.c (.int .i64 r7)],.c (.bool r8)]) [.row false 3 [.int .i64] (E.eI .i64 r1),.row false 3 [.int .i64] (E.eI .i64 r5),.row false 145 [.str,.int .i64,.int .i64,.int .i64] (E.e145 r6)] []:=by
 refine co_ Tryz.func114 tabOk [400080,400084,400085] fun F hF Q hQ => ?_
 simp only [Z1Q.f] at H
 (conv => cbv)
 repeat' first
  | replace H:=s_ H
  | (exfalso;with_reducible assumption)
  | (rw [Z7] at H;obtain ⟨hc,H⟩:=H)
  | (rw [Z2] at H;obtain ⟨hc,H⟩:=H)
  | ((with_reducible refine br2 hF H ?_ ?_) <;> (clear H;intro hb H;(try (conv => cbv))))
  | (refine w_ hF ?_;(try (conv => cbv)))
  | ((with_reducible refine k9_ 20 H ?_);clear H;intro _ _ _ _ _ _ _ _ _ hy H;refine ca_ hF (Zl.con E hE hy) ?_;(try (conv => cbv)))
  | ((with_reducible refine k2_ 33 H ?_);clear H;intro _ _ hy H;refine ca_ hF (Zg.con E hE hy) ?_;(try (conv => cbv)))
  | ((with_reducible show Q _ _);exact en_ ⟨[4,5],[4],[],[(4,0,3),(4,4,3),(4,5,145)]⟩ 36 hQ)
  | contradiction
theorem Zb.j0_s {k:Nat} {x9:ByteArray} {x39:Bool} {x910000:List S122} {x911000:List Int} {x911001:Int} {x911002:Int} {x911003:Int} {x911004:List Int} {x911005:List S145} {x911006:Int} {r:_} (h:Zb.j0 k x9 x39 x910000 x911000 x911001 x911002 x911003 x911004 x911005 x911006 = some r):∃ m,k = m + 1∧Zb.j0 (m + 1) x9 x39 x910000 x911000 x911001 x911002 x911003 x911004 x911005 x911006 = some r:=by
 cases k with
 | zero => simp [Zb.j0] at h
 | succ m => exact ⟨m,rfl,h⟩
theorem Zb.j1_s {k:Nat} {x11:ByteArray} {x15:List S119} {x78:Bool} {x910000:List S122} {x931000:List Int} {x931001:Int} {x931002:Int} {x931003:Int} {x931004:List Int} {r:_} (h:Zb.j1 k x11 x15 x78 x910000 x931000 x931001 x931002 x931003 x931004 = some r):∃ m,k = m + 1∧Zb.j1 (m + 1) x11 x15 x78 x910000 x931000 x931001 x931002 x931003 x931004 = some r:=by
 cases k with
 | zero => simp [Zb.j1] at h
 | succ m => exact ⟨m,rfl,h⟩
theorem Zb.j0_i {k:Nat} {x9:ByteArray} {x39:Bool} {x910000:List S122} {x911000:List Int} {x911001:Int} {x911002:Int} {x911003:Int} {x911004:List Int} {x911005:List S145} {x911006:Int} {r:_}:(Zb.j0 k x9 x39 x910000 x911000 x911001 x911002 x911003 x911004 x911005 x911006 = some r) = (∃ m,k = m + 1∧Zb.j0 (m + 1) x9 x39 x910000 x911000 x911001 x911002 x911003 x911004 x911005 x911006 = some r):=propext ⟨Zb.j0_s,fun ⟨m,h,h2⟩ => by rw [h];exact h2⟩
theorem Zb.j1_i {k:Nat} {x11:ByteArray} {x15:List S119} {x78:Bool} {x910000:List S122} {x931000:List Int} {x931001:Int} {x931002:Int} {x931003:Int} {x931004:List Int} {r:_}:(Zb.j1 k x11 x15 x78 x910000 x931000 x931001 x931002 x931003 x931004 = some r) = (∃ m,k = m + 1∧Zb.j1 (m + 1) x11 x15 x78 x910000 x931000 x931001 x931002 x931003 x931004 = some r):=propext ⟨Zb.j1_s,fun ⟨m,h,h2⟩ => by rw [h];exact h2⟩
theorem Zb.con (E:En) (hE:E = E0) {k l0_0 l1_0 a1_1 a1_2 a1_3 l1_4 l1_5 a1_6 a2_0 l2_1 r1 r2 r3 r4 r5 r6 r7 r8 r9} (H:Zb.f k l0_0 l1_0 a1_1 a1_2 a1_3 l1_4 l1_5 a1_6 a2_0 l2_1 = some (r1,r2,r3,r4,r5,r6,r7,r8,r9)) :
  Cn 40 [.agg [.c (.sl [.str,.str] (E.e122 l0_0))],.agg [.c (.sl [.int .i64] (E.eI .i64 l1_0)),.c (.int .i64 a1_1),.c (.int .i64 a1_2),.c (.int .i64 a1_3),.c (.sl [.int .i64] (E.eI .i64 l1_4)),.c (.sl [.str,.int .i64,.int .i64,.int .i64] (E.e145 l1_5)),.c (.int .i64 a1_6)],.agg [.c (.int .i64 a2_0),.c (.sl [.str,.str,.bool] (E.e162 l2_1))]] [] (.tup [.agg [.own 0,.c (.int .i64 r2),.c (.int .i64 r3),.c (.int .i64 r4),.own 1,.own 2,.c (.int .i64 r7)],.own 3,.c (.bool r9)]) [.row false 3 [.int .i64] (E.eI .i64 r1),.row false 3 [.int .i64] (E.eI .i64 r5),.row false 145 [.str,.int .i64,.int .i64,.int .i64] (E.e145 r6),.row false 119 [.int .i64,.str,.str,.str] (E.e119 r8)] []:=by
 refine co_ Tryz.func40 tabOk [400120,400124,400125,20007] fun F hF Q hQ => ?_
 simp only [Zb.f] at H
 (conv => cbv)
 repeat' first
  | (rw [Zb.j0_i] at H;obtain ⟨m,hm,H⟩:=H;simp only [Zb.j0] at H;(try simp only [decide_eq_true_eq,Bool.false_eq_true,if_false,if_true] at H))
  | (rw [Zb.j1_i] at H;obtain ⟨m,hm,H⟩:=H;simp only [Zb.j1] at H;(try simp only [decide_eq_true_eq,Bool.false_eq_true,if_false,if_true] at H))
  | replace H:=s_ H
  | (exfalso;with_reducible assumption)
  | (rw [Z7] at H;obtain ⟨hc,H⟩:=H)
  | (rw [Z2] at H;obtain ⟨hc,H⟩:=H)
  | ((with_reducible refine br2 hF H ?_ ?_) <;> (clear H;intro hb H;(try (conv => cbv))))
  | (refine w_ hF ?_;(try (conv => cbv)))
  | ((with_reducible refine k1_ 60 H ?_);clear H;intro _ hy H;refine ca_ hF (Z1c.con E hE hy) ?_;(try (conv => cbv)))
  | ((with_reducible refine k1_ 61 H ?_);clear H;intro _ hy H;refine ca_ hF (Z0f.con E hE hy) ?_;(try (conv => cbv)))
  | ((with_reducible refine k2_ 63 H ?_);clear H;intro _ _ hy H;refine ca_ hF (Z1O.con E hE hy) ?_;(try (conv => cbv)))
  | ((with_reducible refine k1_ 102 H ?_);clear H;intro _ hy H;refine ca_ hF (Z28.con E hE hy) ?_;(try (conv => cbv)))
  | ((with_reducible refine k2_ 104 H ?_);clear H;intro _ _ hy H;refine ca_ hF (Z06.con E hE hy) ?_;(try (conv => cbv)))
  | ((with_reducible refine k5_ 112 H ?_);clear H;intro _ _ _ _ _ hy H;refine ca_ hF (Z2k.con E hE hy) ?_;(try (conv => cbv)))
  | ((with_reducible refine k2_ 113 H ?_);clear H;intro _ _ hy H;refine ca_ hF (Z1q.con E hE hy) ?_;(try (conv => cbv)))
  | ((with_reducible refine k8_ 114 H ?_);clear H;intro _ _ _ _ _ _ _ _ hy H;refine ca_ hF (Z1Q.con E hE hy) ?_;(try (conv => cbv)))
  | ((with_reducible show Q _ _);exact en_ ⟨[6,7,8],[6],[(7,119)],[(6,0,3),(6,4,3),(6,5,145)]⟩ 116 hQ)
  | contradiction
end Go.Ev
