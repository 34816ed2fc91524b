/- Contracts of the Go functions that this law reaches: what each call returns, by its plain function. No conditions but those that each statement names. By this repo's programs; comments are taken out. -/
import Derived.Test.YtlmicldpfnmeaaaGreatDoorVFnShelvesD
import Derived.Test.YtlmicldpfnmeaaaGreatDoorVFnShelvesC0
import Derived.Test.YtlmicldpfnmeaaaGreatDoorVFnShelvesC1
import Derived.Test.YtlmicldpfnmeaaaGreatDoorVFnShelvesC2
import Derived.Test.YtlmicldpfnmeaaaGreatDoorVFnShelvesC3
import Derived.Test.YtlmicldpfnmeaaaGreatDoorVFnShelvesC4
set_option linter.all false
namespace Go.Ev
open Go.RowKit Go.Proofs Go.Proofs.YtlmicldpfnmeaaaGreatDoorW.PrintWords Go.Proofs.YtlmicldpfnmeaaaGreatDoorW.PrintLast Go.Proofs.YtlmicldpfnmeaaaGreatDoorW.PrintMore
set_option maxRecDepth 100000
set_option maxHeartbeats 4000000
theorem Zl.j0_s {k:Nat} {x1:List S119} {x17:Bool} {x757000:List S122} {r:_} (h:Zl.j0 k x1 x17 x757000 = some r):∃ m,k = m + 1∧Zl.j0 (m + 1) x1 x17 x757000 = some r:=by
 cases k with
 | zero => simp [Zl.j0] at h
 | succ m => exact ⟨m,rfl,h⟩
theorem Zl.j0_i {k:Nat} {x1:List S119} {x17:Bool} {x757000:List S122} {r:_}:(Zl.j0 k x1 x17 x757000 = some r) = (∃ m,k = m + 1∧Zl.j0 (m + 1) x1 x17 x757000 = some r):=propext ⟨Zl.j0_s,fun ⟨m,h,h2⟩ => by rw [h];exact h2⟩
theorem Zl.con (E:En) (hE:E = E0) {k l0_0 l1 r1 r2} (H:Zl.f k l0_0 l1 = some (r1,r2)) :
  Cn 33 [.agg [.c (.sl [.str,.str] (E.e122 l0_0))],.c (.sl [.int .i64,.str,.str,.str] (E.e119 l1))] [] (.tup [.agg [.own 0],.c (.int .i64 r2)]) [.row false 122 [.str,.str] (E.e122 r1)] []:=by
 refine co_ Tryz.func33 tabOk [400080] fun F hF Q hQ => ?_
 simp only [Zl.f] at H
 (conv => cbv)
 repeat' first
  | (rw [Zl.j0_i] at H;obtain ⟨m,hm,H⟩:=H;simp only [Zl.j0] at H;(try simp only [decide_eq_true_eq,Bool.false_eq_true,if_false,if_true] at H))
  | replace H:=s_ H
  | (exfalso;with_reducible assumption)
  | (rw [Z6] at H;obtain ⟨hc,H⟩:=H)
  | (rw [Z2] at H;obtain ⟨hc,H⟩:=H)
  | ((with_reducible refine br2 hF H ?_ ?_) <;> (clear H;intro hb H;(try (conv => cbv))))
  | (refine w_ hF ?_;(try (conv => cbv)))
  | ((with_reducible refine k1_ 95 H ?_);clear H;intro _ hy H;refine ca_ hF (ZR.con E hE hy) ?_;(try (conv => cbv)))
  | ((with_reducible refine k2_ 106 H ?_);clear H;intro _ _ hy H;refine ca_ hF (Z08.con E hE hy) ?_;(try (conv => cbv)))
  | ((with_reducible refine lo_ hF (fun n t => n≤k∧∃ x1 x7 v0,t = At 47 [(1,.c (.sl [.int .i64,.str,.str,.str] (E.e119 x1))),(4,.ptr 4 0),(6,.ptr 6 0),(7,.c (.int .i64 x7))] [(4,.box [.own 400080]),(6,.box [.own 400120]),(400080,.row false 122 [.str,.str] []),(400120,.row false 122 [.str,.str] (E.e122 v0))]∧Zl.l0 n x1 x7 v0 = some (r1,r2)) ⟨[1,4,6,7],[4,6],[],[(4,0,122),(6,0,122)]⟩ fun n0 t ht Q0 hN0 hX0 => ?_);obtain ⟨hl,_,_,_,rfl,H⟩:=ht;rcases n0 with _ | n0;cases H;simp only [Zl.l0] at H;(try (conv => cbv)))
  | ((with_reducible show Q0 _ _);first | exact nx_ hN0 | (refine xt_ hX0 ?_;(try (conv => cbv))))
  | ((with_reducible show Q _ _);exact en_ ⟨[4,5],[4],[],[(4,0,122)]⟩ 47 hQ)
  | contradiction
theorem spec_l09After.con (E:En) (hE:E = E0) {k l0_0 l1 r1 r2 r3 r4 r5 r6 r7 r8} (H:spec_l09After.f k l0_0 l1 = some (r1,r2,r3,r4,r5,r6,r7,r8)) :
  Cn 114 [.agg [.c (.sl [.str,.str] (E.e122 l0_0))],.c (.sl [.int .i64,.str,.str,.str] (E.e119 l1))] [] (.tup [.agg [.own 0,.c (.int .i64 r2),.c (.int .i64 r3),.c (.int .i64 r4),.own 1,.own 2,.c (.int .i64 r7)],.c (.bool r8)]) [.row false 3 [.int .i64] (E.eI .i64 r1),.row false 3 [.int .i64] (E.eI .i64 r5),.row false 145 [.str,.int .i64,.int .i64,.int .i64] (E.e145 r6)] []:=by
 refine co_ Tryz.func114 tabOk [400080,400084,400085] fun F hF Q hQ => ?_
 simp only [spec_l09After.f] at H
 (conv => cbv)
 repeat' first
  | replace H:=s_ H
  | (exfalso;with_reducible assumption)
  | (rw [Z6] at H;obtain ⟨hc,H⟩:=H)
  | (rw [Z2] at H;obtain ⟨hc,H⟩:=H)
  | ((with_reducible refine br2 hF H ?_ ?_) <;> (clear H;intro hb H;(try (conv => cbv))))
  | (refine w_ hF ?_;(try (conv => cbv)))
  | ((with_reducible refine k9_ 20 H ?_);clear H;intro _ _ _ _ _ _ _ _ _ hy H;refine ca_ hF (Zj.con E hE hy) ?_;(try (conv => cbv)))
  | ((with_reducible refine k2_ 33 H ?_);clear H;intro _ _ hy H;refine ca_ hF (Zl.con E hE hy) ?_;(try (conv => cbv)))
  | ((with_reducible show Q _ _);exact en_ ⟨[4,5],[4],[],[(4,0,3),(4,4,3),(4,5,145)]⟩ 36 hQ)
  | contradiction
theorem Za.j0_s {k:Nat} {x9:ByteArray} {x39:Bool} {x910000:List S122} {x911000:List Int} {x911001:Int} {x911002:Int} {x911003:Int} {x911004:List Int} {x911005:List S145} {x911006:Int} {r:_} (h:Za.j0 k x9 x39 x910000 x911000 x911001 x911002 x911003 x911004 x911005 x911006 = some r):∃ m,k = m + 1∧Za.j0 (m + 1) x9 x39 x910000 x911000 x911001 x911002 x911003 x911004 x911005 x911006 = some r:=by
 cases k with
 | zero => simp [Za.j0] at h
 | succ m => exact ⟨m,rfl,h⟩
theorem Za.j1_s {k:Nat} {x11:ByteArray} {x15:List S119} {x78:Bool} {x910000:List S122} {x931000:List Int} {x931001:Int} {x931002:Int} {x931003:Int} {x931004:List Int} {r:_} (h:Za.j1 k x11 x15 x78 x910000 x931000 x931001 x931002 x931003 x931004 = some r):∃ m,k = m + 1∧Za.j1 (m + 1) x11 x15 x78 x910000 x931000 x931001 x931002 x931003 x931004 = some r:=by
 cases k with
 | zero => simp [Za.j1] at h
 | succ m => exact ⟨m,rfl,h⟩
theorem Za.j0_i {k:Nat} {x9:ByteArray} {x39:Bool} {x910000:List S122} {x911000:List Int} {x911001:Int} {x911002:Int} {x911003:Int} {x911004:List Int} {x911005:List S145} {x911006:Int} {r:_}:(Za.j0 k x9 x39 x910000 x911000 x911001 x911002 x911003 x911004 x911005 x911006 = some r) = (∃ m,k = m + 1∧Za.j0 (m + 1) x9 x39 x910000 x911000 x911001 x911002 x911003 x911004 x911005 x911006 = some r):=propext ⟨Za.j0_s,fun ⟨m,h,h2⟩ => by rw [h];exact h2⟩
theorem Za.j1_i {k:Nat} {x11:ByteArray} {x15:List S119} {x78:Bool} {x910000:List S122} {x931000:List Int} {x931001:Int} {x931002:Int} {x931003:Int} {x931004:List Int} {r:_}:(Za.j1 k x11 x15 x78 x910000 x931000 x931001 x931002 x931003 x931004 = some r) = (∃ m,k = m + 1∧Za.j1 (m + 1) x11 x15 x78 x910000 x931000 x931001 x931002 x931003 x931004 = some r):=propext ⟨Za.j1_s,fun ⟨m,h,h2⟩ => by rw [h];exact h2⟩
theorem Za.con (E:En) (hE:E = E0) {k l0_0 l1_0 a1_1 a1_2 a1_3 l1_4 l1_5 a1_6 a2_0 l2_1 r1 r2 r3 r4 r5 r6 r7 r8 r9} (H:Za.f k l0_0 l1_0 a1_1 a1_2 a1_3 l1_4 l1_5 a1_6 a2_0 l2_1 = some (r1,r2,r3,r4,r5,r6,r7,r8,r9)) :
  Cn 40 [.agg [.c (.sl [.str,.str] (E.e122 l0_0))],.agg [.c (.sl [.int .i64] (E.eI .i64 l1_0)),.c (.int .i64 a1_1),.c (.int .i64 a1_2),.c (.int .i64 a1_3),.c (.sl [.int .i64] (E.eI .i64 l1_4)),.c (.sl [.str,.int .i64,.int .i64,.int .i64] (E.e145 l1_5)),.c (.int .i64 a1_6)],.agg [.c (.int .i64 a2_0),.c (.sl [.str,.str,.bool] (E.e162 l2_1))]] [] (.tup [.agg [.own 0,.c (.int .i64 r2),.c (.int .i64 r3),.c (.int .i64 r4),.own 1,.own 2,.c (.int .i64 r7)],.own 3,.c (.bool r9)]) [.row false 3 [.int .i64] (E.eI .i64 r1),.row false 3 [.int .i64] (E.eI .i64 r5),.row false 145 [.str,.int .i64,.int .i64,.int .i64] (E.e145 r6),.row false 119 [.int .i64,.str,.str,.str] (E.e119 r8)] []:=by
 refine co_ Tryz.func40 tabOk [400120,400124,400125,20007] fun F hF Q hQ => ?_
 simp only [Za.f] at H
 (conv => cbv)
 repeat' first
  | (rw [Za.j0_i] at H;obtain ⟨m,hm,H⟩:=H;simp only [Za.j0] at H;(try simp only [decide_eq_true_eq,Bool.false_eq_true,if_false,if_true] at H))
  | (rw [Za.j1_i] at H;obtain ⟨m,hm,H⟩:=H;simp only [Za.j1] at H;(try simp only [decide_eq_true_eq,Bool.false_eq_true,if_false,if_true] at H))
  | replace H:=s_ H
  | (exfalso;with_reducible assumption)
  | (rw [Z6] at H;obtain ⟨hc,H⟩:=H)
  | (rw [Z2] at H;obtain ⟨hc,H⟩:=H)
  | ((with_reducible refine br2 hF H ?_ ?_) <;> (clear H;intro hb H;(try (conv => cbv))))
  | (refine w_ hF ?_;(try (conv => cbv)))
  | ((with_reducible refine k1_ 60 H ?_);clear H;intro _ hy H;refine ca_ hF (Z12.con E hE hy) ?_;(try (conv => cbv)))
  | ((with_reducible refine k1_ 61 H ?_);clear H;intro _ hy H;refine ca_ hF (Z0a.con E hE hy) ?_;(try (conv => cbv)))
  | ((with_reducible refine k2_ 63 H ?_);clear H;intro _ _ hy H;refine ca_ hF (spec_Frame.con E hE hy) ?_;(try (conv => cbv)))
  | ((with_reducible refine k1_ 102 H ?_);clear H;intro _ hy H;refine ca_ hF (spec_l09Clean.con E hE hy) ?_;(try (conv => cbv)))
  | ((with_reducible refine k2_ 104 H ?_);clear H;intro _ _ hy H;refine ca_ hF (ZZ.con E hE hy) ?_;(try (conv => cbv)))
  | ((with_reducible refine k5_ 112 H ?_);clear H;intro _ _ _ _ _ hy H;refine ca_ hF (spec_l09CopyMan.con E hE hy) ?_;(try (conv => cbv)))
  | ((with_reducible refine k2_ 113 H ?_);clear H;intro _ _ hy H;refine ca_ hF (spec_l09NewMan.con E hE hy) ?_;(try (conv => cbv)))
  | ((with_reducible refine k8_ 114 H ?_);clear H;intro _ _ _ _ _ _ _ _ hy H;refine ca_ hF (spec_l09After.con E hE hy) ?_;(try (conv => cbv)))
  | ((with_reducible show Q _ _);exact en_ ⟨[6,7,8],[6],[(7,119)],[(6,0,3),(6,4,3),(6,5,145)]⟩ 116 hQ)
  | contradiction
theorem ZC.j0_s {k:Nat} {x6:List S147} {x19:Bool} {x630000:List S122} {x631000:List Int} {x631001:Int} {x631002:Int} {x631003:Int} {x631004:List Int} {x631005:List S145} {x631006:Int} {r:_} (h:ZC.j0 k x6 x19 x630000 x631000 x631001 x631002 x631003 x631004 x631005 x631006 = some r):∃ m,k = m + 1∧ZC.j0 (m + 1) x6 x19 x630000 x631000 x631001 x631002 x631003 x631004 x631005 x631006 = some r:=by
 cases k with
 | zero => simp [ZC.j0] at h
 | succ m => exact ⟨m,rfl,h⟩
theorem ZC.j0_i {k:Nat} {x6:List S147} {x19:Bool} {x630000:List S122} {x631000:List Int} {x631001:Int} {x631002:Int} {x631003:Int} {x631004:List Int} {x631005:List S145} {x631006:Int} {r:_}:(ZC.j0 k x6 x19 x630000 x631000 x631001 x631002 x631003 x631004 x631005 x631006 = some r) = (∃ m,k = m + 1∧ZC.j0 (m + 1) x6 x19 x630000 x631000 x631001 x631002 x631003 x631004 x631005 x631006 = some r):=propext ⟨ZC.j0_s,fun ⟨m,h,h2⟩ => by rw [h];exact h2⟩
theorem ZC.con (E:En) (hE:E = E0) {k l0_0 l1_0 a1_1 a1_2 a1_3 l1_4 l1_5 a1_6 r1 r2} (H:ZC.f k l0_0 l1_0 a1_1 a1_2 a1_3 l1_4 l1_5 a1_6 = some (r1,r2)) :
  Cn 30 [.agg [.c (.sl [.str,.str] (E.e122 l0_0))],.agg [.c (.sl [.int .i64] (E.eI .i64 l1_0)),.c (.int .i64 a1_1),.c (.int .i64 a1_2),.c (.int .i64 a1_3),.c (.sl [.int .i64] (E.eI .i64 l1_4)),.c (.sl [.str,.int .i64,.int .i64,.int .i64] (E.e145 l1_5)),.c (.int .i64 a1_6)]] [] (.tup [.own 0,.c (.bool r2)]) [.row false 147 [.str,.str] (E.e147 r1)] []:=by
 refine co_ Tryz.func30 tabOk [20004] fun F hF Q hQ => ?_
 simp only [ZC.f] at H
 (conv => cbv)
 repeat' first
  | (rw [ZC.j0_i] at H;obtain ⟨m,hm,H⟩:=H;simp only [ZC.j0] at H;(try simp only [decide_eq_true_eq,Bool.false_eq_true,if_false,if_true] at H))
  | replace H:=s_ H
  | (exfalso;with_reducible assumption)
  | (rw [Z6] at H;obtain ⟨hc,H⟩:=H)
  | (rw [Z2] at H;obtain ⟨hc,H⟩:=H)
  | ((with_reducible refine br2 hF H ?_ ?_) <;> (clear H;intro hb H;(try (conv => cbv))))
  | (refine w_ hF ?_;(try (conv => cbv)))
  | ((with_reducible refine k1_ 60 H ?_);clear H;intro _ hy H;refine ca_ hF (Z12.con E hE hy) ?_;(try (conv => cbv)))
  | ((with_reducible refine k1_ 61 H ?_);clear H;intro _ hy H;refine ca_ hF (Z0a.con E hE hy) ?_;(try (conv => cbv)))
  | ((with_reducible refine k1_ 95 H ?_);clear H;intro _ hy H;refine ca_ hF (ZR.con E hE hy) ?_;(try (conv => cbv)))
  | ((with_reducible refine k1_ 96 H ?_);clear H;intro _ hy H;refine ca_ hF (Z19.con E hE hy) ?_;(try (conv => cbv)))
  | ((with_reducible refine lo_ hF (fun n t => n≤k∧∃ x6 x7 v0 v1 v2 v3 v4 v5 v6 v7,t = At 63 [(2,.ptr 2 0),(3,.ptr 3 0),(6,.own 20006),(7,.c (.int .i64 x7))] [(2,.box [.c (.sl [.str,.str] (E.e122 v0))]),(3,.box [.c (.sl [.int .i64] (E.eI .i64 v1)),.c (.int .i64 v2),.c (.int .i64 v3),.c (.int .i64 v4),.c (.sl [.int .i64] (E.eI .i64 v5)),.c (.sl [.str,.int .i64,.int .i64,.int .i64] (E.e145 v6)),.c (.int .i64 v7)]),(20006,.row false 147 [.str,.str] (E.e147 x6))]∧ZC.l0 n x6 x7 v0 v1 v2 v3 v4 v5 v6 v7 = some (r1,r2)) ⟨[2,3,6,7],[2,3],[(6,147)],[]⟩ fun n0 t ht Q0 hN0 hX0 => ?_);obtain ⟨hl,_,_,_,_,_,_,_,_,_,_,rfl,H⟩:=ht;rcases n0 with _ | n0;cases H;simp only [ZC.l0] at H;(try (conv => cbv)))
  | ((with_reducible show Q0 _ _);first | exact nx_ hN0 | (refine xt_ hX0 ?_;(try (conv => cbv))))
  | ((with_reducible show Q _ _);exact en_ ⟨[4,5],[],[(4,147)],[]⟩ 63 hQ)
  | contradiction
theorem Z1c.con (E:En) (hE:E = E0) {k l0 r} (H:Z1c.f k l0 = some (r)) :
  Cn 115 [.c (.sl [.str,.str] (E.e147 l0))] [] (.c (.bool r)) [] []:=by
 refine co_ Tryz.func115 tabOk [] fun F hF Q hQ => ?_
 simp only [Z1c.f] at H
 (conv => cbv)
 repeat' first
  | replace H:=s_ H
  | (exfalso;with_reducible assumption)
  | (rw [Z6] at H;obtain ⟨hc,H⟩:=H)
  | (rw [Z2] at H;obtain ⟨hc,H⟩:=H)
  | ((with_reducible refine br2 hF H ?_ ?_) <;> (clear H;intro hb H;(try (conv => cbv))))
  | (refine w_ hF ?_;(try (conv => cbv)))
  | ((with_reducible refine k1_ 177 H ?_);clear H;intro _ hy H;refine ca_ hF (spec_l05Key.con E hE hy) ?_;(try (conv => cbv)))
  | ((with_reducible refine lo_ hF (fun n t => n≤k∧∃ x0 x3,t = At 47 [(0,.c (.sl [.str,.str] (E.e147 x0))),(3,.c (.int .i64 x3))] []∧Z1c.l0 n x0 x3 = some (r)) ⟨[0,3],[],[],[]⟩ fun n0 t ht Q0 hN0 hX0 => ?_);obtain ⟨hl,_,_,rfl,H⟩:=ht;rcases n0 with _ | n0;cases H;simp only [Z1c.l0] at H;(try (conv => cbv)))
  | ((with_reducible show Q0 _ _);first | exact nx_ hN0 | (refine xt_ hX0 ?_;(try (conv => cbv))))
  | ((with_reducible show Q _ _);exact en_ ⟨[2],[],[],[]⟩ 47 hQ)
  | contradiction
theorem Zx.j0_s {k:Nat} {x0:List S147} {x1:Int} {x15:Bool} {r:_} (h:Zx.j0 k x0 x1 x15 = some r):∃ m,k = m + 1∧Zx.j0 (m + 1) x0 x1 x15 = some r:=by
 cases k with
 | zero => simp [Zx.j0] at h
 | succ m => exact ⟨m,rfl,h⟩
theorem Zx.j0_i {k:Nat} {x0:List S147} {x1:Int} {x15:Bool} {r:_}:(Zx.j0 k x0 x1 x15 = some r) = (∃ m,k = m + 1∧Zx.j0 (m + 1) x0 x1 x15 = some r):=propext ⟨Zx.j0_s,fun ⟨m,h,h2⟩ => by rw [h];exact h2⟩
theorem Zx.con (E:En) (hE:E = E0) {k l0 a1 r1 r2 r3} (H:Zx.f k l0 a1 = some (r1,r2,r3)) :
  Cn 103 [.c (.sl [.str,.str] (E.e147 l0)),.c (.int .i64 a1)] [] (.tup [.agg [.c (.int .i64 r1),.own 0],.c (.bool r3)]) [.row false 162 [.str,.str,.bool] (E.e162 r2)] []:=by
 refine co_ Tryz.func103 tabOk [400081] fun F hF Q hQ => ?_
 simp only [Zx.f] at H
 (conv => cbv)
 repeat' first
  | (rw [Zx.j0_i] at H;obtain ⟨m,hm,H⟩:=H;simp only [Zx.j0] at H;(try simp only [decide_eq_true_eq,Bool.false_eq_true,if_false,if_true] at H))
  | replace H:=s_ H
  | (exfalso;with_reducible assumption)
  | (rw [Z6] at H;obtain ⟨hc,H⟩:=H)
  | (rw [Z2] at H;obtain ⟨hc,H⟩:=H)
  | ((with_reducible refine br2 hF H ?_ ?_) <;> (clear H;intro hb H;(try (conv => cbv))))
  | (refine w_ hF ?_;(try (conv => cbv)))
  | ((with_reducible refine k1_ 115 H ?_);clear H;intro _ hy H;refine ca_ hF (Z1c.con E hE hy) ?_;(try (conv => cbv)))
  | ((with_reducible refine k1_ 131 H ?_);clear H;intro _ hy H;refine ca_ hF (ZH.con E hE hy) ?_;(try (conv => cbv)))
  | ((with_reducible refine lo_ hF (fun n t => n≤k∧∃ x0 x7 v0 v1,t = At 42 [(0,.c (.sl [.str,.str] (E.e147 x0))),(4,.ptr 4 0),(6,.ptr 6 0),(7,.c (.int .i64 x7))] [(4,.box [.c (.int .i64 0),.own 400081]),(6,.box [.c (.int .i64 v0),.own 400121]),(400081,.row false 162 [.str,.str,.bool] []),(400121,.row false 162 [.str,.str,.bool] (E.e162 v1))]∧Zx.l0 n x0 x7 v0 v1 = some (r1,r2,r3)) ⟨[0,4,6,7],[4,6],[],[(4,1,162),(6,1,162)]⟩ fun n0 t ht Q0 hN0 hX0 => ?_);obtain ⟨hl,_,_,_,_,rfl,H⟩:=ht;rcases n0 with _ | n0;cases H;simp only [Zx.l0] at H;(try (conv => cbv)))
  | ((with_reducible show Q0 _ _);first | exact nx_ hN0 | (refine xt_ hX0 ?_;(try (conv => cbv))))
  | ((with_reducible show Q _ _);exact en_ ⟨[4,5],[4],[],[(4,1,162)]⟩ 42 hQ)
  | contradiction
theorem ZQ.j0_s {k:Nat} {x2:ByteArray} {x15:ByteArray} {x17:List S119} {x51:Bool} {x798000:List S122} {x799000:List Int} {x799001:Int} {x799002:Int} {x799003:Int} {x799004:List Int} {x799005:List S145} {x799006:Int} {r:_} (h:ZQ.j0 k x2 x15 x17 x51 x798000 x799000 x799001 x799002 x799003 x799004 x799005 x799006 = some r):∃ m,k = m + 1∧ZQ.j0 (m + 1) x2 x15 x17 x51 x798000 x799000 x799001 x799002 x799003 x799004 x799005 x799006 = some r:=by
 cases k with
 | zero => simp [ZQ.j0] at h
 | succ m => exact ⟨m,rfl,h⟩
theorem ZQ.j0_i {k:Nat} {x2:ByteArray} {x15:ByteArray} {x17:List S119} {x51:Bool} {x798000:List S122} {x799000:List Int} {x799001:Int} {x799002:Int} {x799003:Int} {x799004:List Int} {x799005:List S145} {x799006:Int} {r:_}:(ZQ.j0 k x2 x15 x17 x51 x798000 x799000 x799001 x799002 x799003 x799004 x799005 x799006 = some r) = (∃ m,k = m + 1∧ZQ.j0 (m + 1) x2 x15 x17 x51 x798000 x799000 x799001 x799002 x799003 x799004 x799005 x799006 = some r):=propext ⟨ZQ.j0_s,fun ⟨m,h,h2⟩ => by rw [h];exact h2⟩
theorem ZQ.con (E:En) (hE:E = E0) {k l0_0 l1_0 a1_1 a1_2 a1_3 l1_4 l1_5 a1_6 a2 a3 a4 l5 r1 r2 r3 r4 r5 r6 r7 r8 r9} (H:ZQ.f k l0_0 l1_0 a1_1 a1_2 a1_3 l1_4 l1_5 a1_6 a2 a3 a4 l5 = some (r1,r2,r3,r4,r5,r6,r7,r8,r9)) :
  Cn 105 [.agg [.c (.sl [.str,.str] (E.e122 l0_0))],.agg [.c (.sl [.int .i64] (E.eI .i64 l1_0)),.c (.int .i64 a1_1),.c (.int .i64 a1_2),.c (.int .i64 a1_3),.c (.sl [.int .i64] (E.eI .i64 l1_4)),.c (.sl [.str,.int .i64,.int .i64,.int .i64] (E.e145 l1_5)),.c (.int .i64 a1_6)],.c (.str a2),.c (.int .i64 a3),.c (.int .i64 a4),.c (.sl [.int .i64] (E.eI .i64 l5))] [] (.tup [.agg [.own 0,.c (.int .i64 r2),.c (.int .i64 r3),.c (.int .i64 r4),.own 1,.own 2,.c (.int .i64 r7)],.own 3,.c (.bool r9)]) [.row false 3 [.int .i64] (E.eI .i64 r1),.row false 3 [.int .i64] (E.eI .i64 r5),.row false 145 [.str,.int .i64,.int .i64,.int .i64] (E.e145 r6),.row false 119 [.int .i64,.str,.str,.str] (E.e119 r8)] []:=by
 refine co_ Tryz.func105 tabOk [400240,400244,400245,20013] fun F hF Q hQ => ?_
 simp only [ZQ.f] at H
 (conv => cbv)
 repeat' first
  | (rw [ZQ.j0_i] at H;obtain ⟨m,hm,H⟩:=H;simp only [ZQ.j0] at H;(try simp only [decide_eq_true_eq,Bool.false_eq_true,if_false,if_true] at H))
  | replace H:=s_ H
  | (exfalso;with_reducible assumption)
  | (rw [Z6] at H;obtain ⟨hc,H⟩:=H)
  | (rw [Z2] at H;obtain ⟨hc,H⟩:=H)
  | ((with_reducible refine br2 hF H ?_ ?_) <;> (clear H;intro hb H;(try (conv => cbv))))
  | (refine w_ hF ?_;(try (conv => cbv)))
  | ((with_reducible refine k1_ 61 H ?_);clear H;intro _ hy H;refine ca_ hF (Z0a.con E hE hy) ?_;(try (conv => cbv)))
  | ((with_reducible refine k2_ 113 H ?_);clear H;intro _ _ hy H;refine ca_ hF (spec_l09NewMan.con E hE hy) ?_;(try (conv => cbv)))
  | ((with_reducible refine k8_ 114 H ?_);clear H;intro _ _ _ _ _ _ _ _ hy H;refine ca_ hF (spec_l09After.con E hE hy) ?_;(try (conv => cbv)))
  | ((with_reducible refine lo_ hF (fun n t => n≤k∧∃ x19 x20 v0 v1 v2 v3 v4 v5 v6 v7,t = At 91 [(6,.ptr 6 0),(7,.ptr 7 0),(12,.ptr 12 0),(19,.own 20019),(20,.c (.int .i64 x20))] [(6,.box [.c (.sl [.str,.str] (E.e122 v0))]),(7,.box [.c (.sl [.int .i64] (E.eI .i64 v1)),.c (.int .i64 v2),.c (.int .i64 v3),.c (.int .i64 v4),.c (.sl [.int .i64] (E.eI .i64 v5)),.c (.sl [.str,.int .i64,.int .i64,.int .i64] (E.e145 v6)),.c (.int .i64 v7)]),(12,.box [.own 400240,.c (.int .i64 0),.c (.int .i64 0),.c (.int .i64 0),.own 400244,.own 400245,.c (.int .i64 0)]),(20019,.row false 119 [.int .i64,.str,.str,.str] (E.e119 x19)),(400240,.row false 3 [.int .i64] []),(400244,.row false 3 [.int .i64] []),(400245,.row false 145 [.str,.int .i64,.int .i64,.int .i64] [])]∧ZQ.l0 n x19 x20 v0 v1 v2 v3 v4 v5 v6 v7 = some (r1,r2,r3,r4,r5,r6,r7,r8,r9)) ⟨[6,7,12,19,20],[6,7,12],[(19,119)],[(12,0,3),(12,4,3),(12,5,145)]⟩ fun n0 t ht Q0 hN0 hX0 => ?_);obtain ⟨hl,_,_,_,_,_,_,_,_,_,_,rfl,H⟩:=ht;rcases n0 with _ | n0;cases H;simp only [ZQ.l0] at H;(try (conv => cbv)))
  | ((with_reducible show Q0 _ _);first | exact nx_ hN0 | (refine xt_ hX0 ?_;(try (conv => cbv))))
  | ((with_reducible show Q _ _);exact en_ ⟨[12,13,14],[12],[(13,119)],[(12,0,3),(12,4,3),(12,5,145)]⟩ 91 hQ)
  | contradiction
end Go.Ev
