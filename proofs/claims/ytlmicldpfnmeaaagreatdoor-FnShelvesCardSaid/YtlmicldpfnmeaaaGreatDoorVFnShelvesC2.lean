/- Contracts of the Go functions that this law reaches: what each call returns, by its plain function. No conditions but those that each statement names. By this repo's programs; comments are taken out. -/
import Derived.Test.YtlmicldpfnmeaaaGreatDoorVFnShelvesD
import Derived.Test.YtlmicldpfnmeaaaGreatDoorVFnShelvesC0
import Derived.Test.YtlmicldpfnmeaaaGreatDoorVFnShelvesC1
set_option linter.all false
namespace Go.Ev
open Go.RowKit Go.Proofs Go.Proofs.YtlmicldpfnmeaaaGreatDoorW.PrintWords Go.Proofs.YtlmicldpfnmeaaaGreatDoorW.PrintLast Go.Proofs.YtlmicldpfnmeaaaGreatDoorW.PrintMore
set_option maxRecDepth 100000
set_option maxHeartbeats 4000000
theorem ZZ.con (E:En) (hE:E = E0) {k a0_0 l0_1 r1 r2} (H:ZZ.f k a0_0 l0_1 = some (r1,r2)) :
  Cn 104 [.agg [.c (.int .i64 a0_0),.c (.sl [.str,.str,.bool] (E.e162 l0_1))]] [] (.tup [.c (.str r1),.c (.bool r2)]) [] []:=by
 refine co_ Tryz.func104 tabOk [] fun F hF Q hQ => ?_
 simp only [ZZ.f] at H
 (conv => cbv)
 repeat' first
  | replace H:=s_ H
  | (exfalso;with_reducible assumption)
  | (rw [Z6] at H;obtain ⟨hc,H⟩:=H)
  | (rw [Z2] at H;obtain ⟨hc,H⟩:=H)
  | ((with_reducible refine br2 hF H ?_ ?_) <;> (clear H;intro hb H;(try (conv => cbv))))
  | (refine w_ hF ?_;(try (conv => cbv)))
  | ((with_reducible refine k1_ 116 H ?_);clear H;intro _ hy H;refine ca_ hF (Zp.con E hE hy) ?_;(try (conv => cbv)))
  | ((with_reducible refine k1_ 136 H ?_);clear H;intro _ hy H;refine ca_ hF (ZL.con E hE hy) ?_;(try (conv => cbv)))
  | ((with_reducible refine k1_ 185 H ?_);clear H;intro _ hy H;refine ca_ hF (spec_l05Short.con E hE hy) ?_;(try (conv => cbv)))
  | ((with_reducible refine lo_ hF (fun n t => n≤k∧∃ x4 x5 v0 v1,t = At 51 [(1,.ptr 1 0),(4,.c (.str x4)),(5,.c (.int .i64 x5))] [(1,.box [.c (.int .i64 v0),.c (.sl [.str,.str,.bool] (E.e162 v1))])]∧ZZ.l0 n x4 x5 v0 v1 = some (r1,r2)) ⟨[1,4,5],[1],[],[]⟩ fun n0 t ht Q0 hN0 hX0 => ?_);obtain ⟨hl,_,_,_,_,rfl,H⟩:=ht;rcases n0 with _ | n0;cases H;simp only [ZZ.l0] at H;(try (conv => cbv)))
  | ((with_reducible show Q0 _ _);first | exact nx_ hN0 | (refine xt_ hX0 ?_;(try (conv => cbv))))
  | ((with_reducible show Q _ _);exact en_ ⟨[2,3],[],[],[]⟩ 51 hQ)
  | contradiction
theorem Zb.j1_s {k:Nat} {x0:ByteArray} {x6:Int} {x7:Int} {x29:Bool} {x456000:ByteArray} {x456001:Int} {x456002:Bool} {x457000:Int} {x457001:List S162} {r:_} (h:Zb.j1 k x0 x6 x7 x29 x456000 x456001 x456002 x457000 x457001 = some r):∃ m,k = m + 1∧Zb.j1 (m + 1) x0 x6 x7 x29 x456000 x456001 x456002 x457000 x457001 = some r:=by
 cases k with
 | zero => simp [Zb.j1] at h
 | succ m => exact ⟨m,rfl,h⟩
theorem Zb.j1_i {k:Nat} {x0:ByteArray} {x6:Int} {x7:Int} {x29:Bool} {x456000:ByteArray} {x456001:Int} {x456002:Bool} {x457000:Int} {x457001:List S162} {r:_}:(Zb.j1 k x0 x6 x7 x29 x456000 x456001 x456002 x457000 x457001 = some r) = (∃ m,k = m + 1∧Zb.j1 (m + 1) x0 x6 x7 x29 x456000 x456001 x456002 x457000 x457001 = some r):=propext ⟨Zb.j1_s,fun ⟨m,h,h2⟩ => by rw [h];exact h2⟩
theorem Zb.con (E:En) (hE:E = E0) {k a0 r1 r2 r3} (H:Zb.f k a0 = some (r1,r2,r3)) :
  Cn 62 [.c (.str a0)] [] (.tup [.agg [.c (.int .i64 r1),.own 0],.c (.bool r3)]) [.row false 162 [.str,.str,.bool] (E.e162 r2)] []:=by
 refine co_ Tryz.func62 tabOk [400041] fun F hF Q hQ => ?_
 simp only [Zb.f] at H
 (conv => cbv)
 repeat' first
  | (rw [Zb.j1_i] at H;obtain ⟨m,hm,H⟩:=H;simp only [Zb.j1] at H;(try simp only [decide_eq_true_eq,Bool.false_eq_true,if_false,if_true] at H))
  | replace H:=s_ H
  | (exfalso;with_reducible assumption)
  | (rw [Z6] at H;obtain ⟨hc,H⟩:=H)
  | (rw [Z2] at H;obtain ⟨hc,H⟩:=H)
  | ((with_reducible refine br2 hF H ?_ ?_) <;> (clear H;intro hb H;(try (conv => cbv))))
  | (refine w_ hF ?_;(try (conv => cbv)))
  | ((with_reducible refine k2_ 104 H ?_);clear H;intro _ _ hy H;refine ca_ hF (ZZ.con E hE hy) ?_;(try (conv => cbv)))
  | ((with_reducible refine k4_ 133 H ?_);clear H;intro _ _ _ _ hy H;refine ca_ hF (Z0U.con E hE hy) ?_;(try (conv => cbv)))
  | ((with_reducible refine k4_ 134 H ?_);clear H;intro _ _ _ _ hy H;refine ca_ hF (spec_l05ReadShort.con E hE hy) ?_;(try (conv => cbv)))
  | ((with_reducible refine k4_ 135 H ?_);clear H;intro _ _ _ _ hy H;refine ca_ hF (spec_l05Take.con E hE hy) ?_;(try (conv => cbv)))
  | ((with_reducible refine lo_ hF (fun n t => n≤k∧∃ x0 x6 x7 v0 v1 v2 v3 v4,t = At 69 [(0,.c (.str x0)),(2,.ptr 2 0),(4,.ptr 13 0),(5,.ptr 5 0),(6,.c (.int .i64 x6)),(7,.c (.int .i64 x7)),(13,.ptr 13 0)] [(2,.box [.c (.int .i64 0),.own 400041]),(13,.box [.c (.str v0),.c (.int .i64 v1),.c (.bool v2)]),(5,.box [.c (.int .i64 v3),.own 400101]),(400041,.row false 162 [.str,.str,.bool] []),(400101,.row false 162 [.str,.str,.bool] (E.e162 v4))]∧Zb.l0 n x0 x6 x7 v0 v1 v2 v3 v4 = some (r1,r2,r3)) ⟨[0,2,4,5,6,7,13],[2,13,5],[],[(2,1,162),(5,1,162)]⟩ fun n0 t ht Q0 hN0 hX0 => ?_);obtain ⟨hl,_,_,_,_,_,_,_,_,rfl,H⟩:=ht;rcases n0 with _ | n0;cases H;simp only [Zb.l0] at H;(try (conv => cbv)))
  | ((with_reducible show Q0 _ _);first | exact nx_ hN0 | (refine xt_ hX0 ?_;(try (conv => cbv))))
  | ((with_reducible show Q _ _);exact en_ ⟨[2,3],[2],[],[(2,1,162)]⟩ 69 hQ)
  | contradiction
theorem ZV.con (E:En) (hE:E = E0) {k a0 a1 r1 r2 r3} (H:ZV.f k a0 a1 = some (r1,r2,r3)) :
  Cn 152 [.c (.str a0),.c (.int .i64 a1)] [] (.tup [.own 0,.own 1,.c (.int .i64 r3)]) [.row false 145 [.str,.int .i64,.int .i64,.int .i64] (E.e145 r1),.row false 9 [.str] (E.eS r2)] []:=by
 refine co_ Tryz.func152 tabOk [20004,20005] fun F hF Q hQ => ?_
 simp only [ZV.f] at H
 (conv => cbv)
 repeat' first
  | replace H:=s_ H
  | (exfalso;with_reducible assumption)
  | (rw [Z6] at H;obtain ⟨hc,H⟩:=H)
  | (rw [Z2] at H;obtain ⟨hc,H⟩:=H)
  | ((with_reducible refine br2 hF H ?_ ?_) <;> (clear H;intro hb H;(try (conv => cbv))))
  | (refine w_ hF ?_;(try (conv => cbv)))
  | ((with_reducible refine k2_ 59 H ?_);clear H;intro _ _ hy H;refine ca_ hF (ZN.con E hE hy) ?_;(try (conv => cbv)))
  | ((with_reducible refine k3_ 62 H ?_);clear H;intro _ _ _ hy H;refine ca_ hF (Zb.con E hE hy) ?_;(try (conv => cbv)))
  | ((with_reducible refine k2_ 63 H ?_);clear H;intro _ _ hy H;refine ca_ hF (spec_Frame.con E hE hy) ?_;(try (conv => cbv)))
  | ((with_reducible refine k1_ 136 H ?_);clear H;intro _ hy H;refine ca_ hF (ZL.con E hE hy) ?_;(try (conv => cbv)))
  | ((with_reducible refine k1_ 185 H ?_);clear H;intro _ hy H;refine ca_ hF (spec_l05Short.con E hE hy) ?_;(try (conv => cbv)))
  | ((with_reducible refine lo_ hF (fun n t => n≤k∧∃ x1 x7 x8 x9 x10 x12 x13,t = At 146 [(1,.c (.int .i64 x1)),(7,.own 20007),(8,.own 20008),(9,.c (.int .i64 x9)),(10,.c (.sl [.str] (E.eS x10))),(12,.c (.int .i64 x12)),(13,.c (.int .i64 x13))] [(20007,.row false 145 [.str,.int .i64,.int .i64,.int .i64] (E.e145 x7)),(20008,.row false 9 [.str] (E.eS x8))]∧ZV.l0 n x1 x7 x8 x9 x10 x12 x13 = some (r1,r2,r3)) ⟨[1,7,8,9,10,12,13],[],[(7,145),(8,9)],[]⟩ fun n0 t ht Q0 hN0 hX0 => ?_);obtain ⟨hl,_,_,_,_,_,_,_,rfl,H⟩:=ht;rcases n0 with _ | n0;cases H;simp only [ZV.l0] at H;(try (conv => cbv)))
  | ((with_reducible show Q0 _ _);first | exact nx_ hN0 | (refine xt_ hX0 ?_;(try (conv => cbv))))
  | ((with_reducible refine lo_ hF (fun n t => n≤n0∧∃ x1 x7 x8 x9 x10 x12 x13 x16 x18 x19 v0 v1,t = At 146 [(1,.c (.int .i64 x1)),(7,.own 20007),(8,.own 20008),(9,.c (.int .i64 x9)),(10,.c (.sl [.str] (E.eS x10))),(12,.c (.int .i64 x12)),(13,.c (.int .i64 x13)),(14,.ptr 14 0),(16,.c (.str x16)),(18,.c (.int .i64 x18)),(19,.c (.int .i64 x19))] [(14,.box [.c (.int .i64 v0),.c (.sl [.str,.str,.bool] (E.e162 v1))]),(20007,.row false 145 [.str,.int .i64,.int .i64,.int .i64] (E.e145 x7)),(20008,.row false 9 [.str] (E.eS x8))]∧ZV.l1 n x1 x7 x8 x9 x10 x12 x13 x16 x18 x19 v0 v1 = some (r1,r2,r3)) ⟨[1,7,8,9,10,12,13,14,16,18,19],[14],[(7,145),(8,9)],[]⟩ fun n1 t ht Q1 hN1 hX1 => ?_);obtain ⟨hl,_,_,_,_,_,_,_,_,_,_,_,_,rfl,H⟩:=ht;rcases n1 with _ | n1;cases H;simp only [ZV.l1] at H;(try (conv => cbv)))
  | ((with_reducible show Q1 _ _);first | exact nx_ hN1 | (refine xt_ hX1 ?_;(try (conv => cbv))))
  | ((with_reducible show Q _ _);exact en_ ⟨[4,5,6],[],[(4,145),(5,9)],[]⟩ 146 hQ)
  | contradiction
theorem Zd.j2_s {k:Nat} {x1:List S145} {x5:List S145} {x6:Int} {x8:List S145} {x532000:ByteArray} {x532001:Int} {x532002:Int} {x532003:Int} {r:_} (h:Zd.j2 k x1 x5 x6 x8 x532000 x532001 x532002 x532003 = some r):∃ m,k = m + 1∧Zd.j2 (m + 1) x1 x5 x6 x8 x532000 x532001 x532002 x532003 = some r:=by
 cases k with
 | zero => simp [Zd.j2] at h
 | succ m => exact ⟨m,rfl,h⟩
theorem Zd.j2_i {k:Nat} {x1:List S145} {x5:List S145} {x6:Int} {x8:List S145} {x532000:ByteArray} {x532001:Int} {x532002:Int} {x532003:Int} {r:_}:(Zd.j2 k x1 x5 x6 x8 x532000 x532001 x532002 x532003 = some r) = (∃ m,k = m + 1∧Zd.j2 (m + 1) x1 x5 x6 x8 x532000 x532001 x532002 x532003 = some r):=propext ⟨Zd.j2_s,fun ⟨m,h,h2⟩ => by rw [h];exact h2⟩
theorem Zd.con (E:En) (hE:E = E0) {k l0 l1 r} (H:Zd.f k l0 l1 = some (r)) :
  Cn 153 [.c (.sl [.str,.int .i64,.int .i64,.int .i64] (E.e145 l0)),.c (.sl [.str,.int .i64,.int .i64,.int .i64] (E.e145 l1))] [] (.own 0) [.row false 145 [.str,.int .i64,.int .i64,.int .i64] (E.e145 r)] []:=by
 refine co_ Tryz.func153 tabOk [20004] fun F hF Q hQ => ?_
 simp only [Zd.f] at H
 (conv => cbv)
 repeat' first
  | (rw [Zd.j2_i] at H;obtain ⟨m,hm,H⟩:=H;simp only [Zd.j2] at H;(try simp only [decide_eq_true_eq,Bool.false_eq_true,if_false,if_true] at H))
  | replace H:=s_ H
  | (exfalso;with_reducible assumption)
  | (rw [Z6] at H;obtain ⟨hc,H⟩:=H)
  | (rw [Z2] at H;obtain ⟨hc,H⟩:=H)
  | ((with_reducible refine br2 hF H ?_ ?_) <;> (clear H;intro hb H;(try (conv => cbv))))
  | (refine w_ hF ?_;(try (conv => cbv)))
  | ((with_reducible refine lo_ hF (fun n t => n≤k∧∃ x1 x5 x6,t = At 76 [(1,.c (.sl [.str,.int .i64,.int .i64,.int .i64] (E.e145 x1))),(5,.own 20005),(6,.c (.int .i64 x6))] [(20005,.row false 145 [.str,.int .i64,.int .i64,.int .i64] (E.e145 x5))]∧Zd.l0 n x1 x5 x6 = some (r)) ⟨[1,5,6],[],[(5,145)],[]⟩ fun n0 t ht Q0 hN0 hX0 => ?_);obtain ⟨hl,_,_,_,rfl,H⟩:=ht;rcases n0 with _ | n0;cases H;simp only [Zd.l0] at H;(try (conv => cbv)))
  | ((with_reducible show Q0 _ _);first | exact nx_ hN0 | (refine xt_ hX0 ?_;(try (conv => cbv))))
  | ((with_reducible refine lo_ hF (fun n t => n≤n0∧∃ x1 x5 x6 x8 x9 v0 v1 v2 v3,t = At 76 [(1,.c (.sl [.str,.int .i64,.int .i64,.int .i64] (E.e145 x1))),(5,.own 20005),(6,.c (.int .i64 x6)),(7,.ptr 7 0),(8,.own 20008),(9,.c (.int .i64 x9))] [(7,.box [.c (.str v0),.c (.int .i64 v1),.c (.int .i64 v2),.c (.int .i64 v3)]),(20005,.row false 145 [.str,.int .i64,.int .i64,.int .i64] (E.e145 x5)),(20008,.row false 145 [.str,.int .i64,.int .i64,.int .i64] (E.e145 x8))]∧Zd.l1 n x1 x5 x6 x8 x9 v0 v1 v2 v3 = some (r)) ⟨[1,5,6,7,8,9],[7],[(5,145),(8,145)],[]⟩ fun n1 t ht Q1 hN1 hX1 => ?_);obtain ⟨hl,_,_,_,_,_,_,_,_,_,rfl,H⟩:=ht;rcases n1 with _ | n1;cases H;simp only [Zd.l1] at H;(try (conv => cbv)))
  | ((with_reducible show Q1 _ _);first | exact nx_ hN1 | (refine xt_ hX1 ?_;(try (conv => cbv))))
  | ((with_reducible refine lo_ hF (fun n t => n≤n0∧∃ x1 x5 x6 x8 x10 v0 v1 v2 v3,t = At 76 [(1,.c (.sl [.str,.int .i64,.int .i64,.int .i64] (E.e145 x1))),(5,.own 20005),(6,.c (.int .i64 x6)),(7,.ptr 7 0),(8,.own 20008),(10,.c (.int .i64 x10))] [(7,.box [.c (.str v0),.c (.int .i64 v1),.c (.int .i64 v2),.c (.int .i64 v3)]),(20005,.row false 145 [.str,.int .i64,.int .i64,.int .i64] (E.e145 x5)),(20008,.row false 145 [.str,.int .i64,.int .i64,.int .i64] (E.e145 x8))]∧Zd.l2 n x1 x5 x6 x8 x10 v0 v1 v2 v3 = some (r)) ⟨[1,5,6,7,8,10],[7],[(5,145),(8,145)],[]⟩ fun n2 t ht Q2 hN2 hX2 => ?_);obtain ⟨hl,_,_,_,_,_,_,_,_,_,rfl,H⟩:=ht;rcases n2 with _ | n2;cases H;simp only [Zd.l2] at H;(try (conv => cbv)))
  | ((with_reducible show Q2 _ _);first | exact nx_ hN2 | (refine xt_ hX2 ?_;(try (conv => cbv))))
  | ((with_reducible show Q _ _);exact en_ ⟨[4],[],[(4,145)],[]⟩ 76 hQ)
  | contradiction
theorem Z19.con (E:En) (hE:E = E0) {k l0 r} (H:Z19.f k l0 = some (r)) :
  Cn 96 [.c (.sl [.str,.int .i64,.int .i64,.int .i64] (E.e145 l0))] [] (.c (.bool r)) [] []:=by
 refine co_ Tryz.func96 tabOk [] fun F hF Q hQ => ?_
 simp only [Z19.f] at H
 (conv => cbv)
 repeat' first
  | replace H:=s_ H
  | (exfalso;with_reducible assumption)
  | (rw [Z6] at H;obtain ⟨hc,H⟩:=H)
  | (rw [Z2] at H;obtain ⟨hc,H⟩:=H)
  | ((with_reducible refine br2 hF H ?_ ?_) <;> (clear H;intro hb H;(try (conv => cbv))))
  | (refine w_ hF ?_;(try (conv => cbv)))
  | ((with_reducible refine k1_ 131 H ?_);clear H;intro _ hy H;refine ca_ hF (ZH.con E hE hy) ?_;(try (conv => cbv)))
  | ((with_reducible refine k1_ 177 H ?_);clear H;intro _ hy H;refine ca_ hF (spec_l05Key.con E hE hy) ?_;(try (conv => cbv)))
  | ((with_reducible refine lo_ hF (fun n t => n≤k∧∃ x0 x3,t = At 55 [(0,.c (.sl [.str,.int .i64,.int .i64,.int .i64] (E.e145 x0))),(3,.c (.int .i64 x3))] []∧Z19.l0 n x0 x3 = some (r)) ⟨[0,3],[],[],[]⟩ fun n0 t ht Q0 hN0 hX0 => ?_);obtain ⟨hl,_,_,rfl,H⟩:=ht;rcases n0 with _ | n0;cases H;simp only [Z19.l0] at H;(try (conv => cbv)))
  | ((with_reducible show Q0 _ _);first | exact nx_ hN0 | (refine xt_ hX0 ?_;(try (conv => cbv))))
  | ((with_reducible show Q _ _);exact en_ ⟨[2],[],[],[]⟩ 55 hQ)
  | contradiction
end Go.Ev
