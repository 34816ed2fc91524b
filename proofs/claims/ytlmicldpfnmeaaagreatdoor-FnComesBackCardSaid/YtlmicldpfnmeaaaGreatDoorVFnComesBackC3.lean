/- Contracts of the Go functions that this law reaches: what each call returns, by its plain function. No conditions but those that each statement names. By this repo's programs; comments are taken out. -/
import Derived.Test.YtlmicldpfnmeaaaGreatDoorVFnComesBackD
import Derived.Test.YtlmicldpfnmeaaaGreatDoorVFnComesBackC0
import Derived.Test.YtlmicldpfnmeaaaGreatDoorVFnComesBackC2
set_option linter.all false
namespace Go.Ev
open Go.RowKit Go.Proofs Go.Proofs.YtlmicldpfnmeaaaGreatDoorW.PrintWords Go.Proofs.YtlmicldpfnmeaaaGreatDoorW.PrintLast Go.Proofs.YtlmicldpfnmeaaaGreatDoorW.PrintMore
set_option maxRecDepth 100000
set_option maxHeartbeats 4000000
theorem ZQ.j1_s {k:Nat} {x0:ByteArray} {x4:List ByteArray} {x5:Int} {x6:Int} {x7:Int} {x38:Bool} {r:_} (h:ZQ.j1 k x0 x4 x5 x6 x7 x38 = some r):∃ m,k = m + 1∧ZQ.j1 (m + 1) x0 x4 x5 x6 x7 x38 = some r:=by
 cases k with
 | zero => simp [ZQ.j1] at h
 | succ m => exact ⟨m,rfl,h⟩
theorem ZQ.j1_i {k:Nat} {x0:ByteArray} {x4:List ByteArray} {x5:Int} {x6:Int} {x7:Int} {x38:Bool} {r:_}:(ZQ.j1 k x0 x4 x5 x6 x7 x38 = some r) = (∃ m,k = m + 1∧ZQ.j1 (m + 1) x0 x4 x5 x6 x7 x38 = some r):=propext ⟨ZQ.j1_s,fun ⟨m,h,h2⟩ => by rw [h];exact h2⟩
theorem ZQ.con (E:En) (hE:E = E0) {k a0 r1 r2} (H:ZQ.f k a0 = some (r1,r2)) :
  Cn 59 [.c (.str a0)] [] (.tup [.own 0,.c (.int .i64 r2)]) [.row false 9 [.str] (E.eS r1)] []:=by
 refine co_ Tryz.func59 tabOk [20002] fun F hF Q hQ => ?_
 simp only [ZQ.f] at H
 (conv => cbv)
 repeat' first
  | (rw [ZQ.j1_i] at H;obtain ⟨m,hm,H⟩:=H;simp only [ZQ.j1] at H;(try simp only [decide_eq_true_eq,Bool.false_eq_true,if_false,if_true] at H))
  | replace H:=s_ H
  | (exfalso;with_reducible assumption)
  | (rw [Z7] at H;obtain ⟨hc,H⟩:=H)
  | (rw [Z2] at H;obtain ⟨hc,H⟩:=H)
  | ((with_reducible refine br2 hF H ?_ ?_) <;> (clear H;intro hb H;(try (conv => cbv))))
  | (refine w_ hF ?_;(try (conv => cbv)))
  | ((with_reducible refine k2_ 63 H ?_);clear H;intro _ _ hy H;refine ca_ hF (Z1O.con E hE hy) ?_;(try (conv => cbv)))
  | ((with_reducible refine k3_ 130 H ?_);clear H;intro _ _ _ hy H;refine ca_ hF (ZA.con E hE hy) ?_;(try (conv => cbv)))
  | ((with_reducible refine lo_ hF (fun n t => n≤k∧∃ x0 x4 x5,t = At 79 [(0,.c (.str x0)),(4,.own 20004),(5,.c (.int .i64 x5))] [(20004,.row false 9 [.str] (E.eS x4))]∧ZQ.l0 n x0 x4 x5 = some (r1,r2)) ⟨[0,4,5],[],[(4,9)],[]⟩ fun n0 t ht Q0 hN0 hX0 => ?_);obtain ⟨hl,_,_,_,rfl,H⟩:=ht;rcases n0 with _ | n0;cases H;simp only [ZQ.l0] at H;(try (conv => cbv)))
  | ((with_reducible show Q0 _ _);first | exact nx_ hN0 | (refine xt_ hX0 ?_;(try (conv => cbv))))
  | ((with_reducible show Q _ _);exact en_ ⟨[2,3],[],[(2,9)],[]⟩ 79 hQ)
  | contradiction
theorem Z2A.con (E:En) (hE:E = E0) {s0_0 s0_1 s0_2 a1 r1 r2 r3 r4} (H:Z2A.f s0_0 s0_1 s0_2 a1 = some (r1,r2,r3,r4)) :
  Cn 135 [.ptr 10000 0,.c (.int .i64 a1)] [.box [.c (.str s0_0),.c (.int .i64 s0_1),.c (.bool s0_2)]] (.c (.str r1)) [] [.box [.c (.str r2),.c (.int .i64 r3),.c (.bool r4)]]:=by
 refine co_ Tryz.func135 tabOk [] fun F hF Q hQ => ?_
 simp only [Z2A.f] at H
 (conv => cbv)
 repeat' first
  | replace H:=s_ H
  | (exfalso;with_reducible assumption)
  | (rw [Z7] at H;obtain ⟨hc,H⟩:=H)
  | (rw [Z2] at H;obtain ⟨hc,H⟩:=H)
  | ((with_reducible refine br2 hF H ?_ ?_) <;> (clear H;intro hb H;(try (conv => cbv))))
  | (refine w_ hF ?_;(try (conv => cbv)))
  | ((with_reducible show Q _ _);exact en_ ⟨[4],[],[],[]⟩ 50 hQ)
  | contradiction
theorem Z1y.con (E:En) (hE:E = E0) {k s0_0 s0_1 s0_2 r1 r2 r3 r4} (H:Z1y.f k s0_0 s0_1 s0_2 = some (r1,r2,r3,r4)) :
  Cn 134 [.ptr 10000 0] [.box [.c (.str s0_0),.c (.int .i64 s0_1),.c (.bool s0_2)]] (.c (.str r1)) [] [.box [.c (.str r2),.c (.int .i64 r3),.c (.bool r4)]]:=by
 refine co_ Tryz.func134 tabOk [] fun F hF Q hQ => ?_
 simp only [Z1y.f] at H
 (conv => cbv)
 repeat' first
  | replace H:=s_ H
  | (exfalso;with_reducible assumption)
  | (rw [Z7] at H;obtain ⟨hc,H⟩:=H)
  | (rw [Z2] at H;obtain ⟨hc,H⟩:=H)
  | ((with_reducible refine br2 hF H ?_ ?_) <;> (clear H;intro hb H;(try (conv => cbv))))
  | (refine w_ hF ?_;(try (conv => cbv)))
  | ((with_reducible refine k4_ 133 H ?_);clear H;intro _ _ _ _ hy H;refine ca_ hF (Z11.con E hE hy) ?_;(try (conv => cbv)))
  | ((with_reducible refine k4_ 135 H ?_);clear H;intro _ _ _ _ hy H;refine ca_ hF (Z2A.con E hE hy) ?_;(try (conv => cbv)))
  | ((with_reducible show Q _ _);exact en_ ⟨[2],[],[],[]⟩ 9 hQ)
  | contradiction
theorem Z2n.con (E:En) (hE:E = E0) {a0 r} (H:Z2n.f a0 = some (r)) :
  Cn 177 [.c (.str a0)] [] (.c (.bool r)) [] []:=by
 refine co_ Tryz.func177 tabOk [] fun F hF Q hQ => ?_
 simp only [Z2n.f] at H
 (conv => cbv)
 repeat' first
  | replace H:=s_ H
  | (exfalso;with_reducible assumption)
  | (rw [Z7] at H;obtain ⟨hc,H⟩:=H)
  | (rw [Z2] at H;obtain ⟨hc,H⟩:=H)
  | ((with_reducible refine br2 hF H ?_ ?_) <;> (clear H;intro hb H;(try (conv => cbv))))
  | (refine w_ hF ?_;(try (conv => cbv)))
  | ((with_reducible refine k1_ 131 H ?_);clear H;intro _ hy H;refine ca_ hF (ZD.con E hE hy) ?_;(try (conv => cbv)))
  | ((with_reducible show Q _ _);exact en_ ⟨[2],[],[],[]⟩ 6 hQ)
  | contradiction
theorem Zq.j0_s {k:Nat} {x14:Bool} {x427000:Int} {x427001:List S162} {r:_} (h:Zq.j0 k x14 x427000 x427001 = some r):∃ m,k = m + 1∧Zq.j0 (m + 1) x14 x427000 x427001 = some r:=by
 cases k with
 | zero => simp [Zq.j0] at h
 | succ m => exact ⟨m,rfl,h⟩
theorem Zq.j0_i {k:Nat} {x14:Bool} {x427000:Int} {x427001:List S162} {r:_}:(Zq.j0 k x14 x427000 x427001 = some r) = (∃ m,k = m + 1∧Zq.j0 (m + 1) x14 x427000 x427001 = some r):=propext ⟨Zq.j0_s,fun ⟨m,h,h2⟩ => by rw [h];exact h2⟩
theorem Zq.con (E:En) (hE:E = E0) {k a0_0 l0_1 r} (H:Zq.f k a0_0 l0_1 = some (r)) :
  Cn 116 [.agg [.c (.int .i64 a0_0),.c (.sl [.str,.str,.bool] (E.e162 l0_1))]] [] (.c (.bool r)) [] []:=by
 refine co_ Tryz.func116 tabOk [] fun F hF Q hQ => ?_
 simp only [Zq.f] at H
 (conv => cbv)
 repeat' first
  | (rw [Zq.j0_i] at H;obtain ⟨m,hm,H⟩:=H;simp only [Zq.j0] at H;(try simp only [decide_eq_true_eq,Bool.false_eq_true,if_false,if_true] at H))
  | replace H:=s_ H
  | (exfalso;with_reducible assumption)
  | (rw [Z7] at H;obtain ⟨hc,H⟩:=H)
  | (rw [Z2] at H;obtain ⟨hc,H⟩:=H)
  | ((with_reducible refine br2 hF H ?_ ?_) <;> (clear H;intro hb H;(try (conv => cbv))))
  | (refine w_ hF ?_;(try (conv => cbv)))
  | ((with_reducible refine k1_ 131 H ?_);clear H;intro _ hy H;refine ca_ hF (ZD.con E hE hy) ?_;(try (conv => cbv)))
  | ((with_reducible refine k1_ 177 H ?_);clear H;intro _ hy H;refine ca_ hF (Z2n.con E hE hy) ?_;(try (conv => cbv)))
  | ((with_reducible refine lo_ hF (fun n t => n≤k∧∃ x3 v0 v1,t = At 62 [(1,.ptr 1 0),(3,.c (.int .i64 x3))] [(1,.box [.c (.int .i64 v0),.c (.sl [.str,.str,.bool] (E.e162 v1))])]∧Zq.l0 n x3 v0 v1 = some (r)) ⟨[1,3],[1],[],[]⟩ fun n0 t ht Q0 hN0 hX0 => ?_);obtain ⟨hl,_,_,_,rfl,H⟩:=ht;rcases n0 with _ | n0;cases H;simp only [Zq.l0] at H;(try (conv => cbv)))
  | ((with_reducible show Q0 _ _);first | exact nx_ hN0 | (refine xt_ hX0 ?_;(try (conv => cbv))))
  | ((with_reducible show Q _ _);exact en_ ⟨[2],[],[],[]⟩ 62 hQ)
  | contradiction
theorem Z1D.con (E:En) (hE:E = E0) {k a0 r} (H:Z1D.f k a0 = some (r)) :
  Cn 185 [.c (.str a0)] [] (.c (.str r)) [] []:=by
 refine co_ Tryz.func185 tabOk [] fun F hF Q hQ => ?_
 simp only [Z1D.f] at H
 (conv => cbv)
 repeat' first
  | replace H:=s_ H
  | (exfalso;with_reducible assumption)
  | (rw [Z7] at H;obtain ⟨hc,H⟩:=H)
  | (rw [Z2] at H;obtain ⟨hc,H⟩:=H)
  | ((with_reducible refine br2 hF H ?_ ?_) <;> (clear H;intro hb H;(try (conv => cbv))))
  | (refine w_ hF ?_;(try (conv => cbv)))
  | ((with_reducible refine k1_ 136 H ?_);clear H;intro _ hy H;refine ca_ hF (ZP.con E hE hy) ?_;(try (conv => cbv)))
  | ((with_reducible show Q _ _);exact en_ ⟨[2],[],[],[]⟩ 8 hQ)
  | contradiction
theorem Z06.con (E:En) (hE:E = E0) {k a0_0 l0_1 r1 r2} (H:Z06.f k a0_0 l0_1 = some (r1,r2)) :
  Cn 104 [.agg [.c (.int .i64 a0_0),.c (.sl [.str,.str,.bool] (E.e162 l0_1))]] [] (.tup [.c (.str r1),.c (.bool r2)]) [] []:=by
 refine co_ Tryz.func104 tabOk [] fun F hF Q hQ => ?_
 simp only [Z06.f] at H
 (conv => cbv)
 repeat' first
  | replace H:=s_ H
  | (exfalso;with_reducible assumption)
  | (rw [Z7] at H;obtain ⟨hc,H⟩:=H)
  | (rw [Z2] at H;obtain ⟨hc,H⟩:=H)
  | ((with_reducible refine br2 hF H ?_ ?_) <;> (clear H;intro hb H;(try (conv => cbv))))
  | (refine w_ hF ?_;(try (conv => cbv)))
  | ((with_reducible refine k1_ 116 H ?_);clear H;intro _ hy H;refine ca_ hF (Zq.con E hE hy) ?_;(try (conv => cbv)))
  | ((with_reducible refine k1_ 136 H ?_);clear H;intro _ hy H;refine ca_ hF (ZP.con E hE hy) ?_;(try (conv => cbv)))
  | ((with_reducible refine k1_ 185 H ?_);clear H;intro _ hy H;refine ca_ hF (Z1D.con E hE hy) ?_;(try (conv => cbv)))
  | ((with_reducible refine lo_ hF (fun n t => n≤k∧∃ x4 x5 v0 v1,t = At 51 [(1,.ptr 1 0),(4,.c (.str x4)),(5,.c (.int .i64 x5))] [(1,.box [.c (.int .i64 v0),.c (.sl [.str,.str,.bool] (E.e162 v1))])]∧Z06.l0 n x4 x5 v0 v1 = some (r1,r2)) ⟨[1,4,5],[1],[],[]⟩ fun n0 t ht Q0 hN0 hX0 => ?_);obtain ⟨hl,_,_,_,_,rfl,H⟩:=ht;rcases n0 with _ | n0;cases H;simp only [Z06.l0] at H;(try (conv => cbv)))
  | ((with_reducible show Q0 _ _);first | exact nx_ hN0 | (refine xt_ hX0 ?_;(try (conv => cbv))))
  | ((with_reducible show Q _ _);exact en_ ⟨[2,3],[],[],[]⟩ 51 hQ)
  | contradiction
theorem Zc.j1_s {k:Nat} {x0:ByteArray} {x6:Int} {x7:Int} {x29:Bool} {x456000:ByteArray} {x456001:Int} {x456002:Bool} {x457000:Int} {x457001:List S162} {r:_} (h:Zc.j1 k x0 x6 x7 x29 x456000 x456001 x456002 x457000 x457001 = some r):∃ m,k = m + 1∧Zc.j1 (m + 1) x0 x6 x7 x29 x456000 x456001 x456002 x457000 x457001 = some r:=by
 cases k with
 | zero => simp [Zc.j1] at h
 | succ m => exact ⟨m,rfl,h⟩
theorem Zc.j1_i {k:Nat} {x0:ByteArray} {x6:Int} {x7:Int} {x29:Bool} {x456000:ByteArray} {x456001:Int} {x456002:Bool} {x457000:Int} {x457001:List S162} {r:_}:(Zc.j1 k x0 x6 x7 x29 x456000 x456001 x456002 x457000 x457001 = some r) = (∃ m,k = m + 1∧Zc.j1 (m + 1) x0 x6 x7 x29 x456000 x456001 x456002 x457000 x457001 = some r):=propext ⟨Zc.j1_s,fun ⟨m,h,h2⟩ => by rw [h];exact h2⟩
theorem Zc.con (E:En) (hE:E = E0) {k a0 r1 r2 r3} (H:Zc.f k a0 = some (r1,r2,r3)) :
  Cn 62 [.c (.str a0)] [] (.tup [.agg [.c (.int .i64 r1),.own 0],.c (.bool r3)]) [.row false 162 [.str,.str,.bool] (E.e162 r2)] []:=by
 refine co_ Tryz.func62 tabOk [400041] fun F hF Q hQ => ?_
 simp only [Zc.f] at H
 (conv => cbv)
 repeat' first
  | (rw [Zc.j1_i] at H;obtain ⟨m,hm,H⟩:=H;simp only [Zc.j1] at H;(try simp only [decide_eq_true_eq,Bool.false_eq_true,if_false,if_true] at H))
  | replace H:=s_ H
  | (exfalso;with_reducible assumption)
  | (rw [Z7] at H;obtain ⟨hc,H⟩:=H)
  | (rw [Z2] at H;obtain ⟨hc,H⟩:=H)
  | ((with_reducible refine br2 hF H ?_ ?_) <;> (clear H;intro hb H;(try (conv => cbv))))
  | (refine w_ hF ?_;(try (conv => cbv)))
  | ((with_reducible refine k2_ 104 H ?_);clear H;intro _ _ hy H;refine ca_ hF (Z06.con E hE hy) ?_;(try (conv => cbv)))
  | ((with_reducible refine k4_ 133 H ?_);clear H;intro _ _ _ _ hy H;refine ca_ hF (Z11.con E hE hy) ?_;(try (conv => cbv)))
  | ((with_reducible refine k4_ 134 H ?_);clear H;intro _ _ _ _ hy H;refine ca_ hF (Z1y.con E hE hy) ?_;(try (conv => cbv)))
  | ((with_reducible refine k4_ 135 H ?_);clear H;intro _ _ _ _ hy H;refine ca_ hF (Z2A.con E hE hy) ?_;(try (conv => cbv)))
  | ((with_reducible refine lo_ hF (fun n t => n≤k∧∃ x0 x6 x7 v0 v1 v2 v3 v4,t = At 69 [(0,.c (.str x0)),(2,.ptr 2 0),(4,.ptr 13 0),(5,.ptr 5 0),(6,.c (.int .i64 x6)),(7,.c (.int .i64 x7)),(13,.ptr 13 0)] [(2,.box [.c (.int .i64 0),.own 400041]),(13,.box [.c (.str v0),.c (.int .i64 v1),.c (.bool v2)]),(5,.box [.c (.int .i64 v3),.own 400101]),(400041,.row false 162 [.str,.str,.bool] []),(400101,.row false 162 [.str,.str,.bool] (E.e162 v4))]∧Zc.l0 n x0 x6 x7 v0 v1 v2 v3 v4 = some (r1,r2,r3)) ⟨[0,2,4,5,6,7,13],[2,13,5],[],[(2,1,162),(5,1,162)]⟩ fun n0 t ht Q0 hN0 hX0 => ?_);obtain ⟨hl,_,_,_,_,_,_,_,_,rfl,H⟩:=ht;rcases n0 with _ | n0;cases H;simp only [Zc.l0] at H;(try (conv => cbv)))
  | ((with_reducible show Q0 _ _);first | exact nx_ hN0 | (refine xt_ hX0 ?_;(try (conv => cbv))))
  | ((with_reducible show Q _ _);exact en_ ⟨[2,3],[2],[],[(2,1,162)]⟩ 69 hQ)
  | contradiction
end Go.Ev
