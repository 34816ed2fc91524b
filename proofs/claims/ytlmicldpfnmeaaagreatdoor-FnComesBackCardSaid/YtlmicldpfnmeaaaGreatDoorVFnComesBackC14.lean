/- Contracts of the Go functions that this law reaches: what each call returns, by its plain function. No conditions but those that each statement names. By this repo's programs; comments are taken out. -/
import Derived.Test.YtlmicldpfnmeaaaGreatDoorVFnComesBackD
import Derived.Test.YtlmicldpfnmeaaaGreatDoorVFnComesBackK
import Derived.Test.YtlmicldpfnmeaaaGreatDoorVFnComesBackC10
import Derived.Test.YtlmicldpfnmeaaaGreatDoorVFnComesBackC11
import Derived.Test.YtlmicldpfnmeaaaGreatDoorVFnComesBackC12
import Derived.Test.YtlmicldpfnmeaaaGreatDoorVFnComesBackC13
set_option linter.all false
namespace Go.Ev
open Go.RowKit Go.Proofs Go.Proofs.YtlmicldpfnmeaaaGreatDoorW.PrintWords Go.Proofs.YtlmicldpfnmeaaaGreatDoorW.PrintLast Go.Proofs.YtlmicldpfnmeaaaGreatDoorW.PrintMore
set_option maxRecDepth 100000
set_option maxHeartbeats 4000000
theorem Z1s.con (E:En) (hE:E = E0) {a0 r1 r2} (H:Z1s.f a0 = some (r1,r2)) :
  Cn 211 [.c (.str a0)] [] (.tup [.c (.int .i64 r1),.c (.bool r2)]) [] []:=by
 refine co_ Tryz.func211 Z0L [] fun F hF Q hQ => ?_
 simp only [Z1s.f] at H
 (conv => cbv)
 repeat' first
  | replace H:=s_ H
  | (exfalso;with_reducible assumption)
  | (rw [Z7] at H;obtain ⟨hc,H⟩:=H)
  | (rw [Z2] at H;obtain ⟨hc,H⟩:=H)
  | ((with_reducible refine br2 hF H ?_ ?_) <;> (clear H;intro hb H;(try (conv => cbv))))
  | (refine w_ hF ?_;(try (conv => cbv)))
  | ((with_reducible refine k2_ 227 H ?_);clear H;intro _ _ hy H;refine ca_ hF (strconv_Atoi.con E hE hy) ?_;(try (conv => cbv)))
  | ((with_reducible refine k1_ 145 H ?_);clear H;intro _ hy H;refine ca_ hF (impl_Decimal.con E hE hy) ?_;(try (conv => cbv)))
  | ((with_reducible refine k1_ 144 H ?_);clear H;intro _ hy H;refine ca_ hF (ZN.con E hE hy) ?_;(try (conv => cbv)))
  | ((with_reducible show Q _ _);exact en_ ⟨[2,3],[],[],[]⟩ 25 hQ)
  | contradiction
theorem Z2N.con (E:En) (hE:E = E0) {a0 r} (H:Z2N.f a0 = some r) :
  Cn 162 [.c (.str a0)] [] (.c (.bool r)) [] []:=by
 refine co_ Tryz.func162 Z0L [] fun F hF Q hQ => ?_
 simp only [Z2N.f] at H
 (conv => cbv)
 repeat' first
  | replace H:=s_ H
  | (exfalso;with_reducible assumption)
  | (rw [Z7] at H;obtain ⟨hc,H⟩:=H)
  | (rw [Z2] at H;obtain ⟨hc,H⟩:=H)
  | ((with_reducible refine br2 hF H ?_ ?_) <;> (clear H;intro hb H;(try (conv => cbv))))
  | (refine w_ hF ?_;(try (conv => cbv)))
  | ((with_reducible refine k2_ 210 H ?_);clear H;intro _ _ hy H;refine ca_ hF (Z1L.con E hE hy) ?_;(try (conv => cbv)))
  | ((with_reducible refine k2_ 211 H ?_);clear H;intro _ _ hy H;refine ca_ hF (Z1s.con E hE hy) ?_;(try (conv => cbv)))
  | ((with_reducible refine k1_ 69 H ?_);clear H;intro _ hy H;refine ca_ hF (Z0l.con E hE hy) ?_;(try (conv => cbv)))
  | ((with_reducible show Q _ _);exact en_ ⟨[2],[],[],[]⟩ 27 hQ)
  | contradiction
theorem Z2v.con (E:En) (hE:E = E0) {a0 s1_0 s1_1 r1 r2 r3} (H:Z2v.f a0 s1_0 s1_1 = some (r1,r2,r3)) :
  Cn 164 [.c (.int .i64 a0),.ptr 10000 0] [.box [.c (.str s1_0),.c (.str s1_1)]] (.c (.bool r1)) [] [.box [.c (.str r2),.c (.str r3)]]:=by
 refine co_ Tryz.func164 Z0L [] fun F hF Q hQ => ?_
 simp only [Z2v.f] at H
 (conv => cbv)
 repeat' first
  | replace H:=s_ H
  | (exfalso;with_reducible assumption)
  | (rw [Z7] at H;obtain ⟨hc,H⟩:=H)
  | (rw [Z2] at H;obtain ⟨hc,H⟩:=H)
  | ((with_reducible refine br2 hF H ?_ ?_) <;> (clear H;intro hb H;(try (conv => cbv))))
  | (refine w_ hF ?_;(try (conv => cbv)))
  | ((with_reducible refine k1_ 69 H ?_);clear H;intro _ hy H;refine ca_ hF (Z0l.con E hE hy) ?_;(try (conv => cbv)))
  | ((with_reducible show Q _ _);exact en_ ⟨[3],[],[],[]⟩ 9 hQ)
  | contradiction
theorem ZB.con (E:En) (hE:E = E0) {k l0 s1_0_0 s1_0_1 r1 r2 r3} (H:ZB.f k l0 s1_0_0 s1_0_1 = some (r1,r2,r3)) :
  Cn 212 [.c (.sl [.int .i64] (E.eI .i64 l0)),.clo 164 [.ptr 10000 0]] [.box [.c (.str s1_0_0),.c (.str s1_0_1)]] (.c (.int .i64 r1)) [] [.box [.c (.str r2),.c (.str r3)]]:=by
 refine co_ Tryz.func212 Z0L [] fun F hF Q hQ => ?_
 simp only [ZB.f] at H
 (conv => cbv)
 repeat' first
  | replace H:=s_ H
  | (exfalso;with_reducible assumption)
  | (rw [Z7] at H;obtain ⟨hc,H⟩:=H)
  | (rw [Z2] at H;obtain ⟨hc,H⟩:=H)
  | ((with_reducible refine br2 hF H ?_ ?_) <;> (clear H;intro hb H;(try (conv => cbv))))
  | (refine w_ hF ?_;(try (conv => cbv)))
  | ((with_reducible refine k3_ 164 H ?_);clear H;intro _ _ _ hy H;refine ca_ hF (Z2v.con E hE hy) ?_;(try (conv => cbv)))
  | ((with_reducible refine lo_ hF (fun n t => n≤k∧∃ x0 x7 x8 v0 v1,t = At 19 [(0,.c (.sl [.int .i64] (E.eI .i64 x0))),(1,.clo 164 [.ptr 10000 0]),(7,.c (.int .i64 x7)),(8,.c (.int .i64 x8))] [(10000,.box [.c (.str v0),.c (.str v1)])]∧ZB.l0 n x0 x7 x8 v0 v1 = some (r1,r2,r3)) ⟨[0,1,7,8],[],[],[]⟩ fun n0 t ht Q0 hN0 hX0 => ?_);obtain ⟨hl,_,_,_,_,_,rfl,H⟩:=ht;rcases n0 with _ | n0;cases H;simp only [ZB.l0] at H;(try (conv => cbv)))
  | ((with_reducible show Q0 _ _);first | exact nx_ hN0 | (refine xt_ hX0 ?_;(try (conv => cbv))))
  | ((with_reducible show Q _ _);exact en_ ⟨[4],[],[],[]⟩ 19 hQ)
  | contradiction
theorem Z0v.con (E:En) (hE:E = E0) {k l0 s1_0_0 s1_0_1 r1 r2 r3} (H:Z0v.f k l0 s1_0_0 s1_0_1 = some (r1,r2,r3)) :
  Cn 163 [.c (.sl [.int .i64] (E.eI .i64 l0)),.clo 164 [.ptr 10000 0]] [.box [.c (.str s1_0_0),.c (.str s1_0_1)]] (.c (.bool r1)) [] [.box [.c (.str r2),.c (.str r3)]]:=by
 refine co_ Tryz.func163 Z0L [] fun F hF Q hQ => ?_
 simp only [Z0v.f] at H
 (conv => cbv)
 repeat' first
  | replace H:=s_ H
  | (exfalso;with_reducible assumption)
  | (rw [Z7] at H;obtain ⟨hc,H⟩:=H)
  | (rw [Z2] at H;obtain ⟨hc,H⟩:=H)
  | ((with_reducible refine br2 hF H ?_ ?_) <;> (clear H;intro hb H;(try (conv => cbv))))
  | (refine w_ hF ?_;(try (conv => cbv)))
  | ((with_reducible refine k3_ 212 H ?_);clear H;intro _ _ _ hy H;refine ca_ hF (ZB.con E hE hy) ?_;(try (conv => cbv)))
  | ((with_reducible show Q _ _);exact en_ ⟨[4],[],[],[]⟩ 9 hQ)
  | contradiction
theorem Z0r.con (E:En) (hE:E = E0) {k l0_0 l1_0 a1_1 a1_2 a1_3 l1_4 r} (H:Z0r.f k l0_0 l1_0 a1_1 a1_2 a1_3 l1_4 = some r) :
  Cn 80 [.agg [.c (.sl [.str,.str] (E.e122 l0_0))],.agg [.c (.sl [.int .i64] (E.eI .i64 l1_0)),.c (.int .i64 a1_1),.c (.int .i64 a1_2),.c (.int .i64 a1_3),.c (.sl [.int .i64] (E.eI .i64 l1_4))]] [] (.own 0) [.row false 119 [.int .i64,.str,.str,.str] (E.e119 r)] []:=by
 refine co_ Tryz.func80 Z0L [20004] fun F hF Q hQ => ?_
 simp only [Z0r.f] at H
 (conv => cbv)
 repeat' first
  | replace H:=s_ H
  | (exfalso;with_reducible assumption)
  | (rw [Z7] at H;obtain ⟨hc,H⟩:=H)
  | (rw [Z2] at H;obtain ⟨hc,H⟩:=H)
  | ((with_reducible refine br2 hF H ?_ ?_) <;> (clear H;intro hb H;(try (conv => cbv))))
  | (refine w_ hF ?_;(try (conv => cbv)))
  | ((with_reducible refine k2_ 68 H ?_);clear H;intro _ _ hy H;refine ca_ hF (Z1g.con E hE hy) ?_;(try (conv => cbv)))
  | ((with_reducible refine k1_ 162 H ?_);clear H;intro _ hy H;refine ca_ hF (Z2N.con E hE hy) ?_;(try (conv => cbv)))
  | ((with_reducible refine k3_ 163 H ?_);clear H;intro _ _ _ hy H;refine ca_ hF (Z0v.con E hE hy) ?_;(try (conv => cbv)))
  | ((with_reducible refine lo_ hF (fun n t => n≤k∧∃ x5 x21 x22 x23 v0 v1 v2 v3 v4,t = At 45 [(3,.ptr 3 0),(5,.own 20005),(21,.c (.sl [.str,.str] (E.e122 x21))),(22,.c (.int .i64 x22)),(23,.c (.int .i64 x23))] [(3,.box [.c (.sl [.int .i64] (E.eI .i64 v0)),.c (.int .i64 v1),.c (.int .i64 v2),.c (.int .i64 v3),.c (.sl [.int .i64] (E.eI .i64 v4))]),(20005,.row false 119 [.int .i64,.str,.str,.str] (E.e119 x5))]∧Z0r.l0 n x5 x21 x22 x23 v0 v1 v2 v3 v4 = some r) ⟨[3,5,21,22,23],[3],[(5,119)],[]⟩ fun n0 t ht Q0 hN0 hX0 => ?_);obtain ⟨hl,_,_,_,_,_,_,_,_,_,rfl,H⟩:=ht;rcases n0 with _ | n0;cases H;simp only [Z0r.l0] at H;(try (conv => cbv)))
  | ((with_reducible show Q0 _ _);first | exact nx_ hN0 | (refine xt_ hX0 ?_;(try (conv => cbv))))
  | ((with_reducible show Q _ _);exact en_ ⟨[4],[],[(4,119)],[]⟩ 45 hQ)
  | contradiction
theorem ZR.j1_s {k:Nat} {x0:ByteArray} {x4:List ByteArray} {x5:Int} {x6:Int} {x7:Int} {x32:Bool} {r:_} (h:ZR.j1 k x0 x4 x5 x6 x7 x32 = some r):∃ m,k = m + 1∧ZR.j1 (m + 1) x0 x4 x5 x6 x7 x32 = some r:=by
 cases k with
 | zero => simp [ZR.j1] at h
 | succ m => exact ⟨m,rfl,h⟩
theorem ZR.j1_i {k:Nat} {x0:ByteArray} {x4:List ByteArray} {x5:Int} {x6:Int} {x7:Int} {x32:Bool} {r:_}:(ZR.j1 k x0 x4 x5 x6 x7 x32 = some r) = (∃ m,k = m + 1∧ZR.j1 (m + 1) x0 x4 x5 x6 x7 x32 = some r):=propext ⟨ZR.j1_s,fun ⟨m,h,h2⟩ => by rw [h];exact h2⟩
theorem ZR.con (E:En) (hE:E = E0) {k a0 r1 r2} (H:ZR.f k a0 = some (r1,r2)) :
  Cn 146 [.c (.str a0)] [] (.tup [.own 0,.c (.int .i64 r2)]) [.row false 9 [.str] (E.eS r1)] []:=by
 refine co_ Tryz.func146 tabOk [20002] fun F hF Q hQ => ?_
 simp only [ZR.f] at H
 (conv => cbv)
 repeat' first
  | (rw [ZR.j1_i] at H;obtain ⟨m,hm,H⟩:=H;simp only [ZR.j1] at H;(try simp only [decide_eq_true_eq,Bool.false_eq_true,if_false,if_true] at H))
  | replace H:=s_ H
  | (exfalso;with_reducible assumption)
  | (rw [Z7] at H;obtain ⟨hc,H⟩:=H)
  | (rw [Z2] at H;obtain ⟨hc,H⟩:=H)
  | ((with_reducible refine br2 hF H ?_ ?_) <;> (clear H;intro hb H;(try (conv => cbv))))
  | (refine w_ hF ?_;(try (conv => cbv)))
  | ((with_reducible refine k2_ 100 H ?_);clear H;intro _ _ hy H;refine ca_ hF (Z2X.con E hE hy) ?_;(try (conv => cbv)))
  | ((with_reducible refine k3_ 203 H ?_);clear H;intro _ _ _ hy H;refine ca_ hF (Zu.con E hE hy) ?_;(try (conv => cbv)))
  | ((with_reducible refine lo_ hF (fun n t => n≤k∧∃ x0 x4 x5,t = At 71 [(0,.c (.str x0)),(4,.own 20004),(5,.c (.int .i64 x5))] [(20004,.row false 9 [.str] (E.eS x4))]∧ZR.l0 n x0 x4 x5 = some (r1,r2)) ⟨[0,4,5],[],[(4,9)],[]⟩ fun n0 t ht Q0 hN0 hX0 => ?_);obtain ⟨hl,_,_,_,rfl,H⟩:=ht;rcases n0 with _ | n0;cases H;simp only [ZR.l0] at H;(try (conv => cbv)))
  | ((with_reducible show Q0 _ _);first | exact nx_ hN0 | (refine xt_ hX0 ?_;(try (conv => cbv))))
  | ((with_reducible show Q _ _);exact en_ ⟨[2,3],[],[(2,9)],[]⟩ 71 hQ)
  | contradiction
theorem Z2I.con (E:En) (hE:E = E0) {k a0 a1 r1 r2 r3} (H:Z2I.f k a0 a1 = some (r1,r2,r3)) :
  Cn 225 [.c (.str a0),.c (.int .i64 a1)] [] (.tup [.c (.str r1),.c (.int .i64 r2),.c (.bool r3)]) [] []:=by
 refine co_ Tryz.func225 Z0L [] fun F hF Q hQ => ?_
 simp only [Z2I.f] at H
 (conv => cbv)
 repeat' first
  | replace H:=s_ H
  | (exfalso;with_reducible assumption)
  | (rw [Z7] at H;obtain ⟨hc,H⟩:=H)
  | (rw [Z2] at H;obtain ⟨hc,H⟩:=H)
  | ((with_reducible refine br2 hF H ?_ ?_) <;> (clear H;intro hb H;(try (conv => cbv))))
  | (refine w_ hF ?_;(try (conv => cbv)))
  | ((with_reducible refine k3_ 203 H ?_);clear H;intro _ _ _ hy H;refine ca_ hF (Zu.con E hE hy) ?_;(try (conv => cbv)))
  | ((with_reducible show Q _ _);exact en_ ⟨[4,5,6],[],[],[]⟩ 40 hQ)
  | contradiction
theorem Z1J.con (E:En) (hE:E = E0) {k s0_0 s0_1 s0_2 r1 r2 r3 r4} (H:Z1J.f k s0_0 s0_1 s0_2 = some (r1,r2,r3,r4)) :
  Cn 205 [.ptr 10000 0] [.box [.c (.str s0_0),.c (.int .i64 s0_1),.c (.bool s0_2)]] (.c (.str r1)) [] [.box [.c (.str r2),.c (.int .i64 r3),.c (.bool r4)]]:=by
 refine co_ Tryz.func205 Z0L [] fun F hF Q hQ => ?_
 simp only [Z1J.f] at H
 (conv => cbv)
 repeat' first
  | replace H:=s_ H
  | (exfalso;with_reducible assumption)
  | (rw [Z7] at H;obtain ⟨hc,H⟩:=H)
  | (rw [Z2] at H;obtain ⟨hc,H⟩:=H)
  | ((with_reducible refine br2 hF H ?_ ?_) <;> (clear H;intro hb H;(try (conv => cbv))))
  | (refine w_ hF ?_;(try (conv => cbv)))
  | ((with_reducible refine k3_ 225 H ?_);clear H;intro _ _ _ hy H;refine ca_ hF (Z2I.con E hE hy) ?_;(try (conv => cbv)))
  | ((with_reducible show Q _ _);exact en_ ⟨[2],[],[],[]⟩ 35 hQ)
  | contradiction
theorem Z26.con (E:En) (hE:E = E0) {s0_0 s0_1 s0_2 r1 r2 r3 r4} (H:Z26.f s0_0 s0_1 s0_2 = some (r1,r2,r3,r4)) :
  Cn 206 [.ptr 10000 0] [.box [.c (.str s0_0),.c (.int .i64 s0_1),.c (.bool s0_2)]] (.c (.int .i64 r1)) [] [.box [.c (.str r2),.c (.int .i64 r3),.c (.bool r4)]]:=by
 refine co_ Tryz.func206 Z0L [] fun F hF Q hQ => ?_
 simp only [Z26.f] at H
 (conv => cbv)
 repeat' first
  | replace H:=s_ H
  | (exfalso;with_reducible assumption)
  | (rw [Z7] at H;obtain ⟨hc,H⟩:=H)
  | (rw [Z2] at H;obtain ⟨hc,H⟩:=H)
  | ((with_reducible refine br2 hF H ?_ ?_) <;> (clear H;intro hb H;(try (conv => cbv))))
  | (refine w_ hF ?_;(try (conv => cbv)))
  | ((with_reducible show Q _ _);exact en_ ⟨[2],[],[],[]⟩ 40 hQ)
  | contradiction
end Go.Ev
