/- Contracts of the Go functions that this law reaches: what each call returns, by its plain function. No conditions but those that each statement names. By this repo's programs; comments are taken out. -/
import Derived.Test.YtlmicldpfnmeaaaGreatDoorVFnComesBackD
import Derived.Test.YtlmicldpfnmeaaaGreatDoorVFnComesBackK
import Derived.Test.YtlmicldpfnmeaaaGreatDoorVFnComesBackC11
import Derived.Test.YtlmicldpfnmeaaaGreatDoorVFnComesBackC12
import Derived.Test.YtlmicldpfnmeaaaGreatDoorVFnComesBackC13
import Derived.Test.YtlmicldpfnmeaaaGreatDoorVFnComesBackC16
set_option linter.all false
namespace Go.Ev
open Go.RowKit Go.Proofs Go.Proofs.YtlmicldpfnmeaaaGreatDoorW.PrintWords Go.Proofs.YtlmicldpfnmeaaaGreatDoorW.PrintLast Go.Proofs.YtlmicldpfnmeaaaGreatDoorW.PrintMore
set_option maxRecDepth 100000
set_option maxHeartbeats 4000000
theorem Z2K.con (E:En) (hE:E = E0) {k l0_0 a0_1 a0_2 a0_3 l0_4 l0_5 a0_6 l1_0 a1_1 a1_2 a1_3 l1_4 l1_5 a1_6 r} (H:Z2K.f k l0_0 a0_1 a0_2 a0_3 l0_4 l0_5 a0_6 l1_0 a1_1 a1_2 a1_3 l1_4 l1_5 a1_6 = some r) :
  Cn 67 [.agg [.c (.sl [.int .i64] (E.eI .i64 l0_0)),.c (.int .i64 a0_1),.c (.int .i64 a0_2),.c (.int .i64 a0_3),.c (.sl [.int .i64] (E.eI .i64 l0_4)),.c (.sl [.str,.int .i64,.int .i64,.int .i64] (E.e145 l0_5)),.c (.int .i64 a0_6)],.agg [.c (.sl [.int .i64] (E.eI .i64 l1_0)),.c (.int .i64 a1_1),.c (.int .i64 a1_2),.c (.int .i64 a1_3),.c (.sl [.int .i64] (E.eI .i64 l1_4)),.c (.sl [.str,.int .i64,.int .i64,.int .i64] (E.e145 l1_5)),.c (.int .i64 a1_6)]] [] (.c (.bool r)) [] []:=by
 refine co_ Tryz.func67 Z0L [] fun F hF Q hQ => ?_
 simp only [Z2K.f] at H
 (conv => cbv)
 repeat' first
  | replace H:=s_ H
  | (exfalso;with_reducible assumption)
  | (rw [Z7] at H;obtain ⟨hc,H⟩:=H)
  | (rw [Z2] at H;obtain ⟨hc,H⟩:=H)
  | ((with_reducible refine br2 hF H ?_ ?_) <;> (clear H;intro hb H;(try (conv => cbv))))
  | (refine w_ hF ?_;(try (conv => cbv)))
  | ((with_reducible refine k1_ 141 H ?_);clear H;intro _ hy H;refine ca_ hF (Z1M.con E hE hy) ?_;(try (conv => cbv)))
  | ((with_reducible refine k1_ 142 H ?_);clear H;intro _ hy H;refine ca_ hF (Zd.con E hE hy) ?_;(try (conv => cbv)))
  | ((with_reducible show Q _ _);exact en_ ⟨[4],[],[],[]⟩ 24 hQ)
  | contradiction
theorem Z42.con (E:En) (hE:E = E0) {k l0_0 l1_0 a1_1 a1_2 a1_3 l1_4 l1_5 a1_6 r} (H:Z42.f k l0_0 l1_0 a1_1 a1_2 a1_3 l1_4 l1_5 a1_6 = some r) :
  Cn 97 [.agg [.c (.sl [.str,.str] (E.e122 l0_0))],.agg [.c (.sl [.int .i64] (E.eI .i64 l1_0)),.c (.int .i64 a1_1),.c (.int .i64 a1_2),.c (.int .i64 a1_3),.c (.sl [.int .i64] (E.eI .i64 l1_4)),.c (.sl [.str,.int .i64,.int .i64,.int .i64] (E.e145 l1_5)),.c (.int .i64 a1_6)]] [] (.c (.bool r)) [] []:=by
 refine co_ Tryz.func97 Z0L [] fun F hF Q hQ => ?_
 simp only [Z42.f] at H
 (conv => cbv)
 repeat' first
  | replace H:=s_ H
  | (exfalso;with_reducible assumption)
  | (rw [Z7] at H;obtain ⟨hc,H⟩:=H)
  | (rw [Z2] at H;obtain ⟨hc,H⟩:=H)
  | ((with_reducible refine br2 hF H ?_ ?_) <;> (clear H;intro hb H;(try (conv => cbv))))
  | (refine w_ hF ?_;(try (conv => cbv)))
  | ((with_reducible refine k9_ 21 H ?_);clear H;intro _ _ _ _ _ _ _ _ _ hy H;refine ca_ hF (Zm.con E hE hy) ?_;(try (conv => cbv)))
  | ((with_reducible refine k1_ 67 H ?_);clear H;intro _ hy H;refine ca_ hF (Z2K.con E hE hy) ?_;(try (conv => cbv)))
  | ((with_reducible show Q _ _);exact en_ ⟨[4],[],[],[]⟩ 26 hQ)
  | contradiction
theorem Z0Q.con (E:En) (hE:E = E0) {l0_0 r} (H:Z0Q.f l0_0 = some r) :
  Cn 221 [.agg [.c (.sl [.str,.str] (E.e122 l0_0))]] [] (.agg [.own 0]) [.row false 122 [.str,.str] (E.e122 r)] []:=by
 refine co_ Tryz.func221 Z0L [400040] fun F hF Q hQ => ?_
 simp only [Z0Q.f] at H
 (conv => cbv)
 repeat' first
  | replace H:=s_ H
  | (exfalso;with_reducible assumption)
  | (rw [Z7] at H;obtain ⟨hc,H⟩:=H)
  | (rw [Z2] at H;obtain ⟨hc,H⟩:=H)
  | ((with_reducible refine br2 hF H ?_ ?_) <;> (clear H;intro hb H;(try (conv => cbv))))
  | (refine w_ hF ?_;(try (conv => cbv)))
  | ((with_reducible show Q _ _);exact en_ ⟨[2],[2],[],[(2,0,122)]⟩ 7 hQ)
  | contradiction
theorem Z29.con (E:En) (hE:E = E0) {k l0_0 a1 a2 r} (H:Z29.f k l0_0 a1 a2 = some r) :
  Cn 230 [.agg [.c (.sl [.str,.str] (E.e122 l0_0))],.c (.str a1),.c (.str a2)] [] (.agg [.own 0]) [.row false 122 [.str,.str] (E.e122 r)] []:=by
 refine co_ Tryz.func230 Z0L [400120] fun F hF Q hQ => ?_
 simp only [Z29.f] at H
 (conv => cbv)
 repeat' first
  | replace H:=s_ H
  | (exfalso;with_reducible assumption)
  | (rw [Z7] at H;obtain ⟨hc,H⟩:=H)
  | (rw [Z2] at H;obtain ⟨hc,H⟩:=H)
  | ((with_reducible refine br2 hF H ?_ ?_) <;> (clear H;intro hb H;(try (conv => cbv))))
  | (refine w_ hF ?_;(try (conv => cbv)))
  | ((with_reducible refine k1_ 221 H ?_);clear H;intro _ hy H;refine ca_ hF (Z0Q.con E hE hy) ?_;(try (conv => cbv)))
  | ((with_reducible refine k2_ 143 H ?_);clear H;intro _ _ hy H;refine ca_ hF (Z2m.con E hE hy) ?_;(try (conv => cbv)))
  | ((with_reducible refine k2_ 238 H ?_);clear H;intro _ _ hy H;refine ca_ hF (Z0F.con E hE hy) ?_;(try (conv => cbv)))
  | ((with_reducible show Q _ _);exact en_ ⟨[6],[6],[],[(6,0,122)]⟩ 35 hQ)
  | contradiction
theorem Z30.con (E:En) (hE:E = E0) {k l0_0 a1 r} (H:Z30.f k l0_0 a1 = some r) :
  Cn 231 [.agg [.c (.sl [.str,.str] (E.e122 l0_0))],.c (.str a1)] [] (.agg [.own 0]) [.row false 122 [.str,.str] (E.e122 r)] []:=by
 refine co_ Tryz.func231 Z0L [400080] fun F hF Q hQ => ?_
 simp only [Z30.f] at H
 (conv => cbv)
 repeat' first
  | replace H:=s_ H
  | (exfalso;with_reducible assumption)
  | (rw [Z7] at H;obtain ⟨hc,H⟩:=H)
  | (rw [Z2] at H;obtain ⟨hc,H⟩:=H)
  | ((with_reducible refine br2 hF H ?_ ?_) <;> (clear H;intro hb H;(try (conv => cbv))))
  | (refine w_ hF ?_;(try (conv => cbv)))
  | ((with_reducible refine k1_ 221 H ?_);clear H;intro _ hy H;refine ca_ hF (Z0Q.con E hE hy) ?_;(try (conv => cbv)))
  | ((with_reducible refine k2_ 143 H ?_);clear H;intro _ _ hy H;refine ca_ hF (Z2m.con E hE hy) ?_;(try (conv => cbv)))
  | ((with_reducible refine k1_ 239 H ?_);clear H;intro _ hy H;refine ca_ hF (Z0D.con E hE hy) ?_;(try (conv => cbv)))
  | ((with_reducible show Q _ _);exact en_ ⟨[4],[4],[],[(4,0,122)]⟩ 25 hQ)
  | contradiction
theorem Z41.con (E:En) (hE:E = E0) {k l0_0 a1_0 a1_1 a1_2 a1_3 r1 r2} (H:Z41.f k l0_0 a1_0 a1_1 a1_2 a1_3 = some (r1,r2)) :
  Cn 222 [.agg [.c (.sl [.str,.str] (E.e122 l0_0))],.agg [.c (.int .i64 a1_0),.c (.str a1_1),.c (.str a1_2),.c (.str a1_3)]] [] (.tup [.agg [.own 0],.c (.bool r2)]) [.row false 122 [.str,.str] (E.e122 r1)] []:=by
 refine co_ Tryz.func222 Z0L [400080] fun F hF Q hQ => ?_
 simp only [Z41.f] at H
 (conv => cbv)
 repeat' first
  | replace H:=s_ H
  | (exfalso;with_reducible assumption)
  | (rw [Z7] at H;obtain ⟨hc,H⟩:=H)
  | (rw [Z2] at H;obtain ⟨hc,H⟩:=H)
  | ((with_reducible refine br2 hF H ?_ ?_) <;> (clear H;intro hb H;(try (conv => cbv))))
  | (refine w_ hF ?_;(try (conv => cbv)))
  | ((with_reducible refine k1_ 78 H ?_);clear H;intro _ hy H;refine ca_ hF (Z02.con E hE hy) ?_;(try (conv => cbv)))
  | ((with_reducible refine k2_ 68 H ?_);clear H;intro _ _ hy H;refine ca_ hF (Z1g.con E hE hy) ?_;(try (conv => cbv)))
  | ((with_reducible refine k1_ 230 H ?_);clear H;intro _ hy H;refine ca_ hF (Z29.con E hE hy) ?_;(try (conv => cbv)))
  | ((with_reducible refine k1_ 221 H ?_);clear H;intro _ hy H;refine ca_ hF (Z0Q.con E hE hy) ?_;(try (conv => cbv)))
  | ((with_reducible refine k1_ 231 H ?_);clear H;intro _ hy H;refine ca_ hF (Z30.con E hE hy) ?_;(try (conv => cbv)))
  | ((with_reducible show Q _ _);exact en_ ⟨[4,5],[4],[],[(4,0,122)]⟩ 73 hQ)
  | contradiction
theorem Z18.con (E:En) (hE:E = E0) {k l0_0 l1 r1 r2} (H:Z18.f k l0_0 l1 = some (r1,r2)) :
  Cn 191 [.agg [.c (.sl [.str,.str] (E.e122 l0_0))],.c (.sl [.int .i64,.str,.str,.str] (E.e119 l1))] [] (.tup [.agg [.own 0],.c (.int .i64 r2)]) [.row false 122 [.str,.str] (E.e122 r1)] []:=by
 refine co_ Tryz.func191 Z0L [400080] fun F hF Q hQ => ?_
 simp only [Z18.f] at H
 (conv => cbv)
 repeat' first
  | replace H:=s_ H
  | (exfalso;with_reducible assumption)
  | (rw [Z7] at H;obtain ⟨hc,H⟩:=H)
  | (rw [Z2] at H;obtain ⟨hc,H⟩:=H)
  | ((with_reducible refine br2 hF H ?_ ?_) <;> (clear H;intro hb H;(try (conv => cbv))))
  | (refine w_ hF ?_;(try (conv => cbv)))
  | ((with_reducible refine k1_ 78 H ?_);clear H;intro _ hy H;refine ca_ hF (Z02.con E hE hy) ?_;(try (conv => cbv)))
  | ((with_reducible refine k1_ 221 H ?_);clear H;intro _ hy H;refine ca_ hF (Z0Q.con E hE hy) ?_;(try (conv => cbv)))
  | ((with_reducible refine k2_ 222 H ?_);clear H;intro _ _ hy H;refine ca_ hF (Z41.con E hE hy) ?_;(try (conv => cbv)))
  | ((with_reducible refine lo_ hF (fun n t => n≤k∧∃ x1 x22 x23 x24 v0 v1,t = At 44 [(1,.c (.sl [.int .i64,.str,.str,.str] (E.e119 x1))),(4,.ptr 4 0),(6,.ptr 6 0),(22,.c (.sl [.int .i64,.str,.str,.str] (E.e119 x22))),(23,.c (.int .i64 x23)),(24,.c (.int .i64 x24))] [(4,.box [.own 400080]),(6,.box [.own 400120]),(400080,.row false 122 [.str,.str] (E.e122 v0)),(400120,.row false 122 [.str,.str] (E.e122 v1))]∧Z18.l0 n x1 x22 x23 x24 v0 v1 = some (r1,r2)) ⟨[1,4,6,22,23,24],[4,6],[],[(4,0,122),(6,0,122)]⟩ fun n0 t ht Q0 hN0 hX0 => ?_);obtain ⟨hl,_,_,_,_,_,_,rfl,H⟩:=ht;rcases n0 with _ | n0;cases H;simp only [Z18.l0] at H;(try (conv => cbv)))
  | ((with_reducible show Q0 _ _);first | exact nx_ hN0 | (refine xt_ hX0 ?_;(try (conv => cbv))))
  | ((with_reducible show Q _ _);exact en_ ⟨[4,5],[4],[],[(4,0,122)]⟩ 44 hQ)
  | contradiction
theorem Z2M.con (E:En) (hE:E = E0) {k l0_0 l1 r1 r2 r3 r4 r5 r6 r7 r8 r9} (H:Z2M.f k l0_0 l1 = some (r1,r2,r3,r4,r5,r6,r7,r8,r9)) :
  Cn 109 [.agg [.c (.sl [.str,.str] (E.e122 l0_0))],.own 10000] [.row false 119 [.int .i64,.str,.str,.str] (E.e119 l1)] (.tup [.agg [.own 0,.c (.int .i64 r2),.c (.int .i64 r3),.c (.int .i64 r4),.own 1,.own 2,.c (.int .i64 r7)],.own 3,.c (.bool r9)]) [.row false 3 [.int .i64] (E.eI .i64 r1),.row false 3 [.int .i64] (E.eI .i64 r5),.row false 145 [.str,.int .i64,.int .i64,.int .i64] (E.e145 r6),.row false 119 [.int .i64,.str,.str,.str] (E.e119 r8)] [.gone]:=by
 refine co_ Tryz.func109 Z0L [400080,400084,400085,20005] fun F hF Q hQ => ?_
 simp only [Z2M.f] at H
 (conv => cbv)
 repeat' first
  | replace H:=s_ H
  | (exfalso;with_reducible assumption)
  | (rw [Z7] at H;obtain ⟨hc,H⟩:=H)
  | (rw [Z2] at H;obtain ⟨hc,H⟩:=H)
  | ((with_reducible refine br2 hF H ?_ ?_) <;> (clear H;intro hb H;(try (conv => cbv))))
  | (refine w_ hF ?_;(try (conv => cbv)))
  | ((with_reducible refine k2_ 191 H ?_);clear H;intro _ _ hy H;refine ca_ hF (Z18.con E hE hy) ?_;(try (conv => cbv)))
  | ((with_reducible refine k9_ 21 H ?_);clear H;intro _ _ _ _ _ _ _ _ _ hy H;refine ca_ hF (Zm.con E hE hy) ?_;(try (conv => cbv)))
  | ((with_reducible show Q _ _);exact en_ ⟨[4,5,6],[4],[(5,119)],[(4,0,3),(4,4,3),(4,5,145),(10000,0,0)]⟩ 40 hQ)
  | contradiction
theorem Z2i.con (E:En) (hE:E = E0) {l0_0 a0_1 a0_2 a0_3 l0_4 r1 r2 r3 r4 r5} (H:Z2i.f l0_0 a0_1 a0_2 a0_3 l0_4 = some (r1,r2,r3,r4,r5)) :
  Cn 110 [.agg [.c (.sl [.int .i64] (E.eI .i64 l0_0)),.c (.int .i64 a0_1),.c (.int .i64 a0_2),.c (.int .i64 a0_3),.c (.sl [.int .i64] (E.eI .i64 l0_4))]] [] (.agg [.own 0,.c (.int .i64 r2),.c (.int .i64 r3),.c (.int .i64 r4),.own 1]) [.row false 3 [.int .i64] (E.eI .i64 r1),.row false 3 [.int .i64] (E.eI .i64 r5)] []:=by
 refine co_ Tryz.func110 Z0L [400040,400044] fun F hF Q hQ => ?_
 simp only [Z2i.f] at H
 (conv => cbv)
 repeat' first
  | replace H:=s_ H
  | (exfalso;with_reducible assumption)
  | (rw [Z7] at H;obtain ⟨hc,H⟩:=H)
  | (rw [Z2] at H;obtain ⟨hc,H⟩:=H)
  | ((with_reducible refine br2 hF H ?_ ?_) <;> (clear H;intro hb H;(try (conv => cbv))))
  | (refine w_ hF ?_;(try (conv => cbv)))
  | ((with_reducible show Q _ _);exact en_ ⟨[2],[2],[],[(2,0,3),(2,4,3)]⟩ 12 hQ)
  | contradiction
theorem Z1N.con (E:En) (hE:E = E0) {k l0_0 a0_1 a0_2 a0_3 l0_4 r1 r2} (H:Z1N.f k l0_0 a0_1 a0_2 a0_3 l0_4 = some (r1,r2)) :
  Cn 192 [.agg [.c (.sl [.int .i64] (E.eI .i64 l0_0)),.c (.int .i64 a0_1),.c (.int .i64 a0_2),.c (.int .i64 a0_3),.c (.sl [.int .i64] (E.eI .i64 l0_4))]] [] (.tup [.c (.str r1),.c (.bool r2)]) [] []:=by
 refine co_ Tryz.func192 Z0L [] fun F hF Q hQ => ?_
 simp only [Z1N.f] at H
 (conv => cbv)
 repeat' first
  | replace H:=s_ H
  | (exfalso;with_reducible assumption)
  | (rw [Z7] at H;obtain ⟨hc,H⟩:=H)
  | (rw [Z2] at H;obtain ⟨hc,H⟩:=H)
  | ((with_reducible refine br2 hF H ?_ ?_) <;> (clear H;intro hb H;(try (conv => cbv))))
  | (refine w_ hF ?_;(try (conv => cbv)))
  | ((with_reducible refine k1_ 161 H ?_);clear H;intro _ hy H;refine ca_ hF (Z0h.con E hE hy) ?_;(try (conv => cbv)))
  | ((with_reducible refine k1_ 223 H ?_);clear H;intro _ hy H;refine ca_ hF (Z16.con E hE hy) ?_;(try (conv => cbv)))
  | ((with_reducible refine k2_ 180 H ?_);clear H;intro _ _ hy H;refine ca_ hF (Z1E.con E hE hy) ?_;(try (conv => cbv)))
  | ((with_reducible refine k2_ 208 H ?_);clear H;intro _ _ hy H;refine ca_ hF (Z38.con E hE hy) ?_;(try (conv => cbv)))
  | ((with_reducible show Q _ _);exact en_ ⟨[2,3],[],[],[]⟩ 39 hQ)
  | contradiction
end Go.Ev
