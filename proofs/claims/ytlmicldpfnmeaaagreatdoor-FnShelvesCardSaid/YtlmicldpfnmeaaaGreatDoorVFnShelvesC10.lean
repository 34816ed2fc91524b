/- Contracts of the Go functions that this law reaches: what each call returns, by its plain function. No conditions but those that each statement names. By this repo's programs; comments are taken out. -/
import Derived.Test.YtlmicldpfnmeaaaGreatDoorVFnShelvesD
import Derived.Test.YtlmicldpfnmeaaaGreatDoorVFnShelvesK
import Derived.Test.YtlmicldpfnmeaaaGreatDoorVFnShelvesC6
import Derived.Test.YtlmicldpfnmeaaaGreatDoorVFnShelvesC7
import Derived.Test.YtlmicldpfnmeaaaGreatDoorVFnShelvesC8
import Derived.Test.YtlmicldpfnmeaaaGreatDoorVFnShelvesC9
set_option linter.all false
namespace Go.Ev
open Go.RowKit Go.Proofs Go.Proofs.YtlmicldpfnmeaaaGreatDoorW.PrintWords Go.Proofs.YtlmicldpfnmeaaaGreatDoorW.PrintLast Go.Proofs.YtlmicldpfnmeaaaGreatDoorW.PrintMore
set_option maxRecDepth 100000
set_option maxHeartbeats 4000000
theorem impl_sameManifest.con (E:En) (hE:E = E0) {k l0_0 a0_1 a0_2 a0_3 l0_4 l1_0 a1_1 a1_2 a1_3 l1_4 r} (H:impl_sameManifest.f k l0_0 a0_1 a0_2 a0_3 l0_4 l1_0 a1_1 a1_2 a1_3 l1_4 = some r) :
  Cn 141 [.agg [.c (.sl [.int .i64] (E.eI .i64 l0_0)),.c (.int .i64 a0_1),.c (.int .i64 a0_2),.c (.int .i64 a0_3),.c (.sl [.int .i64] (E.eI .i64 l0_4))],.agg [.c (.sl [.int .i64] (E.eI .i64 l1_0)),.c (.int .i64 a1_1),.c (.int .i64 a1_2),.c (.int .i64 a1_3),.c (.sl [.int .i64] (E.eI .i64 l1_4))]] [] (.c (.bool r)) [] []:=by
 refine co_ Tryz.func141 Z0I [] fun F hF Q hQ => ?_
 simp only [impl_sameManifest.f] at H
 (conv => cbv)
 repeat' first
  | replace H:=s_ H
  | (exfalso;with_reducible assumption)
  | (rw [Z6] at H;obtain ⟨hc,H⟩:=H)
  | (rw [Z2] at H;obtain ⟨hc,H⟩:=H)
  | ((with_reducible refine br2 hF H ?_ ?_) <;> (clear H;intro hb H;(try (conv => cbv))))
  | (refine w_ hF ?_;(try (conv => cbv)))
  | ((with_reducible refine k1_ 199 H ?_);clear H;intro _ hy H;refine ca_ hF (ZG.con E hE hy) ?_;(try (conv => cbv)))
  | ((with_reducible show Q _ _);exact en_ ⟨[4],[],[],[]⟩ 38 hQ)
  | contradiction
theorem Zc.con (E:En) (hE:E = E0) {k l0 l1 r} (H:Zc.f k l0 l1 = some r) :
  Cn 142 [.c (.sl [.str,.int .i64,.int .i64,.int .i64] (E.e145 l0)),.c (.sl [.str,.int .i64,.int .i64,.int .i64] (E.e145 l1))] [] (.c (.bool r)) [] []:=by
 refine co_ Tryz.func142 Z0I [] fun F hF Q hQ => ?_
 simp only [Zc.f] at H
 (conv => cbv)
 repeat' first
  | replace H:=s_ H
  | (exfalso;with_reducible assumption)
  | (rw [Z6] at H;obtain ⟨hc,H⟩:=H)
  | (rw [Z2] at H;obtain ⟨hc,H⟩:=H)
  | ((with_reducible refine br2 hF H ?_ ?_) <;> (clear H;intro hb H;(try (conv => cbv))))
  | (refine w_ hF ?_;(try (conv => cbv)))
  | ((with_reducible refine lo_ hF (fun n t => n≤k∧∃ x0 x1 x12 x13,t = At 26 [(0,.c (.sl [.str,.int .i64,.int .i64,.int .i64] (E.e145 x0))),(1,.c (.sl [.str,.int .i64,.int .i64,.int .i64] (E.e145 x1))),(12,.c (.int .i64 x12)),(13,.c (.int .i64 x13))] []∧Zc.l0 n x0 x1 x12 x13 = some r) ⟨[0,1,12,13],[],[],[]⟩ fun n0 t ht Q0 hN0 hX0 => ?_);obtain ⟨hl,_,_,_,_,rfl,H⟩:=ht;rcases n0 with _ | n0;cases H;simp only [Zc.l0] at H;(try (conv => cbv)))
  | ((with_reducible show Q0 _ _);first | exact nx_ hN0 | (refine xt_ hX0 ?_;(try (conv => cbv))))
  | ((with_reducible show Q _ _);exact en_ ⟨[4],[],[],[]⟩ 26 hQ)
  | contradiction
theorem impl_sameShelf.con (E:En) (hE:E = E0) {k l0_0 a0_1 a0_2 a0_3 l0_4 l0_5 a0_6 l1_0 a1_1 a1_2 a1_3 l1_4 l1_5 a1_6 r} (H:impl_sameShelf.f k l0_0 a0_1 a0_2 a0_3 l0_4 l0_5 a0_6 l1_0 a1_1 a1_2 a1_3 l1_4 l1_5 a1_6 = some r) :
  Cn 67 [.agg [.c (.sl [.int .i64] (E.eI .i64 l0_0)),.c (.int .i64 a0_1),.c (.int .i64 a0_2),.c (.int .i64 a0_3),.c (.sl [.int .i64] (E.eI .i64 l0_4)),.c (.sl [.str,.int .i64,.int .i64,.int .i64] (E.e145 l0_5)),.c (.int .i64 a0_6)],.agg [.c (.sl [.int .i64] (E.eI .i64 l1_0)),.c (.int .i64 a1_1),.c (.int .i64 a1_2),.c (.int .i64 a1_3),.c (.sl [.int .i64] (E.eI .i64 l1_4)),.c (.sl [.str,.int .i64,.int .i64,.int .i64] (E.e145 l1_5)),.c (.int .i64 a1_6)]] [] (.c (.bool r)) [] []:=by
 refine co_ Tryz.func67 Z0I [] fun F hF Q hQ => ?_
 simp only [impl_sameShelf.f] at H
 (conv => cbv)
 repeat' first
  | replace H:=s_ H
  | (exfalso;with_reducible assumption)
  | (rw [Z6] at H;obtain ⟨hc,H⟩:=H)
  | (rw [Z2] at H;obtain ⟨hc,H⟩:=H)
  | ((with_reducible refine br2 hF H ?_ ?_) <;> (clear H;intro hb H;(try (conv => cbv))))
  | (refine w_ hF ?_;(try (conv => cbv)))
  | ((with_reducible refine k1_ 141 H ?_);clear H;intro _ hy H;refine ca_ hF (impl_sameManifest.con E hE hy) ?_;(try (conv => cbv)))
  | ((with_reducible refine k1_ 142 H ?_);clear H;intro _ hy H;refine ca_ hF (Zc.con E hE hy) ?_;(try (conv => cbv)))
  | ((with_reducible show Q _ _);exact en_ ⟨[4],[],[],[]⟩ 24 hQ)
  | contradiction
theorem impl_isOpen.con (E:En) (hE:E = E0) {k l0_0 l1_0 a1_1 a1_2 a1_3 l1_4 l1_5 a1_6 r} (H:impl_isOpen.f k l0_0 l1_0 a1_1 a1_2 a1_3 l1_4 l1_5 a1_6 = some r) :
  Cn 97 [.agg [.c (.sl [.str,.str] (E.e122 l0_0))],.agg [.c (.sl [.int .i64] (E.eI .i64 l1_0)),.c (.int .i64 a1_1),.c (.int .i64 a1_2),.c (.int .i64 a1_3),.c (.sl [.int .i64] (E.eI .i64 l1_4)),.c (.sl [.str,.int .i64,.int .i64,.int .i64] (E.e145 l1_5)),.c (.int .i64 a1_6)]] [] (.c (.bool r)) [] []:=by
 refine co_ Tryz.func97 Z0I [] fun F hF Q hQ => ?_
 simp only [impl_isOpen.f] at H
 (conv => cbv)
 repeat' first
  | replace H:=s_ H
  | (exfalso;with_reducible assumption)
  | (rw [Z6] at H;obtain ⟨hc,H⟩:=H)
  | (rw [Z2] at H;obtain ⟨hc,H⟩:=H)
  | ((with_reducible refine br2 hF H ?_ ?_) <;> (clear H;intro hb H;(try (conv => cbv))))
  | (refine w_ hF ?_;(try (conv => cbv)))
  | ((with_reducible refine k9_ 21 H ?_);clear H;intro _ _ _ _ _ _ _ _ _ hy H;refine ca_ hF (Zm.con E hE hy) ?_;(try (conv => cbv)))
  | ((with_reducible refine k1_ 67 H ?_);clear H;intro _ hy H;refine ca_ hF (impl_sameShelf.con E hE hy) ?_;(try (conv => cbv)))
  | ((with_reducible show Q _ _);exact en_ ⟨[4],[],[],[]⟩ 26 hQ)
  | contradiction
theorem Z0L.con (E:En) (hE:E = E0) {l0_0 r} (H:Z0L.f l0_0 = some r) :
  Cn 221 [.agg [.c (.sl [.str,.str] (E.e122 l0_0))]] [] (.agg [.own 0]) [.row false 122 [.str,.str] (E.e122 r)] []:=by
 refine co_ Tryz.func221 Z0I [400040] fun F hF Q hQ => ?_
 simp only [Z0L.f] at H
 (conv => cbv)
 repeat' first
  | replace H:=s_ H
  | (exfalso;with_reducible assumption)
  | (rw [Z6] at H;obtain ⟨hc,H⟩:=H)
  | (rw [Z2] at H;obtain ⟨hc,H⟩:=H)
  | ((with_reducible refine br2 hF H ?_ ?_) <;> (clear H;intro hb H;(try (conv => cbv))))
  | (refine w_ hF ?_;(try (conv => cbv)))
  | ((with_reducible show Q _ _);exact en_ ⟨[2],[2],[],[(2,0,122)]⟩ 7 hQ)
  | contradiction
theorem impl_withFile.con (E:En) (hE:E = E0) {k l0_0 a1 a2 r} (H:impl_withFile.f k l0_0 a1 a2 = some r) :
  Cn 230 [.agg [.c (.sl [.str,.str] (E.e122 l0_0))],.c (.str a1),.c (.str a2)] [] (.agg [.own 0]) [.row false 122 [.str,.str] (E.e122 r)] []:=by
 refine co_ Tryz.func230 Z0I [400120] fun F hF Q hQ => ?_
 simp only [impl_withFile.f] at H
 (conv => cbv)
 repeat' first
  | replace H:=s_ H
  | (exfalso;with_reducible assumption)
  | (rw [Z6] at H;obtain ⟨hc,H⟩:=H)
  | (rw [Z2] at H;obtain ⟨hc,H⟩:=H)
  | ((with_reducible refine br2 hF H ?_ ?_) <;> (clear H;intro hb H;(try (conv => cbv))))
  | (refine w_ hF ?_;(try (conv => cbv)))
  | ((with_reducible refine k1_ 221 H ?_);clear H;intro _ hy H;refine ca_ hF (Z0L.con E hE hy) ?_;(try (conv => cbv)))
  | ((with_reducible refine k2_ 143 H ?_);clear H;intro _ _ hy H;refine ca_ hF (impl_fileNo.con E hE hy) ?_;(try (conv => cbv)))
  | ((with_reducible refine k2_ 238 H ?_);clear H;intro _ _ hy H;refine ca_ hF (Z0s.con E hE hy) ?_;(try (conv => cbv)))
  | ((with_reducible show Q _ _);exact en_ ⟨[6],[6],[],[(6,0,122)]⟩ 35 hQ)
  | contradiction
theorem impl_without.con (E:En) (hE:E = E0) {k l0_0 a1 r} (H:impl_without.f k l0_0 a1 = some r) :
  Cn 231 [.agg [.c (.sl [.str,.str] (E.e122 l0_0))],.c (.str a1)] [] (.agg [.own 0]) [.row false 122 [.str,.str] (E.e122 r)] []:=by
 refine co_ Tryz.func231 Z0I [400080] fun F hF Q hQ => ?_
 simp only [impl_without.f] at H
 (conv => cbv)
 repeat' first
  | replace H:=s_ H
  | (exfalso;with_reducible assumption)
  | (rw [Z6] at H;obtain ⟨hc,H⟩:=H)
  | (rw [Z2] at H;obtain ⟨hc,H⟩:=H)
  | ((with_reducible refine br2 hF H ?_ ?_) <;> (clear H;intro hb H;(try (conv => cbv))))
  | (refine w_ hF ?_;(try (conv => cbv)))
  | ((with_reducible refine k1_ 221 H ?_);clear H;intro _ hy H;refine ca_ hF (Z0L.con E hE hy) ?_;(try (conv => cbv)))
  | ((with_reducible refine k2_ 143 H ?_);clear H;intro _ _ hy H;refine ca_ hF (impl_fileNo.con E hE hy) ?_;(try (conv => cbv)))
  | ((with_reducible refine k1_ 239 H ?_);clear H;intro _ hy H;refine ca_ hF (Z0r.con E hE hy) ?_;(try (conv => cbv)))
  | ((with_reducible show Q _ _);exact en_ ⟨[4],[4],[],[(4,0,122)]⟩ 25 hQ)
  | contradiction
theorem impl_PutRaw.con (E:En) (hE:E = E0) {k l0_0 a1_0 a1_1 a1_2 a1_3 r1 r2} (H:impl_PutRaw.f k l0_0 a1_0 a1_1 a1_2 a1_3 = some (r1,r2)) :
  Cn 222 [.agg [.c (.sl [.str,.str] (E.e122 l0_0))],.agg [.c (.int .i64 a1_0),.c (.str a1_1),.c (.str a1_2),.c (.str a1_3)]] [] (.tup [.agg [.own 0],.c (.bool r2)]) [.row false 122 [.str,.str] (E.e122 r1)] []:=by
 refine co_ Tryz.func222 Z0I [400080] fun F hF Q hQ => ?_
 simp only [impl_PutRaw.f] at H
 (conv => cbv)
 repeat' first
  | replace H:=s_ H
  | (exfalso;with_reducible assumption)
  | (rw [Z6] at H;obtain ⟨hc,H⟩:=H)
  | (rw [Z2] at H;obtain ⟨hc,H⟩:=H)
  | ((with_reducible refine br2 hF H ?_ ?_) <;> (clear H;intro hb H;(try (conv => cbv))))
  | (refine w_ hF ?_;(try (conv => cbv)))
  | ((with_reducible refine k1_ 78 H ?_);clear H;intro _ hy H;refine ca_ hF (ZX.con E hE hy) ?_;(try (conv => cbv)))
  | ((with_reducible refine k2_ 68 H ?_);clear H;intro _ _ hy H;refine ca_ hF (Z16.con E hE hy) ?_;(try (conv => cbv)))
  | ((with_reducible refine k1_ 230 H ?_);clear H;intro _ hy H;refine ca_ hF (impl_withFile.con E hE hy) ?_;(try (conv => cbv)))
  | ((with_reducible refine k1_ 221 H ?_);clear H;intro _ hy H;refine ca_ hF (Z0L.con E hE hy) ?_;(try (conv => cbv)))
  | ((with_reducible refine k1_ 231 H ?_);clear H;intro _ hy H;refine ca_ hF (impl_without.con E hE hy) ?_;(try (conv => cbv)))
  | ((with_reducible show Q _ _);exact en_ ⟨[4,5],[4],[],[(4,0,122)]⟩ 73 hQ)
  | contradiction
theorem Z0Z.con (E:En) (hE:E = E0) {k l0_0 l1 r1 r2} (H:Z0Z.f k l0_0 l1 = some (r1,r2)) :
  Cn 191 [.agg [.c (.sl [.str,.str] (E.e122 l0_0))],.c (.sl [.int .i64,.str,.str,.str] (E.e119 l1))] [] (.tup [.agg [.own 0],.c (.int .i64 r2)]) [.row false 122 [.str,.str] (E.e122 r1)] []:=by
 refine co_ Tryz.func191 Z0I [400080] fun F hF Q hQ => ?_
 simp only [Z0Z.f] at H
 (conv => cbv)
 repeat' first
  | replace H:=s_ H
  | (exfalso;with_reducible assumption)
  | (rw [Z6] at H;obtain ⟨hc,H⟩:=H)
  | (rw [Z2] at H;obtain ⟨hc,H⟩:=H)
  | ((with_reducible refine br2 hF H ?_ ?_) <;> (clear H;intro hb H;(try (conv => cbv))))
  | (refine w_ hF ?_;(try (conv => cbv)))
  | ((with_reducible refine k1_ 78 H ?_);clear H;intro _ hy H;refine ca_ hF (ZX.con E hE hy) ?_;(try (conv => cbv)))
  | ((with_reducible refine k1_ 221 H ?_);clear H;intro _ hy H;refine ca_ hF (Z0L.con E hE hy) ?_;(try (conv => cbv)))
  | ((with_reducible refine k2_ 222 H ?_);clear H;intro _ _ hy H;refine ca_ hF (impl_PutRaw.con E hE hy) ?_;(try (conv => cbv)))
  | ((with_reducible refine lo_ hF (fun n t => n≤k∧∃ x1 x22 x23 x24 v0 v1,t = At 44 [(1,.c (.sl [.int .i64,.str,.str,.str] (E.e119 x1))),(4,.ptr 4 0),(6,.ptr 6 0),(22,.c (.sl [.int .i64,.str,.str,.str] (E.e119 x22))),(23,.c (.int .i64 x23)),(24,.c (.int .i64 x24))] [(4,.box [.own 400080]),(6,.box [.own 400120]),(400080,.row false 122 [.str,.str] (E.e122 v0)),(400120,.row false 122 [.str,.str] (E.e122 v1))]∧Z0Z.l0 n x1 x22 x23 x24 v0 v1 = some (r1,r2)) ⟨[1,4,6,22,23,24],[4,6],[],[(4,0,122),(6,0,122)]⟩ fun n0 t ht Q0 hN0 hX0 => ?_);obtain ⟨hl,_,_,_,_,_,_,rfl,H⟩:=ht;rcases n0 with _ | n0;cases H;simp only [Z0Z.l0] at H;(try (conv => cbv)))
  | ((with_reducible show Q0 _ _);first | exact nx_ hN0 | (refine xt_ hX0 ?_;(try (conv => cbv))))
  | ((with_reducible show Q _ _);exact en_ ⟨[4,5],[4],[],[(4,0,122)]⟩ 44 hQ)
  | contradiction
theorem impl_behind.con (E:En) (hE:E = E0) {k l0_0 l1 r1 r2 r3 r4 r5 r6 r7 r8 r9} (H:impl_behind.f k l0_0 l1 = some (r1,r2,r3,r4,r5,r6,r7,r8,r9)) :
  Cn 109 [.agg [.c (.sl [.str,.str] (E.e122 l0_0))],.own 10000] [.row false 119 [.int .i64,.str,.str,.str] (E.e119 l1)] (.tup [.agg [.own 0,.c (.int .i64 r2),.c (.int .i64 r3),.c (.int .i64 r4),.own 1,.own 2,.c (.int .i64 r7)],.own 3,.c (.bool r9)]) [.row false 3 [.int .i64] (E.eI .i64 r1),.row false 3 [.int .i64] (E.eI .i64 r5),.row false 145 [.str,.int .i64,.int .i64,.int .i64] (E.e145 r6),.row false 119 [.int .i64,.str,.str,.str] (E.e119 r8)] [.gone]:=by
 refine co_ Tryz.func109 Z0I [400080,400084,400085,20005] fun F hF Q hQ => ?_
 simp only [impl_behind.f] at H
 (conv => cbv)
 repeat' first
  | replace H:=s_ H
  | (exfalso;with_reducible assumption)
  | (rw [Z6] at H;obtain ⟨hc,H⟩:=H)
  | (rw [Z2] at H;obtain ⟨hc,H⟩:=H)
  | ((with_reducible refine br2 hF H ?_ ?_) <;> (clear H;intro hb H;(try (conv => cbv))))
  | (refine w_ hF ?_;(try (conv => cbv)))
  | ((with_reducible refine k2_ 191 H ?_);clear H;intro _ _ hy H;refine ca_ hF (Z0Z.con E hE hy) ?_;(try (conv => cbv)))
  | ((with_reducible refine k9_ 21 H ?_);clear H;intro _ _ _ _ _ _ _ _ _ hy H;refine ca_ hF (Zm.con E hE hy) ?_;(try (conv => cbv)))
  | ((with_reducible show Q _ _);exact en_ ⟨[4,5,6],[4],[(5,119)],[(4,0,3),(4,4,3),(4,5,145),(10000,0,0)]⟩ 40 hQ)
  | contradiction
theorem impl_copyManifest.con (E:En) (hE:E = E0) {l0_0 a0_1 a0_2 a0_3 l0_4 r1 r2 r3 r4 r5} (H:impl_copyManifest.f l0_0 a0_1 a0_2 a0_3 l0_4 = some (r1,r2,r3,r4,r5)) :
  Cn 110 [.agg [.c (.sl [.int .i64] (E.eI .i64 l0_0)),.c (.int .i64 a0_1),.c (.int .i64 a0_2),.c (.int .i64 a0_3),.c (.sl [.int .i64] (E.eI .i64 l0_4))]] [] (.agg [.own 0,.c (.int .i64 r2),.c (.int .i64 r3),.c (.int .i64 r4),.own 1]) [.row false 3 [.int .i64] (E.eI .i64 r1),.row false 3 [.int .i64] (E.eI .i64 r5)] []:=by
 refine co_ Tryz.func110 Z0I [400040,400044] fun F hF Q hQ => ?_
 simp only [impl_copyManifest.f] at H
 (conv => cbv)
 repeat' first
  | replace H:=s_ H
  | (exfalso;with_reducible assumption)
  | (rw [Z6] at H;obtain ⟨hc,H⟩:=H)
  | (rw [Z2] at H;obtain ⟨hc,H⟩:=H)
  | ((with_reducible refine br2 hF H ?_ ?_) <;> (clear H;intro hb H;(try (conv => cbv))))
  | (refine w_ hF ?_;(try (conv => cbv)))
  | ((with_reducible show Q _ _);exact en_ ⟨[2],[2],[],[(2,0,3),(2,4,3)]⟩ 12 hQ)
  | contradiction
theorem impl_ManifestText.con (E:En) (hE:E = E0) {k l0_0 a0_1 a0_2 a0_3 l0_4 r1 r2} (H:impl_ManifestText.f k l0_0 a0_1 a0_2 a0_3 l0_4 = some (r1,r2)) :
  Cn 192 [.agg [.c (.sl [.int .i64] (E.eI .i64 l0_0)),.c (.int .i64 a0_1),.c (.int .i64 a0_2),.c (.int .i64 a0_3),.c (.sl [.int .i64] (E.eI .i64 l0_4))]] [] (.tup [.c (.str r1),.c (.bool r2)]) [] []:=by
 refine co_ Tryz.func192 Z0I [] fun F hF Q hQ => ?_
 simp only [impl_ManifestText.f] at H
 (conv => cbv)
 repeat' first
  | replace H:=s_ H
  | (exfalso;with_reducible assumption)
  | (rw [Z6] at H;obtain ⟨hc,H⟩:=H)
  | (rw [Z2] at H;obtain ⟨hc,H⟩:=H)
  | ((with_reducible refine br2 hF H ?_ ?_) <;> (clear H;intro hb H;(try (conv => cbv))))
  | (refine w_ hF ?_;(try (conv => cbv)))
  | ((with_reducible refine k1_ 161 H ?_);clear H;intro _ hy H;refine ca_ hF (Z07.con E hE hy) ?_;(try (conv => cbv)))
  | ((with_reducible refine k1_ 223 H ?_);clear H;intro _ hy H;refine ca_ hF (Z13.con E hE hy) ?_;(try (conv => cbv)))
  | ((with_reducible refine k2_ 180 H ?_);clear H;intro _ _ hy H;refine ca_ hF (impl_vars.con E hE hy) ?_;(try (conv => cbv)))
  | ((with_reducible refine k2_ 208 H ?_);clear H;intro _ _ hy H;refine ca_ hF (impl_Sealed.con E hE hy) ?_;(try (conv => cbv)))
  | ((with_reducible show Q _ _);exact en_ ⟨[2,3],[],[],[]⟩ 39 hQ)
  | contradiction
theorem impl_renewed.con (E:En) (hE:E = E0) {k l0_0 a0_1 a0_2 a0_3 l0_4 r1 r2} (H:impl_renewed.f k l0_0 a0_1 a0_2 a0_3 l0_4 = some (r1,r2)) :
  Cn 111 [.agg [.c (.sl [.int .i64] (E.eI .i64 l0_0)),.c (.int .i64 a0_1),.c (.int .i64 a0_2),.c (.int .i64 a0_3),.c (.sl [.int .i64] (E.eI .i64 l0_4))]] [] (.tup [.own 0,.c (.bool r2)]) [.row false 119 [.int .i64,.str,.str,.str] (E.e119 r1)] []:=by
 refine co_ Tryz.func111 tabOk [20002] fun F hF Q hQ => ?_
 simp only [impl_renewed.f] at H
 (conv => cbv)
 repeat' first
  | replace H:=s_ H
  | (exfalso;with_reducible assumption)
  | (rw [Z6] at H;obtain ⟨hc,H⟩:=H)
  | (rw [Z2] at H;obtain ⟨hc,H⟩:=H)
  | ((with_reducible refine br2 hF H ?_ ?_) <;> (clear H;intro hb H;(try (conv => cbv))))
  | (refine w_ hF ?_;(try (conv => cbv)))
  | ((with_reducible refine k2_ 192 H ?_);clear H;intro _ _ hy H;refine ca_ hF (impl_ManifestText.con E hE hy) ?_;(try (conv => cbv)))
  | ((with_reducible show Q _ _);exact en_ ⟨[2,3],[],[(2,119)],[]⟩ 16 hQ)
  | contradiction
theorem impl_AddBatch.con (E:En) (hE:E = E0) {k l0_0 l1_0 a1_1 a1_2 a1_3 l1_4 l1_5 a1_6 a2_0 l2_1 r1 r2 r3 r4 r5 r6 r7 r8 r9} (H:impl_AddBatch.f k l0_0 l1_0 a1_1 a1_2 a1_3 l1_4 l1_5 a1_6 a2_0 l2_1 = some (r1,r2,r3,r4,r5,r6,r7,r8,r9)) :
  Cn 39 [.agg [.c (.sl [.str,.str] (E.e122 l0_0))],.agg [.c (.sl [.int .i64] (E.eI .i64 l1_0)),.c (.int .i64 a1_1),.c (.int .i64 a1_2),.c (.int .i64 a1_3),.c (.sl [.int .i64] (E.eI .i64 l1_4)),.c (.sl [.str,.int .i64,.int .i64,.int .i64] (E.e145 l1_5)),.c (.int .i64 a1_6)],.agg [.c (.int .i64 a2_0),.c (.sl [.str,.str,.bool] (E.e162 l2_1))]] [] (.tup [.agg [.own 0,.c (.int .i64 r2),.c (.int .i64 r3),.c (.int .i64 r4),.own 1,.own 2,.c (.int .i64 r7)],.own 3,.c (.bool r9)]) [.row false 3 [.int .i64] (E.eI .i64 r1),.row false 3 [.int .i64] (E.eI .i64 r5),.row false 145 [.str,.int .i64,.int .i64,.int .i64] (E.e145 r6),.row false 119 [.int .i64,.str,.str,.str] (E.e119 r8)] []:=by
 refine co_ Tryz.func39 Z0I [400120,400124,400125,20007] fun F hF Q hQ => ?_
 simp only [impl_AddBatch.f] at H
 (conv => cbv)
 repeat' first
  | replace H:=s_ H
  | (exfalso;with_reducible assumption)
  | (rw [Z6] at H;obtain ⟨hc,H⟩:=H)
  | (rw [Z2] at H;obtain ⟨hc,H⟩:=H)
  | ((with_reducible refine br2 hF H ?_ ?_) <;> (clear H;intro hb H;(try (conv => cbv))))
  | (refine w_ hF ?_;(try (conv => cbv)))
  | ((with_reducible refine k2_ 99 H ?_);clear H;intro _ _ hy H;refine ca_ hF (Z0j.con E hE hy) ?_;(try (conv => cbv)))
  | ((with_reducible refine k2_ 100 H ?_);clear H;intro _ _ hy H;refine ca_ hF (impl_Frame.con E hE hy) ?_;(try (conv => cbv)))
  | ((with_reducible refine k1_ 97 H ?_);clear H;intro _ hy H;refine ca_ hF (impl_isOpen.con E hE hy) ?_;(try (conv => cbv)))
  | ((with_reducible refine k1_ 69 H ?_);clear H;intro _ hy H;refine ca_ hF (Z0f.con E hE hy) ?_;(try (conv => cbv)))
  | ((with_reducible refine k2_ 68 H ?_);clear H;intro _ _ hy H;refine ca_ hF (Z16.con E hE hy) ?_;(try (conv => cbv)))
  | ((with_reducible refine k9_ 109 H ?_);clear H;intro _ _ _ _ _ _ _ _ _ hy H;refine ca_ hF (impl_behind.con E hE hy) ?_;(try (conv => cbv)))
  | ((with_reducible refine k5_ 110 H ?_);clear H;intro _ _ _ _ _ hy H;refine ca_ hF (impl_copyManifest.con E hE hy) ?_;(try (conv => cbv)))
  | ((with_reducible refine k2_ 111 H ?_);clear H;intro _ _ hy H;refine ca_ hF (impl_renewed.con E hE hy) ?_;(try (conv => cbv)))
  | ((with_reducible show Q _ _);exact en_ ⟨[6,7,8],[6],[(7,119)],[(6,0,3),(6,4,3),(6,5,145)]⟩ 128 hQ)
  | contradiction
theorem spec_l06Cut.con (E:En) (hE:E = E0) {k l0 a1 r} (H:spec_l06Cut.f k l0 a1 = some (r)) :
  Cn 117 [.c (.sl [.str,.str] (E.e147 l0)),.c (.str a1)] [] (.own 0) [.row false 147 [.str,.str] (E.e147 r)] []:=by
 refine co_ Tryz.func117 tabOk [20004] fun F hF Q hQ => ?_
 simp only [spec_l06Cut.f] at H
 (conv => cbv)
 repeat' first
  | replace H:=s_ H
  | (exfalso;with_reducible assumption)
  | (rw [Z6] at H;obtain ⟨hc,H⟩:=H)
  | (rw [Z2] at H;obtain ⟨hc,H⟩:=H)
  | ((with_reducible refine br2 hF H ?_ ?_) <;> (clear H;intro hb H;(try (conv => cbv))))
  | (refine w_ hF ?_;(try (conv => cbv)))
  | ((with_reducible refine lo_ hF (fun n t => n≤k∧∃ x0 x1 x5 x6,t = At 29 [(0,.c (.sl [.str,.str] (E.e147 x0))),(1,.c (.str x1)),(5,.own 20005),(6,.c (.int .i64 x6))] [(20005,.row false 147 [.str,.str] (E.e147 x5))]∧spec_l06Cut.l0 n x0 x1 x5 x6 = some (r)) ⟨[0,1,5,6],[],[(5,147)],[]⟩ fun n0 t ht Q0 hN0 hX0 => ?_);obtain ⟨hl,_,_,_,_,rfl,H⟩:=ht;rcases n0 with _ | n0;cases H;simp only [spec_l06Cut.l0] at H;(try (conv => cbv)))
  | ((with_reducible show Q0 _ _);first | exact nx_ hN0 | (refine xt_ hX0 ?_;(try (conv => cbv))))
  | ((with_reducible show Q _ _);exact en_ ⟨[4],[],[(4,147)],[]⟩ 29 hQ)
  | contradiction
theorem Z0h.con (E:En) (hE:E = E0) {k l0 a1 a2 r} (H:Z0h.f k l0 a1 a2 = some (r)) :
  Cn 118 [.c (.sl [.str,.str] (E.e147 l0)),.c (.str a1),.c (.str a2)] [] (.own 0) [.row false 147 [.str,.str] (E.e147 r)] []:=by
 refine co_ Tryz.func118 tabOk [20006] fun F hF Q hQ => ?_
 simp only [Z0h.f] at H
 (conv => cbv)
 repeat' first
  | replace H:=s_ H
  | (exfalso;with_reducible assumption)
  | (rw [Z6] at H;obtain ⟨hc,H⟩:=H)
  | (rw [Z2] at H;obtain ⟨hc,H⟩:=H)
  | ((with_reducible refine br2 hF H ?_ ?_) <;> (clear H;intro hb H;(try (conv => cbv))))
  | (refine w_ hF ?_;(try (conv => cbv)))
  | ((with_reducible refine lo_ hF (fun n t => n≤k∧∃ x0 x1 x2 x7 x8,t = At 58 [(0,.c (.sl [.str,.str] (E.e147 x0))),(1,.c (.str x1)),(2,.c (.str x2)),(7,.own 20007),(8,.c (.int .i64 x8))] [(20007,.row false 147 [.str,.str] (E.e147 x7))]∧Z0h.l0 n x0 x1 x2 x7 x8 = some (r)) ⟨[0,1,2,7,8],[],[(7,147)],[]⟩ fun n0 t ht Q0 hN0 hX0 => ?_);obtain ⟨hl,_,_,_,_,_,rfl,H⟩:=ht;rcases n0 with _ | n0;cases H;simp only [Z0h.l0] at H;(try (conv => cbv)))
  | ((with_reducible show Q0 _ _);first | exact nx_ hN0 | (refine xt_ hX0 ?_;(try (conv => cbv))))
  | ((with_reducible refine lo_ hF (fun n t => n≤k∧∃ x0 x1 x7 x9,t = At 58 [(0,.c (.sl [.str,.str] (E.e147 x0))),(1,.c (.str x1)),(7,.own 20007),(9,.c (.int .i64 x9))] [(20007,.row false 147 [.str,.str] (E.e147 x7))]∧Z0h.l1 n x0 x1 x7 x9 = some (r)) ⟨[0,1,7,9],[],[(7,147)],[]⟩ fun n1 t ht Q1 hN1 hX1 => ?_);obtain ⟨hl,_,_,_,_,rfl,H⟩:=ht;rcases n1 with _ | n1;cases H;simp only [Z0h.l1] at H;(try (conv => cbv)))
  | ((with_reducible show Q1 _ _);first | exact nx_ hN1 | (refine xt_ hX1 ?_;(try (conv => cbv))))
  | ((with_reducible show Q _ _);exact en_ ⟨[6],[],[(6,147)],[]⟩ 58 hQ)
  | contradiction
end Go.Ev
