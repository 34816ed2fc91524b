/- Contracts of the Go functions that this law reaches: what each call returns, by its plain function. No conditions but those that each statement names. By this repo's programs; comments are taken out. -/
import Derived.Test.YtlmicldpfnmeaaaGreatDoorVFnShelvesD
import Derived.Test.YtlmicldpfnmeaaaGreatDoorVFnShelvesK
import Derived.Test.YtlmicldpfnmeaaaGreatDoorVFnShelvesC6
import Derived.Test.YtlmicldpfnmeaaaGreatDoorVFnShelvesC7
set_option linter.all false
namespace Go.Ev
open Go.RowKit Go.Proofs Go.Proofs.YtlmicldpfnmeaaaGreatDoorW.PrintWords Go.Proofs.YtlmicldpfnmeaaaGreatDoorW.PrintLast Go.Proofs.YtlmicldpfnmeaaaGreatDoorW.PrintMore
set_option maxRecDepth 100000
set_option maxHeartbeats 4000000
theorem Zr.con (E:En) (hE:E = E0) {k s0_0 s0_1 s0_2 l1_0_0 s1_0_1 s1_0_2 s1_0_3 l1_0_4 r1 r2 r3 r4 r5 r6 r7 r8} (H:Zr.f k s0_0 s0_1 s0_2 l1_0_0 s1_0_1 s1_0_2 s1_0_3 l1_0_4 = some (r1,r2,r3,r4,r5,r6,r7,r8)) :
  Cn 156 [.ptr 10000 0,.clo 159 [.ptr 10001 0,.ptr 10002 0]] [.box [.c (.str s0_0),.c (.int .i64 s0_1),.c (.bool s0_2)],.box [.own 10003,.c (.int .i64 s1_0_1),.c (.int .i64 s1_0_2),.c (.int .i64 s1_0_3),.own 10004],.box [.ptr 10000 0],.row false 3 [.int .i64] (E.eI .i64 l1_0_0),.row false 3 [.int .i64] (E.eI .i64 l1_0_4)] (.tup []) [.row false 3 [.int .i64] (E.eI .i64 r7)] [.box [.c (.str r1),.c (.int .i64 r2),.c (.bool r3)],.box [.own 10003,.c (.int .i64 r4),.c (.int .i64 r5),.c (.int .i64 r6),.own 0],.box [.ptr 10000 0],.row false 3 [.int .i64] (E.eI .i64 r8),.gone]:=by
 refine co_ Tryz.func156 Z0I [600024] fun F hF Q hQ => ?_
 simp only [Zr.f] at H
 (conv => cbv)
 repeat' first
  | replace H:=s_ H
  | (exfalso;with_reducible assumption)
  | (rw [Z6] at H;obtain ⟨hc,H⟩:=H)
  | (rw [Z2] at H;obtain ⟨hc,H⟩:=H)
  | ((with_reducible refine br2 hF H ?_ ?_) <;> (clear H;intro hb H;(try (conv => cbv))))
  | (refine w_ hF ?_;(try (conv => cbv)))
  | ((with_reducible refine k4_ 158 H ?_);clear H;intro _ _ _ _ hy H;refine ca_ hF (ZK.con E hE hy) ?_;(try (conv => cbv)))
  | ((with_reducible refine k8_ 159 H ?_);clear H;intro _ _ _ _ _ _ _ _ hy H;refine ca_ hF (Z1d.con E hE hy) ?_;(try (conv => cbv)))
  | ((with_reducible refine lo_ hF (fun n t => n≤k∧∃ x4 x5 v0 v1 v2 w3 v3 v4 v5 v6,t = At 22 [(0,.ptr 10000 0),(1,.clo 159 [.ptr 10001 0,.ptr 10002 0]),(4,.c (.int .i64 x4)),(5,.c (.int .i64 x5))] [(10000,.box [.c (.str v0),.c (.int .i64 v1),.c (.bool v2)]),(10001,.box [.own 10003,.c (.int .i64 v3),.c (.int .i64 v4),.c (.int .i64 v5),.own 600024]),(10002,.box [.ptr 10000 0]),(10003,.row false 3 [.int .i64] (E.eI .i64 w3)),(10004,.gone),(600024,.row false 3 [.int .i64] (E.eI .i64 v6))]∧Zr.l0 n x4 x5 v0 v1 v2 w3 v3 v4 v5 v6 = some (r1,r2,r3,r4,r5,r6,r7,r8)) ⟨[0,1,4,5],[],[],[(10001,4,3)]⟩ fun n0 t ht Q0 hN0 hX0 => ?_);obtain ⟨hl,_,_,_,_,_,_,_,_,_,_,rfl,H⟩:=ht;rcases n0 with _ | n0;cases H;simp only [Zr.l0] at H;(try (conv => cbv)))
  | ((with_reducible show Q0 _ _);first | exact nx_ hN0 | (refine xt_ hX0 ?_;(try (conv => cbv))))
  | ((with_reducible show Q _ _);exact en_ ⟨[],[],[],[(10001,4,3)]⟩ 22 hQ)
  | contradiction
theorem impl_reader_done.con (E:En) (hE:E = E0) {s0_0 s0_1 s0_2 r1 r2 r3 r4} (H:impl_reader_done.f s0_0 s0_1 s0_2 = some (r1,r2,r3,r4)) :
  Cn 160 [.ptr 10000 0] [.box [.c (.str s0_0),.c (.int .i64 s0_1),.c (.bool s0_2)]] (.c (.bool r1)) [] [.box [.c (.str r2),.c (.int .i64 r3),.c (.bool r4)]]:=by
 refine co_ Tryz.func160 tabOk [] fun F hF Q hQ => ?_
 simp only [impl_reader_done.f] at H
 (conv => cbv)
 repeat' first
  | replace H:=s_ H
  | (exfalso;with_reducible assumption)
  | (rw [Z6] at H;obtain ⟨hc,H⟩:=H)
  | (rw [Z2] at H;obtain ⟨hc,H⟩:=H)
  | ((with_reducible refine br2 hF H ?_ ?_) <;> (clear H;intro hb H;(try (conv => cbv))))
  | (refine w_ hF ?_;(try (conv => cbv)))
  | ((with_reducible show Q _ _);exact en_ ⟨[2],[],[],[]⟩ 20 hQ)
  | contradiction
theorem impl_ConfOk.con (E:En) (hE:E = E0) {k l0 r} (H:impl_ConfOk.f k l0 = some (r)) :
  Cn 209 [.c (.sl [.int .i64] (E.eI .i64 l0))] [] (.c (.bool r)) [] []:=by
 refine co_ Tryz.func209 tabOk [] fun F hF Q hQ => ?_
 simp only [impl_ConfOk.f] at H
 (conv => cbv)
 repeat' first
  | replace H:=s_ H
  | (exfalso;with_reducible assumption)
  | (rw [Z6] at H;obtain ⟨hc,H⟩:=H)
  | (rw [Z2] at H;obtain ⟨hc,H⟩:=H)
  | ((with_reducible refine br2 hF H ?_ ?_) <;> (clear H;intro hb H;(try (conv => cbv))))
  | (refine w_ hF ?_;(try (conv => cbv)))
  | ((with_reducible refine k1_ 144 H ?_);clear H;intro _ hy H;refine ca_ hF (ZM.con E hE hy) ?_;(try (conv => cbv)))
  | ((with_reducible refine lo_ hF (fun n t => n≤k∧∃ x0 x5 x6 x7,t = At 32 [(0,.c (.sl [.int .i64] (E.eI .i64 x0))),(5,.c (.sl [.int .i64] (E.eI .i64 x5))),(6,.c (.int .i64 x6)),(7,.c (.int .i64 x7))] []∧impl_ConfOk.l0 n x0 x5 x6 x7 = some (r)) ⟨[0,5,6,7],[],[],[]⟩ fun n0 t ht Q0 hN0 hX0 => ?_);obtain ⟨hl,_,_,_,_,rfl,H⟩:=ht;rcases n0 with _ | n0;cases H;simp only [impl_ConfOk.l0] at H;(try (conv => cbv)))
  | ((with_reducible show Q0 _ _);first | exact nx_ hN0 | (refine xt_ hX0 ?_;(try (conv => cbv))))
  | ((with_reducible show Q _ _);exact en_ ⟨[2],[],[],[]⟩ 32 hQ)
  | contradiction
theorem Z07.con (E:En) (hE:E = E0) {k l0_0 a0_1 a0_2 a0_3 l0_4 r} (H:Z07.f k l0_0 a0_1 a0_2 a0_3 l0_4 = some (r)) :
  Cn 161 [.agg [.c (.sl [.int .i64] (E.eI .i64 l0_0)),.c (.int .i64 a0_1),.c (.int .i64 a0_2),.c (.int .i64 a0_3),.c (.sl [.int .i64] (E.eI .i64 l0_4))]] [] (.c (.bool r)) [] []:=by
 refine co_ Tryz.func161 tabOk [] fun F hF Q hQ => ?_
 simp only [Z07.f] at H
 (conv => cbv)
 repeat' first
  | replace H:=s_ H
  | (exfalso;with_reducible assumption)
  | (rw [Z6] at H;obtain ⟨hc,H⟩:=H)
  | (rw [Z2] at H;obtain ⟨hc,H⟩:=H)
  | ((with_reducible refine br2 hF H ?_ ?_) <;> (clear H;intro hb H;(try (conv => cbv))))
  | (refine w_ hF ?_;(try (conv => cbv)))
  | ((with_reducible refine k1_ 144 H ?_);clear H;intro _ hy H;refine ca_ hF (ZM.con E hE hy) ?_;(try (conv => cbv)))
  | ((with_reducible refine k1_ 209 H ?_);clear H;intro _ hy H;refine ca_ hF (impl_ConfOk.con E hE hy) ?_;(try (conv => cbv)))
  | ((with_reducible refine lo_ hF (fun n t => n≤k∧∃ x6 x7 x8 v0 v1 v2 v3 v4,t = At 61 [(1,.ptr 1 0),(6,.c (.sl [.int .i64] (E.eI .i64 x6))),(7,.c (.int .i64 x7)),(8,.c (.int .i64 x8))] [(1,.box [.c (.sl [.int .i64] (E.eI .i64 v0)),.c (.int .i64 v1),.c (.int .i64 v2),.c (.int .i64 v3),.c (.sl [.int .i64] (E.eI .i64 v4))])]∧Z07.l0 n x6 x7 x8 v0 v1 v2 v3 v4 = some (r)) ⟨[1,6,7,8],[1],[],[]⟩ fun n0 t ht Q0 hN0 hX0 => ?_);obtain ⟨hl,_,_,_,_,_,_,_,_,rfl,H⟩:=ht;rcases n0 with _ | n0;cases H;simp only [Z07.l0] at H;(try (conv => cbv)))
  | ((with_reducible show Q0 _ _);first | exact nx_ hN0 | (refine xt_ hX0 ?_;(try (conv => cbv))))
  | ((with_reducible show Q _ _);exact en_ ⟨[2],[],[],[]⟩ 61 hQ)
  | contradiction
theorem Z0P.con (E:En) (hE:E = E0) {k a0 r1 r2 r3 r4 r5 r6} (H:Z0P.f k a0 = some (r1,r2,r3,r4,r5,r6)) :
  Cn 79 [.c (.str a0)] [] (.tup [.agg [.own 0,.c (.int .i64 r2),.c (.int .i64 r3),.c (.int .i64 r4),.own 1],.c (.bool r6)]) [.row false 3 [.int .i64] (E.eI .i64 r1),.row false 3 [.int .i64] (E.eI .i64 r5)] []:=by
 refine co_ Tryz.func79 Z0I [400040,400044] fun F hF Q hQ => ?_
 simp only [Z0P.f] at H
 (conv => cbv)
 repeat' first
  | replace H:=s_ H
  | (exfalso;with_reducible assumption)
  | (rw [Z6] at H;obtain ⟨hc,H⟩:=H)
  | (rw [Z2] at H;obtain ⟨hc,H⟩:=H)
  | ((with_reducible refine br2 hF H ?_ ?_) <;> (clear H;intro hb H;(try (conv => cbv))))
  | (refine w_ hF ?_;(try (conv => cbv)))
  | ((with_reducible refine k2_ 155 H ?_);clear H;intro _ _ hy H;refine ca_ hF (impl_Unsealed.con E hE hy) ?_;(try (conv => cbv)))
  | ((with_reducible refine k8_ 156 H ?_);clear H;intro _ _ _ _ _ _ _ _ hy H;refine ca_ hF (Zq.con E hE hy) ?_;(try (conv => cbv)))
  | ((with_reducible refine k4_ 158 H ?_);clear H;intro _ _ _ _ hy H;refine ca_ hF (ZK.con E hE hy) ?_;(try (conv => cbv)))
  | ((with_reducible refine k8_ 156 H ?_);clear H;intro _ _ _ _ _ _ _ _ hy H;refine ca_ hF (Zr.con E hE hy) ?_;(try (conv => cbv)))
  | ((with_reducible refine k4_ 160 H ?_);clear H;intro _ _ _ _ hy H;refine ca_ hF (impl_reader_done.con E hE hy) ?_;(try (conv => cbv)))
  | ((with_reducible refine k1_ 161 H ?_);clear H;intro _ hy H;refine ca_ hF (Z07.con E hE hy) ?_;(try (conv => cbv)))
  | ((with_reducible show Q _ _);exact en_ ⟨[2,3],[2],[],[(2,0,3),(2,4,3)]⟩ 44 hQ)
  | contradiction
theorem Z0o.con (E:En) (hE:E = E0) {a0 a1 r} (H:Z0o.f a0 a1 = some r) :
  Cn 234 [.c (.str a0),.c (.str a1)] [] (.c (.bool r)) [] []:=by
 refine co_ Tryz.func234 Z0I [] fun F hF Q hQ => ?_
 simp only [Z0o.f] at H
 (conv => cbv)
 repeat' first
  | replace H:=s_ H
  | (exfalso;with_reducible assumption)
  | (rw [Z6] at H;obtain ⟨hc,H⟩:=H)
  | (rw [Z2] at H;obtain ⟨hc,H⟩:=H)
  | ((with_reducible refine br2 hF H ?_ ?_) <;> (clear H;intro hb H;(try (conv => cbv))))
  | (refine w_ hF ?_;(try (conv => cbv)))
  | ((with_reducible show Q _ _);exact en_ ⟨[4],[],[],[]⟩ 18 hQ)
  | contradiction
theorem Z0p.con (E:En) (hE:E = E0) {a0 a1 r1 r2} (H:Z0p.f a0 a1 = some (r1,r2)) :
  Cn 226 [.c (.str a0),.c (.str a1)] [] (.tup [.c (.str r1),.c (.bool r2)]) [] []:=by
 refine co_ Tryz.func226 Z0I [] fun F hF Q hQ => ?_
 simp only [Z0p.f] at H
 (conv => cbv)
 repeat' first
  | replace H:=s_ H
  | (exfalso;with_reducible assumption)
  | (rw [Z6] at H;obtain ⟨hc,H⟩:=H)
  | (rw [Z2] at H;obtain ⟨hc,H⟩:=H)
  | ((with_reducible refine br2 hF H ?_ ?_) <;> (clear H;intro hb H;(try (conv => cbv))))
  | (refine w_ hF ?_;(try (conv => cbv)))
  | ((with_reducible refine k1_ 234 H ?_);clear H;intro _ hy H;refine ca_ hF (Z0o.con E hE hy) ?_;(try (conv => cbv)))
  | ((with_reducible show Q _ _);exact en_ ⟨[4,5],[],[],[]⟩ 15 hQ)
  | contradiction
theorem strings_CutPrefix.con (E:En) (hE:E = E0) {a0 a1 r1 r2} (H:strings_CutPrefix.f a0 a1 = some (r1,r2)) :
  Cn 210 [.c (.str a0),.c (.str a1)] [] (.tup [.c (.str r1),.c (.bool r2)]) [] []:=by
 refine co_ Tryz.func210 Z0I [] fun F hF Q hQ => ?_
 simp only [strings_CutPrefix.f] at H
 (conv => cbv)
 repeat' first
  | replace H:=s_ H
  | (exfalso;with_reducible assumption)
  | (rw [Z6] at H;obtain ⟨hc,H⟩:=H)
  | (rw [Z2] at H;obtain ⟨hc,H⟩:=H)
  | ((with_reducible refine br2 hF H ?_ ?_) <;> (clear H;intro hb H;(try (conv => cbv))))
  | (refine w_ hF ?_;(try (conv => cbv)))
  | ((with_reducible refine k2_ 226 H ?_);clear H;intro _ _ hy H;refine ca_ hF (Z0p.con E hE hy) ?_;(try (conv => cbv)))
  | ((with_reducible show Q _ _);exact en_ ⟨[4,5],[],[],[]⟩ 11 hQ)
  | contradiction
theorem impl_ReadDecimal.con (E:En) (hE:E = E0) {a0 r1 r2} (H:impl_ReadDecimal.f a0 = some (r1,r2)) :
  Cn 211 [.c (.str a0)] [] (.tup [.c (.int .i64 r1),.c (.bool r2)]) [] []:=by
 refine co_ Tryz.func211 Z0I [] fun F hF Q hQ => ?_
 simp only [impl_ReadDecimal.f] at H
 (conv => cbv)
 repeat' first
  | replace H:=s_ H
  | (exfalso;with_reducible assumption)
  | (rw [Z6] at H;obtain ⟨hc,H⟩:=H)
  | (rw [Z2] at H;obtain ⟨hc,H⟩:=H)
  | ((with_reducible refine br2 hF H ?_ ?_) <;> (clear H;intro hb H;(try (conv => cbv))))
  | (refine w_ hF ?_;(try (conv => cbv)))
  | ((with_reducible refine k2_ 227 H ?_);clear H;intro _ _ hy H;refine ca_ hF (strconv_Atoi.con E hE hy) ?_;(try (conv => cbv)))
  | ((with_reducible refine k1_ 145 H ?_);clear H;intro _ hy H;refine ca_ hF (impl_Decimal.con E hE hy) ?_;(try (conv => cbv)))
  | ((with_reducible refine k1_ 144 H ?_);clear H;intro _ hy H;refine ca_ hF (ZM.con E hE hy) ?_;(try (conv => cbv)))
  | ((with_reducible show Q _ _);exact en_ ⟨[2,3],[],[],[]⟩ 25 hQ)
  | contradiction
theorem impl_isSegName.con (E:En) (hE:E = E0) {a0 r} (H:impl_isSegName.f a0 = some r) :
  Cn 162 [.c (.str a0)] [] (.c (.bool r)) [] []:=by
 refine co_ Tryz.func162 Z0I [] fun F hF Q hQ => ?_
 simp only [impl_isSegName.f] at H
 (conv => cbv)
 repeat' first
  | replace H:=s_ H
  | (exfalso;with_reducible assumption)
  | (rw [Z6] at H;obtain ⟨hc,H⟩:=H)
  | (rw [Z2] at H;obtain ⟨hc,H⟩:=H)
  | ((with_reducible refine br2 hF H ?_ ?_) <;> (clear H;intro hb H;(try (conv => cbv))))
  | (refine w_ hF ?_;(try (conv => cbv)))
  | ((with_reducible refine k2_ 210 H ?_);clear H;intro _ _ hy H;refine ca_ hF (strings_CutPrefix.con E hE hy) ?_;(try (conv => cbv)))
  | ((with_reducible refine k2_ 211 H ?_);clear H;intro _ _ hy H;refine ca_ hF (impl_ReadDecimal.con E hE hy) ?_;(try (conv => cbv)))
  | ((with_reducible refine k1_ 69 H ?_);clear H;intro _ hy H;refine ca_ hF (Z0f.con E hE hy) ?_;(try (conv => cbv)))
  | ((with_reducible show Q _ _);exact en_ ⟨[2],[],[],[]⟩ 27 hQ)
  | contradiction
theorem impl_cleaning_c1.con (E:En) (hE:E = E0) {a0 s1_0 s1_1 r1 r2 r3} (H:impl_cleaning_c1.f a0 s1_0 s1_1 = some (r1,r2,r3)) :
  Cn 164 [.c (.int .i64 a0),.ptr 10000 0] [.box [.c (.str s1_0),.c (.str s1_1)]] (.c (.bool r1)) [] [.box [.c (.str r2),.c (.str r3)]]:=by
 refine co_ Tryz.func164 Z0I [] fun F hF Q hQ => ?_
 simp only [impl_cleaning_c1.f] at H
 (conv => cbv)
 repeat' first
  | replace H:=s_ H
  | (exfalso;with_reducible assumption)
  | (rw [Z6] at H;obtain ⟨hc,H⟩:=H)
  | (rw [Z2] at H;obtain ⟨hc,H⟩:=H)
  | ((with_reducible refine br2 hF H ?_ ?_) <;> (clear H;intro hb H;(try (conv => cbv))))
  | (refine w_ hF ?_;(try (conv => cbv)))
  | ((with_reducible refine k1_ 69 H ?_);clear H;intro _ hy H;refine ca_ hF (Z0f.con E hE hy) ?_;(try (conv => cbv)))
  | ((with_reducible show Q _ _);exact en_ ⟨[3],[],[],[]⟩ 9 hQ)
  | contradiction
theorem Zy.con (E:En) (hE:E = E0) {k l0 s1_0_0 s1_0_1 r1 r2 r3} (H:Zy.f k l0 s1_0_0 s1_0_1 = some (r1,r2,r3)) :
  Cn 212 [.c (.sl [.int .i64] (E.eI .i64 l0)),.clo 164 [.ptr 10000 0]] [.box [.c (.str s1_0_0),.c (.str s1_0_1)]] (.c (.int .i64 r1)) [] [.box [.c (.str r2),.c (.str r3)]]:=by
 refine co_ Tryz.func212 Z0I [] fun F hF Q hQ => ?_
 simp only [Zy.f] at H
 (conv => cbv)
 repeat' first
  | replace H:=s_ H
  | (exfalso;with_reducible assumption)
  | (rw [Z6] at H;obtain ⟨hc,H⟩:=H)
  | (rw [Z2] at H;obtain ⟨hc,H⟩:=H)
  | ((with_reducible refine br2 hF H ?_ ?_) <;> (clear H;intro hb H;(try (conv => cbv))))
  | (refine w_ hF ?_;(try (conv => cbv)))
  | ((with_reducible refine k3_ 164 H ?_);clear H;intro _ _ _ hy H;refine ca_ hF (impl_cleaning_c1.con E hE hy) ?_;(try (conv => cbv)))
  | ((with_reducible refine lo_ hF (fun n t => n≤k∧∃ x0 x7 x8 v0 v1,t = At 19 [(0,.c (.sl [.int .i64] (E.eI .i64 x0))),(1,.clo 164 [.ptr 10000 0]),(7,.c (.int .i64 x7)),(8,.c (.int .i64 x8))] [(10000,.box [.c (.str v0),.c (.str v1)])]∧Zy.l0 n x0 x7 x8 v0 v1 = some (r1,r2,r3)) ⟨[0,1,7,8],[],[],[]⟩ fun n0 t ht Q0 hN0 hX0 => ?_);obtain ⟨hl,_,_,_,_,_,rfl,H⟩:=ht;rcases n0 with _ | n0;cases H;simp only [Zy.l0] at H;(try (conv => cbv)))
  | ((with_reducible show Q0 _ _);first | exact nx_ hN0 | (refine xt_ hX0 ?_;(try (conv => cbv))))
  | ((with_reducible show Q _ _);exact en_ ⟨[4],[],[],[]⟩ 19 hQ)
  | contradiction
theorem Z0n.con (E:En) (hE:E = E0) {k l0 s1_0_0 s1_0_1 r1 r2 r3} (H:Z0n.f k l0 s1_0_0 s1_0_1 = some (r1,r2,r3)) :
  Cn 163 [.c (.sl [.int .i64] (E.eI .i64 l0)),.clo 164 [.ptr 10000 0]] [.box [.c (.str s1_0_0),.c (.str s1_0_1)]] (.c (.bool r1)) [] [.box [.c (.str r2),.c (.str r3)]]:=by
 refine co_ Tryz.func163 Z0I [] fun F hF Q hQ => ?_
 simp only [Z0n.f] at H
 (conv => cbv)
 repeat' first
  | replace H:=s_ H
  | (exfalso;with_reducible assumption)
  | (rw [Z6] at H;obtain ⟨hc,H⟩:=H)
  | (rw [Z2] at H;obtain ⟨hc,H⟩:=H)
  | ((with_reducible refine br2 hF H ?_ ?_) <;> (clear H;intro hb H;(try (conv => cbv))))
  | (refine w_ hF ?_;(try (conv => cbv)))
  | ((with_reducible refine k3_ 212 H ?_);clear H;intro _ _ _ hy H;refine ca_ hF (Zy.con E hE hy) ?_;(try (conv => cbv)))
  | ((with_reducible show Q _ _);exact en_ ⟨[4],[],[],[]⟩ 9 hQ)
  | contradiction
theorem Z0g.con (E:En) (hE:E = E0) {k l0_0 l1_0 a1_1 a1_2 a1_3 l1_4 r} (H:Z0g.f k l0_0 l1_0 a1_1 a1_2 a1_3 l1_4 = some r) :
  Cn 80 [.agg [.c (.sl [.str,.str] (E.e122 l0_0))],.agg [.c (.sl [.int .i64] (E.eI .i64 l1_0)),.c (.int .i64 a1_1),.c (.int .i64 a1_2),.c (.int .i64 a1_3),.c (.sl [.int .i64] (E.eI .i64 l1_4))]] [] (.own 0) [.row false 119 [.int .i64,.str,.str,.str] (E.e119 r)] []:=by
 refine co_ Tryz.func80 Z0I [20004] fun F hF Q hQ => ?_
 simp only [Z0g.f] at H
 (conv => cbv)
 repeat' first
  | replace H:=s_ H
  | (exfalso;with_reducible assumption)
  | (rw [Z6] at H;obtain ⟨hc,H⟩:=H)
  | (rw [Z2] at H;obtain ⟨hc,H⟩:=H)
  | ((with_reducible refine br2 hF H ?_ ?_) <;> (clear H;intro hb H;(try (conv => cbv))))
  | (refine w_ hF ?_;(try (conv => cbv)))
  | ((with_reducible refine k2_ 68 H ?_);clear H;intro _ _ hy H;refine ca_ hF (Z16.con E hE hy) ?_;(try (conv => cbv)))
  | ((with_reducible refine k1_ 162 H ?_);clear H;intro _ hy H;refine ca_ hF (impl_isSegName.con E hE hy) ?_;(try (conv => cbv)))
  | ((with_reducible refine k3_ 163 H ?_);clear H;intro _ _ _ hy H;refine ca_ hF (Z0n.con E hE hy) ?_;(try (conv => cbv)))
  | ((with_reducible refine lo_ hF (fun n t => n≤k∧∃ x5 x21 x22 x23 v0 v1 v2 v3 v4,t = At 45 [(3,.ptr 3 0),(5,.own 20005),(21,.c (.sl [.str,.str] (E.e122 x21))),(22,.c (.int .i64 x22)),(23,.c (.int .i64 x23))] [(3,.box [.c (.sl [.int .i64] (E.eI .i64 v0)),.c (.int .i64 v1),.c (.int .i64 v2),.c (.int .i64 v3),.c (.sl [.int .i64] (E.eI .i64 v4))]),(20005,.row false 119 [.int .i64,.str,.str,.str] (E.e119 x5))]∧Z0g.l0 n x5 x21 x22 x23 v0 v1 v2 v3 v4 = some r) ⟨[3,5,21,22,23],[3],[(5,119)],[]⟩ fun n0 t ht Q0 hN0 hX0 => ?_);obtain ⟨hl,_,_,_,_,_,_,_,_,_,rfl,H⟩:=ht;rcases n0 with _ | n0;cases H;simp only [Z0g.l0] at H;(try (conv => cbv)))
  | ((with_reducible show Q0 _ _);first | exact nx_ hN0 | (refine xt_ hX0 ?_;(try (conv => cbv))))
  | ((with_reducible show Q _ _);exact en_ ⟨[4],[],[(4,119)],[]⟩ 45 hQ)
  | contradiction
theorem ZO.j1_s {k:Nat} {x0:ByteArray} {x4:List ByteArray} {x5:Int} {x6:Int} {x7:Int} {x32:Bool} {r:_} (h:ZO.j1 k x0 x4 x5 x6 x7 x32 = some r):∃ m,k = m + 1∧ZO.j1 (m + 1) x0 x4 x5 x6 x7 x32 = some r:=by
 cases k with
 | zero => simp [ZO.j1] at h
 | succ m => exact ⟨m,rfl,h⟩
theorem ZO.j1_i {k:Nat} {x0:ByteArray} {x4:List ByteArray} {x5:Int} {x6:Int} {x7:Int} {x32:Bool} {r:_}:(ZO.j1 k x0 x4 x5 x6 x7 x32 = some r) = (∃ m,k = m + 1∧ZO.j1 (m + 1) x0 x4 x5 x6 x7 x32 = some r):=propext ⟨ZO.j1_s,fun ⟨m,h,h2⟩ => by rw [h];exact h2⟩
theorem ZO.con (E:En) (hE:E = E0) {k a0 r1 r2} (H:ZO.f k a0 = some (r1,r2)) :
  Cn 146 [.c (.str a0)] [] (.tup [.own 0,.c (.int .i64 r2)]) [.row false 9 [.str] (E.eS r1)] []:=by
 refine co_ Tryz.func146 tabOk [20002] fun F hF Q hQ => ?_
 simp only [ZO.f] at H
 (conv => cbv)
 repeat' first
  | (rw [ZO.j1_i] at H;obtain ⟨m,hm,H⟩:=H;simp only [ZO.j1] at H;(try simp only [decide_eq_true_eq,Bool.false_eq_true,if_false,if_true] at H))
  | replace H:=s_ H
  | (exfalso;with_reducible assumption)
  | (rw [Z6] at H;obtain ⟨hc,H⟩:=H)
  | (rw [Z2] at H;obtain ⟨hc,H⟩:=H)
  | ((with_reducible refine br2 hF H ?_ ?_) <;> (clear H;intro hb H;(try (conv => cbv))))
  | (refine w_ hF ?_;(try (conv => cbv)))
  | ((with_reducible refine k2_ 100 H ?_);clear H;intro _ _ hy H;refine ca_ hF (impl_Frame.con E hE hy) ?_;(try (conv => cbv)))
  | ((with_reducible refine k3_ 203 H ?_);clear H;intro _ _ _ hy H;refine ca_ hF (Zs.con E hE hy) ?_;(try (conv => cbv)))
  | ((with_reducible refine lo_ hF (fun n t => n≤k∧∃ x0 x4 x5,t = At 71 [(0,.c (.str x0)),(4,.own 20004),(5,.c (.int .i64 x5))] [(20004,.row false 9 [.str] (E.eS x4))]∧ZO.l0 n x0 x4 x5 = some (r1,r2)) ⟨[0,4,5],[],[(4,9)],[]⟩ fun n0 t ht Q0 hN0 hX0 => ?_);obtain ⟨hl,_,_,_,rfl,H⟩:=ht;rcases n0 with _ | n0;cases H;simp only [ZO.l0] at H;(try (conv => cbv)))
  | ((with_reducible show Q0 _ _);first | exact nx_ hN0 | (refine xt_ hX0 ?_;(try (conv => cbv))))
  | ((with_reducible show Q _ _);exact en_ ⟨[2,3],[],[(2,9)],[]⟩ 71 hQ)
  | contradiction
theorem impl_ReadShort.con (E:En) (hE:E = E0) {k a0 a1 r1 r2 r3} (H:impl_ReadShort.f k a0 a1 = some (r1,r2,r3)) :
  Cn 225 [.c (.str a0),.c (.int .i64 a1)] [] (.tup [.c (.str r1),.c (.int .i64 r2),.c (.bool r3)]) [] []:=by
 refine co_ Tryz.func225 Z0I [] fun F hF Q hQ => ?_
 simp only [impl_ReadShort.f] at H
 (conv => cbv)
 repeat' first
  | replace H:=s_ H
  | (exfalso;with_reducible assumption)
  | (rw [Z6] at H;obtain ⟨hc,H⟩:=H)
  | (rw [Z2] at H;obtain ⟨hc,H⟩:=H)
  | ((with_reducible refine br2 hF H ?_ ?_) <;> (clear H;intro hb H;(try (conv => cbv))))
  | (refine w_ hF ?_;(try (conv => cbv)))
  | ((with_reducible refine k3_ 203 H ?_);clear H;intro _ _ _ hy H;refine ca_ hF (Zs.con E hE hy) ?_;(try (conv => cbv)))
  | ((with_reducible show Q _ _);exact en_ ⟨[4,5,6],[],[],[]⟩ 40 hQ)
  | contradiction
theorem impl_reader_text.con (E:En) (hE:E = E0) {k s0_0 s0_1 s0_2 r1 r2 r3 r4} (H:impl_reader_text.f k s0_0 s0_1 s0_2 = some (r1,r2,r3,r4)) :
  Cn 205 [.ptr 10000 0] [.box [.c (.str s0_0),.c (.int .i64 s0_1),.c (.bool s0_2)]] (.c (.str r1)) [] [.box [.c (.str r2),.c (.int .i64 r3),.c (.bool r4)]]:=by
 refine co_ Tryz.func205 Z0I [] fun F hF Q hQ => ?_
 simp only [impl_reader_text.f] at H
 (conv => cbv)
 repeat' first
  | replace H:=s_ H
  | (exfalso;with_reducible assumption)
  | (rw [Z6] at H;obtain ⟨hc,H⟩:=H)
  | (rw [Z2] at H;obtain ⟨hc,H⟩:=H)
  | ((with_reducible refine br2 hF H ?_ ?_) <;> (clear H;intro hb H;(try (conv => cbv))))
  | (refine w_ hF ?_;(try (conv => cbv)))
  | ((with_reducible refine k3_ 225 H ?_);clear H;intro _ _ _ hy H;refine ca_ hF (impl_ReadShort.con E hE hy) ?_;(try (conv => cbv)))
  | ((with_reducible show Q _ _);exact en_ ⟨[2],[],[],[]⟩ 35 hQ)
  | contradiction
end Go.Ev
