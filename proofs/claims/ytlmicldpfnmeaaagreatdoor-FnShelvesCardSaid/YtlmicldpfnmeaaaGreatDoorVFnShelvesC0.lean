/- Contracts of the Go functions that this law reaches: what each call returns, by its plain function. No conditions but those that each statement names. By this repo's programs; comments are taken out. -/
import Derived.Test.YtlmicldpfnmeaaaGreatDoorVFnShelvesD
set_option linter.all false
namespace Go.Ev
open Go.RowKit Go.Proofs Go.Proofs.YtlmicldpfnmeaaaGreatDoorW.PrintWords Go.Proofs.YtlmicldpfnmeaaaGreatDoorW.PrintLast Go.Proofs.YtlmicldpfnmeaaaGreatDoorW.PrintMore
set_option maxRecDepth 100000
set_option maxHeartbeats 4000000
theorem laws_big.con (E:En) (hE:E = E0) {l0 r} (H:laws_big.f l0 = some (r)) :
  Cn 28 [.c (.sl [.int .u8] (E.eI .u8 l0))] [] (.c (.bool r)) [] []:=by
 refine co_ Tryz.func28 tabOk [] fun F hF Q hQ => ?_
 simp only [laws_big.f] at H
 (conv => cbv)
 repeat' first
  | replace H:=s_ H
  | (exfalso;with_reducible assumption)
  | (rw [Z6] at H;obtain ⟨hc,H⟩:=H)
  | (rw [Z2] at H;obtain ⟨hc,H⟩:=H)
  | ((with_reducible refine br2 hF H ?_ ?_) <;> (clear H;intro hb H;(try (conv => cbv))))
  | (refine w_ hF ?_;(try (conv => cbv)))
  | ((with_reducible show Q _ _);exact en_ ⟨[2],[],[],[]⟩ 6 hQ)
  | contradiction
theorem spec_l01New.con (E:En) (hE:E = E0) {k l0 r1 r2 r3} (H:spec_l01New.f k l0 = some (r1,r2,r3)) :
  Cn 90 [.c (.sl [.int .u8] (E.eI .u8 l0))] [] (.ptr 0 0) [.box [.c (.sl [.int .u8] (E.eI .u8 r1)),.c (.int .i64 r2),.c (.int .i64 r3)]] []:=by
 refine co_ Tryz.func90 tabOk [31] fun F hF Q hQ => ?_
 simp only [spec_l01New.f] at H
 (conv => cbv)
 repeat' first
  | replace H:=s_ H
  | (exfalso;with_reducible assumption)
  | (rw [Z6] at H;obtain ⟨hc,H⟩:=H)
  | (rw [Z2] at H;obtain ⟨hc,H⟩:=H)
  | ((with_reducible refine br2 hF H ?_ ?_) <;> (clear H;intro hb H;(try (conv => cbv))))
  | (refine w_ hF ?_;(try (conv => cbv)))
  | ((with_reducible refine lo_ hF (fun n t => n≤k∧∃ x0 x3 x4,t = At 32 [(0,.c (.sl [.int .u8] (E.eI .u8 x0))),(3,.c (.int .i64 x3)),(4,.c (.int .i64 x4))] []∧spec_l01New.l0 n x0 x3 x4 = some (r1,r2,r3)) ⟨[0,3,4],[],[],[]⟩ fun n0 t ht Q0 hN0 hX0 => ?_);obtain ⟨hl,_,_,_,rfl,H⟩:=ht;rcases n0 with _ | n0;cases H;simp only [spec_l01New.l0] at H;(try (conv => cbv)))
  | ((with_reducible show Q0 _ _);first | exact nx_ hN0 | (refine xt_ hX0 ?_;(try (conv => cbv))))
  | ((with_reducible show Q _ _);exact en_ ⟨[2],[31],[],[]⟩ 32 hQ)
  | contradiction
theorem spec_l09Size.con (E:En) (hE:E = E0) {l0 r} (H:spec_l09Size.f l0 = some (r)) :
  Cn 93 [.c (.sl [.int .u8] (E.eI .u8 l0))] [] (.c (.int .i64 r)) [] []:=by
 refine co_ Tryz.func93 tabOk [] fun F hF Q hQ => ?_
 simp only [spec_l09Size.f] at H
 (conv => cbv)
 repeat' first
  | replace H:=s_ H
  | (exfalso;with_reducible assumption)
  | (rw [Z6] at H;obtain ⟨hc,H⟩:=H)
  | (rw [Z2] at H;obtain ⟨hc,H⟩:=H)
  | ((with_reducible refine br2 hF H ?_ ?_) <;> (clear H;intro hb H;(try (conv => cbv))))
  | (refine w_ hF ?_;(try (conv => cbv)))
  | ((with_reducible show Q _ _);exact en_ ⟨[2],[],[],[]⟩ 11 hQ)
  | contradiction
theorem spec_l01Byte.con (E:En) (hE:E = E0) {s0_0 s0_1 s0_2 r1 r2 r3 r4} (H:spec_l01Byte.f s0_0 s0_1 s0_2 = some (r1,r2,r3,r4)) :
  Cn 124 [.ptr 10000 0] [.box [.c (.sl [.int .u8] (E.eI .u8 s0_0)),.c (.int .i64 s0_1),.c (.int .i64 s0_2)]] (.c (.int .i64 r1)) [] [.box [.c (.sl [.int .u8] (E.eI .u8 r2)),.c (.int .i64 r3),.c (.int .i64 r4)]]:=by
 refine co_ Tryz.func124 Z0I [] fun F hF Q hQ => ?_
 simp only [spec_l01Byte.f] at H
 (conv => cbv)
 repeat' first
  | replace H:=s_ H
  | (exfalso;with_reducible assumption)
  | (rw [Z6] at H;obtain ⟨hc,H⟩:=H)
  | (rw [Z2] at H;obtain ⟨hc,H⟩:=H)
  | ((with_reducible refine br2 hF H ?_ ?_) <;> (clear H;intro hb H;(try (conv => cbv))))
  | (refine w_ hF ?_;(try (conv => cbv)))
  | ((with_reducible show Q _ _);exact en_ ⟨[2],[],[],[]⟩ 58 hQ)
  | contradiction
theorem Z0t.con (E:En) (hE:E = E0) {s0_0 s0_1 s0_2 a1 r1 r2 r3 r4} (H:Z0t.f s0_0 s0_1 s0_2 a1 = some (r1,r2,r3,r4)) :
  Cn 92 [.ptr 10000 0,.c (.int .i64 a1)] [.box [.c (.sl [.int .u8] (E.eI .u8 s0_0)),.c (.int .i64 s0_1),.c (.int .i64 s0_2)]] (.c (.int .i64 r1)) [] [.box [.c (.sl [.int .u8] (E.eI .u8 r2)),.c (.int .i64 r3),.c (.int .i64 r4)]]:=by
 refine co_ Tryz.func92 Z0I [] fun F hF Q hQ => ?_
 simp only [Z0t.f] at H
 (conv => cbv)
 repeat' first
  | replace H:=s_ H
  | (exfalso;with_reducible assumption)
  | (rw [Z6] at H;obtain ⟨hc,H⟩:=H)
  | (rw [Z2] at H;obtain ⟨hc,H⟩:=H)
  | ((with_reducible refine br2 hF H ?_ ?_) <;> (clear H;intro hb H;(try (conv => cbv))))
  | (refine w_ hF ?_;(try (conv => cbv)))
  | ((with_reducible refine k4_ 124 H ?_);clear H;intro _ _ _ _ hy H;refine ca_ hF (spec_l01Byte.con E hE hy) ?_;(try (conv => cbv)))
  | ((with_reducible show Q _ _);exact en_ ⟨[4],[],[],[]⟩ 37 hQ)
  | contradiction
theorem Z0A.con (E:En) (hE:E = E0) {s0_0 s0_1 s0_2 a1 r1 r2 r3 r4} (H:Z0A.f s0_0 s0_1 s0_2 a1 = some (r1,r2,r3,r4)) :
  Cn 173 [.ptr 10000 0,.c (.int .i64 a1)] [.box [.c (.sl [.int .u8] (E.eI .u8 s0_0)),.c (.int .i64 s0_1),.c (.int .i64 s0_2)]] (.c (.bool r1)) [] [.box [.c (.sl [.int .u8] (E.eI .u8 r2)),.c (.int .i64 r3),.c (.int .i64 r4)]]:=by
 refine co_ Tryz.func173 Z0I [] fun F hF Q hQ => ?_
 simp only [Z0A.f] at H
 (conv => cbv)
 repeat' first
  | replace H:=s_ H
  | (exfalso;with_reducible assumption)
  | (rw [Z6] at H;obtain ⟨hc,H⟩:=H)
  | (rw [Z2] at H;obtain ⟨hc,H⟩:=H)
  | ((with_reducible refine br2 hF H ?_ ?_) <;> (clear H;intro hb H;(try (conv => cbv))))
  | (refine w_ hF ?_;(try (conv => cbv)))
  | ((with_reducible refine k4_ 92 H ?_);clear H;intro _ _ _ _ hy H;refine ca_ hF (Z0t.con E hE hy) ?_;(try (conv => cbv)))
  | ((with_reducible show Q _ _);exact en_ ⟨[4],[],[],[]⟩ 9 hQ)
  | contradiction
theorem Z11.con (E:En) (hE:E = E0) {k s0_0 s0_1 s0_2 r1 r2 r3 r4} (H:Z11.f k s0_0 s0_1 s0_2 = some (r1,r2,r3,r4)) :
  Cn 172 [.ptr 10000 0] [.box [.c (.sl [.int .u8] (E.eI .u8 s0_0)),.c (.int .i64 s0_1),.c (.int .i64 s0_2)]] (.own 0) [.row false 3 [.int .i64] (E.eI .i64 r1)] [.box [.c (.sl [.int .u8] (E.eI .u8 r2)),.c (.int .i64 r3),.c (.int .i64 r4)]]:=by
 refine co_ Tryz.func172 Z0I [20002] fun F hF Q hQ => ?_
 simp only [Z11.f] at H
 (conv => cbv)
 repeat' first
  | replace H:=s_ H
  | (exfalso;with_reducible assumption)
  | (rw [Z6] at H;obtain ⟨hc,H⟩:=H)
  | (rw [Z2] at H;obtain ⟨hc,H⟩:=H)
  | ((with_reducible refine br2 hF H ?_ ?_) <;> (clear H;intro hb H;(try (conv => cbv))))
  | (refine w_ hF ?_;(try (conv => cbv)))
  | ((with_reducible refine k4_ 173 H ?_);clear H;intro _ _ _ _ hy H;refine ca_ hF (Z0A.con E hE hy) ?_;(try (conv => cbv)))
  | ((with_reducible refine lo_ hF (fun n t => n≤k∧∃ x3 x4 v0 v1 v2,t = At 23 [(0,.ptr 10000 0),(3,.own 20003),(4,.c (.int .i64 x4))] [(10000,.box [.c (.sl [.int .u8] (E.eI .u8 v0)),.c (.int .i64 v1),.c (.int .i64 v2)]),(20003,.row false 3 [.int .i64] (E.eI .i64 x3))]∧Z11.l0 n x3 x4 v0 v1 v2 = some (r1,r2,r3,r4)) ⟨[0,3,4],[],[(3,3)],[]⟩ fun n0 t ht Q0 hN0 hX0 => ?_);obtain ⟨hl,_,_,_,_,_,rfl,H⟩:=ht;rcases n0 with _ | n0;cases H;simp only [Z11.l0] at H;(try (conv => cbv)))
  | ((with_reducible show Q0 _ _);first | exact nx_ hN0 | (refine xt_ hX0 ?_;(try (conv => cbv))))
  | ((with_reducible show Q _ _);exact en_ ⟨[2],[],[(2,3)],[]⟩ 23 hQ)
  | contradiction
theorem ZH.con (E:En) (hE:E = E0) {a0 a1 a2 r} (H:ZH.f a0 a1 a2 = some (r)) :
  Cn 131 [.c (.int .i64 a0),.c (.int .i64 a1),.c (.int .i64 a2)] [] (.c (.bool r)) [] []:=by
 refine co_ Tryz.func131 tabOk [] fun F hF Q hQ => ?_
 simp only [ZH.f] at H
 (conv => cbv)
 repeat' first
  | replace H:=s_ H
  | (exfalso;with_reducible assumption)
  | (rw [Z6] at H;obtain ⟨hc,H⟩:=H)
  | (rw [Z2] at H;obtain ⟨hc,H⟩:=H)
  | ((with_reducible refine br2 hF H ?_ ?_) <;> (clear H;intro hb H;(try (conv => cbv))))
  | (refine w_ hF ?_;(try (conv => cbv)))
  | ((with_reducible show Q _ _);exact en_ ⟨[6],[],[],[]⟩ 15 hQ)
  | contradiction
theorem Z0J.con (E:En) (hE:E = E0) {k l0 a1 a2 r} (H:Z0J.f k l0 a1 a2 = some (r)) :
  Cn 219 [.c (.sl [.int .i64] (E.eI .i64 l0)),.c (.int .i64 a1),.c (.int .i64 a2)] [] (.c (.bool r)) [] []:=by
 refine co_ Tryz.func219 tabOk [] fun F hF Q hQ => ?_
 simp only [Z0J.f] at H
 (conv => cbv)
 repeat' first
  | replace H:=s_ H
  | (exfalso;with_reducible assumption)
  | (rw [Z6] at H;obtain ⟨hc,H⟩:=H)
  | (rw [Z2] at H;obtain ⟨hc,H⟩:=H)
  | ((with_reducible refine br2 hF H ?_ ?_) <;> (clear H;intro hb H;(try (conv => cbv))))
  | (refine w_ hF ?_;(try (conv => cbv)))
  | ((with_reducible refine k1_ 131 H ?_);clear H;intro _ hy H;refine ca_ hF (ZH.con E hE hy) ?_;(try (conv => cbv)))
  | ((with_reducible refine lo_ hF (fun n t => n≤k∧∃ x0 x1 x2 x7,t = At 38 [(0,.c (.sl [.int .i64] (E.eI .i64 x0))),(1,.c (.int .i64 x1)),(2,.c (.int .i64 x2)),(7,.c (.int .i64 x7))] []∧Z0J.l0 n x0 x1 x2 x7 = some (r)) ⟨[0,1,2,7],[],[],[]⟩ fun n0 t ht Q0 hN0 hX0 => ?_);obtain ⟨hl,_,_,_,_,rfl,H⟩:=ht;rcases n0 with _ | n0;cases H;simp only [Z0J.l0] at H;(try (conv => cbv)))
  | ((with_reducible show Q0 _ _);first | exact nx_ hN0 | (refine xt_ hX0 ?_;(try (conv => cbv))))
  | ((with_reducible show Q _ _);exact en_ ⟨[6],[],[],[]⟩ 38 hQ)
  | contradiction
theorem spec_ConfOk.con (E:En) (hE:E = E0) {k l0 r} (H:spec_ConfOk.f k l0 = some (r)) :
  Cn 220 [.c (.sl [.int .i64] (E.eI .i64 l0))] [] (.c (.bool r)) [] []:=by
 refine co_ Tryz.func220 tabOk [] fun F hF Q hQ => ?_
 simp only [spec_ConfOk.f] at H
 (conv => cbv)
 repeat' first
  | replace H:=s_ H
  | (exfalso;with_reducible assumption)
  | (rw [Z6] at H;obtain ⟨hc,H⟩:=H)
  | (rw [Z2] at H;obtain ⟨hc,H⟩:=H)
  | ((with_reducible refine br2 hF H ?_ ?_) <;> (clear H;intro hb H;(try (conv => cbv))))
  | (refine w_ hF ?_;(try (conv => cbv)))
  | ((with_reducible refine k1_ 131 H ?_);clear H;intro _ hy H;refine ca_ hF (ZH.con E hE hy) ?_;(try (conv => cbv)))
  | ((with_reducible refine k1_ 219 H ?_);clear H;intro _ hy H;refine ca_ hF (Z0J.con E hE hy) ?_;(try (conv => cbv)))
  | ((with_reducible show Q _ _);exact en_ ⟨[2],[],[],[]⟩ 10 hQ)
  | contradiction
theorem spec_ManifestOk.con (E:En) (hE:E = E0) {k l0_0 a0_1 a0_2 a0_3 l0_4 r} (H:spec_ManifestOk.f k l0_0 a0_1 a0_2 a0_3 l0_4 = some (r)) :
  Cn 189 [.agg [.c (.sl [.int .i64] (E.eI .i64 l0_0)),.c (.int .i64 a0_1),.c (.int .i64 a0_2),.c (.int .i64 a0_3),.c (.sl [.int .i64] (E.eI .i64 l0_4))]] [] (.c (.bool r)) [] []:=by
 refine co_ Tryz.func189 tabOk [] fun F hF Q hQ => ?_
 simp only [spec_ManifestOk.f] at H
 (conv => cbv)
 repeat' first
  | replace H:=s_ H
  | (exfalso;with_reducible assumption)
  | (rw [Z6] at H;obtain ⟨hc,H⟩:=H)
  | (rw [Z2] at H;obtain ⟨hc,H⟩:=H)
  | ((with_reducible refine br2 hF H ?_ ?_) <;> (clear H;intro hb H;(try (conv => cbv))))
  | (refine w_ hF ?_;(try (conv => cbv)))
  | ((with_reducible refine k1_ 131 H ?_);clear H;intro _ hy H;refine ca_ hF (ZH.con E hE hy) ?_;(try (conv => cbv)))
  | ((with_reducible refine k1_ 219 H ?_);clear H;intro _ hy H;refine ca_ hF (Z0J.con E hE hy) ?_;(try (conv => cbv)))
  | ((with_reducible refine k1_ 220 H ?_);clear H;intro _ hy H;refine ca_ hF (spec_ConfOk.con E hE hy) ?_;(try (conv => cbv)))
  | ((with_reducible show Q _ _);exact en_ ⟨[2],[],[],[]⟩ 35 hQ)
  | contradiction
theorem ZL.con (E:En) (hE:E = E0) {k a0 r} (H:ZL.f k a0 = some (r)) :
  Cn 136 [.c (.int .i64 a0)] [] (.c (.str r)) [] []:=by
 refine co_ Tryz.func136 tabOk [] fun F hF Q hQ => ?_
 simp only [ZL.f] at H
 (conv => cbv)
 repeat' first
  | replace H:=s_ H
  | (exfalso;with_reducible assumption)
  | (rw [Z6] at H;obtain ⟨hc,H⟩:=H)
  | (rw [Z2] at H;obtain ⟨hc,H⟩:=H)
  | ((with_reducible refine br2 hF H ?_ ?_) <;> (clear H;intro hb H;(try (conv => cbv))))
  | (refine w_ hF ?_;(try (conv => cbv)))
  | ((with_reducible refine lo_ hF (fun n t => n≤k∧∃ x0 x3,t = At 22 [(0,.c (.int .i64 x0)),(3,.own 20003)] [(20003,.row false 5 [.int .u8] (E.eI .u8 x3))]∧ZL.l0 n x0 x3 = some (r)) ⟨[0,3],[],[(3,5)],[]⟩ fun n0 t ht Q0 hN0 hX0 => ?_);obtain ⟨hl,_,_,rfl,H⟩:=ht;rcases n0 with _ | n0;cases H;simp only [ZL.l0] at H;(try (conv => cbv)))
  | ((with_reducible show Q0 _ _);first | exact nx_ hN0 | (refine xt_ hX0 ?_;(try (conv => cbv))))
  | ((with_reducible show Q _ _);exact en_ ⟨[2],[],[],[]⟩ 22 hQ)
  | contradiction
theorem Z02.con (E:En) (hE:E = E0) {k a0 a1 r} (H:Z02.f k a0 a1 = some (r)) :
  Cn 198 [.c (.int .u32 a0),.c (.str a1)] [] (.c (.int .u32 r)) [] []:=by
 refine co_ Tryz.func198 tabOk [] fun F hF Q hQ => ?_
 simp only [Z02.f] at H
 (conv => cbv)
 repeat' first
  | replace H:=s_ H
  | (exfalso;with_reducible assumption)
  | (rw [Z6] at H;obtain ⟨hc,H⟩:=H)
  | (rw [Z2] at H;obtain ⟨hc,H⟩:=H)
  | ((with_reducible refine br2 hF H ?_ ?_) <;> (clear H;intro hb H;(try (conv => cbv))))
  | (refine w_ hF ?_;(try (conv => cbv)))
  | ((with_reducible refine lo_ hF (fun n t => n≤k∧∃ x0 x1 x5,t = At 33 [(0,.c (.int .u32 x0)),(1,.c (.str x1)),(5,.c (.int .i64 x5))] []∧Z02.l0 n x0 x1 x5 = some (r)) ⟨[0,1,5],[],[],[]⟩ fun n0 t ht Q0 hN0 hX0 => ?_);obtain ⟨hl,_,_,_,rfl,H⟩:=ht;rcases n0 with _ | n0;cases H;simp only [Z02.l0] at H;(try (conv => cbv)))
  | ((with_reducible show Q0 _ _);first | exact nx_ hN0 | (refine xt_ hX0 ?_;(try (conv => cbv))))
  | ((with_reducible refine lo_ hF (fun n t => n≤n0∧∃ x0 x1 x5 x6,t = At 33 [(0,.c (.int .u32 x0)),(1,.c (.str x1)),(5,.c (.int .i64 x5)),(6,.c (.int .i64 x6))] []∧Z02.l1 n x0 x1 x5 x6 = some (r)) ⟨[0,1,5,6],[],[],[]⟩ fun n1 t ht Q1 hN1 hX1 => ?_);obtain ⟨hl,_,_,_,_,rfl,H⟩:=ht;rcases n1 with _ | n1;cases H;simp only [Z02.l1] at H;(try (conv => cbv)))
  | ((with_reducible show Q1 _ _);first | exact nx_ hN1 | (refine xt_ hX1 ?_;(try (conv => cbv))))
  | ((with_reducible show Q _ _);exact en_ ⟨[4],[],[],[]⟩ 33 hQ)
  | contradiction
theorem spec_SumOf.con (E:En) (hE:E = E0) {k a0 r} (H:spec_SumOf.f k a0 = some (r)) :
  Cn 138 [.c (.str a0)] [] (.c (.int .u32 r)) [] []:=by
 refine co_ Tryz.func138 tabOk [] fun F hF Q hQ => ?_
 simp only [spec_SumOf.f] at H
 (conv => cbv)
 repeat' first
  | replace H:=s_ H
  | (exfalso;with_reducible assumption)
  | (rw [Z6] at H;obtain ⟨hc,H⟩:=H)
  | (rw [Z2] at H;obtain ⟨hc,H⟩:=H)
  | ((with_reducible refine br2 hF H ?_ ?_) <;> (clear H;intro hb H;(try (conv => cbv))))
  | (refine w_ hF ?_;(try (conv => cbv)))
  | ((with_reducible refine k1_ 198 H ?_);clear H;intro _ hy H;refine ca_ hF (Z02.con E hE hy) ?_;(try (conv => cbv)))
  | ((with_reducible show Q _ _);exact en_ ⟨[2],[],[],[]⟩ 5 hQ)
  | contradiction
theorem spec_l02Four.con (E:En) (hE:E = E0) {a0 r} (H:spec_l02Four.f a0 = some (r)) :
  Cn 137 [.c (.int .u32 a0)] [] (.c (.str r)) [] []:=by
 refine co_ Tryz.func137 tabOk [] fun F hF Q hQ => ?_
 simp only [spec_l02Four.f] at H
 (conv => cbv)
 repeat' first
  | replace H:=s_ H
  | (exfalso;with_reducible assumption)
  | (rw [Z6] at H;obtain ⟨hc,H⟩:=H)
  | (rw [Z2] at H;obtain ⟨hc,H⟩:=H)
  | ((with_reducible refine br2 hF H ?_ ?_) <;> (clear H;intro hb H;(try (conv => cbv))))
  | (refine w_ hF ?_;(try (conv => cbv)))
  | ((with_reducible show Q _ _);exact en_ ⟨[2],[],[],[]⟩ 16 hQ)
  | contradiction
theorem spec_Sealed.con (E:En) (hE:E = E0) {k a0 r1 r2} (H:spec_Sealed.f k a0 = some (r1,r2)) :
  Cn 190 [.c (.str a0)] [] (.tup [.c (.str r1),.c (.bool r2)]) [] []:=by
 refine co_ Tryz.func190 tabOk [] fun F hF Q hQ => ?_
 simp only [spec_Sealed.f] at H
 (conv => cbv)
 repeat' first
  | replace H:=s_ H
  | (exfalso;with_reducible assumption)
  | (rw [Z6] at H;obtain ⟨hc,H⟩:=H)
  | (rw [Z2] at H;obtain ⟨hc,H⟩:=H)
  | ((with_reducible refine br2 hF H ?_ ?_) <;> (clear H;intro hb H;(try (conv => cbv))))
  | (refine w_ hF ?_;(try (conv => cbv)))
  | ((with_reducible refine k1_ 137 H ?_);clear H;intro _ hy H;refine ca_ hF (spec_l02Four.con E hE hy) ?_;(try (conv => cbv)))
  | ((with_reducible refine k1_ 138 H ?_);clear H;intro _ hy H;refine ca_ hF (spec_SumOf.con E hE hy) ?_;(try (conv => cbv)))
  | ((with_reducible show Q _ _);exact en_ ⟨[2,3],[],[],[]⟩ 12 hQ)
  | contradiction
theorem Zf.con (E:En) (hE:E = E0) {k l0_0 a0_1 a0_2 a0_3 l0_4 r1 r2} (H:Zf.f k l0_0 a0_1 a0_2 a0_3 l0_4 = some (r1,r2)) :
  Cn 108 [.agg [.c (.sl [.int .i64] (E.eI .i64 l0_0)),.c (.int .i64 a0_1),.c (.int .i64 a0_2),.c (.int .i64 a0_3),.c (.sl [.int .i64] (E.eI .i64 l0_4))]] [] (.tup [.c (.str r1),.c (.bool r2)]) [] []:=by
 refine co_ Tryz.func108 tabOk [] fun F hF Q hQ => ?_
 simp only [Zf.f] at H
 (conv => cbv)
 repeat' first
  | replace H:=s_ H
  | (exfalso;with_reducible assumption)
  | (rw [Z6] at H;obtain ⟨hc,H⟩:=H)
  | (rw [Z2] at H;obtain ⟨hc,H⟩:=H)
  | ((with_reducible refine br2 hF H ?_ ?_) <;> (clear H;intro hb H;(try (conv => cbv))))
  | (refine w_ hF ?_;(try (conv => cbv)))
  | ((with_reducible refine k1_ 136 H ?_);clear H;intro _ hy H;refine ca_ hF (ZL.con E hE hy) ?_;(try (conv => cbv)))
  | ((with_reducible refine k1_ 189 H ?_);clear H;intro _ hy H;refine ca_ hF (spec_ManifestOk.con E hE hy) ?_;(try (conv => cbv)))
  | ((with_reducible refine k2_ 190 H ?_);clear H;intro _ _ hy H;refine ca_ hF (spec_Sealed.con E hE hy) ?_;(try (conv => cbv)))
  | ((with_reducible refine lo_ hF (fun n t => n≤k∧∃ x4 x5 v0 v1 v2 v3 v4,t = At 66 [(1,.ptr 1 0),(4,.c (.str x4)),(5,.c (.int .i64 x5))] [(1,.box [.c (.sl [.int .i64] (E.eI .i64 v0)),.c (.int .i64 v1),.c (.int .i64 v2),.c (.int .i64 v3),.c (.sl [.int .i64] (E.eI .i64 v4))])]∧Zf.l0 n x4 x5 v0 v1 v2 v3 v4 = some (r1,r2)) ⟨[1,4,5],[1],[],[]⟩ fun n0 t ht Q0 hN0 hX0 => ?_);obtain ⟨hl,_,_,_,_,_,_,_,rfl,H⟩:=ht;rcases n0 with _ | n0;cases H;simp only [Zf.l0] at H;(try (conv => cbv)))
  | ((with_reducible show Q0 _ _);first | exact nx_ hN0 | (refine xt_ hX0 ?_;(try (conv => cbv))))
  | ((with_reducible refine lo_ hF (fun n t => n≤k∧∃ x4 x6 v0 v1 v2 v3 v4,t = At 66 [(1,.ptr 1 0),(4,.c (.str x4)),(6,.c (.int .i64 x6))] [(1,.box [.c (.sl [.int .i64] (E.eI .i64 v0)),.c (.int .i64 v1),.c (.int .i64 v2),.c (.int .i64 v3),.c (.sl [.int .i64] (E.eI .i64 v4))])]∧Zf.l1 n x4 x6 v0 v1 v2 v3 v4 = some (r1,r2)) ⟨[1,4,6],[1],[],[]⟩ fun n1 t ht Q1 hN1 hX1 => ?_);obtain ⟨hl,_,_,_,_,_,_,_,rfl,H⟩:=ht;rcases n1 with _ | n1;cases H;simp only [Zf.l1] at H;(try (conv => cbv)))
  | ((with_reducible show Q1 _ _);first | exact nx_ hN1 | (refine xt_ hX1 ?_;(try (conv => cbv))))
  | ((with_reducible show Q _ _);exact en_ ⟨[2,3],[],[],[]⟩ 66 hQ)
  | contradiction
theorem spec_l01Figure.con (E:En) (hE:E = E0) {a0 r} (H:spec_l01Figure.f a0 = some (r)) :
  Cn 197 [.c (.int .i64 a0)] [] (.c (.int .u8 r)) [] []:=by
 refine co_ Tryz.func197 tabOk [] fun F hF Q hQ => ?_
 simp only [spec_l01Figure.f] at H
 (conv => cbv)
 repeat' first
  | replace H:=s_ H
  | (exfalso;with_reducible assumption)
  | (rw [Z6] at H;obtain ⟨hc,H⟩:=H)
  | (rw [Z2] at H;obtain ⟨hc,H⟩:=H)
  | ((with_reducible refine br2 hF H ?_ ?_) <;> (clear H;intro hb H;(try (conv => cbv))))
  | (refine w_ hF ?_;(try (conv => cbv)))
  | ((with_reducible show Q _ _);exact en_ ⟨[2],[],[],[]⟩ 12 hQ)
  | contradiction
theorem Z0x.con (E:En) (hE:E = E0) {k a0 r} (H:Z0x.f k a0 = some (r)) :
  Cn 132 [.c (.int .i64 a0)] [] (.c (.str r)) [] []:=by
 refine co_ Tryz.func132 tabOk [] fun F hF Q hQ => ?_
 simp only [Z0x.f] at H
 (conv => cbv)
 repeat' first
  | replace H:=s_ H
  | (exfalso;with_reducible assumption)
  | (rw [Z6] at H;obtain ⟨hc,H⟩:=H)
  | (rw [Z2] at H;obtain ⟨hc,H⟩:=H)
  | ((with_reducible refine br2 hF H ?_ ?_) <;> (clear H;intro hb H;(try (conv => cbv))))
  | (refine w_ hF ?_;(try (conv => cbv)))
  | ((with_reducible refine k1_ 197 H ?_);clear H;intro _ hy H;refine ca_ hF (spec_l01Figure.con E hE hy) ?_;(try (conv => cbv)))
  | ((with_reducible refine lo_ hF (fun n t => n≤k∧∃ x0 x3 x4,t = At 30 [(0,.c (.int .i64 x0)),(3,.c (.bool x3)),(4,.c (.str x4))] []∧Z0x.l0 n x0 x3 x4 = some (r)) ⟨[0,3,4],[],[],[]⟩ fun n0 t ht Q0 hN0 hX0 => ?_);obtain ⟨hl,_,_,_,rfl,H⟩:=ht;rcases n0 with _ | n0;cases H;simp only [Z0x.l0] at H;(try (conv => cbv)))
  | ((with_reducible show Q0 _ _);first | exact nx_ hN0 | (refine xt_ hX0 ?_;(try (conv => cbv))))
  | ((with_reducible show Q _ _);exact en_ ⟨[2],[],[],[]⟩ 30 hQ)
  | contradiction
theorem Z0a.con (E:En) (hE:E = E0) {k a0 r} (H:Z0a.f k a0 = some (r)) :
  Cn 61 [.c (.int .i64 a0)] [] (.c (.str r)) [] []:=by
 refine co_ Tryz.func61 tabOk [] fun F hF Q hQ => ?_
 simp only [Z0a.f] at H
 (conv => cbv)
 repeat' first
  | replace H:=s_ H
  | (exfalso;with_reducible assumption)
  | (rw [Z6] at H;obtain ⟨hc,H⟩:=H)
  | (rw [Z2] at H;obtain ⟨hc,H⟩:=H)
  | ((with_reducible refine br2 hF H ?_ ?_) <;> (clear H;intro hb H;(try (conv => cbv))))
  | (refine w_ hF ?_;(try (conv => cbv)))
  | ((with_reducible refine k1_ 131 H ?_);clear H;intro _ hy H;refine ca_ hF (ZH.con E hE hy) ?_;(try (conv => cbv)))
  | ((with_reducible refine k1_ 132 H ?_);clear H;intro _ hy H;refine ca_ hF (Z0x.con E hE hy) ?_;(try (conv => cbv)))
  | ((with_reducible show Q _ _);exact en_ ⟨[2],[],[],[]⟩ 9 hQ)
  | contradiction
theorem spec_FormatShelf.con (E:En) (hE:E = E0) {k l0 r1 r2} (H:spec_FormatShelf.f k l0 = some (r1,r2)) :
  Cn 36 [.c (.sl [.int .i64] (E.eI .i64 l0))] [] (.tup [.agg [.own 0],.c (.bool r2)]) [.row false 122 [.str,.str] (E.e122 r1)] []:=by
 refine co_ Tryz.func36 tabOk [400040] fun F hF Q hQ => ?_
 simp only [spec_FormatShelf.f] at H
 (conv => cbv)
 repeat' first
  | replace H:=s_ H
  | (exfalso;with_reducible assumption)
  | (rw [Z6] at H;obtain ⟨hc,H⟩:=H)
  | (rw [Z2] at H;obtain ⟨hc,H⟩:=H)
  | ((with_reducible refine br2 hF H ?_ ?_) <;> (clear H;intro hb H;(try (conv => cbv))))
  | (refine w_ hF ?_;(try (conv => cbv)))
  | ((with_reducible refine k1_ 61 H ?_);clear H;intro _ hy H;refine ca_ hF (Z0a.con E hE hy) ?_;(try (conv => cbv)))
  | ((with_reducible refine k2_ 108 H ?_);clear H;intro _ _ hy H;refine ca_ hF (Zf.con E hE hy) ?_;(try (conv => cbv)))
  | ((with_reducible show Q _ _);exact en_ ⟨[2,3],[2],[],[(2,0,122)]⟩ 22 hQ)
  | contradiction
end Go.Ev
