/- Contracts of the Go functions that this law reaches: what each call returns, by its plain function. No conditions but those that each statement names. By this repo's programs; comments are taken out. -/
import Derived.Test.YtlmicldpfnmeaaaGreatDoorVFnShelvesD
import Derived.Test.YtlmicldpfnmeaaaGreatDoorVFnShelvesC6
set_option linter.all false
namespace Go.Ev
open Go.RowKit Go.Proofs Go.Proofs.YtlmicldpfnmeaaaGreatDoorW.PrintWords Go.Proofs.YtlmicldpfnmeaaaGreatDoorW.PrintLast Go.Proofs.YtlmicldpfnmeaaaGreatDoorW.PrintMore
set_option maxRecDepth 100000
set_option maxHeartbeats 4000000
theorem Z0v.con (E:En) (hE:E = E0) {k a0_0 l0_1 r} (H:Z0v.f k a0_0 l0_1 = some (r)) :
  Cn 179 [.agg [.c (.int .i64 a0_0),.c (.sl [.str,.str,.bool] (E.e162 l0_1))]] [] (.c (.bool r)) [] []:=by
 refine co_ Tryz.func179 tabOk [] fun F hF Q hQ => ?_
 simp only [Z0v.f] at H
 (conv => cbv)
 repeat' first
  | replace H:=s_ H
  | (exfalso;with_reducible assumption)
  | (rw [Z6] at H;obtain ⟨hc,H⟩:=H)
  | (rw [Z2] at H;obtain ⟨hc,H⟩:=H)
  | ((with_reducible refine br2 hF H ?_ ?_) <;> (clear H;intro hb H;(try (conv => cbv))))
  | (refine w_ hF ?_;(try (conv => cbv)))
  | ((with_reducible refine k1_ 144 H ?_);clear H;intro _ hy H;refine ca_ hF (ZM.con E hE hy) ?_;(try (conv => cbv)))
  | ((with_reducible refine k1_ 188 H ?_);clear H;intro _ hy H;refine ca_ hF (impl_keyOk.con E hE hy) ?_;(try (conv => cbv)))
  | ((with_reducible refine lo_ hF (fun n t => n≤k∧∃ x6 x7 x8 v0 v1,t = At 58 [(1,.ptr 1 0),(6,.c (.sl [.str,.str,.bool] (E.e162 x6))),(7,.c (.int .i64 x7)),(8,.c (.int .i64 x8))] [(1,.box [.c (.int .i64 v0),.c (.sl [.str,.str,.bool] (E.e162 v1))])]∧Z0v.l0 n x6 x7 x8 v0 v1 = some (r)) ⟨[1,6,7,8],[1],[],[]⟩ fun n0 t ht Q0 hN0 hX0 => ?_);obtain ⟨hl,_,_,_,_,_,rfl,H⟩:=ht;rcases n0 with _ | n0;cases H;simp only [Z0v.l0] at H;(try (conv => cbv)))
  | ((with_reducible show Q0 _ _);first | exact nx_ hN0 | (refine xt_ hX0 ?_;(try (conv => cbv))))
  | ((with_reducible show Q _ _);exact en_ ⟨[2],[],[],[]⟩ 58 hQ)
  | contradiction
theorem Z0l.con (E:En) (hE:E = E0) {k a0 r1 r2} (H:Z0l.f k a0 = some (r1,r2)) :
  Cn 183 [.c (.int .i64 a0)] [] (.tup [.c (.str r1),.c (.bool r2)]) [] []:=by
 refine co_ Tryz.func183 tabOk [] fun F hF Q hQ => ?_
 simp only [Z0l.f] at H
 (conv => cbv)
 repeat' first
  | replace H:=s_ H
  | (exfalso;with_reducible assumption)
  | (rw [Z6] at H;obtain ⟨hc,H⟩:=H)
  | (rw [Z2] at H;obtain ⟨hc,H⟩:=H)
  | ((with_reducible refine br2 hF H ?_ ?_) <;> (clear H;intro hb H;(try (conv => cbv))))
  | (refine w_ hF ?_;(try (conv => cbv)))
  | ((with_reducible refine k1_ 144 H ?_);clear H;intro _ hy H;refine ca_ hF (ZM.con E hE hy) ?_;(try (conv => cbv)))
  | ((with_reducible refine lo_ hF (fun n t => n≤k∧∃ x0 x4,t = At 25 [(0,.c (.int .i64 x0)),(4,.own 20004)] [(20004,.row false 5 [.int .u8] (E.eI .u8 x4))]∧Z0l.l0 n x0 x4 = some (r1,r2)) ⟨[0,4],[],[(4,5)],[]⟩ fun n0 t ht Q0 hN0 hX0 => ?_);obtain ⟨hl,_,_,rfl,H⟩:=ht;rcases n0 with _ | n0;cases H;simp only [Z0l.l0] at H;(try (conv => cbv)))
  | ((with_reducible show Q0 _ _);first | exact nx_ hN0 | (refine xt_ hX0 ?_;(try (conv => cbv))))
  | ((with_reducible show Q _ _);exact en_ ⟨[2,3],[],[],[]⟩ 25 hQ)
  | contradiction
theorem impl_vars.con (E:En) (hE:E = E0) {k l0 r1 r2} (H:impl_vars.f k l0 = some (r1,r2)) :
  Cn 180 [.c (.sl [.int .i64] (E.eI .i64 l0))] [] (.tup [.c (.str r1),.c (.bool r2)]) [] []:=by
 refine co_ Tryz.func180 tabOk [] fun F hF Q hQ => ?_
 simp only [impl_vars.f] at H
 (conv => cbv)
 repeat' first
  | replace H:=s_ H
  | (exfalso;with_reducible assumption)
  | (rw [Z6] at H;obtain ⟨hc,H⟩:=H)
  | (rw [Z2] at H;obtain ⟨hc,H⟩:=H)
  | ((with_reducible refine br2 hF H ?_ ?_) <;> (clear H;intro hb H;(try (conv => cbv))))
  | (refine w_ hF ?_;(try (conv => cbv)))
  | ((with_reducible refine k2_ 183 H ?_);clear H;intro _ _ hy H;refine ca_ hF (Z0l.con E hE hy) ?_;(try (conv => cbv)))
  | ((with_reducible refine lo_ hF (fun n t => n≤k∧∃ x4 x9 x10 x11,t = At 28 [(4,.own 20004),(9,.c (.sl [.int .i64] (E.eI .i64 x9))),(10,.c (.int .i64 x10)),(11,.c (.int .i64 x11))] [(20004,.row false 5 [.int .u8] (E.eI .u8 x4))]∧impl_vars.l0 n x4 x9 x10 x11 = some (r1,r2)) ⟨[4,9,10,11],[],[(4,5)],[]⟩ fun n0 t ht Q0 hN0 hX0 => ?_);obtain ⟨hl,_,_,_,_,rfl,H⟩:=ht;rcases n0 with _ | n0;cases H;simp only [impl_vars.l0] at H;(try (conv => cbv)))
  | ((with_reducible show Q0 _ _);first | exact nx_ hN0 | (refine xt_ hX0 ?_;(try (conv => cbv))))
  | ((with_reducible show Q _ _);exact en_ ⟨[2,3],[],[],[]⟩ 28 hQ)
  | contradiction
theorem impl_ShortText.con (E:En) (hE:E = E0) {k a0 r1 r2} (H:impl_ShortText.f k a0 = some (r1,r2)) :
  Cn 217 [.c (.str a0)] [] (.tup [.c (.str r1),.c (.bool r2)]) [] []:=by
 refine co_ Tryz.func217 tabOk [] fun F hF Q hQ => ?_
 simp only [impl_ShortText.f] at H
 (conv => cbv)
 repeat' first
  | replace H:=s_ H
  | (exfalso;with_reducible assumption)
  | (rw [Z6] at H;obtain ⟨hc,H⟩:=H)
  | (rw [Z2] at H;obtain ⟨hc,H⟩:=H)
  | ((with_reducible refine br2 hF H ?_ ?_) <;> (clear H;intro hb H;(try (conv => cbv))))
  | (refine w_ hF ?_;(try (conv => cbv)))
  | ((with_reducible refine k2_ 183 H ?_);clear H;intro _ _ hy H;refine ca_ hF (Z0l.con E hE hy) ?_;(try (conv => cbv)))
  | ((with_reducible show Q _ _);exact en_ ⟨[2,3],[],[],[]⟩ 18 hQ)
  | contradiction
theorem impl_short.con (E:En) (hE:E = E0) {k a0 r} (H:impl_short.f k a0 = some (r)) :
  Cn 181 [.c (.str a0)] [] (.c (.str r)) [] []:=by
 refine co_ Tryz.func181 tabOk [] fun F hF Q hQ => ?_
 simp only [impl_short.f] at H
 (conv => cbv)
 repeat' first
  | replace H:=s_ H
  | (exfalso;with_reducible assumption)
  | (rw [Z6] at H;obtain ⟨hc,H⟩:=H)
  | (rw [Z2] at H;obtain ⟨hc,H⟩:=H)
  | ((with_reducible refine br2 hF H ?_ ?_) <;> (clear H;intro hb H;(try (conv => cbv))))
  | (refine w_ hF ?_;(try (conv => cbv)))
  | ((with_reducible refine k2_ 217 H ?_);clear H;intro _ _ hy H;refine ca_ hF (impl_ShortText.con E hE hy) ?_;(try (conv => cbv)))
  | ((with_reducible show Q _ _);exact en_ ⟨[2],[],[],[]⟩ 11 hQ)
  | contradiction
theorem impl_flag.con (E:En) (hE:E = E0) {a0 r} (H:impl_flag.f a0 = some (r)) :
  Cn 182 [.c (.bool a0)] [] (.c (.str r)) [] []:=by
 refine co_ Tryz.func182 tabOk [] fun F hF Q hQ => ?_
 simp only [impl_flag.f] at H
 (conv => cbv)
 repeat' first
  | replace H:=s_ H
  | (exfalso;with_reducible assumption)
  | (rw [Z6] at H;obtain ⟨hc,H⟩:=H)
  | (rw [Z2] at H;obtain ⟨hc,H⟩:=H)
  | ((with_reducible refine br2 hF H ?_ ?_) <;> (clear H;intro hb H;(try (conv => cbv))))
  | (refine w_ hF ?_;(try (conv => cbv)))
  | ((with_reducible show Q _ _);exact en_ ⟨[2],[],[],[]⟩ 4 hQ)
  | contradiction
theorem Z0j.con (E:En) (hE:E = E0) {k a0_0 l0_1 r1 r2} (H:Z0j.f k a0_0 l0_1 = some (r1,r2)) :
  Cn 99 [.agg [.c (.int .i64 a0_0),.c (.sl [.str,.str,.bool] (E.e162 l0_1))]] [] (.tup [.c (.str r1),.c (.bool r2)]) [] []:=by
 refine co_ Tryz.func99 tabOk [] fun F hF Q hQ => ?_
 simp only [Z0j.f] at H
 (conv => cbv)
 repeat' first
  | replace H:=s_ H
  | (exfalso;with_reducible assumption)
  | (rw [Z6] at H;obtain ⟨hc,H⟩:=H)
  | (rw [Z2] at H;obtain ⟨hc,H⟩:=H)
  | ((with_reducible refine br2 hF H ?_ ?_) <;> (clear H;intro hb H;(try (conv => cbv))))
  | (refine w_ hF ?_;(try (conv => cbv)))
  | ((with_reducible refine k1_ 179 H ?_);clear H;intro _ hy H;refine ca_ hF (Z0v.con E hE hy) ?_;(try (conv => cbv)))
  | ((with_reducible refine k2_ 180 H ?_);clear H;intro _ _ hy H;refine ca_ hF (impl_vars.con E hE hy) ?_;(try (conv => cbv)))
  | ((with_reducible refine k1_ 181 H ?_);clear H;intro _ hy H;refine ca_ hF (impl_short.con E hE hy) ?_;(try (conv => cbv)))
  | ((with_reducible refine k1_ 182 H ?_);clear H;intro _ hy H;refine ca_ hF (impl_flag.con E hE hy) ?_;(try (conv => cbv)))
  | ((with_reducible refine lo_ hF (fun n t => n≤k∧∃ x4 x22 x23 x24,t = At 43 [(4,.c (.str x4)),(22,.c (.sl [.str,.str,.bool] (E.e162 x22))),(23,.c (.int .i64 x23)),(24,.c (.int .i64 x24))] []∧Z0j.l0 n x4 x22 x23 x24 = some (r1,r2)) ⟨[4,22,23,24],[],[],[]⟩ fun n0 t ht Q0 hN0 hX0 => ?_);obtain ⟨hl,_,_,_,_,rfl,H⟩:=ht;rcases n0 with _ | n0;cases H;simp only [Z0j.l0] at H;(try (conv => cbv)))
  | ((with_reducible show Q0 _ _);first | exact nx_ hN0 | (refine xt_ hX0 ?_;(try (conv => cbv))))
  | ((with_reducible show Q _ _);exact en_ ⟨[2,3],[],[],[]⟩ 43 hQ)
  | contradiction
theorem Z03.con (E:En) (hE:E = E0) {k a0 a1 r} (H:Z03.f k a0 a1 = some (r)) :
  Cn 218 [.c (.int .u32 a0),.c (.str a1)] [] (.c (.int .u32 r)) [] []:=by
 refine co_ Tryz.func218 tabOk [] fun F hF Q hQ => ?_
 simp only [Z03.f] at H
 (conv => cbv)
 repeat' first
  | replace H:=s_ H
  | (exfalso;with_reducible assumption)
  | (rw [Z6] at H;obtain ⟨hc,H⟩:=H)
  | (rw [Z2] at H;obtain ⟨hc,H⟩:=H)
  | ((with_reducible refine br2 hF H ?_ ?_) <;> (clear H;intro hb H;(try (conv => cbv))))
  | (refine w_ hF ?_;(try (conv => cbv)))
  | ((with_reducible refine lo_ hF (fun n t => n≤k∧∃ x0 x1 x5,t = At 33 [(0,.c (.int .u32 x0)),(1,.c (.str x1)),(5,.c (.int .i64 x5))] []∧Z03.l0 n x0 x1 x5 = some (r)) ⟨[0,1,5],[],[],[]⟩ fun n0 t ht Q0 hN0 hX0 => ?_);obtain ⟨hl,_,_,_,rfl,H⟩:=ht;rcases n0 with _ | n0;cases H;simp only [Z03.l0] at H;(try (conv => cbv)))
  | ((with_reducible show Q0 _ _);first | exact nx_ hN0 | (refine xt_ hX0 ?_;(try (conv => cbv))))
  | ((with_reducible refine lo_ hF (fun n t => n≤n0∧∃ x0 x1 x5 x6,t = At 33 [(0,.c (.int .u32 x0)),(1,.c (.str x1)),(5,.c (.int .i64 x5)),(6,.c (.int .i64 x6))] []∧Z03.l1 n x0 x1 x5 x6 = some (r)) ⟨[0,1,5,6],[],[],[]⟩ fun n1 t ht Q1 hN1 hX1 => ?_);obtain ⟨hl,_,_,_,_,rfl,H⟩:=ht;rcases n1 with _ | n1;cases H;simp only [Z03.l1] at H;(try (conv => cbv)))
  | ((with_reducible show Q1 _ _);first | exact nx_ hN1 | (refine xt_ hX1 ?_;(try (conv => cbv))))
  | ((with_reducible show Q _ _);exact en_ ⟨[4],[],[],[]⟩ 33 hQ)
  | contradiction
theorem impl_SumOf.con (E:En) (hE:E = E0) {k a0 r} (H:impl_SumOf.f k a0 = some (r)) :
  Cn 184 [.c (.str a0)] [] (.c (.int .u32 r)) [] []:=by
 refine co_ Tryz.func184 tabOk [] fun F hF Q hQ => ?_
 simp only [impl_SumOf.f] at H
 (conv => cbv)
 repeat' first
  | replace H:=s_ H
  | (exfalso;with_reducible assumption)
  | (rw [Z6] at H;obtain ⟨hc,H⟩:=H)
  | (rw [Z2] at H;obtain ⟨hc,H⟩:=H)
  | ((with_reducible refine br2 hF H ?_ ?_) <;> (clear H;intro hb H;(try (conv => cbv))))
  | (refine w_ hF ?_;(try (conv => cbv)))
  | ((with_reducible refine k1_ 218 H ?_);clear H;intro _ hy H;refine ca_ hF (Z03.con E hE hy) ?_;(try (conv => cbv)))
  | ((with_reducible show Q _ _);exact en_ ⟨[2],[],[],[]⟩ 5 hQ)
  | contradiction
theorem impl_Frame.con (E:En) (hE:E = E0) {k a0 r1 r2} (H:impl_Frame.f k a0 = some (r1,r2)) :
  Cn 100 [.c (.str a0)] [] (.tup [.c (.str r1),.c (.bool r2)]) [] []:=by
 refine co_ Tryz.func100 tabOk [] fun F hF Q hQ => ?_
 simp only [impl_Frame.f] at H
 (conv => cbv)
 repeat' first
  | replace H:=s_ H
  | (exfalso;with_reducible assumption)
  | (rw [Z6] at H;obtain ⟨hc,H⟩:=H)
  | (rw [Z2] at H;obtain ⟨hc,H⟩:=H)
  | ((with_reducible refine br2 hF H ?_ ?_) <;> (clear H;intro hb H;(try (conv => cbv))))
  | (refine w_ hF ?_;(try (conv => cbv)))
  | ((with_reducible refine k1_ 144 H ?_);clear H;intro _ hy H;refine ca_ hF (ZM.con E hE hy) ?_;(try (conv => cbv)))
  | ((with_reducible refine k2_ 183 H ?_);clear H;intro _ _ hy H;refine ca_ hF (Z0l.con E hE hy) ?_;(try (conv => cbv)))
  | ((with_reducible refine k1_ 184 H ?_);clear H;intro _ hy H;refine ca_ hF (impl_SumOf.con E hE hy) ?_;(try (conv => cbv)))
  | ((with_reducible show Q _ _);exact en_ ⟨[2,3],[],[],[]⟩ 36 hQ)
  | contradiction
theorem impl_Sealed.con (E:En) (hE:E = E0) {k a0 r1 r2} (H:impl_Sealed.f k a0 = some (r1,r2)) :
  Cn 208 [.c (.str a0)] [] (.tup [.c (.str r1),.c (.bool r2)]) [] []:=by
 refine co_ Tryz.func208 tabOk [] fun F hF Q hQ => ?_
 simp only [impl_Sealed.f] at H
 (conv => cbv)
 repeat' first
  | replace H:=s_ H
  | (exfalso;with_reducible assumption)
  | (rw [Z6] at H;obtain ⟨hc,H⟩:=H)
  | (rw [Z2] at H;obtain ⟨hc,H⟩:=H)
  | ((with_reducible refine br2 hF H ?_ ?_) <;> (clear H;intro hb H;(try (conv => cbv))))
  | (refine w_ hF ?_;(try (conv => cbv)))
  | ((with_reducible refine k1_ 184 H ?_);clear H;intro _ hy H;refine ca_ hF (impl_SumOf.con E hE hy) ?_;(try (conv => cbv)))
  | ((with_reducible show Q _ _);exact en_ ⟨[2,3],[],[],[]⟩ 25 hQ)
  | contradiction
theorem impl_Unsealed.con (E:En) (hE:E = E0) {k a0 r1 r2} (H:impl_Unsealed.f k a0 = some (r1,r2)) :
  Cn 155 [.c (.str a0)] [] (.tup [.c (.str r1),.c (.bool r2)]) [] []:=by
 refine co_ Tryz.func155 tabOk [] fun F hF Q hQ => ?_
 simp only [impl_Unsealed.f] at H
 (conv => cbv)
 repeat' first
  | replace H:=s_ H
  | (exfalso;with_reducible assumption)
  | (rw [Z6] at H;obtain ⟨hc,H⟩:=H)
  | (rw [Z2] at H;obtain ⟨hc,H⟩:=H)
  | ((with_reducible refine br2 hF H ?_ ?_) <;> (clear H;intro hb H;(try (conv => cbv))))
  | (refine w_ hF ?_;(try (conv => cbv)))
  | ((with_reducible refine k2_ 208 H ?_);clear H;intro _ _ hy H;refine ca_ hF (impl_Sealed.con E hE hy) ?_;(try (conv => cbv)))
  | ((with_reducible show Q _ _);exact en_ ⟨[2,3],[],[],[]⟩ 28 hQ)
  | contradiction
theorem Zs.j1_s {k:Nat} {x0:ByteArray} {x1:Int} {x7:Int} {x8:Int} {x26:Bool} {r:_} (h:Zs.j1 k x0 x1 x7 x8 x26 = some r):∃ m,k = m + 1∧Zs.j1 (m + 1) x0 x1 x7 x8 x26 = some r:=by
 cases k with
 | zero => simp [Zs.j1] at h
 | succ m => exact ⟨m,rfl,h⟩
theorem Zs.j1_i {k:Nat} {x0:ByteArray} {x1:Int} {x7:Int} {x8:Int} {x26:Bool} {r:_}:(Zs.j1 k x0 x1 x7 x8 x26 = some r) = (∃ m,k = m + 1∧Zs.j1 (m + 1) x0 x1 x7 x8 x26 = some r):=propext ⟨Zs.j1_s,fun ⟨m,h,h2⟩ => by rw [h];exact h2⟩
theorem Zs.con (E:En) (hE:E = E0) {k a0 a1 r1 r2 r3} (H:Zs.f k a0 a1 = some (r1,r2,r3)) :
  Cn 203 [.c (.str a0),.c (.int .i64 a1)] [] (.tup [.c (.int .i64 r1),.c (.int .i64 r2),.c (.bool r3)]) [] []:=by
 refine co_ Tryz.func203 tabOk [] fun F hF Q hQ => ?_
 simp only [Zs.f] at H
 (conv => cbv)
 repeat' first
  | (rw [Zs.j1_i] at H;obtain ⟨m,hm,H⟩:=H;simp only [Zs.j1] at H;(try simp only [decide_eq_true_eq,Bool.false_eq_true,if_false,if_true] at H))
  | replace H:=s_ H
  | (exfalso;with_reducible assumption)
  | (rw [Z6] at H;obtain ⟨hc,H⟩:=H)
  | (rw [Z2] at H;obtain ⟨hc,H⟩:=H)
  | ((with_reducible refine br2 hF H ?_ ?_) <;> (clear H;intro hb H;(try (conv => cbv))))
  | (refine w_ hF ?_;(try (conv => cbv)))
  | ((with_reducible refine k1_ 144 H ?_);clear H;intro _ hy H;refine ca_ hF (ZM.con E hE hy) ?_;(try (conv => cbv)))
  | ((with_reducible refine k2_ 183 H ?_);clear H;intro _ _ hy H;refine ca_ hF (Z0l.con E hE hy) ?_;(try (conv => cbv)))
  | ((with_reducible refine lo_ hF (fun n t => n≤k∧∃ x0 x1 x7 x8,t = At 63 [(0,.c (.str x0)),(1,.c (.int .i64 x1)),(7,.c (.int .i64 x7)),(8,.c (.int .i64 x8))] []∧Zs.l0 n x0 x1 x7 x8 = some (r1,r2,r3)) ⟨[0,1,7,8],[],[],[]⟩ fun n0 t ht Q0 hN0 hX0 => ?_);obtain ⟨hl,_,_,_,_,rfl,H⟩:=ht;rcases n0 with _ | n0;cases H;simp only [Zs.l0] at H;(try (conv => cbv)))
  | ((with_reducible show Q0 _ _);first | exact nx_ hN0 | (refine xt_ hX0 ?_;(try (conv => cbv))))
  | ((with_reducible show Q _ _);exact en_ ⟨[4,5,6],[],[],[]⟩ 63 hQ)
  | contradiction
theorem ZK.con (E:En) (hE:E = E0) {k s0_0 s0_1 s0_2 r1 r2 r3 r4} (H:ZK.f k s0_0 s0_1 s0_2 = some (r1,r2,r3,r4)) :
  Cn 158 [.ptr 10000 0] [.box [.c (.str s0_0),.c (.int .i64 s0_1),.c (.bool s0_2)]] (.c (.int .i64 r1)) [] [.box [.c (.str r2),.c (.int .i64 r3),.c (.bool r4)]]:=by
 refine co_ Tryz.func158 tabOk [] fun F hF Q hQ => ?_
 simp only [ZK.f] at H
 (conv => cbv)
 repeat' first
  | replace H:=s_ H
  | (exfalso;with_reducible assumption)
  | (rw [Z6] at H;obtain ⟨hc,H⟩:=H)
  | (rw [Z2] at H;obtain ⟨hc,H⟩:=H)
  | ((with_reducible refine br2 hF H ?_ ?_) <;> (clear H;intro hb H;(try (conv => cbv))))
  | (refine w_ hF ?_;(try (conv => cbv)))
  | ((with_reducible refine k3_ 203 H ?_);clear H;intro _ _ _ hy H;refine ca_ hF (Zs.con E hE hy) ?_;(try (conv => cbv)))
  | ((with_reducible show Q _ _);exact en_ ⟨[2],[],[],[]⟩ 35 hQ)
  | contradiction
theorem Z1e.con (E:En) (hE:E = E0) {k l0_0 s0_1 s0_2 s0_3 l0_4 s1_0_0 s1_0_1 s1_0_2 r1 r2 r3 r4 r5 r6 r7 r8} (H:Z1e.f k l0_0 s0_1 s0_2 s0_3 l0_4 s1_0_0 s1_0_1 s1_0_2 = some (r1,r2,r3,r4,r5,r6,r7,r8)) :
  Cn 157 [.ptr 10000 0,.ptr 10001 0] [.box [.own 10002,.c (.int .i64 s0_1),.c (.int .i64 s0_2),.c (.int .i64 s0_3),.own 10003],.box [.ptr 10004 0],.row false 3 [.int .i64] (E.eI .i64 l0_0),.row false 3 [.int .i64] (E.eI .i64 l0_4),.box [.c (.str s1_0_0),.c (.int .i64 s1_0_1),.c (.bool s1_0_2)]] (.tup []) [.row false 3 [.int .i64] (E.eI .i64 r1)] [.box [.own 0,.c (.int .i64 r2),.c (.int .i64 r3),.c (.int .i64 r4),.own 10003],.box [.ptr 10004 0],.gone,.row false 3 [.int .i64] (E.eI .i64 r5),.box [.c (.str r6),.c (.int .i64 r7),.c (.bool r8)]]:=by
 refine co_ Tryz.func157 Z0I [600000] fun F hF Q hQ => ?_
 simp only [Z1e.f] at H
 (conv => cbv)
 repeat' first
  | replace H:=s_ H
  | (exfalso;with_reducible assumption)
  | (rw [Z6] at H;obtain ⟨hc,H⟩:=H)
  | (rw [Z2] at H;obtain ⟨hc,H⟩:=H)
  | ((with_reducible refine br2 hF H ?_ ?_) <;> (clear H;intro hb H;(try (conv => cbv))))
  | (refine w_ hF ?_;(try (conv => cbv)))
  | ((with_reducible refine k4_ 158 H ?_);clear H;intro _ _ _ _ hy H;refine ca_ hF (ZK.con E hE hy) ?_;(try (conv => cbv)))
  | ((with_reducible show Q _ _);exact en_ ⟨[],[],[],[(10000,0,3)]⟩ 9 hQ)
  | contradiction
theorem Zq.con (E:En) (hE:E = E0) {k s0_0 s0_1 s0_2 s1_0_1 s1_0_2 s1_0_3 r1 r2 r3 r4 r5 r6 r7 r8} (H:Zq.f k s0_0 s0_1 s0_2 s1_0_1 s1_0_2 s1_0_3 = some (r1,r2,r3,r4,r5,r6,r7,r8)) :
  Cn 156 [.ptr 10000 0,.clo 157 [.ptr 10001 0,.ptr 10002 0]] [.box [.c (.str s0_0),.c (.int .i64 s0_1),.c (.bool s0_2)],.box [.nil [.int .i64],.c (.int .i64 s1_0_1),.c (.int .i64 s1_0_2),.c (.int .i64 s1_0_3),.nil [.int .i64]],.box [.ptr 10000 0]] (.tup []) [.row false 3 [.int .i64] (E.eI .i64 r4),.row false 3 [.int .i64] (E.eI .i64 r8)] [.box [.c (.str r1),.c (.int .i64 r2),.c (.bool r3)],.box [.own 0,.c (.int .i64 r5),.c (.int .i64 r6),.c (.int .i64 r7),.own 1],.box [.ptr 10000 0]]:=by
 refine co_ Tryz.func156 Z0I [600020,600024] fun F hF Q hQ => ?_
 simp only [Zq.f] at H
 (conv => cbv)
 repeat' first
  | replace H:=s_ H
  | (exfalso;with_reducible assumption)
  | (rw [Z6] at H;obtain ⟨hc,H⟩:=H)
  | (rw [Z2] at H;obtain ⟨hc,H⟩:=H)
  | ((with_reducible refine br2 hF H ?_ ?_) <;> (clear H;intro hb H;(try (conv => cbv))))
  | (refine w_ hF ?_;(try (conv => cbv)))
  | ((with_reducible refine k4_ 158 H ?_);clear H;intro _ _ _ _ hy H;refine ca_ hF (ZK.con E hE hy) ?_;(try (conv => cbv)))
  | ((with_reducible refine k8_ 157 H ?_);clear H;intro _ _ _ _ _ _ _ _ hy H;refine ca_ hF (Z1e.con E hE hy) ?_;(try (conv => cbv)))
  | ((with_reducible refine lo_ hF (fun n t => n≤k∧∃ x4 x5 v0 v1 v2 v3 v4 v5 v6 v7,t = At 22 [(0,.ptr 10000 0),(1,.clo 157 [.ptr 10001 0,.ptr 10002 0]),(4,.c (.int .i64 x4)),(5,.c (.int .i64 x5))] [(10000,.box [.c (.str v0),.c (.int .i64 v1),.c (.bool v2)]),(10001,.box [.own 600020,.c (.int .i64 v4),.c (.int .i64 v5),.c (.int .i64 v6),.own 600024]),(10002,.box [.ptr 10000 0]),(600020,.row false 3 [.int .i64] (E.eI .i64 v3)),(600024,.row false 3 [.int .i64] (E.eI .i64 v7))]∧Zq.l0 n x4 x5 v0 v1 v2 v3 v4 v5 v6 v7 = some (r1,r2,r3,r4,r5,r6,r7,r8)) ⟨[0,1,4,5],[],[],[(10001,0,3),(10001,4,3)]⟩ fun n0 t ht Q0 hN0 hX0 => ?_);obtain ⟨hl,_,_,_,_,_,_,_,_,_,_,rfl,H⟩:=ht;rcases n0 with _ | n0;cases H;simp only [Zq.l0] at H;(try (conv => cbv)))
  | ((with_reducible show Q0 _ _);first | exact nx_ hN0 | (refine xt_ hX0 ?_;(try (conv => cbv))))
  | ((with_reducible show Q _ _);exact en_ ⟨[],[],[],[(10001,0,3),(10001,4,3)]⟩ 22 hQ)
  | contradiction
theorem Z1d.con (E:En) (hE:E = E0) {k l0_0 s0_1 s0_2 s0_3 l0_4 s1_0_0 s1_0_1 s1_0_2 r1 r2 r3 r4 r5 r6 r7 r8} (H:Z1d.f k l0_0 s0_1 s0_2 s0_3 l0_4 s1_0_0 s1_0_1 s1_0_2 = some (r1,r2,r3,r4,r5,r6,r7,r8)) :
  Cn 159 [.ptr 10000 0,.ptr 10001 0] [.box [.own 10002,.c (.int .i64 s0_1),.c (.int .i64 s0_2),.c (.int .i64 s0_3),.own 10003],.box [.ptr 10004 0],.row false 3 [.int .i64] (E.eI .i64 l0_0),.row false 3 [.int .i64] (E.eI .i64 l0_4),.box [.c (.str s1_0_0),.c (.int .i64 s1_0_1),.c (.bool s1_0_2)]] (.tup []) [.row false 3 [.int .i64] (E.eI .i64 r4)] [.box [.own 10002,.c (.int .i64 r1),.c (.int .i64 r2),.c (.int .i64 r3),.own 0],.box [.ptr 10004 0],.row false 3 [.int .i64] (E.eI .i64 r5),.gone,.box [.c (.str r6),.c (.int .i64 r7),.c (.bool r8)]]:=by
 refine co_ Tryz.func159 Z0I [600004] fun F hF Q hQ => ?_
 simp only [Z1d.f] at H
 (conv => cbv)
 repeat' first
  | replace H:=s_ H
  | (exfalso;with_reducible assumption)
  | (rw [Z6] at H;obtain ⟨hc,H⟩:=H)
  | (rw [Z2] at H;obtain ⟨hc,H⟩:=H)
  | ((with_reducible refine br2 hF H ?_ ?_) <;> (clear H;intro hb H;(try (conv => cbv))))
  | (refine w_ hF ?_;(try (conv => cbv)))
  | ((with_reducible refine k4_ 158 H ?_);clear H;intro _ _ _ _ hy H;refine ca_ hF (ZK.con E hE hy) ?_;(try (conv => cbv)))
  | ((with_reducible show Q _ _);exact en_ ⟨[],[],[],[(10000,4,3)]⟩ 9 hQ)
  | contradiction
end Go.Ev
