/- Contracts of the Go functions that this law reaches: what each call returns, by its plain function. No conditions but those that each statement names. By this repo's programs; comments are taken out. -/
import Derived.Test.YtlmicldpfnmeaaaGreatDoorVFnExactInstallShelfD
set_option linter.all false
namespace Go.Ev
open Go.RowKit Go.Proofs Go.Proofs.YtlmicldpfnmeaaaGreatDoorW.PrintWords Go.Proofs.YtlmicldpfnmeaaaGreatDoorW.PrintLast Go.Proofs.YtlmicldpfnmeaaaGreatDoorW.PrintMore
set_option maxRecDepth 100000
set_option maxHeartbeats 4000000
theorem impl_within.con (E:En) (hE:E = E0) {a0 a1 a2 r} (H:impl_within.f a0 a1 a2 = some (r)) :
  Cn 144 [.c (.int .i64 a0),.c (.int .i64 a1),.c (.int .i64 a2)] [] (.c (.bool r)) [] []:=by
 refine co_ Tryz.func144 tabOk [] fun F hF Q hQ => ?_
 simp only [impl_within.f] at H
 (conv => cbv)
 repeat' first
  | replace H:=s_ H
  | (exfalso;with_reducible assumption)
  | (rw [itn_iff] at H;obtain ⟨hc,H⟩:=H)
  | (rw [itn2_iff] at H;obtain ⟨hc,H⟩:=H)
  | ((with_reducible refine br2 hF H ?_ ?_) <;> (clear H;intro hb H;(try (conv => cbv))))
  | (refine w_ hF ?_;(try (conv => cbv)))
  | ((with_reducible show Q _ _);exact en_ ⟨[6],[],[],[]⟩ 15 hQ)
  | contradiction
theorem impl_VarText.con (E:En) (hE:E = E0) {k a0 r1 r2} (H:impl_VarText.f k a0 = some (r1,r2)) :
  Cn 183 [.c (.int .i64 a0)] [] (.tup [.c (.str r1),.c (.bool r2)]) [] []:=by
 refine co_ Tryz.func183 tabOk [] fun F hF Q hQ => ?_
 simp only [impl_VarText.f] at H
 (conv => cbv)
 repeat' first
  | replace H:=s_ H
  | (exfalso;with_reducible assumption)
  | (rw [itn_iff] at H;obtain ⟨hc,H⟩:=H)
  | (rw [itn2_iff] at H;obtain ⟨hc,H⟩:=H)
  | ((with_reducible refine br2 hF H ?_ ?_) <;> (clear H;intro hb H;(try (conv => cbv))))
  | (refine w_ hF ?_;(try (conv => cbv)))
  | ((with_reducible refine k1_ 144 H ?_);clear H;intro _ hy H;refine ca_ hF (impl_within.con E hE hy) ?_;(try (conv => cbv)))
  | ((with_reducible refine lo_ hF (fun n t => n≤k∧∃ x0 x4,t = At 25 [(0,.c (.int .i64 x0)),(4,.own 20004)] [(20004,.row false 5 [.int .u8] (E.eI .u8 x4))]∧impl_VarText.l0 n x0 x4 = some (r1,r2)) ⟨[0,4],[],[(4,5)],[]⟩ fun n0 t ht Q0 hN0 hX0 => ?_);obtain ⟨hl,_,_,rfl,H⟩:=ht;rcases n0 with _ | n0;cases H;simp only [impl_VarText.l0] at H;(try (conv => cbv)))
  | ((with_reducible show Q0 _ _);first | exact nx_ hN0 | (refine xt_ hX0 ?_;(try (conv => cbv))))
  | ((with_reducible show Q _ _);exact en_ ⟨[2,3],[],[],[]⟩ 25 hQ)
  | contradiction
theorem impl_ReadVar.j1_s {k:Nat} {x0:ByteArray} {x1:Int} {x7:Int} {x8:Int} {x26:Bool} {r:_} (h:impl_ReadVar.j1 k x0 x1 x7 x8 x26 = some r):∃ m,k = m + 1∧impl_ReadVar.j1 (m + 1) x0 x1 x7 x8 x26 = some r:=by
 cases k with
 | zero => simp [impl_ReadVar.j1] at h
 | succ m => exact ⟨m,rfl,h⟩
theorem impl_ReadVar.j1_i {k:Nat} {x0:ByteArray} {x1:Int} {x7:Int} {x8:Int} {x26:Bool} {r:_}:(impl_ReadVar.j1 k x0 x1 x7 x8 x26 = some r) = (∃ m,k = m + 1∧impl_ReadVar.j1 (m + 1) x0 x1 x7 x8 x26 = some r):=propext ⟨impl_ReadVar.j1_s,fun ⟨m,h,h2⟩ => by rw [h];exact h2⟩
theorem impl_ReadVar.con (E:En) (hE:E = E0) {k a0 a1 r1 r2 r3} (H:impl_ReadVar.f k a0 a1 = some (r1,r2,r3)) :
  Cn 203 [.c (.str a0),.c (.int .i64 a1)] [] (.tup [.c (.int .i64 r1),.c (.int .i64 r2),.c (.bool r3)]) [] []:=by
 refine co_ Tryz.func203 tabOk [] fun F hF Q hQ => ?_
 simp only [impl_ReadVar.f] at H
 (conv => cbv)
 repeat' first
  | (rw [impl_ReadVar.j1_i] at H;obtain ⟨m,hm,H⟩:=H;simp only [impl_ReadVar.j1] at H;(try simp only [decide_eq_true_eq,Bool.false_eq_true,if_false,if_true] at H))
  | replace H:=s_ H
  | (exfalso;with_reducible assumption)
  | (rw [itn_iff] at H;obtain ⟨hc,H⟩:=H)
  | (rw [itn2_iff] at H;obtain ⟨hc,H⟩:=H)
  | ((with_reducible refine br2 hF H ?_ ?_) <;> (clear H;intro hb H;(try (conv => cbv))))
  | (refine w_ hF ?_;(try (conv => cbv)))
  | ((with_reducible refine k1_ 144 H ?_);clear H;intro _ hy H;refine ca_ hF (impl_within.con E hE hy) ?_;(try (conv => cbv)))
  | ((with_reducible refine k2_ 183 H ?_);clear H;intro _ _ hy H;refine ca_ hF (impl_VarText.con E hE hy) ?_;(try (conv => cbv)))
  | ((with_reducible refine lo_ hF (fun n t => n≤k∧∃ x0 x1 x7 x8,t = At 63 [(0,.c (.str x0)),(1,.c (.int .i64 x1)),(7,.c (.int .i64 x7)),(8,.c (.int .i64 x8))] []∧impl_ReadVar.l0 n x0 x1 x7 x8 = some (r1,r2,r3)) ⟨[0,1,7,8],[],[],[]⟩ fun n0 t ht Q0 hN0 hX0 => ?_);obtain ⟨hl,_,_,_,_,rfl,H⟩:=ht;rcases n0 with _ | n0;cases H;simp only [impl_ReadVar.l0] at H;(try (conv => cbv)))
  | ((with_reducible show Q0 _ _);first | exact nx_ hN0 | (refine xt_ hX0 ?_;(try (conv => cbv))))
  | ((with_reducible show Q _ _);exact en_ ⟨[4,5,6],[],[],[]⟩ 63 hQ)
  | contradiction
theorem impl_SumMore.con (E:En) (hE:E = E0) {k a0 a1 r} (H:impl_SumMore.f k a0 a1 = some (r)) :
  Cn 218 [.c (.int .u32 a0),.c (.str a1)] [] (.c (.int .u32 r)) [] []:=by
 refine co_ Tryz.func218 tabOk [] fun F hF Q hQ => ?_
 simp only [impl_SumMore.f] at H
 (conv => cbv)
 repeat' first
  | replace H:=s_ H
  | (exfalso;with_reducible assumption)
  | (rw [itn_iff] at H;obtain ⟨hc,H⟩:=H)
  | (rw [itn2_iff] at H;obtain ⟨hc,H⟩:=H)
  | ((with_reducible refine br2 hF H ?_ ?_) <;> (clear H;intro hb H;(try (conv => cbv))))
  | (refine w_ hF ?_;(try (conv => cbv)))
  | ((with_reducible refine lo_ hF (fun n t => n≤k∧∃ x0 x1 x5,t = At 33 [(0,.c (.int .u32 x0)),(1,.c (.str x1)),(5,.c (.int .i64 x5))] []∧impl_SumMore.l0 n x0 x1 x5 = some (r)) ⟨[0,1,5],[],[],[]⟩ fun n0 t ht Q0 hN0 hX0 => ?_);obtain ⟨hl,_,_,_,rfl,H⟩:=ht;rcases n0 with _ | n0;cases H;simp only [impl_SumMore.l0] at H;(try (conv => cbv)))
  | ((with_reducible show Q0 _ _);first | exact nx_ hN0 | (refine xt_ hX0 ?_;(try (conv => cbv))))
  | ((with_reducible refine lo_ hF (fun n t => n≤n0∧∃ x0 x1 x5 x6,t = At 33 [(0,.c (.int .u32 x0)),(1,.c (.str x1)),(5,.c (.int .i64 x5)),(6,.c (.int .i64 x6))] []∧impl_SumMore.l1 n x0 x1 x5 x6 = some (r)) ⟨[0,1,5,6],[],[],[]⟩ fun n1 t ht Q1 hN1 hX1 => ?_);obtain ⟨hl,_,_,_,_,rfl,H⟩:=ht;rcases n1 with _ | n1;cases H;simp only [impl_SumMore.l1] at H;(try (conv => cbv)))
  | ((with_reducible show Q1 _ _);first | exact nx_ hN1 | (refine xt_ hX1 ?_;(try (conv => cbv))))
  | ((with_reducible show Q _ _);exact en_ ⟨[4],[],[],[]⟩ 33 hQ)
  | contradiction
theorem impl_SumOf.con (E:En) (hE:E = E0) {k a0 r} (H:impl_SumOf.f k a0 = some (r)) :
  Cn 184 [.c (.str a0)] [] (.c (.int .u32 r)) [] []:=by
 refine co_ Tryz.func184 tabOk [] fun F hF Q hQ => ?_
 simp only [impl_SumOf.f] at H
 (conv => cbv)
 repeat' first
  | replace H:=s_ H
  | (exfalso;with_reducible assumption)
  | (rw [itn_iff] at H;obtain ⟨hc,H⟩:=H)
  | (rw [itn2_iff] at H;obtain ⟨hc,H⟩:=H)
  | ((with_reducible refine br2 hF H ?_ ?_) <;> (clear H;intro hb H;(try (conv => cbv))))
  | (refine w_ hF ?_;(try (conv => cbv)))
  | ((with_reducible refine k1_ 218 H ?_);clear H;intro _ hy H;refine ca_ hF (impl_SumMore.con E hE hy) ?_;(try (conv => cbv)))
  | ((with_reducible show Q _ _);exact en_ ⟨[2],[],[],[]⟩ 5 hQ)
  | contradiction
theorem impl_Frame.con (E:En) (hE:E = E0) {k a0 r1 r2} (H:impl_Frame.f k a0 = some (r1,r2)) :
  Cn 100 [.c (.str a0)] [] (.tup [.c (.str r1),.c (.bool r2)]) [] []:=by
 refine co_ Tryz.func100 tabOk [] fun F hF Q hQ => ?_
 simp only [impl_Frame.f] at H
 (conv => cbv)
 repeat' first
  | replace H:=s_ H
  | (exfalso;with_reducible assumption)
  | (rw [itn_iff] at H;obtain ⟨hc,H⟩:=H)
  | (rw [itn2_iff] at H;obtain ⟨hc,H⟩:=H)
  | ((with_reducible refine br2 hF H ?_ ?_) <;> (clear H;intro hb H;(try (conv => cbv))))
  | (refine w_ hF ?_;(try (conv => cbv)))
  | ((with_reducible refine k1_ 144 H ?_);clear H;intro _ hy H;refine ca_ hF (impl_within.con E hE hy) ?_;(try (conv => cbv)))
  | ((with_reducible refine k2_ 183 H ?_);clear H;intro _ _ hy H;refine ca_ hF (impl_VarText.con E hE hy) ?_;(try (conv => cbv)))
  | ((with_reducible refine k1_ 184 H ?_);clear H;intro _ hy H;refine ca_ hF (impl_SumOf.con E hE hy) ?_;(try (conv => cbv)))
  | ((with_reducible show Q _ _);exact en_ ⟨[2,3],[],[],[]⟩ 36 hQ)
  | contradiction
theorem impl_Unframe.j1_s {k:Nat} {x0:ByteArray} {x4:List ByteArray} {x5:Int} {x6:Int} {x7:Int} {x32:Bool} {r:_} (h:impl_Unframe.j1 k x0 x4 x5 x6 x7 x32 = some r):∃ m,k = m + 1∧impl_Unframe.j1 (m + 1) x0 x4 x5 x6 x7 x32 = some r:=by
 cases k with
 | zero => simp [impl_Unframe.j1] at h
 | succ m => exact ⟨m,rfl,h⟩
theorem impl_Unframe.j1_i {k:Nat} {x0:ByteArray} {x4:List ByteArray} {x5:Int} {x6:Int} {x7:Int} {x32:Bool} {r:_}:(impl_Unframe.j1 k x0 x4 x5 x6 x7 x32 = some r) = (∃ m,k = m + 1∧impl_Unframe.j1 (m + 1) x0 x4 x5 x6 x7 x32 = some r):=propext ⟨impl_Unframe.j1_s,fun ⟨m,h,h2⟩ => by rw [h];exact h2⟩
theorem impl_Unframe.con (E:En) (hE:E = E0) {k a0 r1 r2} (H:impl_Unframe.f k a0 = some (r1,r2)) :
  Cn 146 [.c (.str a0)] [] (.tup [.own 0,.c (.int .i64 r2)]) [.row false 9 [.str] (E.eS r1)] []:=by
 refine co_ Tryz.func146 tabOk [20002] fun F hF Q hQ => ?_
 simp only [impl_Unframe.f] at H
 (conv => cbv)
 repeat' first
  | (rw [impl_Unframe.j1_i] at H;obtain ⟨m,hm,H⟩:=H;simp only [impl_Unframe.j1] at H;(try simp only [decide_eq_true_eq,Bool.false_eq_true,if_false,if_true] at H))
  | replace H:=s_ H
  | (exfalso;with_reducible assumption)
  | (rw [itn_iff] at H;obtain ⟨hc,H⟩:=H)
  | (rw [itn2_iff] at H;obtain ⟨hc,H⟩:=H)
  | ((with_reducible refine br2 hF H ?_ ?_) <;> (clear H;intro hb H;(try (conv => cbv))))
  | (refine w_ hF ?_;(try (conv => cbv)))
  | ((with_reducible refine k2_ 100 H ?_);clear H;intro _ _ hy H;refine ca_ hF (impl_Frame.con E hE hy) ?_;(try (conv => cbv)))
  | ((with_reducible refine k3_ 203 H ?_);clear H;intro _ _ _ hy H;refine ca_ hF (impl_ReadVar.con E hE hy) ?_;(try (conv => cbv)))
  | ((with_reducible refine lo_ hF (fun n t => n≤k∧∃ x0 x4 x5,t = At 71 [(0,.c (.str x0)),(4,.own 20004),(5,.c (.int .i64 x5))] [(20004,.row false 9 [.str] (E.eS x4))]∧impl_Unframe.l0 n x0 x4 x5 = some (r1,r2)) ⟨[0,4,5],[],[(4,9)],[]⟩ fun n0 t ht Q0 hN0 hX0 => ?_);obtain ⟨hl,_,_,_,rfl,H⟩:=ht;rcases n0 with _ | n0;cases H;simp only [impl_Unframe.l0] at H;(try (conv => cbv)))
  | ((with_reducible show Q0 _ _);first | exact nx_ hN0 | (refine xt_ hX0 ?_;(try (conv => cbv))))
  | ((with_reducible show Q _ _);exact en_ ⟨[2,3],[],[(2,9)],[]⟩ 71 hQ)
  | contradiction
theorem impl_reader_num.con (E:En) (hE:E = E0) {k s0_0 s0_1 s0_2 r1 r2 r3 r4} (H:impl_reader_num.f k s0_0 s0_1 s0_2 = some (r1,r2,r3,r4)) :
  Cn 158 [.ptr 10000 0] [.box [.c (.str s0_0),.c (.int .i64 s0_1),.c (.bool s0_2)]] (.c (.int .i64 r1)) [] [.box [.c (.str r2),.c (.int .i64 r3),.c (.bool r4)]]:=by
 refine co_ Tryz.func158 tabOk [] fun F hF Q hQ => ?_
 simp only [impl_reader_num.f] at H
 (conv => cbv)
 repeat' first
  | replace H:=s_ H
  | (exfalso;with_reducible assumption)
  | (rw [itn_iff] at H;obtain ⟨hc,H⟩:=H)
  | (rw [itn2_iff] at H;obtain ⟨hc,H⟩:=H)
  | ((with_reducible refine br2 hF H ?_ ?_) <;> (clear H;intro hb H;(try (conv => cbv))))
  | (refine w_ hF ?_;(try (conv => cbv)))
  | ((with_reducible refine k3_ 203 H ?_);clear H;intro _ _ _ hy H;refine ca_ hF (impl_ReadVar.con E hE hy) ?_;(try (conv => cbv)))
  | ((with_reducible show Q _ _);exact en_ ⟨[2],[],[],[]⟩ 35 hQ)
  | contradiction
theorem impl_ReadShort.con (E:En) (hE:E = E0) {k a0 a1 r1 r2 r3} (H:impl_ReadShort.f k a0 a1 = some (r1,r2,r3)) :
  Cn 225 [.c (.str a0),.c (.int .i64 a1)] [] (.tup [.c (.str r1),.c (.int .i64 r2),.c (.bool r3)]) [] []:=by
 refine co_ Tryz.func225 tabOkM [] fun F hF Q hQ => ?_
 simp only [impl_ReadShort.f] at H
 (conv => cbv)
 repeat' first
  | replace H:=s_ H
  | (exfalso;with_reducible assumption)
  | (rw [itn_iff] at H;obtain ⟨hc,H⟩:=H)
  | (rw [itn2_iff] at H;obtain ⟨hc,H⟩:=H)
  | ((with_reducible refine br2 hF H ?_ ?_) <;> (clear H;intro hb H;(try (conv => cbv))))
  | (refine w_ hF ?_;(try (conv => cbv)))
  | ((with_reducible refine k3_ 203 H ?_);clear H;intro _ _ _ hy H;refine ca_ hF (impl_ReadVar.con E hE hy) ?_;(try (conv => cbv)))
  | ((with_reducible show Q _ _);exact en_ ⟨[4,5,6],[],[],[]⟩ 40 hQ)
  | contradiction
theorem impl_reader_text.con (E:En) (hE:E = E0) {k s0_0 s0_1 s0_2 r1 r2 r3 r4} (H:impl_reader_text.f k s0_0 s0_1 s0_2 = some (r1,r2,r3,r4)) :
  Cn 205 [.ptr 10000 0] [.box [.c (.str s0_0),.c (.int .i64 s0_1),.c (.bool s0_2)]] (.c (.str r1)) [] [.box [.c (.str r2),.c (.int .i64 r3),.c (.bool r4)]]:=by
 refine co_ Tryz.func205 tabOkM [] fun F hF Q hQ => ?_
 simp only [impl_reader_text.f] at H
 (conv => cbv)
 repeat' first
  | replace H:=s_ H
  | (exfalso;with_reducible assumption)
  | (rw [itn_iff] at H;obtain ⟨hc,H⟩:=H)
  | (rw [itn2_iff] at H;obtain ⟨hc,H⟩:=H)
  | ((with_reducible refine br2 hF H ?_ ?_) <;> (clear H;intro hb H;(try (conv => cbv))))
  | (refine w_ hF ?_;(try (conv => cbv)))
  | ((with_reducible refine k3_ 225 H ?_);clear H;intro _ _ _ hy H;refine ca_ hF (impl_ReadShort.con E hE hy) ?_;(try (conv => cbv)))
  | ((with_reducible show Q _ _);exact en_ ⟨[2],[],[],[]⟩ 35 hQ)
  | contradiction
theorem impl_reader_byte.con (E:En) (hE:E = E0) {s0_0 s0_1 s0_2 r1 r2 r3 r4} (H:impl_reader_byte.f s0_0 s0_1 s0_2 = some (r1,r2,r3,r4)) :
  Cn 206 [.ptr 10000 0] [.box [.c (.str s0_0),.c (.int .i64 s0_1),.c (.bool s0_2)]] (.c (.int .i64 r1)) [] [.box [.c (.str r2),.c (.int .i64 r3),.c (.bool r4)]]:=by
 refine co_ Tryz.func206 tabOkM [] fun F hF Q hQ => ?_
 simp only [impl_reader_byte.f] at H
 (conv => cbv)
 repeat' first
  | replace H:=s_ H
  | (exfalso;with_reducible assumption)
  | (rw [itn_iff] at H;obtain ⟨hc,H⟩:=H)
  | (rw [itn2_iff] at H;obtain ⟨hc,H⟩:=H)
  | ((with_reducible refine br2 hF H ?_ ?_) <;> (clear H;intro hb H;(try (conv => cbv))))
  | (refine w_ hF ?_;(try (conv => cbv)))
  | ((with_reducible show Q _ _);exact en_ ⟨[2],[],[],[]⟩ 40 hQ)
  | contradiction
theorem impl_ReadBatch_c1.con (E:En) (hE:E = E0) {k s0_0_0 s0_0_1 s0_0_2 s1_0 l1_1 r1 r2 r3 r4 r5} (H:impl_ReadBatch_c1.f k s0_0_0 s0_0_1 s0_0_2 s1_0 l1_1 = some (r1,r2,r3,r4,r5)) :
  Cn 204 [.ptr 10000 0,.ptr 10001 0] [.box [.ptr 10002 0],.box [.c (.int .i64 s1_0),.own 10003],.box [.c (.str s0_0_0),.c (.int .i64 s0_0_1),.c (.bool s0_0_2)],.row false 162 [.str,.str,.bool] (E.e162 l1_1)] (.tup []) [.row false 162 [.str,.str,.bool] (E.e162 r2)] [.box [.ptr 10002 0],.box [.c (.int .i64 r1),.own 0],.box [.c (.str r3),.c (.int .i64 r4),.c (.bool r5)],.gone]:=by
 refine co_ Tryz.func204 tabOkM [600021] fun F hF Q hQ => ?_
 simp only [impl_ReadBatch_c1.f] at H
 (conv => cbv)
 repeat' first
  | replace H:=s_ H
  | (exfalso;with_reducible assumption)
  | (rw [itn_iff] at H;obtain ⟨hc,H⟩:=H)
  | (rw [itn2_iff] at H;obtain ⟨hc,H⟩:=H)
  | ((with_reducible refine br2 hF H ?_ ?_) <;> (clear H;intro hb H;(try (conv => cbv))))
  | (refine w_ hF ?_;(try (conv => cbv)))
  | ((with_reducible refine k4_ 205 H ?_);clear H;intro _ _ _ _ hy H;refine ca_ hF (impl_reader_text.con E hE hy) ?_;(try (conv => cbv)))
  | ((with_reducible refine k4_ 206 H ?_);clear H;intro _ _ _ _ hy H;refine ca_ hF (impl_reader_byte.con E hE hy) ?_;(try (conv => cbv)))
  | ((with_reducible show Q _ _);exact en_ ⟨[],[],[],[(10001,1,162)]⟩ 19 hQ)
  | contradiction
theorem each_ReadBatch_c1.con (E:En) (hE:E = E0) {k s0_0 s0_1 s0_2 s1_1_0 r1 r2 r3 r4 r5} (H:each_ReadBatch_c1.f k s0_0 s0_1 s0_2 s1_1_0 = some (r1,r2,r3,r4,r5)) :
  Cn 156 [.ptr 10000 0,.clo 204 [.ptr 10001 0,.ptr 10002 0]] [.box [.c (.str s0_0),.c (.int .i64 s0_1),.c (.bool s0_2)],.box [.ptr 10000 0],.box [.c (.int .i64 s1_1_0),.nil [.str,.str,.bool]]] (.tup []) [.row false 162 [.str,.str,.bool] (E.e162 r5)] [.box [.c (.str r1),.c (.int .i64 r2),.c (.bool r3)],.box [.ptr 10000 0],.box [.c (.int .i64 r4),.own 0]]:=by
 refine co_ Tryz.func156 tabOkM [600041] fun F hF Q hQ => ?_
 simp only [each_ReadBatch_c1.f] at H
 (conv => cbv)
 repeat' first
  | replace H:=s_ H
  | (exfalso;with_reducible assumption)
  | (rw [itn_iff] at H;obtain ⟨hc,H⟩:=H)
  | (rw [itn2_iff] at H;obtain ⟨hc,H⟩:=H)
  | ((with_reducible refine br2 hF H ?_ ?_) <;> (clear H;intro hb H;(try (conv => cbv))))
  | (refine w_ hF ?_;(try (conv => cbv)))
  | ((with_reducible refine k4_ 158 H ?_);clear H;intro _ _ _ _ hy H;refine ca_ hF (impl_reader_num.con E hE hy) ?_;(try (conv => cbv)))
  | ((with_reducible refine k5_ 204 H ?_);clear H;intro _ _ _ _ _ hy H;refine ca_ hF (impl_ReadBatch_c1.con E hE hy) ?_;(try (conv => cbv)))
  | ((with_reducible refine lo_ hF (fun n t => n≤k∧∃ x4 x5 v0 v1 v2 v3 v4,t = At 22 [(0,.ptr 10000 0),(1,.clo 204 [.ptr 10001 0,.ptr 10002 0]),(4,.c (.int .i64 x4)),(5,.c (.int .i64 x5))] [(10000,.box [.c (.str v0),.c (.int .i64 v1),.c (.bool v2)]),(10001,.box [.ptr 10000 0]),(10002,.box [.c (.int .i64 v3),.own 600041]),(600041,.row false 162 [.str,.str,.bool] (E.e162 v4))]∧each_ReadBatch_c1.l0 n x4 x5 v0 v1 v2 v3 v4 = some (r1,r2,r3,r4,r5)) ⟨[0,1,4,5],[],[],[(10002,1,162)]⟩ fun n0 t ht Q0 hN0 hX0 => ?_);obtain ⟨hl,_,_,_,_,_,_,_,rfl,H⟩:=ht;rcases n0 with _ | n0;cases H;simp only [each_ReadBatch_c1.l0] at H;(try (conv => cbv)))
  | ((with_reducible show Q0 _ _);first | exact nx_ hN0 | (refine xt_ hX0 ?_;(try (conv => cbv))))
  | ((with_reducible show Q _ _);exact en_ ⟨[],[],[],[(10002,1,162)]⟩ 22 hQ)
  | contradiction
theorem impl_keyOk.con (E:En) (hE:E = E0) {a0 r} (H:impl_keyOk.f a0 = some (r)) :
  Cn 188 [.c (.str a0)] [] (.c (.bool r)) [] []:=by
 refine co_ Tryz.func188 tabOk [] fun F hF Q hQ => ?_
 simp only [impl_keyOk.f] at H
 (conv => cbv)
 repeat' first
  | replace H:=s_ H
  | (exfalso;with_reducible assumption)
  | (rw [itn_iff] at H;obtain ⟨hc,H⟩:=H)
  | (rw [itn2_iff] at H;obtain ⟨hc,H⟩:=H)
  | ((with_reducible refine br2 hF H ?_ ?_) <;> (clear H;intro hb H;(try (conv => cbv))))
  | (refine w_ hF ?_;(try (conv => cbv)))
  | ((with_reducible refine k1_ 144 H ?_);clear H;intro _ hy H;refine ca_ hF (impl_within.con E hE hy) ?_;(try (conv => cbv)))
  | ((with_reducible show Q _ _);exact en_ ⟨[2],[],[],[]⟩ 6 hQ)
  | contradiction
theorem impl_BatchOk.con (E:En) (hE:E = E0) {k a0_0 l0_1 r} (H:impl_BatchOk.f k a0_0 l0_1 = some (r)) :
  Cn 179 [.agg [.c (.int .i64 a0_0),.c (.sl [.str,.str,.bool] (E.e162 l0_1))]] [] (.c (.bool r)) [] []:=by
 refine co_ Tryz.func179 tabOk [] fun F hF Q hQ => ?_
 simp only [impl_BatchOk.f] at H
 (conv => cbv)
 repeat' first
  | replace H:=s_ H
  | (exfalso;with_reducible assumption)
  | (rw [itn_iff] at H;obtain ⟨hc,H⟩:=H)
  | (rw [itn2_iff] at H;obtain ⟨hc,H⟩:=H)
  | ((with_reducible refine br2 hF H ?_ ?_) <;> (clear H;intro hb H;(try (conv => cbv))))
  | (refine w_ hF ?_;(try (conv => cbv)))
  | ((with_reducible refine k1_ 144 H ?_);clear H;intro _ hy H;refine ca_ hF (impl_within.con E hE hy) ?_;(try (conv => cbv)))
  | ((with_reducible refine k1_ 188 H ?_);clear H;intro _ hy H;refine ca_ hF (impl_keyOk.con E hE hy) ?_;(try (conv => cbv)))
  | ((with_reducible refine lo_ hF (fun n t => n≤k∧∃ x6 x7 x8 v0 v1,t = At 58 [(1,.ptr 1 0),(6,.c (.sl [.str,.str,.bool] (E.e162 x6))),(7,.c (.int .i64 x7)),(8,.c (.int .i64 x8))] [(1,.box [.c (.int .i64 v0),.c (.sl [.str,.str,.bool] (E.e162 v1))])]∧impl_BatchOk.l0 n x6 x7 x8 v0 v1 = some (r)) ⟨[1,6,7,8],[1],[],[]⟩ fun n0 t ht Q0 hN0 hX0 => ?_);obtain ⟨hl,_,_,_,_,_,rfl,H⟩:=ht;rcases n0 with _ | n0;cases H;simp only [impl_BatchOk.l0] at H;(try (conv => cbv)))
  | ((with_reducible show Q0 _ _);first | exact nx_ hN0 | (refine xt_ hX0 ?_;(try (conv => cbv))))
  | ((with_reducible show Q _ _);exact en_ ⟨[2],[],[],[]⟩ 58 hQ)
  | contradiction
theorem impl_vars.con (E:En) (hE:E = E0) {k l0 r1 r2} (H:impl_vars.f k l0 = some (r1,r2)) :
  Cn 180 [.c (.sl [.int .i64] (E.eI .i64 l0))] [] (.tup [.c (.str r1),.c (.bool r2)]) [] []:=by
 refine co_ Tryz.func180 tabOk [] fun F hF Q hQ => ?_
 simp only [impl_vars.f] at H
 (conv => cbv)
 repeat' first
  | replace H:=s_ H
  | (exfalso;with_reducible assumption)
  | (rw [itn_iff] at H;obtain ⟨hc,H⟩:=H)
  | (rw [itn2_iff] at H;obtain ⟨hc,H⟩:=H)
  | ((with_reducible refine br2 hF H ?_ ?_) <;> (clear H;intro hb H;(try (conv => cbv))))
  | (refine w_ hF ?_;(try (conv => cbv)))
  | ((with_reducible refine k2_ 183 H ?_);clear H;intro _ _ hy H;refine ca_ hF (impl_VarText.con E hE hy) ?_;(try (conv => cbv)))
  | ((with_reducible refine lo_ hF (fun n t => n≤k∧∃ x4 x9 x10 x11,t = At 28 [(4,.own 20004),(9,.c (.sl [.int .i64] (E.eI .i64 x9))),(10,.c (.int .i64 x10)),(11,.c (.int .i64 x11))] [(20004,.row false 5 [.int .u8] (E.eI .u8 x4))]∧impl_vars.l0 n x4 x9 x10 x11 = some (r1,r2)) ⟨[4,9,10,11],[],[(4,5)],[]⟩ fun n0 t ht Q0 hN0 hX0 => ?_);obtain ⟨hl,_,_,_,_,rfl,H⟩:=ht;rcases n0 with _ | n0;cases H;simp only [impl_vars.l0] at H;(try (conv => cbv)))
  | ((with_reducible show Q0 _ _);first | exact nx_ hN0 | (refine xt_ hX0 ?_;(try (conv => cbv))))
  | ((with_reducible show Q _ _);exact en_ ⟨[2,3],[],[],[]⟩ 28 hQ)
  | contradiction
theorem impl_ShortText.con (E:En) (hE:E = E0) {k a0 r1 r2} (H:impl_ShortText.f k a0 = some (r1,r2)) :
  Cn 217 [.c (.str a0)] [] (.tup [.c (.str r1),.c (.bool r2)]) [] []:=by
 refine co_ Tryz.func217 tabOk [] fun F hF Q hQ => ?_
 simp only [impl_ShortText.f] at H
 (conv => cbv)
 repeat' first
  | replace H:=s_ H
  | (exfalso;with_reducible assumption)
  | (rw [itn_iff] at H;obtain ⟨hc,H⟩:=H)
  | (rw [itn2_iff] at H;obtain ⟨hc,H⟩:=H)
  | ((with_reducible refine br2 hF H ?_ ?_) <;> (clear H;intro hb H;(try (conv => cbv))))
  | (refine w_ hF ?_;(try (conv => cbv)))
  | ((with_reducible refine k2_ 183 H ?_);clear H;intro _ _ hy H;refine ca_ hF (impl_VarText.con E hE hy) ?_;(try (conv => cbv)))
  | ((with_reducible show Q _ _);exact en_ ⟨[2,3],[],[],[]⟩ 18 hQ)
  | contradiction
theorem impl_short.con (E:En) (hE:E = E0) {k a0 r} (H:impl_short.f k a0 = some (r)) :
  Cn 181 [.c (.str a0)] [] (.c (.str r)) [] []:=by
 refine co_ Tryz.func181 tabOk [] fun F hF Q hQ => ?_
 simp only [impl_short.f] at H
 (conv => cbv)
 repeat' first
  | replace H:=s_ H
  | (exfalso;with_reducible assumption)
  | (rw [itn_iff] at H;obtain ⟨hc,H⟩:=H)
  | (rw [itn2_iff] at H;obtain ⟨hc,H⟩:=H)
  | ((with_reducible refine br2 hF H ?_ ?_) <;> (clear H;intro hb H;(try (conv => cbv))))
  | (refine w_ hF ?_;(try (conv => cbv)))
  | ((with_reducible refine k2_ 217 H ?_);clear H;intro _ _ hy H;refine ca_ hF (impl_ShortText.con E hE hy) ?_;(try (conv => cbv)))
  | ((with_reducible show Q _ _);exact en_ ⟨[2],[],[],[]⟩ 11 hQ)
  | contradiction
end Go.Ev
