/- Contracts of the Go functions that this law reaches: what each call returns, by its plain function. No conditions but those that each statement names. By this repo's programs; comments are taken out. -/
import Derived.Test.YtlmicldpfnmeaaaGreatDoorVFnExactMergeShelfD
import Derived.Test.YtlmicldpfnmeaaaGreatDoorVFnExactMergeShelfC0
import Derived.Test.YtlmicldpfnmeaaaGreatDoorVFnExactMergeShelfC1
set_option linter.all false
namespace Go.Ev
open Go.RowKit Go.Proofs Go.Proofs.YtlmicldpfnmeaaaGreatDoorW.PrintWords Go.Proofs.YtlmicldpfnmeaaaGreatDoorW.PrintLast Go.Proofs.YtlmicldpfnmeaaaGreatDoorW.PrintMore
set_option maxRecDepth 100000
set_option maxHeartbeats 4000000
theorem spec_Frame.con (E:En) (hE:E = E0) {k a0 r1 r2} (H:spec_Frame.f k a0 = some (r1,r2)) :
  Cn 63 [.c (.str a0)] [] (.tup [.c (.str r1),.c (.bool r2)]) [] []:=by
 refine co_ Tryz.func63 tabOk [] fun F hF Q hQ => ?_
 simp only [spec_Frame.f] at H
 (conv => cbv)
 repeat' first
  | replace H:=s_ H
  | (exfalso;with_reducible assumption)
  | (rw [itn_iff] at H;obtain ⟨hc,H⟩:=H)
  | (rw [itn2_iff] at H;obtain ⟨hc,H⟩:=H)
  | ((with_reducible refine br2 hF H ?_ ?_) <;> (clear H;intro hb H;(try (conv => cbv))))
  | (refine w_ hF ?_;(try (conv => cbv)))
  | ((with_reducible refine k1_ 131 H ?_);clear H;intro _ hy H;refine ca_ hF (spec_l01In.con E hE hy) ?_;(try (conv => cbv)))
  | ((with_reducible refine k1_ 136 H ?_);clear H;intro _ hy H;refine ca_ hF (spec_l01Var.con E hE hy) ?_;(try (conv => cbv)))
  | ((with_reducible refine k1_ 137 H ?_);clear H;intro _ hy H;refine ca_ hF (spec_l02Four.con E hE hy) ?_;(try (conv => cbv)))
  | ((with_reducible refine k1_ 138 H ?_);clear H;intro _ hy H;refine ca_ hF (spec_SumOf.con E hE hy) ?_;(try (conv => cbv)))
  | ((with_reducible show Q _ _);exact en_ ⟨[2,3],[],[],[]⟩ 17 hQ)
  | contradiction
theorem spec_Unframe.j1_s {k:Nat} {x0:ByteArray} {x4:List ByteArray} {x5:Int} {x6:Int} {x7:Int} {x38:Bool} {r:_} (h:spec_Unframe.j1 k x0 x4 x5 x6 x7 x38 = some r):∃ m,k = m + 1∧spec_Unframe.j1 (m + 1) x0 x4 x5 x6 x7 x38 = some r:=by
 cases k with
 | zero => simp [spec_Unframe.j1] at h
 | succ m => exact ⟨m,rfl,h⟩
theorem spec_Unframe.j1_i {k:Nat} {x0:ByteArray} {x4:List ByteArray} {x5:Int} {x6:Int} {x7:Int} {x38:Bool} {r:_}:(spec_Unframe.j1 k x0 x4 x5 x6 x7 x38 = some r) = (∃ m,k = m + 1∧spec_Unframe.j1 (m + 1) x0 x4 x5 x6 x7 x38 = some r):=propext ⟨spec_Unframe.j1_s,fun ⟨m,h,h2⟩ => by rw [h];exact h2⟩
theorem spec_Unframe.con (E:En) (hE:E = E0) {k a0 r1 r2} (H:spec_Unframe.f k a0 = some (r1,r2)) :
  Cn 59 [.c (.str a0)] [] (.tup [.own 0,.c (.int .i64 r2)]) [.row false 9 [.str] (E.eS r1)] []:=by
 refine co_ Tryz.func59 tabOk [20002] fun F hF Q hQ => ?_
 simp only [spec_Unframe.f] at H
 (conv => cbv)
 repeat' first
  | (rw [spec_Unframe.j1_i] at H;obtain ⟨m,hm,H⟩:=H;simp only [spec_Unframe.j1] at H;(try simp only [decide_eq_true_eq,Bool.false_eq_true,if_false,if_true] at H))
  | replace H:=s_ H
  | (exfalso;with_reducible assumption)
  | (rw [itn_iff] at H;obtain ⟨hc,H⟩:=H)
  | (rw [itn2_iff] at H;obtain ⟨hc,H⟩:=H)
  | ((with_reducible refine br2 hF H ?_ ?_) <;> (clear H;intro hb H;(try (conv => cbv))))
  | (refine w_ hF ?_;(try (conv => cbv)))
  | ((with_reducible refine k2_ 63 H ?_);clear H;intro _ _ hy H;refine ca_ hF (spec_Frame.con E hE hy) ?_;(try (conv => cbv)))
  | ((with_reducible refine k3_ 130 H ?_);clear H;intro _ _ _ hy H;refine ca_ hF (spec_ReadVar.con E hE hy) ?_;(try (conv => cbv)))
  | ((with_reducible refine lo_ hF (fun n t => n≤k∧∃ x0 x4 x5,t = At 79 [(0,.c (.str x0)),(4,.own 20004),(5,.c (.int .i64 x5))] [(20004,.row false 9 [.str] (E.eS x4))]∧spec_Unframe.l0 n x0 x4 x5 = some (r1,r2)) ⟨[0,4,5],[],[(4,9)],[]⟩ fun n0 t ht Q0 hN0 hX0 => ?_);obtain ⟨hl,_,_,_,rfl,H⟩:=ht;rcases n0 with _ | n0;cases H;simp only [spec_Unframe.l0] at H;(try (conv => cbv)))
  | ((with_reducible show Q0 _ _);first | exact nx_ hN0 | (refine xt_ hX0 ?_;(try (conv => cbv))))
  | ((with_reducible show Q _ _);exact en_ ⟨[2,3],[],[(2,9)],[]⟩ 79 hQ)
  | contradiction
theorem spec_l05Take.con (E:En) (hE:E = E0) {s0_0 s0_1 s0_2 a1 r1 r2 r3 r4} (H:spec_l05Take.f s0_0 s0_1 s0_2 a1 = some (r1,r2,r3,r4)) :
  Cn 135 [.ptr 10000 0,.c (.int .i64 a1)] [.box [.c (.str s0_0),.c (.int .i64 s0_1),.c (.bool s0_2)]] (.c (.str r1)) [] [.box [.c (.str r2),.c (.int .i64 r3),.c (.bool r4)]]:=by
 refine co_ Tryz.func135 tabOk [] fun F hF Q hQ => ?_
 simp only [spec_l05Take.f] at H
 (conv => cbv)
 repeat' first
  | replace H:=s_ H
  | (exfalso;with_reducible assumption)
  | (rw [itn_iff] at H;obtain ⟨hc,H⟩:=H)
  | (rw [itn2_iff] at H;obtain ⟨hc,H⟩:=H)
  | ((with_reducible refine br2 hF H ?_ ?_) <;> (clear H;intro hb H;(try (conv => cbv))))
  | (refine w_ hF ?_;(try (conv => cbv)))
  | ((with_reducible show Q _ _);exact en_ ⟨[4],[],[],[]⟩ 50 hQ)
  | contradiction
theorem spec_l05ReadShort.con (E:En) (hE:E = E0) {k s0_0 s0_1 s0_2 r1 r2 r3 r4} (H:spec_l05ReadShort.f k s0_0 s0_1 s0_2 = some (r1,r2,r3,r4)) :
  Cn 134 [.ptr 10000 0] [.box [.c (.str s0_0),.c (.int .i64 s0_1),.c (.bool s0_2)]] (.c (.str r1)) [] [.box [.c (.str r2),.c (.int .i64 r3),.c (.bool r4)]]:=by
 refine co_ Tryz.func134 tabOk [] fun F hF Q hQ => ?_
 simp only [spec_l05ReadShort.f] at H
 (conv => cbv)
 repeat' first
  | replace H:=s_ H
  | (exfalso;with_reducible assumption)
  | (rw [itn_iff] at H;obtain ⟨hc,H⟩:=H)
  | (rw [itn2_iff] at H;obtain ⟨hc,H⟩:=H)
  | ((with_reducible refine br2 hF H ?_ ?_) <;> (clear H;intro hb H;(try (conv => cbv))))
  | (refine w_ hF ?_;(try (conv => cbv)))
  | ((with_reducible refine k4_ 133 H ?_);clear H;intro _ _ _ _ hy H;refine ca_ hF (spec_l05Var.con E hE hy) ?_;(try (conv => cbv)))
  | ((with_reducible refine k4_ 135 H ?_);clear H;intro _ _ _ _ hy H;refine ca_ hF (spec_l05Take.con E hE hy) ?_;(try (conv => cbv)))
  | ((with_reducible show Q _ _);exact en_ ⟨[2],[],[],[]⟩ 9 hQ)
  | contradiction
theorem spec_l05Key.con (E:En) (hE:E = E0) {a0 r} (H:spec_l05Key.f a0 = some (r)) :
  Cn 177 [.c (.str a0)] [] (.c (.bool r)) [] []:=by
 refine co_ Tryz.func177 tabOk [] fun F hF Q hQ => ?_
 simp only [spec_l05Key.f] at H
 (conv => cbv)
 repeat' first
  | replace H:=s_ H
  | (exfalso;with_reducible assumption)
  | (rw [itn_iff] at H;obtain ⟨hc,H⟩:=H)
  | (rw [itn2_iff] at H;obtain ⟨hc,H⟩:=H)
  | ((with_reducible refine br2 hF H ?_ ?_) <;> (clear H;intro hb H;(try (conv => cbv))))
  | (refine w_ hF ?_;(try (conv => cbv)))
  | ((with_reducible refine k1_ 131 H ?_);clear H;intro _ hy H;refine ca_ hF (spec_l01In.con E hE hy) ?_;(try (conv => cbv)))
  | ((with_reducible show Q _ _);exact en_ ⟨[2],[],[],[]⟩ 6 hQ)
  | contradiction
theorem spec_BatchOk.j0_s {k:Nat} {x14:Bool} {x673000:Int} {x673001:List S162} {r:_} (h:spec_BatchOk.j0 k x14 x673000 x673001 = some r):∃ m,k = m + 1∧spec_BatchOk.j0 (m + 1) x14 x673000 x673001 = some r:=by
 cases k with
 | zero => simp [spec_BatchOk.j0] at h
 | succ m => exact ⟨m,rfl,h⟩
theorem spec_BatchOk.j0_i {k:Nat} {x14:Bool} {x673000:Int} {x673001:List S162} {r:_}:(spec_BatchOk.j0 k x14 x673000 x673001 = some r) = (∃ m,k = m + 1∧spec_BatchOk.j0 (m + 1) x14 x673000 x673001 = some r):=propext ⟨spec_BatchOk.j0_s,fun ⟨m,h,h2⟩ => by rw [h];exact h2⟩
theorem spec_BatchOk.con (E:En) (hE:E = E0) {k a0_0 l0_1 r} (H:spec_BatchOk.f k a0_0 l0_1 = some (r)) :
  Cn 116 [.agg [.c (.int .i64 a0_0),.c (.sl [.str,.str,.bool] (E.e162 l0_1))]] [] (.c (.bool r)) [] []:=by
 refine co_ Tryz.func116 tabOk [] fun F hF Q hQ => ?_
 simp only [spec_BatchOk.f] at H
 (conv => cbv)
 repeat' first
  | (rw [spec_BatchOk.j0_i] at H;obtain ⟨m,hm,H⟩:=H;simp only [spec_BatchOk.j0] at H;(try simp only [decide_eq_true_eq,Bool.false_eq_true,if_false,if_true] at H))
  | replace H:=s_ H
  | (exfalso;with_reducible assumption)
  | (rw [itn_iff] at H;obtain ⟨hc,H⟩:=H)
  | (rw [itn2_iff] at H;obtain ⟨hc,H⟩:=H)
  | ((with_reducible refine br2 hF H ?_ ?_) <;> (clear H;intro hb H;(try (conv => cbv))))
  | (refine w_ hF ?_;(try (conv => cbv)))
  | ((with_reducible refine k1_ 131 H ?_);clear H;intro _ hy H;refine ca_ hF (spec_l01In.con E hE hy) ?_;(try (conv => cbv)))
  | ((with_reducible refine k1_ 177 H ?_);clear H;intro _ hy H;refine ca_ hF (spec_l05Key.con E hE hy) ?_;(try (conv => cbv)))
  | ((with_reducible refine lo_ hF (fun n t => n≤k∧∃ x3 v0 v1,t = At 62 [(1,.ptr 1 0),(3,.c (.int .i64 x3))] [(1,.box [.c (.int .i64 v0),.c (.sl [.str,.str,.bool] (E.e162 v1))])]∧spec_BatchOk.l0 n x3 v0 v1 = some (r)) ⟨[1,3],[1],[],[]⟩ fun n0 t ht Q0 hN0 hX0 => ?_);obtain ⟨hl,_,_,_,rfl,H⟩:=ht;rcases n0 with _ | n0;cases H;simp only [spec_BatchOk.l0] at H;(try (conv => cbv)))
  | ((with_reducible show Q0 _ _);first | exact nx_ hN0 | (refine xt_ hX0 ?_;(try (conv => cbv))))
  | ((with_reducible show Q _ _);exact en_ ⟨[2],[],[],[]⟩ 62 hQ)
  | contradiction
theorem spec_l05Short.con (E:En) (hE:E = E0) {k a0 r} (H:spec_l05Short.f k a0 = some (r)) :
  Cn 185 [.c (.str a0)] [] (.c (.str r)) [] []:=by
 refine co_ Tryz.func185 tabOk [] fun F hF Q hQ => ?_
 simp only [spec_l05Short.f] at H
 (conv => cbv)
 repeat' first
  | replace H:=s_ H
  | (exfalso;with_reducible assumption)
  | (rw [itn_iff] at H;obtain ⟨hc,H⟩:=H)
  | (rw [itn2_iff] at H;obtain ⟨hc,H⟩:=H)
  | ((with_reducible refine br2 hF H ?_ ?_) <;> (clear H;intro hb H;(try (conv => cbv))))
  | (refine w_ hF ?_;(try (conv => cbv)))
  | ((with_reducible refine k1_ 136 H ?_);clear H;intro _ hy H;refine ca_ hF (spec_l01Var.con E hE hy) ?_;(try (conv => cbv)))
  | ((with_reducible show Q _ _);exact en_ ⟨[2],[],[],[]⟩ 8 hQ)
  | contradiction
theorem spec_BatchText.con (E:En) (hE:E = E0) {k a0_0 l0_1 r1 r2} (H:spec_BatchText.f k a0_0 l0_1 = some (r1,r2)) :
  Cn 104 [.agg [.c (.int .i64 a0_0),.c (.sl [.str,.str,.bool] (E.e162 l0_1))]] [] (.tup [.c (.str r1),.c (.bool r2)]) [] []:=by
 refine co_ Tryz.func104 tabOk [] fun F hF Q hQ => ?_
 simp only [spec_BatchText.f] at H
 (conv => cbv)
 repeat' first
  | replace H:=s_ H
  | (exfalso;with_reducible assumption)
  | (rw [itn_iff] at H;obtain ⟨hc,H⟩:=H)
  | (rw [itn2_iff] at H;obtain ⟨hc,H⟩:=H)
  | ((with_reducible refine br2 hF H ?_ ?_) <;> (clear H;intro hb H;(try (conv => cbv))))
  | (refine w_ hF ?_;(try (conv => cbv)))
  | ((with_reducible refine k1_ 116 H ?_);clear H;intro _ hy H;refine ca_ hF (spec_BatchOk.con E hE hy) ?_;(try (conv => cbv)))
  | ((with_reducible refine k1_ 136 H ?_);clear H;intro _ hy H;refine ca_ hF (spec_l01Var.con E hE hy) ?_;(try (conv => cbv)))
  | ((with_reducible refine k1_ 185 H ?_);clear H;intro _ hy H;refine ca_ hF (spec_l05Short.con E hE hy) ?_;(try (conv => cbv)))
  | ((with_reducible refine lo_ hF (fun n t => n≤k∧∃ x4 x5 v0 v1,t = At 51 [(1,.ptr 1 0),(4,.c (.str x4)),(5,.c (.int .i64 x5))] [(1,.box [.c (.int .i64 v0),.c (.sl [.str,.str,.bool] (E.e162 v1))])]∧spec_BatchText.l0 n x4 x5 v0 v1 = some (r1,r2)) ⟨[1,4,5],[1],[],[]⟩ fun n0 t ht Q0 hN0 hX0 => ?_);obtain ⟨hl,_,_,_,_,rfl,H⟩:=ht;rcases n0 with _ | n0;cases H;simp only [spec_BatchText.l0] at H;(try (conv => cbv)))
  | ((with_reducible show Q0 _ _);first | exact nx_ hN0 | (refine xt_ hX0 ?_;(try (conv => cbv))))
  | ((with_reducible show Q _ _);exact en_ ⟨[2,3],[],[],[]⟩ 51 hQ)
  | contradiction
theorem spec_ReadBatch.j1_s {k:Nat} {x0:ByteArray} {x6:Int} {x7:Int} {x29:Bool} {x702000:ByteArray} {x702001:Int} {x702002:Bool} {x703000:Int} {x703001:List S162} {r:_} (h:spec_ReadBatch.j1 k x0 x6 x7 x29 x702000 x702001 x702002 x703000 x703001 = some r):∃ m,k = m + 1∧spec_ReadBatch.j1 (m + 1) x0 x6 x7 x29 x702000 x702001 x702002 x703000 x703001 = some r:=by
 cases k with
 | zero => simp [spec_ReadBatch.j1] at h
 | succ m => exact ⟨m,rfl,h⟩
theorem spec_ReadBatch.j1_i {k:Nat} {x0:ByteArray} {x6:Int} {x7:Int} {x29:Bool} {x702000:ByteArray} {x702001:Int} {x702002:Bool} {x703000:Int} {x703001:List S162} {r:_}:(spec_ReadBatch.j1 k x0 x6 x7 x29 x702000 x702001 x702002 x703000 x703001 = some r) = (∃ m,k = m + 1∧spec_ReadBatch.j1 (m + 1) x0 x6 x7 x29 x702000 x702001 x702002 x703000 x703001 = some r):=propext ⟨spec_ReadBatch.j1_s,fun ⟨m,h,h2⟩ => by rw [h];exact h2⟩
theorem spec_ReadBatch.con (E:En) (hE:E = E0) {k a0 r1 r2 r3} (H:spec_ReadBatch.f k a0 = some (r1,r2,r3)) :
  Cn 62 [.c (.str a0)] [] (.tup [.agg [.c (.int .i64 r1),.own 0],.c (.bool r3)]) [.row false 162 [.str,.str,.bool] (E.e162 r2)] []:=by
 refine co_ Tryz.func62 tabOk [400041] fun F hF Q hQ => ?_
 simp only [spec_ReadBatch.f] at H
 (conv => cbv)
 repeat' first
  | (rw [spec_ReadBatch.j1_i] at H;obtain ⟨m,hm,H⟩:=H;simp only [spec_ReadBatch.j1] at H;(try simp only [decide_eq_true_eq,Bool.false_eq_true,if_false,if_true] at H))
  | replace H:=s_ H
  | (exfalso;with_reducible assumption)
  | (rw [itn_iff] at H;obtain ⟨hc,H⟩:=H)
  | (rw [itn2_iff] at H;obtain ⟨hc,H⟩:=H)
  | ((with_reducible refine br2 hF H ?_ ?_) <;> (clear H;intro hb H;(try (conv => cbv))))
  | (refine w_ hF ?_;(try (conv => cbv)))
  | ((with_reducible refine k2_ 104 H ?_);clear H;intro _ _ hy H;refine ca_ hF (spec_BatchText.con E hE hy) ?_;(try (conv => cbv)))
  | ((with_reducible refine k4_ 133 H ?_);clear H;intro _ _ _ _ hy H;refine ca_ hF (spec_l05Var.con E hE hy) ?_;(try (conv => cbv)))
  | ((with_reducible refine k4_ 134 H ?_);clear H;intro _ _ _ _ hy H;refine ca_ hF (spec_l05ReadShort.con E hE hy) ?_;(try (conv => cbv)))
  | ((with_reducible refine k4_ 135 H ?_);clear H;intro _ _ _ _ hy H;refine ca_ hF (spec_l05Take.con E hE hy) ?_;(try (conv => cbv)))
  | ((with_reducible refine lo_ hF (fun n t => n≤k∧∃ x0 x6 x7 v0 v1 v2 v3 v4,t = At 69 [(0,.c (.str x0)),(2,.ptr 2 0),(4,.ptr 13 0),(5,.ptr 5 0),(6,.c (.int .i64 x6)),(7,.c (.int .i64 x7)),(13,.ptr 13 0)] [(2,.box [.c (.int .i64 0),.own 400041]),(13,.box [.c (.str v0),.c (.int .i64 v1),.c (.bool v2)]),(5,.box [.c (.int .i64 v3),.own 400101]),(400041,.row false 162 [.str,.str,.bool] []),(400101,.row false 162 [.str,.str,.bool] (E.e162 v4))]∧spec_ReadBatch.l0 n x0 x6 x7 v0 v1 v2 v3 v4 = some (r1,r2,r3)) ⟨[0,2,4,5,6,7,13],[2,13,5],[],[(2,1,162),(5,1,162)]⟩ fun n0 t ht Q0 hN0 hX0 => ?_);obtain ⟨hl,_,_,_,_,_,_,_,_,rfl,H⟩:=ht;rcases n0 with _ | n0;cases H;simp only [spec_ReadBatch.l0] at H;(try (conv => cbv)))
  | ((with_reducible show Q0 _ _);first | exact nx_ hN0 | (refine xt_ hX0 ?_;(try (conv => cbv))))
  | ((with_reducible show Q _ _);exact en_ ⟨[2,3],[2],[],[(2,1,162)]⟩ 69 hQ)
  | contradiction
theorem spec_ScanSeg.con (E:En) (hE:E = E0) {k a0 a1 r1 r2 r3} (H:spec_ScanSeg.f k a0 a1 = some (r1,r2,r3)) :
  Cn 152 [.c (.str a0),.c (.int .i64 a1)] [] (.tup [.own 0,.own 1,.c (.int .i64 r3)]) [.row false 145 [.str,.int .i64,.int .i64,.int .i64] (E.e145 r1),.row false 9 [.str] (E.eS r2)] []:=by
 refine co_ Tryz.func152 tabOk [20004,20005] fun F hF Q hQ => ?_
 simp only [spec_ScanSeg.f] at H
 (conv => cbv)
 repeat' first
  | replace H:=s_ H
  | (exfalso;with_reducible assumption)
  | (rw [itn_iff] at H;obtain ⟨hc,H⟩:=H)
  | (rw [itn2_iff] at H;obtain ⟨hc,H⟩:=H)
  | ((with_reducible refine br2 hF H ?_ ?_) <;> (clear H;intro hb H;(try (conv => cbv))))
  | (refine w_ hF ?_;(try (conv => cbv)))
  | ((with_reducible refine k2_ 59 H ?_);clear H;intro _ _ hy H;refine ca_ hF (spec_Unframe.con E hE hy) ?_;(try (conv => cbv)))
  | ((with_reducible refine k3_ 62 H ?_);clear H;intro _ _ _ hy H;refine ca_ hF (spec_ReadBatch.con E hE hy) ?_;(try (conv => cbv)))
  | ((with_reducible refine k2_ 63 H ?_);clear H;intro _ _ hy H;refine ca_ hF (spec_Frame.con E hE hy) ?_;(try (conv => cbv)))
  | ((with_reducible refine k1_ 136 H ?_);clear H;intro _ hy H;refine ca_ hF (spec_l01Var.con E hE hy) ?_;(try (conv => cbv)))
  | ((with_reducible refine k1_ 185 H ?_);clear H;intro _ hy H;refine ca_ hF (spec_l05Short.con E hE hy) ?_;(try (conv => cbv)))
  | ((with_reducible refine lo_ hF (fun n t => n≤k∧∃ x1 x7 x8 x9 x10 x12 x13,t = At 146 [(1,.c (.int .i64 x1)),(7,.own 20007),(8,.own 20008),(9,.c (.int .i64 x9)),(10,.c (.sl [.str] (E.eS x10))),(12,.c (.int .i64 x12)),(13,.c (.int .i64 x13))] [(20007,.row false 145 [.str,.int .i64,.int .i64,.int .i64] (E.e145 x7)),(20008,.row false 9 [.str] (E.eS x8))]∧spec_ScanSeg.l0 n x1 x7 x8 x9 x10 x12 x13 = some (r1,r2,r3)) ⟨[1,7,8,9,10,12,13],[],[(7,145),(8,9)],[]⟩ fun n0 t ht Q0 hN0 hX0 => ?_);obtain ⟨hl,_,_,_,_,_,_,_,rfl,H⟩:=ht;rcases n0 with _ | n0;cases H;simp only [spec_ScanSeg.l0] at H;(try (conv => cbv)))
  | ((with_reducible show Q0 _ _);first | exact nx_ hN0 | (refine xt_ hX0 ?_;(try (conv => cbv))))
  | ((with_reducible refine lo_ hF (fun n t => n≤n0∧∃ x1 x7 x8 x9 x10 x12 x13 x16 x18 x19 v0 v1,t = At 146 [(1,.c (.int .i64 x1)),(7,.own 20007),(8,.own 20008),(9,.c (.int .i64 x9)),(10,.c (.sl [.str] (E.eS x10))),(12,.c (.int .i64 x12)),(13,.c (.int .i64 x13)),(14,.ptr 14 0),(16,.c (.str x16)),(18,.c (.int .i64 x18)),(19,.c (.int .i64 x19))] [(14,.box [.c (.int .i64 v0),.c (.sl [.str,.str,.bool] (E.e162 v1))]),(20007,.row false 145 [.str,.int .i64,.int .i64,.int .i64] (E.e145 x7)),(20008,.row false 9 [.str] (E.eS x8))]∧spec_ScanSeg.l1 n x1 x7 x8 x9 x10 x12 x13 x16 x18 x19 v0 v1 = some (r1,r2,r3)) ⟨[1,7,8,9,10,12,13,14,16,18,19],[14],[(7,145),(8,9)],[]⟩ fun n1 t ht Q1 hN1 hX1 => ?_);obtain ⟨hl,_,_,_,_,_,_,_,_,_,_,_,_,rfl,H⟩:=ht;rcases n1 with _ | n1;cases H;simp only [spec_ScanSeg.l1] at H;(try (conv => cbv)))
  | ((with_reducible show Q1 _ _);first | exact nx_ hN1 | (refine xt_ hX1 ?_;(try (conv => cbv))))
  | ((with_reducible show Q _ _);exact en_ ⟨[4,5,6],[],[(4,145),(5,9)],[]⟩ 146 hQ)
  | contradiction
theorem spec_l08More.j2_s {k:Nat} {x1:List S145} {x5:List S145} {x6:Int} {x8:List S145} {x778000:ByteArray} {x778001:Int} {x778002:Int} {x778003:Int} {r:_} (h:spec_l08More.j2 k x1 x5 x6 x8 x778000 x778001 x778002 x778003 = some r):∃ m,k = m + 1∧spec_l08More.j2 (m + 1) x1 x5 x6 x8 x778000 x778001 x778002 x778003 = some r:=by
 cases k with
 | zero => simp [spec_l08More.j2] at h
 | succ m => exact ⟨m,rfl,h⟩
theorem spec_l08More.j2_i {k:Nat} {x1:List S145} {x5:List S145} {x6:Int} {x8:List S145} {x778000:ByteArray} {x778001:Int} {x778002:Int} {x778003:Int} {r:_}:(spec_l08More.j2 k x1 x5 x6 x8 x778000 x778001 x778002 x778003 = some r) = (∃ m,k = m + 1∧spec_l08More.j2 (m + 1) x1 x5 x6 x8 x778000 x778001 x778002 x778003 = some r):=propext ⟨spec_l08More.j2_s,fun ⟨m,h,h2⟩ => by rw [h];exact h2⟩
theorem spec_l08More.con (E:En) (hE:E = E0) {k l0 l1 r} (H:spec_l08More.f k l0 l1 = some (r)) :
  Cn 153 [.c (.sl [.str,.int .i64,.int .i64,.int .i64] (E.e145 l0)),.c (.sl [.str,.int .i64,.int .i64,.int .i64] (E.e145 l1))] [] (.own 0) [.row false 145 [.str,.int .i64,.int .i64,.int .i64] (E.e145 r)] []:=by
 refine co_ Tryz.func153 tabOk [20004] fun F hF Q hQ => ?_
 simp only [spec_l08More.f] at H
 (conv => cbv)
 repeat' first
  | (rw [spec_l08More.j2_i] at H;obtain ⟨m,hm,H⟩:=H;simp only [spec_l08More.j2] at H;(try simp only [decide_eq_true_eq,Bool.false_eq_true,if_false,if_true] at H))
  | replace H:=s_ H
  | (exfalso;with_reducible assumption)
  | (rw [itn_iff] at H;obtain ⟨hc,H⟩:=H)
  | (rw [itn2_iff] at H;obtain ⟨hc,H⟩:=H)
  | ((with_reducible refine br2 hF H ?_ ?_) <;> (clear H;intro hb H;(try (conv => cbv))))
  | (refine w_ hF ?_;(try (conv => cbv)))
  | ((with_reducible refine lo_ hF (fun n t => n≤k∧∃ x1 x5 x6,t = At 76 [(1,.c (.sl [.str,.int .i64,.int .i64,.int .i64] (E.e145 x1))),(5,.own 20005),(6,.c (.int .i64 x6))] [(20005,.row false 145 [.str,.int .i64,.int .i64,.int .i64] (E.e145 x5))]∧spec_l08More.l0 n x1 x5 x6 = some (r)) ⟨[1,5,6],[],[(5,145)],[]⟩ fun n0 t ht Q0 hN0 hX0 => ?_);obtain ⟨hl,_,_,_,rfl,H⟩:=ht;rcases n0 with _ | n0;cases H;simp only [spec_l08More.l0] at H;(try (conv => cbv)))
  | ((with_reducible show Q0 _ _);first | exact nx_ hN0 | (refine xt_ hX0 ?_;(try (conv => cbv))))
  | ((with_reducible refine lo_ hF (fun n t => n≤n0∧∃ x1 x5 x6 x8 x9 v0 v1 v2 v3,t = At 76 [(1,.c (.sl [.str,.int .i64,.int .i64,.int .i64] (E.e145 x1))),(5,.own 20005),(6,.c (.int .i64 x6)),(7,.ptr 7 0),(8,.own 20008),(9,.c (.int .i64 x9))] [(7,.box [.c (.str v0),.c (.int .i64 v1),.c (.int .i64 v2),.c (.int .i64 v3)]),(20005,.row false 145 [.str,.int .i64,.int .i64,.int .i64] (E.e145 x5)),(20008,.row false 145 [.str,.int .i64,.int .i64,.int .i64] (E.e145 x8))]∧spec_l08More.l1 n x1 x5 x6 x8 x9 v0 v1 v2 v3 = some (r)) ⟨[1,5,6,7,8,9],[7],[(5,145),(8,145)],[]⟩ fun n1 t ht Q1 hN1 hX1 => ?_);obtain ⟨hl,_,_,_,_,_,_,_,_,_,rfl,H⟩:=ht;rcases n1 with _ | n1;cases H;simp only [spec_l08More.l1] at H;(try (conv => cbv)))
  | ((with_reducible show Q1 _ _);first | exact nx_ hN1 | (refine xt_ hX1 ?_;(try (conv => cbv))))
  | ((with_reducible refine lo_ hF (fun n t => n≤n0∧∃ x1 x5 x6 x8 x10 v0 v1 v2 v3,t = At 76 [(1,.c (.sl [.str,.int .i64,.int .i64,.int .i64] (E.e145 x1))),(5,.own 20005),(6,.c (.int .i64 x6)),(7,.ptr 7 0),(8,.own 20008),(10,.c (.int .i64 x10))] [(7,.box [.c (.str v0),.c (.int .i64 v1),.c (.int .i64 v2),.c (.int .i64 v3)]),(20005,.row false 145 [.str,.int .i64,.int .i64,.int .i64] (E.e145 x5)),(20008,.row false 145 [.str,.int .i64,.int .i64,.int .i64] (E.e145 x8))]∧spec_l08More.l2 n x1 x5 x6 x8 x10 v0 v1 v2 v3 = some (r)) ⟨[1,5,6,7,8,10],[7],[(5,145),(8,145)],[]⟩ fun n2 t ht Q2 hN2 hX2 => ?_);obtain ⟨hl,_,_,_,_,_,_,_,_,_,rfl,H⟩:=ht;rcases n2 with _ | n2;cases H;simp only [spec_l08More.l2] at H;(try (conv => cbv)))
  | ((with_reducible show Q2 _ _);first | exact nx_ hN2 | (refine xt_ hX2 ?_;(try (conv => cbv))))
  | ((with_reducible show Q _ _);exact en_ ⟨[4],[],[(4,145)],[]⟩ 76 hQ)
  | contradiction
theorem spec_DirOk.con (E:En) (hE:E = E0) {k l0 r} (H:spec_DirOk.f k l0 = some (r)) :
  Cn 96 [.c (.sl [.str,.int .i64,.int .i64,.int .i64] (E.e145 l0))] [] (.c (.bool r)) [] []:=by
 refine co_ Tryz.func96 tabOk [] fun F hF Q hQ => ?_
 simp only [spec_DirOk.f] at H
 (conv => cbv)
 repeat' first
  | replace H:=s_ H
  | (exfalso;with_reducible assumption)
  | (rw [itn_iff] at H;obtain ⟨hc,H⟩:=H)
  | (rw [itn2_iff] at H;obtain ⟨hc,H⟩:=H)
  | ((with_reducible refine br2 hF H ?_ ?_) <;> (clear H;intro hb H;(try (conv => cbv))))
  | (refine w_ hF ?_;(try (conv => cbv)))
  | ((with_reducible refine k1_ 131 H ?_);clear H;intro _ hy H;refine ca_ hF (spec_l01In.con E hE hy) ?_;(try (conv => cbv)))
  | ((with_reducible refine k1_ 177 H ?_);clear H;intro _ hy H;refine ca_ hF (spec_l05Key.con E hE hy) ?_;(try (conv => cbv)))
  | ((with_reducible refine lo_ hF (fun n t => n≤k∧∃ x0 x3,t = At 55 [(0,.c (.sl [.str,.int .i64,.int .i64,.int .i64] (E.e145 x0))),(3,.c (.int .i64 x3))] []∧spec_DirOk.l0 n x0 x3 = some (r)) ⟨[0,3],[],[],[]⟩ fun n0 t ht Q0 hN0 hX0 => ?_);obtain ⟨hl,_,_,rfl,H⟩:=ht;rcases n0 with _ | n0;cases H;simp only [spec_DirOk.l0] at H;(try (conv => cbv)))
  | ((with_reducible show Q0 _ _);first | exact nx_ hN0 | (refine xt_ hX0 ?_;(try (conv => cbv))))
  | ((with_reducible show Q _ _);exact en_ ⟨[2],[],[],[]⟩ 55 hQ)
  | contradiction
end Go.Ev
