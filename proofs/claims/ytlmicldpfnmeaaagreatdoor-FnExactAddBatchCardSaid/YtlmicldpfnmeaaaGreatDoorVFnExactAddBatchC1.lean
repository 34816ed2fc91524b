/- Contracts of the Go functions that this law reaches: what each call returns, by its plain function. No conditions but those that each statement names. By this repo's programs; comments are taken out. -/
import Derived.Test.YtlmicldpfnmeaaaGreatDoorVFnExactAddBatchD
import Derived.Test.YtlmicldpfnmeaaaGreatDoorVFnExactAddBatchC0
set_option linter.all false
namespace Go.Ev
open Go.RowKit Go.Proofs Go.Proofs.YtlmicldpfnmeaaaGreatDoorW.PrintWords Go.Proofs.YtlmicldpfnmeaaaGreatDoorW.PrintLast Go.Proofs.YtlmicldpfnmeaaaGreatDoorW.PrintMore
set_option maxRecDepth 100000
set_option maxHeartbeats 4000000
theorem laws_toBatch.con (E:En) (hE:E = E0) {k a0_0 l0_1 r1 r2} (H:laws_toBatch.f k a0_0 l0_1 = some (r1,r2)) :
  Cn 49 [.agg [.c (.int .i64 a0_0),.c (.sl [.str,.str,.bool] (E.e225 l0_1))]] [] (.agg [.c (.int .i64 r1),.own 0]) [.row false 162 [.str,.str,.bool] (E.e162 r2)] []:=by
 refine co_ Tryz.func49 tabOk [400041] fun F hF Q hQ => ?_
 simp only [laws_toBatch.f] at H
 (conv => cbv)
 repeat' first
  | replace H:=s_ H
  | (exfalso;with_reducible assumption)
  | (rw [itn_iff] at H;obtain ⟨hc,H⟩:=H)
  | (rw [itn2_iff] at H;obtain ⟨hc,H⟩:=H)
  | ((with_reducible refine br2 hF H ?_ ?_) <;> (clear H;intro hb H;(try (conv => cbv))))
  | (refine w_ hF ?_;(try (conv => cbv)))
  | ((with_reducible refine k1_ 121 H ?_);clear H;intro _ hy H;refine ca_ hF (laws_toChangeS.con E hE hy) ?_;(try (conv => cbv)))
  | ((with_reducible show Q _ _);exact en_ ⟨[2],[2],[],[(2,1,162)]⟩ 12 hQ)
  | contradiction
theorem spec_l01In.con (E:En) (hE:E = E0) {a0 a1 a2 r} (H:spec_l01In.f a0 a1 a2 = some (r)) :
  Cn 131 [.c (.int .i64 a0),.c (.int .i64 a1),.c (.int .i64 a2)] [] (.c (.bool r)) [] []:=by
 refine co_ Tryz.func131 tabOk [] fun F hF Q hQ => ?_
 simp only [spec_l01In.f] at H
 (conv => cbv)
 repeat' first
  | replace H:=s_ H
  | (exfalso;with_reducible assumption)
  | (rw [itn_iff] at H;obtain ⟨hc,H⟩:=H)
  | (rw [itn2_iff] at H;obtain ⟨hc,H⟩:=H)
  | ((with_reducible refine br2 hF H ?_ ?_) <;> (clear H;intro hb H;(try (conv => cbv))))
  | (refine w_ hF ?_;(try (conv => cbv)))
  | ((with_reducible show Q _ _);exact en_ ⟨[6],[],[],[]⟩ 15 hQ)
  | contradiction
theorem spec_l05Key.con (E:En) (hE:E = E0) {a0 r} (H:spec_l05Key.f a0 = some (r)) :
  Cn 177 [.c (.str a0)] [] (.c (.bool r)) [] []:=by
 refine co_ Tryz.func177 tabOk [] fun F hF Q hQ => ?_
 simp only [spec_l05Key.f] at H
 (conv => cbv)
 repeat' first
  | replace H:=s_ H
  | (exfalso;with_reducible assumption)
  | (rw [itn_iff] at H;obtain ⟨hc,H⟩:=H)
  | (rw [itn2_iff] at H;obtain ⟨hc,H⟩:=H)
  | ((with_reducible refine br2 hF H ?_ ?_) <;> (clear H;intro hb H;(try (conv => cbv))))
  | (refine w_ hF ?_;(try (conv => cbv)))
  | ((with_reducible refine k1_ 131 H ?_);clear H;intro _ hy H;refine ca_ hF (spec_l01In.con E hE hy) ?_;(try (conv => cbv)))
  | ((with_reducible show Q _ _);exact en_ ⟨[2],[],[],[]⟩ 6 hQ)
  | contradiction
theorem spec_BatchOk.j0_s {k:Nat} {x14:Bool} {x632000:Int} {x632001:List S162} {r:_} (h:spec_BatchOk.j0 k x14 x632000 x632001 = some r):∃ m,k = m + 1∧spec_BatchOk.j0 (m + 1) x14 x632000 x632001 = some r:=by
 cases k with
 | zero => simp [spec_BatchOk.j0] at h
 | succ m => exact ⟨m,rfl,h⟩
theorem spec_BatchOk.j0_i {k:Nat} {x14:Bool} {x632000:Int} {x632001:List S162} {r:_}:(spec_BatchOk.j0 k x14 x632000 x632001 = some r) = (∃ m,k = m + 1∧spec_BatchOk.j0 (m + 1) x14 x632000 x632001 = some r):=propext ⟨spec_BatchOk.j0_s,fun ⟨m,h,h2⟩ => by rw [h];exact h2⟩
theorem spec_BatchOk.con (E:En) (hE:E = E0) {k a0_0 l0_1 r} (H:spec_BatchOk.f k a0_0 l0_1 = some (r)) :
  Cn 116 [.agg [.c (.int .i64 a0_0),.c (.sl [.str,.str,.bool] (E.e162 l0_1))]] [] (.c (.bool r)) [] []:=by
 refine co_ Tryz.func116 tabOk [] fun F hF Q hQ => ?_
 simp only [spec_BatchOk.f] at H
 (conv => cbv)
 repeat' first
  | (rw [spec_BatchOk.j0_i] at H;obtain ⟨m,hm,H⟩:=H;simp only [spec_BatchOk.j0] at H;(try simp only [decide_eq_true_eq,Bool.false_eq_true,if_false,if_true] at H))
  | replace H:=s_ H
  | (exfalso;with_reducible assumption)
  | (rw [itn_iff] at H;obtain ⟨hc,H⟩:=H)
  | (rw [itn2_iff] at H;obtain ⟨hc,H⟩:=H)
  | ((with_reducible refine br2 hF H ?_ ?_) <;> (clear H;intro hb H;(try (conv => cbv))))
  | (refine w_ hF ?_;(try (conv => cbv)))
  | ((with_reducible refine k1_ 131 H ?_);clear H;intro _ hy H;refine ca_ hF (spec_l01In.con E hE hy) ?_;(try (conv => cbv)))
  | ((with_reducible refine k1_ 177 H ?_);clear H;intro _ hy H;refine ca_ hF (spec_l05Key.con E hE hy) ?_;(try (conv => cbv)))
  | ((with_reducible refine lo_ hF (fun n t => n≤k∧∃ x3 v0 v1,t = At 62 [(1,.ptr 1 0),(3,.c (.int .i64 x3))] [(1,.box [.c (.int .i64 v0),.c (.sl [.str,.str,.bool] (E.e162 v1))])]∧spec_BatchOk.l0 n x3 v0 v1 = some (r)) ⟨[1,3],[1],[],[]⟩ fun n0 t ht Q0 hN0 hX0 => ?_);obtain ⟨hl,_,_,_,rfl,H⟩:=ht;rcases n0 with _ | n0;cases H;simp only [spec_BatchOk.l0] at H;(try (conv => cbv)))
  | ((with_reducible show Q0 _ _);first | exact nx_ hN0 | (refine xt_ hX0 ?_;(try (conv => cbv))))
  | ((with_reducible show Q _ _);exact en_ ⟨[2],[],[],[]⟩ 62 hQ)
  | contradiction
theorem spec_l01Var.con (E:En) (hE:E = E0) {k a0 r} (H:spec_l01Var.f k a0 = some (r)) :
  Cn 136 [.c (.int .i64 a0)] [] (.c (.str r)) [] []:=by
 refine co_ Tryz.func136 tabOk [] fun F hF Q hQ => ?_
 simp only [spec_l01Var.f] at H
 (conv => cbv)
 repeat' first
  | replace H:=s_ H
  | (exfalso;with_reducible assumption)
  | (rw [itn_iff] at H;obtain ⟨hc,H⟩:=H)
  | (rw [itn2_iff] at H;obtain ⟨hc,H⟩:=H)
  | ((with_reducible refine br2 hF H ?_ ?_) <;> (clear H;intro hb H;(try (conv => cbv))))
  | (refine w_ hF ?_;(try (conv => cbv)))
  | ((with_reducible refine lo_ hF (fun n t => n≤k∧∃ x0 x3,t = At 22 [(0,.c (.int .i64 x0)),(3,.own 20003)] [(20003,.row false 5 [.int .u8] (E.eI .u8 x3))]∧spec_l01Var.l0 n x0 x3 = some (r)) ⟨[0,3],[],[(3,5)],[]⟩ fun n0 t ht Q0 hN0 hX0 => ?_);obtain ⟨hl,_,_,rfl,H⟩:=ht;rcases n0 with _ | n0;cases H;simp only [spec_l01Var.l0] at H;(try (conv => cbv)))
  | ((with_reducible show Q0 _ _);first | exact nx_ hN0 | (refine xt_ hX0 ?_;(try (conv => cbv))))
  | ((with_reducible show Q _ _);exact en_ ⟨[2],[],[],[]⟩ 22 hQ)
  | contradiction
theorem spec_l05Short.con (E:En) (hE:E = E0) {k a0 r} (H:spec_l05Short.f k a0 = some (r)) :
  Cn 185 [.c (.str a0)] [] (.c (.str r)) [] []:=by
 refine co_ Tryz.func185 tabOk [] fun F hF Q hQ => ?_
 simp only [spec_l05Short.f] at H
 (conv => cbv)
 repeat' first
  | replace H:=s_ H
  | (exfalso;with_reducible assumption)
  | (rw [itn_iff] at H;obtain ⟨hc,H⟩:=H)
  | (rw [itn2_iff] at H;obtain ⟨hc,H⟩:=H)
  | ((with_reducible refine br2 hF H ?_ ?_) <;> (clear H;intro hb H;(try (conv => cbv))))
  | (refine w_ hF ?_;(try (conv => cbv)))
  | ((with_reducible refine k1_ 136 H ?_);clear H;intro _ hy H;refine ca_ hF (spec_l01Var.con E hE hy) ?_;(try (conv => cbv)))
  | ((with_reducible show Q _ _);exact en_ ⟨[2],[],[],[]⟩ 8 hQ)
  | contradiction
theorem spec_BatchText.con (E:En) (hE:E = E0) {k a0_0 l0_1 r1 r2} (H:spec_BatchText.f k a0_0 l0_1 = some (r1,r2)) :
  Cn 104 [.agg [.c (.int .i64 a0_0),.c (.sl [.str,.str,.bool] (E.e162 l0_1))]] [] (.tup [.c (.str r1),.c (.bool r2)]) [] []:=by
 refine co_ Tryz.func104 tabOk [] fun F hF Q hQ => ?_
 simp only [spec_BatchText.f] at H
 (conv => cbv)
 repeat' first
  | replace H:=s_ H
  | (exfalso;with_reducible assumption)
  | (rw [itn_iff] at H;obtain ⟨hc,H⟩:=H)
  | (rw [itn2_iff] at H;obtain ⟨hc,H⟩:=H)
  | ((with_reducible refine br2 hF H ?_ ?_) <;> (clear H;intro hb H;(try (conv => cbv))))
  | (refine w_ hF ?_;(try (conv => cbv)))
  | ((with_reducible refine k1_ 116 H ?_);clear H;intro _ hy H;refine ca_ hF (spec_BatchOk.con E hE hy) ?_;(try (conv => cbv)))
  | ((with_reducible refine k1_ 136 H ?_);clear H;intro _ hy H;refine ca_ hF (spec_l01Var.con E hE hy) ?_;(try (conv => cbv)))
  | ((with_reducible refine k1_ 185 H ?_);clear H;intro _ hy H;refine ca_ hF (spec_l05Short.con E hE hy) ?_;(try (conv => cbv)))
  | ((with_reducible refine lo_ hF (fun n t => n≤k∧∃ x4 x5 v0 v1,t = At 51 [(1,.ptr 1 0),(4,.c (.str x4)),(5,.c (.int .i64 x5))] [(1,.box [.c (.int .i64 v0),.c (.sl [.str,.str,.bool] (E.e162 v1))])]∧spec_BatchText.l0 n x4 x5 v0 v1 = some (r1,r2)) ⟨[1,4,5],[1],[],[]⟩ fun n0 t ht Q0 hN0 hX0 => ?_);obtain ⟨hl,_,_,_,_,rfl,H⟩:=ht;rcases n0 with _ | n0;cases H;simp only [spec_BatchText.l0] at H;(try (conv => cbv)))
  | ((with_reducible show Q0 _ _);first | exact nx_ hN0 | (refine xt_ hX0 ?_;(try (conv => cbv))))
  | ((with_reducible show Q _ _);exact en_ ⟨[2,3],[],[],[]⟩ 51 hQ)
  | contradiction
theorem spec_DiskOk.con (E:En) (hE:E = E0) {k l0_0 r} (H:spec_DiskOk.f k l0_0 = some (r)) :
  Cn 95 [.agg [.c (.sl [.str,.str] (E.e122 l0_0))]] [] (.c (.bool r)) [] []:=by
 refine co_ Tryz.func95 tabOk [] fun F hF Q hQ => ?_
 simp only [spec_DiskOk.f] at H
 (conv => cbv)
 repeat' first
  | replace H:=s_ H
  | (exfalso;with_reducible assumption)
  | (rw [itn_iff] at H;obtain ⟨hc,H⟩:=H)
  | (rw [itn2_iff] at H;obtain ⟨hc,H⟩:=H)
  | ((with_reducible refine br2 hF H ?_ ?_) <;> (clear H;intro hb H;(try (conv => cbv))))
  | (refine w_ hF ?_;(try (conv => cbv)))
  | ((with_reducible refine k1_ 131 H ?_);clear H;intro _ hy H;refine ca_ hF (spec_l01In.con E hE hy) ?_;(try (conv => cbv)))
  | ((with_reducible refine lo_ hF (fun n t => n≤k∧∃ x3 v0,t = At 54 [(1,.ptr 1 0),(3,.c (.int .i64 x3))] [(1,.box [.c (.sl [.str,.str] (E.e122 v0))])]∧spec_DiskOk.l0 n x3 v0 = some (r)) ⟨[1,3],[1],[],[]⟩ fun n0 t ht Q0 hN0 hX0 => ?_);obtain ⟨hl,_,_,rfl,H⟩:=ht;rcases n0 with _ | n0;cases H;simp only [spec_DiskOk.l0] at H;(try (conv => cbv)))
  | ((with_reducible show Q0 _ _);first | exact nx_ hN0 | (refine xt_ hX0 ?_;(try (conv => cbv))))
  | ((with_reducible show Q _ _);exact en_ ⟨[2],[],[],[]⟩ 54 hQ)
  | contradiction
theorem spec_l03At.con (E:En) (hE:E = E0) {k l0_0 a1 r} (H:spec_l03At.f k l0_0 a1 = some (r)) :
  Cn 75 [.agg [.c (.sl [.str,.str] (E.e122 l0_0))],.c (.str a1)] [] (.c (.int .i64 r)) [] []:=by
 refine co_ Tryz.func75 tabOk [] fun F hF Q hQ => ?_
 simp only [spec_l03At.f] at H
 (conv => cbv)
 repeat' first
  | replace H:=s_ H
  | (exfalso;with_reducible assumption)
  | (rw [itn_iff] at H;obtain ⟨hc,H⟩:=H)
  | (rw [itn2_iff] at H;obtain ⟨hc,H⟩:=H)
  | ((with_reducible refine br2 hF H ?_ ?_) <;> (clear H;intro hb H;(try (conv => cbv))))
  | (refine w_ hF ?_;(try (conv => cbv)))
  | ((with_reducible refine lo_ hF (fun n t => n≤k∧∃ x1 x5 v0,t = At 22 [(1,.c (.str x1)),(2,.ptr 2 0),(5,.c (.int .i64 x5))] [(2,.box [.c (.sl [.str,.str] (E.e122 v0))])]∧spec_l03At.l0 n x1 x5 v0 = some (r)) ⟨[1,2,5],[2],[],[]⟩ fun n0 t ht Q0 hN0 hX0 => ?_);obtain ⟨hl,_,_,_,rfl,H⟩:=ht;rcases n0 with _ | n0;cases H;simp only [spec_l03At.l0] at H;(try (conv => cbv)))
  | ((with_reducible show Q0 _ _);first | exact nx_ hN0 | (refine xt_ hX0 ?_;(try (conv => cbv))))
  | ((with_reducible show Q _ _);exact en_ ⟨[4],[],[],[]⟩ 22 hQ)
  | contradiction
theorem spec_FileAt.con (E:En) (hE:E = E0) {k l0_0 a1 r1 r2} (H:spec_FileAt.f k l0_0 a1 = some (r1,r2)) :
  Cn 150 [.agg [.c (.sl [.str,.str] (E.e122 l0_0))],.c (.str a1)] [] (.tup [.c (.str r1),.c (.bool r2)]) [] []:=by
 refine co_ Tryz.func150 tabOk [] fun F hF Q hQ => ?_
 simp only [spec_FileAt.f] at H
 (conv => cbv)
 repeat' first
  | replace H:=s_ H
  | (exfalso;with_reducible assumption)
  | (rw [itn_iff] at H;obtain ⟨hc,H⟩:=H)
  | (rw [itn2_iff] at H;obtain ⟨hc,H⟩:=H)
  | ((with_reducible refine br2 hF H ?_ ?_) <;> (clear H;intro hb H;(try (conv => cbv))))
  | (refine w_ hF ?_;(try (conv => cbv)))
  | ((with_reducible refine k1_ 75 H ?_);clear H;intro _ hy H;refine ca_ hF (spec_l03At.con E hE hy) ?_;(try (conv => cbv)))
  | ((with_reducible refine k1_ 95 H ?_);clear H;intro _ hy H;refine ca_ hF (spec_DiskOk.con E hE hy) ?_;(try (conv => cbv)))
  | ((with_reducible show Q _ _);exact en_ ⟨[4,5],[],[],[]⟩ 23 hQ)
  | contradiction
theorem spec_SumMore.con (E:En) (hE:E = E0) {k a0 a1 r} (H:spec_SumMore.f k a0 a1 = some (r)) :
  Cn 198 [.c (.int .u32 a0),.c (.str a1)] [] (.c (.int .u32 r)) [] []:=by
 refine co_ Tryz.func198 tabOk [] fun F hF Q hQ => ?_
 simp only [spec_SumMore.f] at H
 (conv => cbv)
 repeat' first
  | replace H:=s_ H
  | (exfalso;with_reducible assumption)
  | (rw [itn_iff] at H;obtain ⟨hc,H⟩:=H)
  | (rw [itn2_iff] at H;obtain ⟨hc,H⟩:=H)
  | ((with_reducible refine br2 hF H ?_ ?_) <;> (clear H;intro hb H;(try (conv => cbv))))
  | (refine w_ hF ?_;(try (conv => cbv)))
  | ((with_reducible refine lo_ hF (fun n t => n≤k∧∃ x0 x1 x5,t = At 33 [(0,.c (.int .u32 x0)),(1,.c (.str x1)),(5,.c (.int .i64 x5))] []∧spec_SumMore.l0 n x0 x1 x5 = some (r)) ⟨[0,1,5],[],[],[]⟩ fun n0 t ht Q0 hN0 hX0 => ?_);obtain ⟨hl,_,_,_,rfl,H⟩:=ht;rcases n0 with _ | n0;cases H;simp only [spec_SumMore.l0] at H;(try (conv => cbv)))
  | ((with_reducible show Q0 _ _);first | exact nx_ hN0 | (refine xt_ hX0 ?_;(try (conv => cbv))))
  | ((with_reducible refine lo_ hF (fun n t => n≤n0∧∃ x0 x1 x5 x6,t = At 33 [(0,.c (.int .u32 x0)),(1,.c (.str x1)),(5,.c (.int .i64 x5)),(6,.c (.int .i64 x6))] []∧spec_SumMore.l1 n x0 x1 x5 x6 = some (r)) ⟨[0,1,5,6],[],[],[]⟩ fun n1 t ht Q1 hN1 hX1 => ?_);obtain ⟨hl,_,_,_,_,rfl,H⟩:=ht;rcases n1 with _ | n1;cases H;simp only [spec_SumMore.l1] at H;(try (conv => cbv)))
  | ((with_reducible show Q1 _ _);first | exact nx_ hN1 | (refine xt_ hX1 ?_;(try (conv => cbv))))
  | ((with_reducible show Q _ _);exact en_ ⟨[4],[],[],[]⟩ 33 hQ)
  | contradiction
theorem spec_SumOf.con (E:En) (hE:E = E0) {k a0 r} (H:spec_SumOf.f k a0 = some (r)) :
  Cn 138 [.c (.str a0)] [] (.c (.int .u32 r)) [] []:=by
 refine co_ Tryz.func138 tabOk [] fun F hF Q hQ => ?_
 simp only [spec_SumOf.f] at H
 (conv => cbv)
 repeat' first
  | replace H:=s_ H
  | (exfalso;with_reducible assumption)
  | (rw [itn_iff] at H;obtain ⟨hc,H⟩:=H)
  | (rw [itn2_iff] at H;obtain ⟨hc,H⟩:=H)
  | ((with_reducible refine br2 hF H ?_ ?_) <;> (clear H;intro hb H;(try (conv => cbv))))
  | (refine w_ hF ?_;(try (conv => cbv)))
  | ((with_reducible refine k1_ 198 H ?_);clear H;intro _ hy H;refine ca_ hF (spec_SumMore.con E hE hy) ?_;(try (conv => cbv)))
  | ((with_reducible show Q _ _);exact en_ ⟨[2],[],[],[]⟩ 5 hQ)
  | contradiction
theorem spec_l02Four.con (E:En) (hE:E = E0) {a0 r} (H:spec_l02Four.f a0 = some (r)) :
  Cn 137 [.c (.int .u32 a0)] [] (.c (.str r)) [] []:=by
 refine co_ Tryz.func137 tabOk [] fun F hF Q hQ => ?_
 simp only [spec_l02Four.f] at H
 (conv => cbv)
 repeat' first
  | replace H:=s_ H
  | (exfalso;with_reducible assumption)
  | (rw [itn_iff] at H;obtain ⟨hc,H⟩:=H)
  | (rw [itn2_iff] at H;obtain ⟨hc,H⟩:=H)
  | ((with_reducible refine br2 hF H ?_ ?_) <;> (clear H;intro hb H;(try (conv => cbv))))
  | (refine w_ hF ?_;(try (conv => cbv)))
  | ((with_reducible show Q _ _);exact en_ ⟨[2],[],[],[]⟩ 16 hQ)
  | contradiction
theorem spec_Unsealed.con (E:En) (hE:E = E0) {k a0 r1 r2} (H:spec_Unsealed.f k a0 = some (r1,r2)) :
  Cn 207 [.c (.str a0)] [] (.tup [.c (.str r1),.c (.bool r2)]) [] []:=by
 refine co_ Tryz.func207 tabOk [] fun F hF Q hQ => ?_
 simp only [spec_Unsealed.f] at H
 (conv => cbv)
 repeat' first
  | replace H:=s_ H
  | (exfalso;with_reducible assumption)
  | (rw [itn_iff] at H;obtain ⟨hc,H⟩:=H)
  | (rw [itn2_iff] at H;obtain ⟨hc,H⟩:=H)
  | ((with_reducible refine br2 hF H ?_ ?_) <;> (clear H;intro hb H;(try (conv => cbv))))
  | (refine w_ hF ?_;(try (conv => cbv)))
  | ((with_reducible refine k1_ 137 H ?_);clear H;intro _ hy H;refine ca_ hF (spec_l02Four.con E hE hy) ?_;(try (conv => cbv)))
  | ((with_reducible refine k1_ 138 H ?_);clear H;intro _ hy H;refine ca_ hF (spec_SumOf.con E hE hy) ?_;(try (conv => cbv)))
  | ((with_reducible show Q _ _);exact en_ ⟨[2,3],[],[],[]⟩ 28 hQ)
  | contradiction
theorem spec_ReadVar.j1_s {k:Nat} {x0:ByteArray} {x1:Int} {x7:Int} {x8:Int} {x9:Int} {x25:Bool} {r:_} (h:spec_ReadVar.j1 k x0 x1 x7 x8 x9 x25 = some r):∃ m,k = m + 1∧spec_ReadVar.j1 (m + 1) x0 x1 x7 x8 x9 x25 = some r:=by
 cases k with
 | zero => simp [spec_ReadVar.j1] at h
 | succ m => exact ⟨m,rfl,h⟩
theorem spec_ReadVar.j1_i {k:Nat} {x0:ByteArray} {x1:Int} {x7:Int} {x8:Int} {x9:Int} {x25:Bool} {r:_}:(spec_ReadVar.j1 k x0 x1 x7 x8 x9 x25 = some r) = (∃ m,k = m + 1∧spec_ReadVar.j1 (m + 1) x0 x1 x7 x8 x9 x25 = some r):=propext ⟨spec_ReadVar.j1_s,fun ⟨m,h,h2⟩ => by rw [h];exact h2⟩
theorem spec_ReadVar.con (E:En) (hE:E = E0) {k a0 a1 r1 r2 r3} (H:spec_ReadVar.f k a0 a1 = some (r1,r2,r3)) :
  Cn 130 [.c (.str a0),.c (.int .i64 a1)] [] (.tup [.c (.int .i64 r1),.c (.int .i64 r2),.c (.bool r3)]) [] []:=by
 refine co_ Tryz.func130 tabOk [] fun F hF Q hQ => ?_
 simp only [spec_ReadVar.f] at H
 (conv => cbv)
 repeat' first
  | (rw [spec_ReadVar.j1_i] at H;obtain ⟨m,hm,H⟩:=H;simp only [spec_ReadVar.j1] at H;(try simp only [decide_eq_true_eq,Bool.false_eq_true,if_false,if_true] at H))
  | replace H:=s_ H
  | (exfalso;with_reducible assumption)
  | (rw [itn_iff] at H;obtain ⟨hc,H⟩:=H)
  | (rw [itn2_iff] at H;obtain ⟨hc,H⟩:=H)
  | ((with_reducible refine br2 hF H ?_ ?_) <;> (clear H;intro hb H;(try (conv => cbv))))
  | (refine w_ hF ?_;(try (conv => cbv)))
  | ((with_reducible refine k1_ 131 H ?_);clear H;intro _ hy H;refine ca_ hF (spec_l01In.con E hE hy) ?_;(try (conv => cbv)))
  | ((with_reducible refine k1_ 136 H ?_);clear H;intro _ hy H;refine ca_ hF (spec_l01Var.con E hE hy) ?_;(try (conv => cbv)))
  | ((with_reducible refine lo_ hF (fun n t => n≤k∧∃ x0 x1 x7 x8 x9,t = At 58 [(0,.c (.str x0)),(1,.c (.int .i64 x1)),(7,.c (.int .i64 x7)),(8,.c (.int .i64 x8)),(9,.c (.int .i64 x9))] []∧spec_ReadVar.l0 n x0 x1 x7 x8 x9 = some (r1,r2,r3)) ⟨[0,1,7,8,9],[],[],[]⟩ fun n0 t ht Q0 hN0 hX0 => ?_);obtain ⟨hl,_,_,_,_,_,rfl,H⟩:=ht;rcases n0 with _ | n0;cases H;simp only [spec_ReadVar.l0] at H;(try (conv => cbv)))
  | ((with_reducible show Q0 _ _);first | exact nx_ hN0 | (refine xt_ hX0 ?_;(try (conv => cbv))))
  | ((with_reducible show Q _ _);exact en_ ⟨[4,5,6],[],[],[]⟩ 58 hQ)
  | contradiction
theorem spec_l05Var.con (E:En) (hE:E = E0) {k s0_0 s0_1 s0_2 r1 r2 r3 r4} (H:spec_l05Var.f k s0_0 s0_1 s0_2 = some (r1,r2,r3,r4)) :
  Cn 133 [.ptr 10000 0] [.box [.c (.str s0_0),.c (.int .i64 s0_1),.c (.bool s0_2)]] (.c (.int .i64 r1)) [] [.box [.c (.str r2),.c (.int .i64 r3),.c (.bool r4)]]:=by
 refine co_ Tryz.func133 tabOk [] fun F hF Q hQ => ?_
 simp only [spec_l05Var.f] at H
 (conv => cbv)
 repeat' first
  | replace H:=s_ H
  | (exfalso;with_reducible assumption)
  | (rw [itn_iff] at H;obtain ⟨hc,H⟩:=H)
  | (rw [itn2_iff] at H;obtain ⟨hc,H⟩:=H)
  | ((with_reducible refine br2 hF H ?_ ?_) <;> (clear H;intro hb H;(try (conv => cbv))))
  | (refine w_ hF ?_;(try (conv => cbv)))
  | ((with_reducible refine k3_ 130 H ?_);clear H;intro _ _ _ hy H;refine ca_ hF (spec_ReadVar.con E hE hy) ?_;(try (conv => cbv)))
  | ((with_reducible show Q _ _);exact en_ ⟨[2],[],[],[]⟩ 35 hQ)
  | contradiction
theorem spec_l07Rise.con (E:En) (hE:E = E0) {k l0 a1 a2 r} (H:spec_l07Rise.f k l0 a1 a2 = some (r)) :
  Cn 219 [.c (.sl [.int .i64] (E.eI .i64 l0)),.c (.int .i64 a1),.c (.int .i64 a2)] [] (.c (.bool r)) [] []:=by
 refine co_ Tryz.func219 tabOk [] fun F hF Q hQ => ?_
 simp only [spec_l07Rise.f] at H
 (conv => cbv)
 repeat' first
  | replace H:=s_ H
  | (exfalso;with_reducible assumption)
  | (rw [itn_iff] at H;obtain ⟨hc,H⟩:=H)
  | (rw [itn2_iff] at H;obtain ⟨hc,H⟩:=H)
  | ((with_reducible refine br2 hF H ?_ ?_) <;> (clear H;intro hb H;(try (conv => cbv))))
  | (refine w_ hF ?_;(try (conv => cbv)))
  | ((with_reducible refine k1_ 131 H ?_);clear H;intro _ hy H;refine ca_ hF (spec_l01In.con E hE hy) ?_;(try (conv => cbv)))
  | ((with_reducible refine lo_ hF (fun n t => n≤k∧∃ x0 x1 x2 x7,t = At 38 [(0,.c (.sl [.int .i64] (E.eI .i64 x0))),(1,.c (.int .i64 x1)),(2,.c (.int .i64 x2)),(7,.c (.int .i64 x7))] []∧spec_l07Rise.l0 n x0 x1 x2 x7 = some (r)) ⟨[0,1,2,7],[],[],[]⟩ fun n0 t ht Q0 hN0 hX0 => ?_);obtain ⟨hl,_,_,_,_,rfl,H⟩:=ht;rcases n0 with _ | n0;cases H;simp only [spec_l07Rise.l0] at H;(try (conv => cbv)))
  | ((with_reducible show Q0 _ _);first | exact nx_ hN0 | (refine xt_ hX0 ?_;(try (conv => cbv))))
  | ((with_reducible show Q _ _);exact en_ ⟨[6],[],[],[]⟩ 38 hQ)
  | contradiction
theorem spec_ConfOk.con (E:En) (hE:E = E0) {k l0 r} (H:spec_ConfOk.f k l0 = some (r)) :
  Cn 220 [.c (.sl [.int .i64] (E.eI .i64 l0))] [] (.c (.bool r)) [] []:=by
 refine co_ Tryz.func220 tabOk [] fun F hF Q hQ => ?_
 simp only [spec_ConfOk.f] at H
 (conv => cbv)
 repeat' first
  | replace H:=s_ H
  | (exfalso;with_reducible assumption)
  | (rw [itn_iff] at H;obtain ⟨hc,H⟩:=H)
  | (rw [itn2_iff] at H;obtain ⟨hc,H⟩:=H)
  | ((with_reducible refine br2 hF H ?_ ?_) <;> (clear H;intro hb H;(try (conv => cbv))))
  | (refine w_ hF ?_;(try (conv => cbv)))
  | ((with_reducible refine k1_ 131 H ?_);clear H;intro _ hy H;refine ca_ hF (spec_l01In.con E hE hy) ?_;(try (conv => cbv)))
  | ((with_reducible refine k1_ 219 H ?_);clear H;intro _ hy H;refine ca_ hF (spec_l07Rise.con E hE hy) ?_;(try (conv => cbv)))
  | ((with_reducible show Q _ _);exact en_ ⟨[2],[],[],[]⟩ 10 hQ)
  | contradiction
theorem spec_ManifestOk.con (E:En) (hE:E = E0) {k l0_0 a0_1 a0_2 a0_3 l0_4 r} (H:spec_ManifestOk.f k l0_0 a0_1 a0_2 a0_3 l0_4 = some (r)) :
  Cn 189 [.agg [.c (.sl [.int .i64] (E.eI .i64 l0_0)),.c (.int .i64 a0_1),.c (.int .i64 a0_2),.c (.int .i64 a0_3),.c (.sl [.int .i64] (E.eI .i64 l0_4))]] [] (.c (.bool r)) [] []:=by
 refine co_ Tryz.func189 tabOk [] fun F hF Q hQ => ?_
 simp only [spec_ManifestOk.f] at H
 (conv => cbv)
 repeat' first
  | replace H:=s_ H
  | (exfalso;with_reducible assumption)
  | (rw [itn_iff] at H;obtain ⟨hc,H⟩:=H)
  | (rw [itn2_iff] at H;obtain ⟨hc,H⟩:=H)
  | ((with_reducible refine br2 hF H ?_ ?_) <;> (clear H;intro hb H;(try (conv => cbv))))
  | (refine w_ hF ?_;(try (conv => cbv)))
  | ((with_reducible refine k1_ 131 H ?_);clear H;intro _ hy H;refine ca_ hF (spec_l01In.con E hE hy) ?_;(try (conv => cbv)))
  | ((with_reducible refine k1_ 219 H ?_);clear H;intro _ hy H;refine ca_ hF (spec_l07Rise.con E hE hy) ?_;(try (conv => cbv)))
  | ((with_reducible refine k1_ 220 H ?_);clear H;intro _ hy H;refine ca_ hF (spec_ConfOk.con E hE hy) ?_;(try (conv => cbv)))
  | ((with_reducible show Q _ _);exact en_ ⟨[2],[],[],[]⟩ 35 hQ)
  | contradiction
end Go.Ev
