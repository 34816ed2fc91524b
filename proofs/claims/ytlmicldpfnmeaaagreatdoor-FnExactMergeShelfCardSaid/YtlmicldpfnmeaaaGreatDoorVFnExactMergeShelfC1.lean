/- Contracts of the Go functions that this law reaches: what each call returns, by its plain function. No conditions but those that each statement names. By this repo's programs; comments are taken out. -/
import Derived.Test.YtlmicldpfnmeaaaGreatDoorVFnExactMergeShelfD
import Derived.Test.YtlmicldpfnmeaaaGreatDoorVFnExactMergeShelfC0
set_option linter.all false
namespace Go.Ev
open Go.RowKit Go.Proofs Go.Proofs.YtlmicldpfnmeaaaGreatDoorW.PrintWords Go.Proofs.YtlmicldpfnmeaaaGreatDoorW.PrintLast Go.Proofs.YtlmicldpfnmeaaaGreatDoorW.PrintMore
set_option maxRecDepth 100000
set_option maxHeartbeats 4000000
theorem spec_SumOf.con (E:En) (hE:E = E0) {k a0 r} (H:spec_SumOf.f k a0 = some (r)) :
  Cn 138 [.c (.str a0)] [] (.c (.int .u32 r)) [] []:=by
 refine co_ Tryz.func138 tabOk [] fun F hF Q hQ => ?_
 simp only [spec_SumOf.f] at H
 (conv => cbv)
 repeat' first
  | replace H:=s_ H
  | (exfalso;with_reducible assumption)
  | (rw [itn_iff] at H;obtain ⟨hc,H⟩:=H)
  | (rw [itn2_iff] at H;obtain ⟨hc,H⟩:=H)
  | ((with_reducible refine br2 hF H ?_ ?_) <;> (clear H;intro hb H;(try (conv => cbv))))
  | (refine w_ hF ?_;(try (conv => cbv)))
  | ((with_reducible refine k1_ 198 H ?_);clear H;intro _ hy H;refine ca_ hF (spec_SumMore.con E hE hy) ?_;(try (conv => cbv)))
  | ((with_reducible show Q _ _);exact en_ ⟨[2],[],[],[]⟩ 5 hQ)
  | contradiction
theorem spec_l02Four.con (E:En) (hE:E = E0) {a0 r} (H:spec_l02Four.f a0 = some (r)) :
  Cn 137 [.c (.int .u32 a0)] [] (.c (.str r)) [] []:=by
 refine co_ Tryz.func137 tabOk [] fun F hF Q hQ => ?_
 simp only [spec_l02Four.f] at H
 (conv => cbv)
 repeat' first
  | replace H:=s_ H
  | (exfalso;with_reducible assumption)
  | (rw [itn_iff] at H;obtain ⟨hc,H⟩:=H)
  | (rw [itn2_iff] at H;obtain ⟨hc,H⟩:=H)
  | ((with_reducible refine br2 hF H ?_ ?_) <;> (clear H;intro hb H;(try (conv => cbv))))
  | (refine w_ hF ?_;(try (conv => cbv)))
  | ((with_reducible show Q _ _);exact en_ ⟨[2],[],[],[]⟩ 16 hQ)
  | contradiction
theorem spec_Unsealed.con (E:En) (hE:E = E0) {k a0 r1 r2} (H:spec_Unsealed.f k a0 = some (r1,r2)) :
  Cn 207 [.c (.str a0)] [] (.tup [.c (.str r1),.c (.bool r2)]) [] []:=by
 refine co_ Tryz.func207 tabOk [] fun F hF Q hQ => ?_
 simp only [spec_Unsealed.f] at H
 (conv => cbv)
 repeat' first
  | replace H:=s_ H
  | (exfalso;with_reducible assumption)
  | (rw [itn_iff] at H;obtain ⟨hc,H⟩:=H)
  | (rw [itn2_iff] at H;obtain ⟨hc,H⟩:=H)
  | ((with_reducible refine br2 hF H ?_ ?_) <;> (clear H;intro hb H;(try (conv => cbv))))
  | (refine w_ hF ?_;(try (conv => cbv)))
  | ((with_reducible refine k1_ 137 H ?_);clear H;intro _ hy H;refine ca_ hF (spec_l02Four.con E hE hy) ?_;(try (conv => cbv)))
  | ((with_reducible refine k1_ 138 H ?_);clear H;intro _ hy H;refine ca_ hF (spec_SumOf.con E hE hy) ?_;(try (conv => cbv)))
  | ((with_reducible show Q _ _);exact en_ ⟨[2,3],[],[],[]⟩ 28 hQ)
  | contradiction
theorem spec_l01Var.con (E:En) (hE:E = E0) {k a0 r} (H:spec_l01Var.f k a0 = some (r)) :
  Cn 136 [.c (.int .i64 a0)] [] (.c (.str r)) [] []:=by
 refine co_ Tryz.func136 tabOk [] fun F hF Q hQ => ?_
 simp only [spec_l01Var.f] at H
 (conv => cbv)
 repeat' first
  | replace H:=s_ H
  | (exfalso;with_reducible assumption)
  | (rw [itn_iff] at H;obtain ⟨hc,H⟩:=H)
  | (rw [itn2_iff] at H;obtain ⟨hc,H⟩:=H)
  | ((with_reducible refine br2 hF H ?_ ?_) <;> (clear H;intro hb H;(try (conv => cbv))))
  | (refine w_ hF ?_;(try (conv => cbv)))
  | ((with_reducible refine lo_ hF (fun n t => n≤k∧∃ x0 x3,t = At 22 [(0,.c (.int .i64 x0)),(3,.own 20003)] [(20003,.row false 5 [.int .u8] (E.eI .u8 x3))]∧spec_l01Var.l0 n x0 x3 = some (r)) ⟨[0,3],[],[(3,5)],[]⟩ fun n0 t ht Q0 hN0 hX0 => ?_);obtain ⟨hl,_,_,rfl,H⟩:=ht;rcases n0 with _ | n0;cases H;simp only [spec_l01Var.l0] at H;(try (conv => cbv)))
  | ((with_reducible show Q0 _ _);first | exact nx_ hN0 | (refine xt_ hX0 ?_;(try (conv => cbv))))
  | ((with_reducible show Q _ _);exact en_ ⟨[2],[],[],[]⟩ 22 hQ)
  | contradiction
theorem spec_ReadVar.j1_s {k:Nat} {x0:ByteArray} {x1:Int} {x7:Int} {x8:Int} {x9:Int} {x25:Bool} {r:_} (h:spec_ReadVar.j1 k x0 x1 x7 x8 x9 x25 = some r):∃ m,k = m + 1∧spec_ReadVar.j1 (m + 1) x0 x1 x7 x8 x9 x25 = some r:=by
 cases k with
 | zero => simp [spec_ReadVar.j1] at h
 | succ m => exact ⟨m,rfl,h⟩
theorem spec_ReadVar.j1_i {k:Nat} {x0:ByteArray} {x1:Int} {x7:Int} {x8:Int} {x9:Int} {x25:Bool} {r:_}:(spec_ReadVar.j1 k x0 x1 x7 x8 x9 x25 = some r) = (∃ m,k = m + 1∧spec_ReadVar.j1 (m + 1) x0 x1 x7 x8 x9 x25 = some r):=propext ⟨spec_ReadVar.j1_s,fun ⟨m,h,h2⟩ => by rw [h];exact h2⟩
theorem spec_ReadVar.con (E:En) (hE:E = E0) {k a0 a1 r1 r2 r3} (H:spec_ReadVar.f k a0 a1 = some (r1,r2,r3)) :
  Cn 130 [.c (.str a0),.c (.int .i64 a1)] [] (.tup [.c (.int .i64 r1),.c (.int .i64 r2),.c (.bool r3)]) [] []:=by
 refine co_ Tryz.func130 tabOk [] fun F hF Q hQ => ?_
 simp only [spec_ReadVar.f] at H
 (conv => cbv)
 repeat' first
  | (rw [spec_ReadVar.j1_i] at H;obtain ⟨m,hm,H⟩:=H;simp only [spec_ReadVar.j1] at H;(try simp only [decide_eq_true_eq,Bool.false_eq_true,if_false,if_true] at H))
  | replace H:=s_ H
  | (exfalso;with_reducible assumption)
  | (rw [itn_iff] at H;obtain ⟨hc,H⟩:=H)
  | (rw [itn2_iff] at H;obtain ⟨hc,H⟩:=H)
  | ((with_reducible refine br2 hF H ?_ ?_) <;> (clear H;intro hb H;(try (conv => cbv))))
  | (refine w_ hF ?_;(try (conv => cbv)))
  | ((with_reducible refine k1_ 131 H ?_);clear H;intro _ hy H;refine ca_ hF (spec_l01In.con E hE hy) ?_;(try (conv => cbv)))
  | ((with_reducible refine k1_ 136 H ?_);clear H;intro _ hy H;refine ca_ hF (spec_l01Var.con E hE hy) ?_;(try (conv => cbv)))
  | ((with_reducible refine lo_ hF (fun n t => n≤k∧∃ x0 x1 x7 x8 x9,t = At 58 [(0,.c (.str x0)),(1,.c (.int .i64 x1)),(7,.c (.int .i64 x7)),(8,.c (.int .i64 x8)),(9,.c (.int .i64 x9))] []∧spec_ReadVar.l0 n x0 x1 x7 x8 x9 = some (r1,r2,r3)) ⟨[0,1,7,8,9],[],[],[]⟩ fun n0 t ht Q0 hN0 hX0 => ?_);obtain ⟨hl,_,_,_,_,_,rfl,H⟩:=ht;rcases n0 with _ | n0;cases H;simp only [spec_ReadVar.l0] at H;(try (conv => cbv)))
  | ((with_reducible show Q0 _ _);first | exact nx_ hN0 | (refine xt_ hX0 ?_;(try (conv => cbv))))
  | ((with_reducible show Q _ _);exact en_ ⟨[4,5,6],[],[],[]⟩ 58 hQ)
  | contradiction
theorem spec_l05Var.con (E:En) (hE:E = E0) {k s0_0 s0_1 s0_2 r1 r2 r3 r4} (H:spec_l05Var.f k s0_0 s0_1 s0_2 = some (r1,r2,r3,r4)) :
  Cn 133 [.ptr 10000 0] [.box [.c (.str s0_0),.c (.int .i64 s0_1),.c (.bool s0_2)]] (.c (.int .i64 r1)) [] [.box [.c (.str r2),.c (.int .i64 r3),.c (.bool r4)]]:=by
 refine co_ Tryz.func133 tabOk [] fun F hF Q hQ => ?_
 simp only [spec_l05Var.f] at H
 (conv => cbv)
 repeat' first
  | replace H:=s_ H
  | (exfalso;with_reducible assumption)
  | (rw [itn_iff] at H;obtain ⟨hc,H⟩:=H)
  | (rw [itn2_iff] at H;obtain ⟨hc,H⟩:=H)
  | ((with_reducible refine br2 hF H ?_ ?_) <;> (clear H;intro hb H;(try (conv => cbv))))
  | (refine w_ hF ?_;(try (conv => cbv)))
  | ((with_reducible refine k3_ 130 H ?_);clear H;intro _ _ _ hy H;refine ca_ hF (spec_ReadVar.con E hE hy) ?_;(try (conv => cbv)))
  | ((with_reducible show Q _ _);exact en_ ⟨[2],[],[],[]⟩ 35 hQ)
  | contradiction
theorem spec_l07Rise.con (E:En) (hE:E = E0) {k l0 a1 a2 r} (H:spec_l07Rise.f k l0 a1 a2 = some (r)) :
  Cn 219 [.c (.sl [.int .i64] (E.eI .i64 l0)),.c (.int .i64 a1),.c (.int .i64 a2)] [] (.c (.bool r)) [] []:=by
 refine co_ Tryz.func219 tabOk [] fun F hF Q hQ => ?_
 simp only [spec_l07Rise.f] at H
 (conv => cbv)
 repeat' first
  | replace H:=s_ H
  | (exfalso;with_reducible assumption)
  | (rw [itn_iff] at H;obtain ⟨hc,H⟩:=H)
  | (rw [itn2_iff] at H;obtain ⟨hc,H⟩:=H)
  | ((with_reducible refine br2 hF H ?_ ?_) <;> (clear H;intro hb H;(try (conv => cbv))))
  | (refine w_ hF ?_;(try (conv => cbv)))
  | ((with_reducible refine k1_ 131 H ?_);clear H;intro _ hy H;refine ca_ hF (spec_l01In.con E hE hy) ?_;(try (conv => cbv)))
  | ((with_reducible refine lo_ hF (fun n t => n≤k∧∃ x0 x1 x2 x7,t = At 38 [(0,.c (.sl [.int .i64] (E.eI .i64 x0))),(1,.c (.int .i64 x1)),(2,.c (.int .i64 x2)),(7,.c (.int .i64 x7))] []∧spec_l07Rise.l0 n x0 x1 x2 x7 = some (r)) ⟨[0,1,2,7],[],[],[]⟩ fun n0 t ht Q0 hN0 hX0 => ?_);obtain ⟨hl,_,_,_,_,rfl,H⟩:=ht;rcases n0 with _ | n0;cases H;simp only [spec_l07Rise.l0] at H;(try (conv => cbv)))
  | ((with_reducible show Q0 _ _);first | exact nx_ hN0 | (refine xt_ hX0 ?_;(try (conv => cbv))))
  | ((with_reducible show Q _ _);exact en_ ⟨[6],[],[],[]⟩ 38 hQ)
  | contradiction
theorem spec_ConfOk.con (E:En) (hE:E = E0) {k l0 r} (H:spec_ConfOk.f k l0 = some (r)) :
  Cn 220 [.c (.sl [.int .i64] (E.eI .i64 l0))] [] (.c (.bool r)) [] []:=by
 refine co_ Tryz.func220 tabOk [] fun F hF Q hQ => ?_
 simp only [spec_ConfOk.f] at H
 (conv => cbv)
 repeat' first
  | replace H:=s_ H
  | (exfalso;with_reducible assumption)
  | (rw [itn_iff] at H;obtain ⟨hc,H⟩:=H)
  | (rw [itn2_iff] at H;obtain ⟨hc,H⟩:=H)
  | ((with_reducible refine br2 hF H ?_ ?_) <;> (clear H;intro hb H;(try (conv => cbv))))
  | (refine w_ hF ?_;(try (conv => cbv)))
  | ((with_reducible refine k1_ 131 H ?_);clear H;intro _ hy H;refine ca_ hF (spec_l01In.con E hE hy) ?_;(try (conv => cbv)))
  | ((with_reducible refine k1_ 219 H ?_);clear H;intro _ hy H;refine ca_ hF (spec_l07Rise.con E hE hy) ?_;(try (conv => cbv)))
  | ((with_reducible show Q _ _);exact en_ ⟨[2],[],[],[]⟩ 10 hQ)
  | contradiction
theorem spec_ManifestOk.con (E:En) (hE:E = E0) {k l0_0 a0_1 a0_2 a0_3 l0_4 r} (H:spec_ManifestOk.f k l0_0 a0_1 a0_2 a0_3 l0_4 = some (r)) :
  Cn 189 [.agg [.c (.sl [.int .i64] (E.eI .i64 l0_0)),.c (.int .i64 a0_1),.c (.int .i64 a0_2),.c (.int .i64 a0_3),.c (.sl [.int .i64] (E.eI .i64 l0_4))]] [] (.c (.bool r)) [] []:=by
 refine co_ Tryz.func189 tabOk [] fun F hF Q hQ => ?_
 simp only [spec_ManifestOk.f] at H
 (conv => cbv)
 repeat' first
  | replace H:=s_ H
  | (exfalso;with_reducible assumption)
  | (rw [itn_iff] at H;obtain ⟨hc,H⟩:=H)
  | (rw [itn2_iff] at H;obtain ⟨hc,H⟩:=H)
  | ((with_reducible refine br2 hF H ?_ ?_) <;> (clear H;intro hb H;(try (conv => cbv))))
  | (refine w_ hF ?_;(try (conv => cbv)))
  | ((with_reducible refine k1_ 131 H ?_);clear H;intro _ hy H;refine ca_ hF (spec_l01In.con E hE hy) ?_;(try (conv => cbv)))
  | ((with_reducible refine k1_ 219 H ?_);clear H;intro _ hy H;refine ca_ hF (spec_l07Rise.con E hE hy) ?_;(try (conv => cbv)))
  | ((with_reducible refine k1_ 220 H ?_);clear H;intro _ hy H;refine ca_ hF (spec_ConfOk.con E hE hy) ?_;(try (conv => cbv)))
  | ((with_reducible show Q _ _);exact en_ ⟨[2],[],[],[]⟩ 35 hQ)
  | contradiction
theorem spec_Sealed.con (E:En) (hE:E = E0) {k a0 r1 r2} (H:spec_Sealed.f k a0 = some (r1,r2)) :
  Cn 190 [.c (.str a0)] [] (.tup [.c (.str r1),.c (.bool r2)]) [] []:=by
 refine co_ Tryz.func190 tabOk [] fun F hF Q hQ => ?_
 simp only [spec_Sealed.f] at H
 (conv => cbv)
 repeat' first
  | replace H:=s_ H
  | (exfalso;with_reducible assumption)
  | (rw [itn_iff] at H;obtain ⟨hc,H⟩:=H)
  | (rw [itn2_iff] at H;obtain ⟨hc,H⟩:=H)
  | ((with_reducible refine br2 hF H ?_ ?_) <;> (clear H;intro hb H;(try (conv => cbv))))
  | (refine w_ hF ?_;(try (conv => cbv)))
  | ((with_reducible refine k1_ 137 H ?_);clear H;intro _ hy H;refine ca_ hF (spec_l02Four.con E hE hy) ?_;(try (conv => cbv)))
  | ((with_reducible refine k1_ 138 H ?_);clear H;intro _ hy H;refine ca_ hF (spec_SumOf.con E hE hy) ?_;(try (conv => cbv)))
  | ((with_reducible show Q _ _);exact en_ ⟨[2,3],[],[],[]⟩ 12 hQ)
  | contradiction
theorem spec_ManifestText.con (E:En) (hE:E = E0) {k l0_0 a0_1 a0_2 a0_3 l0_4 r1 r2} (H:spec_ManifestText.f k l0_0 a0_1 a0_2 a0_3 l0_4 = some (r1,r2)) :
  Cn 108 [.agg [.c (.sl [.int .i64] (E.eI .i64 l0_0)),.c (.int .i64 a0_1),.c (.int .i64 a0_2),.c (.int .i64 a0_3),.c (.sl [.int .i64] (E.eI .i64 l0_4))]] [] (.tup [.c (.str r1),.c (.bool r2)]) [] []:=by
 refine co_ Tryz.func108 tabOk [] fun F hF Q hQ => ?_
 simp only [spec_ManifestText.f] at H
 (conv => cbv)
 repeat' first
  | replace H:=s_ H
  | (exfalso;with_reducible assumption)
  | (rw [itn_iff] at H;obtain ⟨hc,H⟩:=H)
  | (rw [itn2_iff] at H;obtain ⟨hc,H⟩:=H)
  | ((with_reducible refine br2 hF H ?_ ?_) <;> (clear H;intro hb H;(try (conv => cbv))))
  | (refine w_ hF ?_;(try (conv => cbv)))
  | ((with_reducible refine k1_ 136 H ?_);clear H;intro _ hy H;refine ca_ hF (spec_l01Var.con E hE hy) ?_;(try (conv => cbv)))
  | ((with_reducible refine k1_ 189 H ?_);clear H;intro _ hy H;refine ca_ hF (spec_ManifestOk.con E hE hy) ?_;(try (conv => cbv)))
  | ((with_reducible refine k2_ 190 H ?_);clear H;intro _ _ hy H;refine ca_ hF (spec_Sealed.con E hE hy) ?_;(try (conv => cbv)))
  | ((with_reducible refine lo_ hF (fun n t => n≤k∧∃ x4 x5 v0 v1 v2 v3 v4,t = At 66 [(1,.ptr 1 0),(4,.c (.str x4)),(5,.c (.int .i64 x5))] [(1,.box [.c (.sl [.int .i64] (E.eI .i64 v0)),.c (.int .i64 v1),.c (.int .i64 v2),.c (.int .i64 v3),.c (.sl [.int .i64] (E.eI .i64 v4))])]∧spec_ManifestText.l0 n x4 x5 v0 v1 v2 v3 v4 = some (r1,r2)) ⟨[1,4,5],[1],[],[]⟩ fun n0 t ht Q0 hN0 hX0 => ?_);obtain ⟨hl,_,_,_,_,_,_,_,rfl,H⟩:=ht;rcases n0 with _ | n0;cases H;simp only [spec_ManifestText.l0] at H;(try (conv => cbv)))
  | ((with_reducible show Q0 _ _);first | exact nx_ hN0 | (refine xt_ hX0 ?_;(try (conv => cbv))))
  | ((with_reducible refine lo_ hF (fun n t => n≤k∧∃ x4 x6 v0 v1 v2 v3 v4,t = At 66 [(1,.ptr 1 0),(4,.c (.str x4)),(6,.c (.int .i64 x6))] [(1,.box [.c (.sl [.int .i64] (E.eI .i64 v0)),.c (.int .i64 v1),.c (.int .i64 v2),.c (.int .i64 v3),.c (.sl [.int .i64] (E.eI .i64 v4))])]∧spec_ManifestText.l1 n x4 x6 v0 v1 v2 v3 v4 = some (r1,r2)) ⟨[1,4,6],[1],[],[]⟩ fun n1 t ht Q1 hN1 hX1 => ?_);obtain ⟨hl,_,_,_,_,_,_,_,rfl,H⟩:=ht;rcases n1 with _ | n1;cases H;simp only [spec_ManifestText.l1] at H;(try (conv => cbv)))
  | ((with_reducible show Q1 _ _);first | exact nx_ hN1 | (refine xt_ hX1 ?_;(try (conv => cbv))))
  | ((with_reducible show Q _ _);exact en_ ⟨[2,3],[],[],[]⟩ 66 hQ)
  | contradiction
theorem spec_ReadManifest.j1_s {k:Nat} {x0:ByteArray} {x620000:ByteArray} {x620001:Int} {x620002:Bool} {x621000:List Int} {x621001:Int} {x621002:Int} {x621003:Int} {r:_} (h:spec_ReadManifest.j1 k x0 x620000 x620001 x620002 x621000 x621001 x621002 x621003 = some r):∃ m,k = m + 1∧spec_ReadManifest.j1 (m + 1) x0 x620000 x620001 x620002 x621000 x621001 x621002 x621003 = some r:=by
 cases k with
 | zero => simp [spec_ReadManifest.j1] at h
 | succ m => exact ⟨m,rfl,h⟩
theorem spec_ReadManifest.j1_i {k:Nat} {x0:ByteArray} {x620000:ByteArray} {x620001:Int} {x620002:Bool} {x621000:List Int} {x621001:Int} {x621002:Int} {x621003:Int} {r:_}:(spec_ReadManifest.j1 k x0 x620000 x620001 x620002 x621000 x621001 x621002 x621003 = some r) = (∃ m,k = m + 1∧spec_ReadManifest.j1 (m + 1) x0 x620000 x620001 x620002 x621000 x621001 x621002 x621003 = some r):=propext ⟨spec_ReadManifest.j1_s,fun ⟨m,h,h2⟩ => by rw [h];exact h2⟩
theorem spec_ReadManifest.con (E:En) (hE:E = E0) {k a0 r1 r2 r3 r4 r5 r6} (H:spec_ReadManifest.f k a0 = some (r1,r2,r3,r4,r5,r6)) :
  Cn 151 [.c (.str a0)] [] (.tup [.agg [.own 0,.c (.int .i64 r2),.c (.int .i64 r3),.c (.int .i64 r4),.own 1],.c (.bool r6)]) [.row false 3 [.int .i64] (E.eI .i64 r1),.row false 3 [.int .i64] (E.eI .i64 r5)] []:=by
 refine co_ Tryz.func151 tabOk [400040,400044] fun F hF Q hQ => ?_
 simp only [spec_ReadManifest.f] at H
 (conv => cbv)
 repeat' first
  | (rw [spec_ReadManifest.j1_i] at H;obtain ⟨m,hm,H⟩:=H;simp only [spec_ReadManifest.j1] at H;(try simp only [decide_eq_true_eq,Bool.false_eq_true,if_false,if_true] at H))
  | replace H:=s_ H
  | (exfalso;with_reducible assumption)
  | (rw [itn_iff] at H;obtain ⟨hc,H⟩:=H)
  | (rw [itn2_iff] at H;obtain ⟨hc,H⟩:=H)
  | ((with_reducible refine br2 hF H ?_ ?_) <;> (clear H;intro hb H;(try (conv => cbv))))
  | (refine w_ hF ?_;(try (conv => cbv)))
  | ((with_reducible refine k2_ 108 H ?_);clear H;intro _ _ hy H;refine ca_ hF (spec_ManifestText.con E hE hy) ?_;(try (conv => cbv)))
  | ((with_reducible refine k4_ 133 H ?_);clear H;intro _ _ _ _ hy H;refine ca_ hF (spec_l05Var.con E hE hy) ?_;(try (conv => cbv)))
  | ((with_reducible refine k2_ 207 H ?_);clear H;intro _ _ hy H;refine ca_ hF (spec_Unsealed.con E hE hy) ?_;(try (conv => cbv)))
  | ((with_reducible refine lo_ hF (fun n t => n≤k∧∃ x0 x8 x9 v0 v1 v2 v3 v4 v5 v6,t = At 103 [(0,.c (.str x0)),(2,.ptr 2 0),(6,.ptr 22 0),(7,.ptr 7 0),(8,.c (.int .i64 x8)),(9,.c (.int .i64 x9)),(22,.ptr 22 0)] [(2,.box [.own 400040,.c (.int .i64 0),.c (.int .i64 0),.c (.int .i64 0),.own 400044]),(22,.box [.c (.str v0),.c (.int .i64 v1),.c (.bool v2)]),(7,.box [.own 400140,.c (.int .i64 v4),.c (.int .i64 v5),.c (.int .i64 v6),.own 400144]),(400040,.row false 3 [.int .i64] []),(400044,.row false 3 [.int .i64] []),(400140,.row false 3 [.int .i64] (E.eI .i64 v3)),(400144,.row false 3 [.int .i64] [])]∧spec_ReadManifest.l0 n x0 x8 x9 v0 v1 v2 v3 v4 v5 v6 = some (r1,r2,r3,r4,r5,r6)) ⟨[0,2,6,7,8,9,22],[2,22,7],[],[(2,0,3),(2,4,3),(7,0,3),(7,4,3)]⟩ fun n0 t ht Q0 hN0 hX0 => ?_);obtain ⟨hl,_,_,_,_,_,_,_,_,_,_,rfl,H⟩:=ht;rcases n0 with _ | n0;cases H;simp only [spec_ReadManifest.l0] at H;(try (conv => cbv)))
  | ((with_reducible show Q0 _ _);first | exact nx_ hN0 | (refine xt_ hX0 ?_;(try (conv => cbv))))
  | ((with_reducible refine lo_ hF (fun n t => n≤k∧∃ x0 x8 x10 v0 v1 v2 v3 v4 v5 v6 v7,t = At 103 [(0,.c (.str x0)),(2,.ptr 2 0),(6,.ptr 22 0),(7,.ptr 7 0),(8,.c (.int .i64 x8)),(10,.c (.int .i64 x10)),(22,.ptr 22 0)] [(2,.box [.own 400040,.c (.int .i64 0),.c (.int .i64 0),.c (.int .i64 0),.own 400044]),(22,.box [.c (.str v0),.c (.int .i64 v1),.c (.bool v2)]),(7,.box [.own 400140,.c (.int .i64 v4),.c (.int .i64 v5),.c (.int .i64 v6),.own 400144]),(400040,.row false 3 [.int .i64] []),(400044,.row false 3 [.int .i64] []),(400140,.row false 3 [.int .i64] (E.eI .i64 v3)),(400144,.row false 3 [.int .i64] (E.eI .i64 v7))]∧spec_ReadManifest.l1 n x0 x8 x10 v0 v1 v2 v3 v4 v5 v6 v7 = some (r1,r2,r3,r4,r5,r6)) ⟨[0,2,6,7,8,10,22],[2,22,7],[],[(2,0,3),(2,4,3),(7,0,3),(7,4,3)]⟩ fun n1 t ht Q1 hN1 hX1 => ?_);obtain ⟨hl,_,_,_,_,_,_,_,_,_,_,_,rfl,H⟩:=ht;rcases n1 with _ | n1;cases H;simp only [spec_ReadManifest.l1] at H;(try (conv => cbv)))
  | ((with_reducible show Q1 _ _);first | exact nx_ hN1 | (refine xt_ hX1 ?_;(try (conv => cbv))))
  | ((with_reducible show Q _ _);exact en_ ⟨[2,3],[2],[],[(2,0,3),(2,4,3)]⟩ 103 hQ)
  | contradiction
theorem spec_l01Figure.con (E:En) (hE:E = E0) {a0 r} (H:spec_l01Figure.f a0 = some (r)) :
  Cn 197 [.c (.int .i64 a0)] [] (.c (.int .u8 r)) [] []:=by
 refine co_ Tryz.func197 tabOk [] fun F hF Q hQ => ?_
 simp only [spec_l01Figure.f] at H
 (conv => cbv)
 repeat' first
  | replace H:=s_ H
  | (exfalso;with_reducible assumption)
  | (rw [itn_iff] at H;obtain ⟨hc,H⟩:=H)
  | (rw [itn2_iff] at H;obtain ⟨hc,H⟩:=H)
  | ((with_reducible refine br2 hF H ?_ ?_) <;> (clear H;intro hb H;(try (conv => cbv))))
  | (refine w_ hF ?_;(try (conv => cbv)))
  | ((with_reducible show Q _ _);exact en_ ⟨[2],[],[],[]⟩ 12 hQ)
  | contradiction
theorem spec_Decimal.con (E:En) (hE:E = E0) {k a0 r} (H:spec_Decimal.f k a0 = some (r)) :
  Cn 132 [.c (.int .i64 a0)] [] (.c (.str r)) [] []:=by
 refine co_ Tryz.func132 tabOk [] fun F hF Q hQ => ?_
 simp only [spec_Decimal.f] at H
 (conv => cbv)
 repeat' first
  | replace H:=s_ H
  | (exfalso;with_reducible assumption)
  | (rw [itn_iff] at H;obtain ⟨hc,H⟩:=H)
  | (rw [itn2_iff] at H;obtain ⟨hc,H⟩:=H)
  | ((with_reducible refine br2 hF H ?_ ?_) <;> (clear H;intro hb H;(try (conv => cbv))))
  | (refine w_ hF ?_;(try (conv => cbv)))
  | ((with_reducible refine k1_ 197 H ?_);clear H;intro _ hy H;refine ca_ hF (spec_l01Figure.con E hE hy) ?_;(try (conv => cbv)))
  | ((with_reducible refine lo_ hF (fun n t => n≤k∧∃ x0 x3 x4,t = At 30 [(0,.c (.int .i64 x0)),(3,.c (.bool x3)),(4,.c (.str x4))] []∧spec_Decimal.l0 n x0 x3 x4 = some (r)) ⟨[0,3,4],[],[],[]⟩ fun n0 t ht Q0 hN0 hX0 => ?_);obtain ⟨hl,_,_,_,rfl,H⟩:=ht;rcases n0 with _ | n0;cases H;simp only [spec_Decimal.l0] at H;(try (conv => cbv)))
  | ((with_reducible show Q0 _ _);first | exact nx_ hN0 | (refine xt_ hX0 ?_;(try (conv => cbv))))
  | ((with_reducible show Q _ _);exact en_ ⟨[2],[],[],[]⟩ 30 hQ)
  | contradiction
theorem spec_SegName.con (E:En) (hE:E = E0) {k a0 r} (H:spec_SegName.f k a0 = some (r)) :
  Cn 61 [.c (.int .i64 a0)] [] (.c (.str r)) [] []:=by
 refine co_ Tryz.func61 tabOk [] fun F hF Q hQ => ?_
 simp only [spec_SegName.f] at H
 (conv => cbv)
 repeat' first
  | replace H:=s_ H
  | (exfalso;with_reducible assumption)
  | (rw [itn_iff] at H;obtain ⟨hc,H⟩:=H)
  | (rw [itn2_iff] at H;obtain ⟨hc,H⟩:=H)
  | ((with_reducible refine br2 hF H ?_ ?_) <;> (clear H;intro hb H;(try (conv => cbv))))
  | (refine w_ hF ?_;(try (conv => cbv)))
  | ((with_reducible refine k1_ 131 H ?_);clear H;intro _ hy H;refine ca_ hF (spec_l01In.con E hE hy) ?_;(try (conv => cbv)))
  | ((with_reducible refine k1_ 132 H ?_);clear H;intro _ hy H;refine ca_ hF (spec_Decimal.con E hE hy) ?_;(try (conv => cbv)))
  | ((with_reducible show Q _ _);exact en_ ⟨[2],[],[],[]⟩ 9 hQ)
  | contradiction
theorem spec_l03Text.con (E:En) (hE:E = E0) {k l0_0 a1 r} (H:spec_l03Text.f k l0_0 a1 = some (r)) :
  Cn 60 [.agg [.c (.sl [.str,.str] (E.e122 l0_0))],.c (.str a1)] [] (.c (.str r)) [] []:=by
 refine co_ Tryz.func60 tabOk [] fun F hF Q hQ => ?_
 simp only [spec_l03Text.f] at H
 (conv => cbv)
 repeat' first
  | replace H:=s_ H
  | (exfalso;with_reducible assumption)
  | (rw [itn_iff] at H;obtain ⟨hc,H⟩:=H)
  | (rw [itn2_iff] at H;obtain ⟨hc,H⟩:=H)
  | ((with_reducible refine br2 hF H ?_ ?_) <;> (clear H;intro hb H;(try (conv => cbv))))
  | (refine w_ hF ?_;(try (conv => cbv)))
  | ((with_reducible refine k1_ 75 H ?_);clear H;intro _ hy H;refine ca_ hF (spec_l03At.con E hE hy) ?_;(try (conv => cbv)))
  | ((with_reducible show Q _ _);exact en_ ⟨[4],[],[],[]⟩ 17 hQ)
  | contradiction
end Go.Ev
