/- Contracts of the Go functions that this law reaches: what each call returns, by its plain function. No conditions but those that each statement names. By this repo's programs; comments are taken out. -/
import Derived.Test.YtlmicldpfnmeaaaGreatDoorVFnExactAddBatchD
import Derived.Test.YtlmicldpfnmeaaaGreatDoorVFnExactAddBatchK
import Derived.Test.YtlmicldpfnmeaaaGreatDoorVFnExactAddBatchC1
import Derived.Test.YtlmicldpfnmeaaaGreatDoorVFnExactAddBatchC2
import Derived.Test.YtlmicldpfnmeaaaGreatDoorVFnExactAddBatchC4
set_option linter.all false
namespace Go.Ev
open Go.RowKit Go.Proofs Go.Proofs.YtlmicldpfnmeaaaGreatDoorW.PrintWords Go.Proofs.YtlmicldpfnmeaaaGreatDoorW.PrintLast Go.Proofs.YtlmicldpfnmeaaaGreatDoorW.PrintMore
set_option maxRecDepth 100000
set_option maxHeartbeats 4000000
theorem spec_l09After.con (E:En) (hE:E = E0) {k l0_0 l1 r1 r2 r3 r4 r5 r6 r7 r8} (H:spec_l09After.f k l0_0 l1 = some (r1,r2,r3,r4,r5,r6,r7,r8)) :
  Cn 114 [.agg [.c (.sl [.str,.str] (E.e122 l0_0))],.c (.sl [.int .i64,.str,.str,.str] (E.e119 l1))] [] (.tup [.agg [.own 0,.c (.int .i64 r2),.c (.int .i64 r3),.c (.int .i64 r4),.own 1,.own 2,.c (.int .i64 r7)],.c (.bool r8)]) [.row false 3 [.int .i64] (E.eI .i64 r1),.row false 3 [.int .i64] (E.eI .i64 r5),.row false 145 [.str,.int .i64,.int .i64,.int .i64] (E.e145 r6)] []:=by
 refine co_ Tryz.func114 tabOk [400080,400084,400085] fun F hF Q hQ => ?_
 simp only [spec_l09After.f] at H
 (conv => cbv)
 repeat' first
  | replace H:=s_ H
  | (exfalso;with_reducible assumption)
  | (rw [itn_iff] at H;obtain ⟨hc,H⟩:=H)
  | (rw [itn2_iff] at H;obtain ⟨hc,H⟩:=H)
  | ((with_reducible refine br2 hF H ?_ ?_) <;> (clear H;intro hb H;(try (conv => cbv))))
  | (refine w_ hF ?_;(try (conv => cbv)))
  | ((with_reducible refine k9_ 20 H ?_);clear H;intro _ _ _ _ _ _ _ _ _ hy H;refine ca_ hF (spec_OpenShelf.con E hE hy) ?_;(try (conv => cbv)))
  | ((with_reducible refine k2_ 33 H ?_);clear H;intro _ _ hy H;refine ca_ hF (spec_PutRaws.con E hE hy) ?_;(try (conv => cbv)))
  | ((with_reducible show Q _ _);exact en_ ⟨[4,5],[4],[],[(4,0,3),(4,4,3),(4,5,145)]⟩ 36 hQ)
  | contradiction
theorem spec_AddBatch.j0_s {k:Nat} {x9:ByteArray} {x39:Bool} {x986000:List S122} {x987000:List Int} {x987001:Int} {x987002:Int} {x987003:Int} {x987004:List Int} {x987005:List S145} {x987006:Int} {r:_} (h:spec_AddBatch.j0 k x9 x39 x986000 x987000 x987001 x987002 x987003 x987004 x987005 x987006 = some r):∃ m,k = m + 1∧spec_AddBatch.j0 (m + 1) x9 x39 x986000 x987000 x987001 x987002 x987003 x987004 x987005 x987006 = some r:=by
 cases k with
 | zero => simp [spec_AddBatch.j0] at h
 | succ m => exact ⟨m,rfl,h⟩
theorem spec_AddBatch.j1_s {k:Nat} {x11:ByteArray} {x15:List S119} {x78:Bool} {x986000:List S122} {x1007000:List Int} {x1007001:Int} {x1007002:Int} {x1007003:Int} {x1007004:List Int} {r:_} (h:spec_AddBatch.j1 k x11 x15 x78 x986000 x1007000 x1007001 x1007002 x1007003 x1007004 = some r):∃ m,k = m + 1∧spec_AddBatch.j1 (m + 1) x11 x15 x78 x986000 x1007000 x1007001 x1007002 x1007003 x1007004 = some r:=by
 cases k with
 | zero => simp [spec_AddBatch.j1] at h
 | succ m => exact ⟨m,rfl,h⟩
theorem spec_AddBatch.j0_i {k:Nat} {x9:ByteArray} {x39:Bool} {x986000:List S122} {x987000:List Int} {x987001:Int} {x987002:Int} {x987003:Int} {x987004:List Int} {x987005:List S145} {x987006:Int} {r:_}:(spec_AddBatch.j0 k x9 x39 x986000 x987000 x987001 x987002 x987003 x987004 x987005 x987006 = some r) = (∃ m,k = m + 1∧spec_AddBatch.j0 (m + 1) x9 x39 x986000 x987000 x987001 x987002 x987003 x987004 x987005 x987006 = some r):=propext ⟨spec_AddBatch.j0_s,fun ⟨m,h,h2⟩ => by rw [h];exact h2⟩
theorem spec_AddBatch.j1_i {k:Nat} {x11:ByteArray} {x15:List S119} {x78:Bool} {x986000:List S122} {x1007000:List Int} {x1007001:Int} {x1007002:Int} {x1007003:Int} {x1007004:List Int} {r:_}:(spec_AddBatch.j1 k x11 x15 x78 x986000 x1007000 x1007001 x1007002 x1007003 x1007004 = some r) = (∃ m,k = m + 1∧spec_AddBatch.j1 (m + 1) x11 x15 x78 x986000 x1007000 x1007001 x1007002 x1007003 x1007004 = some r):=propext ⟨spec_AddBatch.j1_s,fun ⟨m,h,h2⟩ => by rw [h];exact h2⟩
theorem spec_AddBatch.con (E:En) (hE:E = E0) {k l0_0 l1_0 a1_1 a1_2 a1_3 l1_4 l1_5 a1_6 a2_0 l2_1 r1 r2 r3 r4 r5 r6 r7 r8 r9} (H:spec_AddBatch.f k l0_0 l1_0 a1_1 a1_2 a1_3 l1_4 l1_5 a1_6 a2_0 l2_1 = some (r1,r2,r3,r4,r5,r6,r7,r8,r9)) :
  Cn 40 [.agg [.c (.sl [.str,.str] (E.e122 l0_0))],.agg [.c (.sl [.int .i64] (E.eI .i64 l1_0)),.c (.int .i64 a1_1),.c (.int .i64 a1_2),.c (.int .i64 a1_3),.c (.sl [.int .i64] (E.eI .i64 l1_4)),.c (.sl [.str,.int .i64,.int .i64,.int .i64] (E.e145 l1_5)),.c (.int .i64 a1_6)],.agg [.c (.int .i64 a2_0),.c (.sl [.str,.str,.bool] (E.e162 l2_1))]] [] (.tup [.agg [.own 0,.c (.int .i64 r2),.c (.int .i64 r3),.c (.int .i64 r4),.own 1,.own 2,.c (.int .i64 r7)],.own 3,.c (.bool r9)]) [.row false 3 [.int .i64] (E.eI .i64 r1),.row false 3 [.int .i64] (E.eI .i64 r5),.row false 145 [.str,.int .i64,.int .i64,.int .i64] (E.e145 r6),.row false 119 [.int .i64,.str,.str,.str] (E.e119 r8)] []:=by
 refine co_ Tryz.func40 tabOk [400120,400124,400125,20007] fun F hF Q hQ => ?_
 simp only [spec_AddBatch.f] at H
 (conv => cbv)
 repeat' first
  | (rw [spec_AddBatch.j0_i] at H;obtain ⟨m,hm,H⟩:=H;simp only [spec_AddBatch.j0] at H;(try simp only [decide_eq_true_eq,Bool.false_eq_true,if_false,if_true] at H))
  | (rw [spec_AddBatch.j1_i] at H;obtain ⟨m,hm,H⟩:=H;simp only [spec_AddBatch.j1] at H;(try simp only [decide_eq_true_eq,Bool.false_eq_true,if_false,if_true] at H))
  | replace H:=s_ H
  | (exfalso;with_reducible assumption)
  | (rw [itn_iff] at H;obtain ⟨hc,H⟩:=H)
  | (rw [itn2_iff] at H;obtain ⟨hc,H⟩:=H)
  | ((with_reducible refine br2 hF H ?_ ?_) <;> (clear H;intro hb H;(try (conv => cbv))))
  | (refine w_ hF ?_;(try (conv => cbv)))
  | ((with_reducible refine k1_ 60 H ?_);clear H;intro _ hy H;refine ca_ hF (spec_l03Text.con E hE hy) ?_;(try (conv => cbv)))
  | ((with_reducible refine k1_ 61 H ?_);clear H;intro _ hy H;refine ca_ hF (spec_SegName.con E hE hy) ?_;(try (conv => cbv)))
  | ((with_reducible refine k2_ 63 H ?_);clear H;intro _ _ hy H;refine ca_ hF (spec_Frame.con E hE hy) ?_;(try (conv => cbv)))
  | ((with_reducible refine k1_ 102 H ?_);clear H;intro _ hy H;refine ca_ hF (spec_l09Clean.con E hE hy) ?_;(try (conv => cbv)))
  | ((with_reducible refine k2_ 104 H ?_);clear H;intro _ _ hy H;refine ca_ hF (spec_BatchText.con E hE hy) ?_;(try (conv => cbv)))
  | ((with_reducible refine k5_ 112 H ?_);clear H;intro _ _ _ _ _ hy H;refine ca_ hF (spec_l09CopyMan.con E hE hy) ?_;(try (conv => cbv)))
  | ((with_reducible refine k2_ 113 H ?_);clear H;intro _ _ hy H;refine ca_ hF (spec_l09NewMan.con E hE hy) ?_;(try (conv => cbv)))
  | ((with_reducible refine k8_ 114 H ?_);clear H;intro _ _ _ _ _ _ _ _ hy H;refine ca_ hF (spec_l09After.con E hE hy) ?_;(try (conv => cbv)))
  | ((with_reducible show Q _ _);exact en_ ⟨[6,7,8],[6],[(7,119)],[(6,0,3),(6,4,3),(6,5,145)]⟩ 116 hQ)
  | contradiction
theorem impl_within.con (E:En) (hE:E = E0) {a0 a1 a2 r} (H:impl_within.f a0 a1 a2 = some (r)) :
  Cn 144 [.c (.int .i64 a0),.c (.int .i64 a1),.c (.int .i64 a2)] [] (.c (.bool r)) [] []:=by
 refine co_ Tryz.func144 tabOk [] fun F hF Q hQ => ?_
 simp only [impl_within.f] at H
 (conv => cbv)
 repeat' first
  | replace H:=s_ H
  | (exfalso;with_reducible assumption)
  | (rw [itn_iff] at H;obtain ⟨hc,H⟩:=H)
  | (rw [itn2_iff] at H;obtain ⟨hc,H⟩:=H)
  | ((with_reducible refine br2 hF H ?_ ?_) <;> (clear H;intro hb H;(try (conv => cbv))))
  | (refine w_ hF ?_;(try (conv => cbv)))
  | ((with_reducible show Q _ _);exact en_ ⟨[6],[],[],[]⟩ 15 hQ)
  | contradiction
theorem impl_keyOk.con (E:En) (hE:E = E0) {a0 r} (H:impl_keyOk.f a0 = some (r)) :
  Cn 188 [.c (.str a0)] [] (.c (.bool r)) [] []:=by
 refine co_ Tryz.func188 tabOk [] fun F hF Q hQ => ?_
 simp only [impl_keyOk.f] at H
 (conv => cbv)
 repeat' first
  | replace H:=s_ H
  | (exfalso;with_reducible assumption)
  | (rw [itn_iff] at H;obtain ⟨hc,H⟩:=H)
  | (rw [itn2_iff] at H;obtain ⟨hc,H⟩:=H)
  | ((with_reducible refine br2 hF H ?_ ?_) <;> (clear H;intro hb H;(try (conv => cbv))))
  | (refine w_ hF ?_;(try (conv => cbv)))
  | ((with_reducible refine k1_ 144 H ?_);clear H;intro _ hy H;refine ca_ hF (impl_within.con E hE hy) ?_;(try (conv => cbv)))
  | ((with_reducible show Q _ _);exact en_ ⟨[2],[],[],[]⟩ 6 hQ)
  | contradiction
theorem impl_BatchOk.con (E:En) (hE:E = E0) {k a0_0 l0_1 r} (H:impl_BatchOk.f k a0_0 l0_1 = some (r)) :
  Cn 179 [.agg [.c (.int .i64 a0_0),.c (.sl [.str,.str,.bool] (E.e162 l0_1))]] [] (.c (.bool r)) [] []:=by
 refine co_ Tryz.func179 tabOk [] fun F hF Q hQ => ?_
 simp only [impl_BatchOk.f] at H
 (conv => cbv)
 repeat' first
  | replace H:=s_ H
  | (exfalso;with_reducible assumption)
  | (rw [itn_iff] at H;obtain ⟨hc,H⟩:=H)
  | (rw [itn2_iff] at H;obtain ⟨hc,H⟩:=H)
  | ((with_reducible refine br2 hF H ?_ ?_) <;> (clear H;intro hb H;(try (conv => cbv))))
  | (refine w_ hF ?_;(try (conv => cbv)))
  | ((with_reducible refine k1_ 144 H ?_);clear H;intro _ hy H;refine ca_ hF (impl_within.con E hE hy) ?_;(try (conv => cbv)))
  | ((with_reducible refine k1_ 188 H ?_);clear H;intro _ hy H;refine ca_ hF (impl_keyOk.con E hE hy) ?_;(try (conv => cbv)))
  | ((with_reducible refine lo_ hF (fun n t => n≤k∧∃ x6 x7 x8 v0 v1,t = At 58 [(1,.ptr 1 0),(6,.c (.sl [.str,.str,.bool] (E.e162 x6))),(7,.c (.int .i64 x7)),(8,.c (.int .i64 x8))] [(1,.box [.c (.int .i64 v0),.c (.sl [.str,.str,.bool] (E.e162 v1))])]∧impl_BatchOk.l0 n x6 x7 x8 v0 v1 = some (r)) ⟨[1,6,7,8],[1],[],[]⟩ fun n0 t ht Q0 hN0 hX0 => ?_);obtain ⟨hl,_,_,_,_,_,rfl,H⟩:=ht;rcases n0 with _ | n0;cases H;simp only [impl_BatchOk.l0] at H;(try (conv => cbv)))
  | ((with_reducible show Q0 _ _);first | exact nx_ hN0 | (refine xt_ hX0 ?_;(try (conv => cbv))))
  | ((with_reducible show Q _ _);exact en_ ⟨[2],[],[],[]⟩ 58 hQ)
  | contradiction
theorem impl_VarText.con (E:En) (hE:E = E0) {k a0 r1 r2} (H:impl_VarText.f k a0 = some (r1,r2)) :
  Cn 183 [.c (.int .i64 a0)] [] (.tup [.c (.str r1),.c (.bool r2)]) [] []:=by
 refine co_ Tryz.func183 tabOk [] fun F hF Q hQ => ?_
 simp only [impl_VarText.f] at H
 (conv => cbv)
 repeat' first
  | replace H:=s_ H
  | (exfalso;with_reducible assumption)
  | (rw [itn_iff] at H;obtain ⟨hc,H⟩:=H)
  | (rw [itn2_iff] at H;obtain ⟨hc,H⟩:=H)
  | ((with_reducible refine br2 hF H ?_ ?_) <;> (clear H;intro hb H;(try (conv => cbv))))
  | (refine w_ hF ?_;(try (conv => cbv)))
  | ((with_reducible refine k1_ 144 H ?_);clear H;intro _ hy H;refine ca_ hF (impl_within.con E hE hy) ?_;(try (conv => cbv)))
  | ((with_reducible refine lo_ hF (fun n t => n≤k∧∃ x0 x4,t = At 25 [(0,.c (.int .i64 x0)),(4,.own 20004)] [(20004,.row false 5 [.int .u8] (E.eI .u8 x4))]∧impl_VarText.l0 n x0 x4 = some (r1,r2)) ⟨[0,4],[],[(4,5)],[]⟩ fun n0 t ht Q0 hN0 hX0 => ?_);obtain ⟨hl,_,_,rfl,H⟩:=ht;rcases n0 with _ | n0;cases H;simp only [impl_VarText.l0] at H;(try (conv => cbv)))
  | ((with_reducible show Q0 _ _);first | exact nx_ hN0 | (refine xt_ hX0 ?_;(try (conv => cbv))))
  | ((with_reducible show Q _ _);exact en_ ⟨[2,3],[],[],[]⟩ 25 hQ)
  | contradiction
theorem impl_vars.con (E:En) (hE:E = E0) {k l0 r1 r2} (H:impl_vars.f k l0 = some (r1,r2)) :
  Cn 180 [.c (.sl [.int .i64] (E.eI .i64 l0))] [] (.tup [.c (.str r1),.c (.bool r2)]) [] []:=by
 refine co_ Tryz.func180 tabOk [] fun F hF Q hQ => ?_
 simp only [impl_vars.f] at H
 (conv => cbv)
 repeat' first
  | replace H:=s_ H
  | (exfalso;with_reducible assumption)
  | (rw [itn_iff] at H;obtain ⟨hc,H⟩:=H)
  | (rw [itn2_iff] at H;obtain ⟨hc,H⟩:=H)
  | ((with_reducible refine br2 hF H ?_ ?_) <;> (clear H;intro hb H;(try (conv => cbv))))
  | (refine w_ hF ?_;(try (conv => cbv)))
  | ((with_reducible refine k2_ 183 H ?_);clear H;intro _ _ hy H;refine ca_ hF (impl_VarText.con E hE hy) ?_;(try (conv => cbv)))
  | ((with_reducible refine lo_ hF (fun n t => n≤k∧∃ x4 x9 x10 x11,t = At 28 [(4,.own 20004),(9,.c (.sl [.int .i64] (E.eI .i64 x9))),(10,.c (.int .i64 x10)),(11,.c (.int .i64 x11))] [(20004,.row false 5 [.int .u8] (E.eI .u8 x4))]∧impl_vars.l0 n x4 x9 x10 x11 = some (r1,r2)) ⟨[4,9,10,11],[],[(4,5)],[]⟩ fun n0 t ht Q0 hN0 hX0 => ?_);obtain ⟨hl,_,_,_,_,rfl,H⟩:=ht;rcases n0 with _ | n0;cases H;simp only [impl_vars.l0] at H;(try (conv => cbv)))
  | ((with_reducible show Q0 _ _);first | exact nx_ hN0 | (refine xt_ hX0 ?_;(try (conv => cbv))))
  | ((with_reducible show Q _ _);exact en_ ⟨[2,3],[],[],[]⟩ 28 hQ)
  | contradiction
theorem impl_ShortText.con (E:En) (hE:E = E0) {k a0 r1 r2} (H:impl_ShortText.f k a0 = some (r1,r2)) :
  Cn 217 [.c (.str a0)] [] (.tup [.c (.str r1),.c (.bool r2)]) [] []:=by
 refine co_ Tryz.func217 tabOk [] fun F hF Q hQ => ?_
 simp only [impl_ShortText.f] at H
 (conv => cbv)
 repeat' first
  | replace H:=s_ H
  | (exfalso;with_reducible assumption)
  | (rw [itn_iff] at H;obtain ⟨hc,H⟩:=H)
  | (rw [itn2_iff] at H;obtain ⟨hc,H⟩:=H)
  | ((with_reducible refine br2 hF H ?_ ?_) <;> (clear H;intro hb H;(try (conv => cbv))))
  | (refine w_ hF ?_;(try (conv => cbv)))
  | ((with_reducible refine k2_ 183 H ?_);clear H;intro _ _ hy H;refine ca_ hF (impl_VarText.con E hE hy) ?_;(try (conv => cbv)))
  | ((with_reducible show Q _ _);exact en_ ⟨[2,3],[],[],[]⟩ 18 hQ)
  | contradiction
theorem impl_short.con (E:En) (hE:E = E0) {k a0 r} (H:impl_short.f k a0 = some (r)) :
  Cn 181 [.c (.str a0)] [] (.c (.str r)) [] []:=by
 refine co_ Tryz.func181 tabOk [] fun F hF Q hQ => ?_
 simp only [impl_short.f] at H
 (conv => cbv)
 repeat' first
  | replace H:=s_ H
  | (exfalso;with_reducible assumption)
  | (rw [itn_iff] at H;obtain ⟨hc,H⟩:=H)
  | (rw [itn2_iff] at H;obtain ⟨hc,H⟩:=H)
  | ((with_reducible refine br2 hF H ?_ ?_) <;> (clear H;intro hb H;(try (conv => cbv))))
  | (refine w_ hF ?_;(try (conv => cbv)))
  | ((with_reducible refine k2_ 217 H ?_);clear H;intro _ _ hy H;refine ca_ hF (impl_ShortText.con E hE hy) ?_;(try (conv => cbv)))
  | ((with_reducible show Q _ _);exact en_ ⟨[2],[],[],[]⟩ 11 hQ)
  | contradiction
theorem impl_flag.con (E:En) (hE:E = E0) {a0 r} (H:impl_flag.f a0 = some (r)) :
  Cn 182 [.c (.bool a0)] [] (.c (.str r)) [] []:=by
 refine co_ Tryz.func182 tabOk [] fun F hF Q hQ => ?_
 simp only [impl_flag.f] at H
 (conv => cbv)
 repeat' first
  | replace H:=s_ H
  | (exfalso;with_reducible assumption)
  | (rw [itn_iff] at H;obtain ⟨hc,H⟩:=H)
  | (rw [itn2_iff] at H;obtain ⟨hc,H⟩:=H)
  | ((with_reducible refine br2 hF H ?_ ?_) <;> (clear H;intro hb H;(try (conv => cbv))))
  | (refine w_ hF ?_;(try (conv => cbv)))
  | ((with_reducible show Q _ _);exact en_ ⟨[2],[],[],[]⟩ 4 hQ)
  | contradiction
theorem impl_BatchText.con (E:En) (hE:E = E0) {k a0_0 l0_1 r1 r2} (H:impl_BatchText.f k a0_0 l0_1 = some (r1,r2)) :
  Cn 99 [.agg [.c (.int .i64 a0_0),.c (.sl [.str,.str,.bool] (E.e162 l0_1))]] [] (.tup [.c (.str r1),.c (.bool r2)]) [] []:=by
 refine co_ Tryz.func99 tabOk [] fun F hF Q hQ => ?_
 simp only [impl_BatchText.f] at H
 (conv => cbv)
 repeat' first
  | replace H:=s_ H
  | (exfalso;with_reducible assumption)
  | (rw [itn_iff] at H;obtain ⟨hc,H⟩:=H)
  | (rw [itn2_iff] at H;obtain ⟨hc,H⟩:=H)
  | ((with_reducible refine br2 hF H ?_ ?_) <;> (clear H;intro hb H;(try (conv => cbv))))
  | (refine w_ hF ?_;(try (conv => cbv)))
  | ((with_reducible refine k1_ 179 H ?_);clear H;intro _ hy H;refine ca_ hF (impl_BatchOk.con E hE hy) ?_;(try (conv => cbv)))
  | ((with_reducible refine k2_ 180 H ?_);clear H;intro _ _ hy H;refine ca_ hF (impl_vars.con E hE hy) ?_;(try (conv => cbv)))
  | ((with_reducible refine k1_ 181 H ?_);clear H;intro _ hy H;refine ca_ hF (impl_short.con E hE hy) ?_;(try (conv => cbv)))
  | ((with_reducible refine k1_ 182 H ?_);clear H;intro _ hy H;refine ca_ hF (impl_flag.con E hE hy) ?_;(try (conv => cbv)))
  | ((with_reducible refine lo_ hF (fun n t => n≤k∧∃ x4 x22 x23 x24,t = At 43 [(4,.c (.str x4)),(22,.c (.sl [.str,.str,.bool] (E.e162 x22))),(23,.c (.int .i64 x23)),(24,.c (.int .i64 x24))] []∧impl_BatchText.l0 n x4 x22 x23 x24 = some (r1,r2)) ⟨[4,22,23,24],[],[],[]⟩ fun n0 t ht Q0 hN0 hX0 => ?_);obtain ⟨hl,_,_,_,_,rfl,H⟩:=ht;rcases n0 with _ | n0;cases H;simp only [impl_BatchText.l0] at H;(try (conv => cbv)))
  | ((with_reducible show Q0 _ _);first | exact nx_ hN0 | (refine xt_ hX0 ?_;(try (conv => cbv))))
  | ((with_reducible show Q _ _);exact en_ ⟨[2,3],[],[],[]⟩ 43 hQ)
  | contradiction
theorem impl_SumMore.con (E:En) (hE:E = E0) {k a0 a1 r} (H:impl_SumMore.f k a0 a1 = some (r)) :
  Cn 218 [.c (.int .u32 a0),.c (.str a1)] [] (.c (.int .u32 r)) [] []:=by
 refine co_ Tryz.func218 tabOk [] fun F hF Q hQ => ?_
 simp only [impl_SumMore.f] at H
 (conv => cbv)
 repeat' first
  | replace H:=s_ H
  | (exfalso;with_reducible assumption)
  | (rw [itn_iff] at H;obtain ⟨hc,H⟩:=H)
  | (rw [itn2_iff] at H;obtain ⟨hc,H⟩:=H)
  | ((with_reducible refine br2 hF H ?_ ?_) <;> (clear H;intro hb H;(try (conv => cbv))))
  | (refine w_ hF ?_;(try (conv => cbv)))
  | ((with_reducible refine lo_ hF (fun n t => n≤k∧∃ x0 x1 x5,t = At 33 [(0,.c (.int .u32 x0)),(1,.c (.str x1)),(5,.c (.int .i64 x5))] []∧impl_SumMore.l0 n x0 x1 x5 = some (r)) ⟨[0,1,5],[],[],[]⟩ fun n0 t ht Q0 hN0 hX0 => ?_);obtain ⟨hl,_,_,_,rfl,H⟩:=ht;rcases n0 with _ | n0;cases H;simp only [impl_SumMore.l0] at H;(try (conv => cbv)))
  | ((with_reducible show Q0 _ _);first | exact nx_ hN0 | (refine xt_ hX0 ?_;(try (conv => cbv))))
  | ((with_reducible refine lo_ hF (fun n t => n≤n0∧∃ x0 x1 x5 x6,t = At 33 [(0,.c (.int .u32 x0)),(1,.c (.str x1)),(5,.c (.int .i64 x5)),(6,.c (.int .i64 x6))] []∧impl_SumMore.l1 n x0 x1 x5 x6 = some (r)) ⟨[0,1,5,6],[],[],[]⟩ fun n1 t ht Q1 hN1 hX1 => ?_);obtain ⟨hl,_,_,_,_,rfl,H⟩:=ht;rcases n1 with _ | n1;cases H;simp only [impl_SumMore.l1] at H;(try (conv => cbv)))
  | ((with_reducible show Q1 _ _);first | exact nx_ hN1 | (refine xt_ hX1 ?_;(try (conv => cbv))))
  | ((with_reducible show Q _ _);exact en_ ⟨[4],[],[],[]⟩ 33 hQ)
  | contradiction
theorem impl_SumOf.con (E:En) (hE:E = E0) {k a0 r} (H:impl_SumOf.f k a0 = some (r)) :
  Cn 184 [.c (.str a0)] [] (.c (.int .u32 r)) [] []:=by
 refine co_ Tryz.func184 tabOk [] fun F hF Q hQ => ?_
 simp only [impl_SumOf.f] at H
 (conv => cbv)
 repeat' first
  | replace H:=s_ H
  | (exfalso;with_reducible assumption)
  | (rw [itn_iff] at H;obtain ⟨hc,H⟩:=H)
  | (rw [itn2_iff] at H;obtain ⟨hc,H⟩:=H)
  | ((with_reducible refine br2 hF H ?_ ?_) <;> (clear H;intro hb H;(try (conv => cbv))))
  | (refine w_ hF ?_;(try (conv => cbv)))
  | ((with_reducible refine k1_ 218 H ?_);clear H;intro _ hy H;refine ca_ hF (impl_SumMore.con E hE hy) ?_;(try (conv => cbv)))
  | ((with_reducible show Q _ _);exact en_ ⟨[2],[],[],[]⟩ 5 hQ)
  | contradiction
theorem impl_Frame.con (E:En) (hE:E = E0) {k a0 r1 r2} (H:impl_Frame.f k a0 = some (r1,r2)) :
  Cn 100 [.c (.str a0)] [] (.tup [.c (.str r1),.c (.bool r2)]) [] []:=by
 refine co_ Tryz.func100 tabOk [] fun F hF Q hQ => ?_
 simp only [impl_Frame.f] at H
 (conv => cbv)
 repeat' first
  | replace H:=s_ H
  | (exfalso;with_reducible assumption)
  | (rw [itn_iff] at H;obtain ⟨hc,H⟩:=H)
  | (rw [itn2_iff] at H;obtain ⟨hc,H⟩:=H)
  | ((with_reducible refine br2 hF H ?_ ?_) <;> (clear H;intro hb H;(try (conv => cbv))))
  | (refine w_ hF ?_;(try (conv => cbv)))
  | ((with_reducible refine k1_ 144 H ?_);clear H;intro _ hy H;refine ca_ hF (impl_within.con E hE hy) ?_;(try (conv => cbv)))
  | ((with_reducible refine k2_ 183 H ?_);clear H;intro _ _ hy H;refine ca_ hF (impl_VarText.con E hE hy) ?_;(try (conv => cbv)))
  | ((with_reducible refine k1_ 184 H ?_);clear H;intro _ hy H;refine ca_ hF (impl_SumOf.con E hE hy) ?_;(try (conv => cbv)))
  | ((with_reducible show Q _ _);exact en_ ⟨[2,3],[],[],[]⟩ 36 hQ)
  | contradiction
theorem impl_DiskOk.con (E:En) (hE:E = E0) {k l0_0 r} (H:impl_DiskOk.f k l0_0 = some (r)) :
  Cn 78 [.agg [.c (.sl [.str,.str] (E.e122 l0_0))]] [] (.c (.bool r)) [] []:=by
 refine co_ Tryz.func78 tabOk [] fun F hF Q hQ => ?_
 simp only [impl_DiskOk.f] at H
 (conv => cbv)
 repeat' first
  | replace H:=s_ H
  | (exfalso;with_reducible assumption)
  | (rw [itn_iff] at H;obtain ⟨hc,H⟩:=H)
  | (rw [itn2_iff] at H;obtain ⟨hc,H⟩:=H)
  | ((with_reducible refine br2 hF H ?_ ?_) <;> (clear H;intro hb H;(try (conv => cbv))))
  | (refine w_ hF ?_;(try (conv => cbv)))
  | ((with_reducible refine k1_ 144 H ?_);clear H;intro _ hy H;refine ca_ hF (impl_within.con E hE hy) ?_;(try (conv => cbv)))
  | ((with_reducible refine lo_ hF (fun n t => n≤k∧∃ x6 x7 x8 v0,t = At 45 [(1,.ptr 1 0),(6,.c (.sl [.str,.str] (E.e122 x6))),(7,.c (.int .i64 x7)),(8,.c (.int .i64 x8))] [(1,.box [.c (.sl [.str,.str] (E.e122 v0))])]∧impl_DiskOk.l0 n x6 x7 x8 v0 = some (r)) ⟨[1,6,7,8],[1],[],[]⟩ fun n0 t ht Q0 hN0 hX0 => ?_);obtain ⟨hl,_,_,_,_,rfl,H⟩:=ht;rcases n0 with _ | n0;cases H;simp only [impl_DiskOk.l0] at H;(try (conv => cbv)))
  | ((with_reducible show Q0 _ _);first | exact nx_ hN0 | (refine xt_ hX0 ?_;(try (conv => cbv))))
  | ((with_reducible show Q _ _);exact en_ ⟨[2],[],[],[]⟩ 45 hQ)
  | contradiction
theorem impl_fileNo_c1.con (E:En) (hE:E = E0) {a0_0 a0_1 a1 r} (H:impl_fileNo_c1.f a0_0 a0_1 a1 = some r) :
  Cn 201 [.agg [.c (.str a0_0),.c (.str a0_1)],.c (.str a1)] [] (.c (.int .i64 r)) [] []:=by
 refine co_ Tryz.func201 tabOkM [] fun F hF Q hQ => ?_
 simp only [impl_fileNo_c1.f] at H
 (conv => cbv)
 repeat' first
  | replace H:=s_ H
  | (exfalso;with_reducible assumption)
  | (rw [itn_iff] at H;obtain ⟨hc,H⟩:=H)
  | (rw [itn2_iff] at H;obtain ⟨hc,H⟩:=H)
  | ((with_reducible refine br2 hF H ?_ ?_) <;> (clear H;intro hb H;(try (conv => cbv))))
  | (refine w_ hF ?_;(try (conv => cbv)))
  | ((with_reducible refine k1_ 168 H ?_);clear H;intro _ hy H;refine ca_ hF (strings_Compare.con E hE hy) ?_;(try (conv => cbv)))
  | ((with_reducible show Q _ _);exact en_ ⟨[4],[],[],[]⟩ 9 hQ)
  | contradiction
end Go.Ev
