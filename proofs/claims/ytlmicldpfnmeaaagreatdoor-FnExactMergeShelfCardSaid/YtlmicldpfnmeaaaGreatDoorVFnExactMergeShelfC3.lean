/- Contracts of the Go functions that this law reaches: what each call returns, by its plain function. No conditions but those that each statement names. By this repo's programs; comments are taken out. -/
import Derived.Test.YtlmicldpfnmeaaaGreatDoorVFnExactMergeShelfD
import Derived.Test.YtlmicldpfnmeaaaGreatDoorVFnExactMergeShelfC0
import Derived.Test.YtlmicldpfnmeaaaGreatDoorVFnExactMergeShelfC1
import Derived.Test.YtlmicldpfnmeaaaGreatDoorVFnExactMergeShelfC2
set_option linter.all false
namespace Go.Ev
open Go.RowKit Go.Proofs Go.Proofs.YtlmicldpfnmeaaaGreatDoorW.PrintWords Go.Proofs.YtlmicldpfnmeaaaGreatDoorW.PrintLast Go.Proofs.YtlmicldpfnmeaaaGreatDoorW.PrintMore
set_option maxRecDepth 100000
set_option maxHeartbeats 4000000
theorem spec_l09Load.j0_s {k:Nat} {x39:Bool} {x795000:List S122} {x810000:List Int} {x810001:Int} {x810002:Int} {x810003:Int} {x810004:List Int} {r:_} (h:spec_l09Load.j0 k x39 x795000 x810000 x810001 x810002 x810003 x810004 = some r):∃ m,k = m + 1∧spec_l09Load.j0 (m + 1) x39 x795000 x810000 x810001 x810002 x810003 x810004 = some r:=by
 cases k with
 | zero => simp [spec_l09Load.j0] at h
 | succ m => exact ⟨m,rfl,h⟩
theorem spec_l09Load.j4_s {k:Nat} {x11:Int} {x12:Int} {x14:List S145} {x16:Int} {x117:Bool} {x795000:List S122} {x810000:List Int} {x810001:Int} {x810002:Int} {x810003:Int} {x810004:List Int} {x811000:List Int} {x811001:Int} {x811002:Int} {x811003:Int} {x811004:List Int} {x811005:List S145} {x811006:Int} {r:_} (h:spec_l09Load.j4 k x11 x12 x14 x16 x117 x795000 x810000 x810001 x810002 x810003 x810004 x811000 x811001 x811002 x811003 x811004 x811005 x811006 = some r):∃ m,k = m + 1∧spec_l09Load.j4 (m + 1) x11 x12 x14 x16 x117 x795000 x810000 x810001 x810002 x810003 x810004 x811000 x811001 x811002 x811003 x811004 x811005 x811006 = some r:=by
 cases k with
 | zero => simp [spec_l09Load.j4] at h
 | succ m => exact ⟨m,rfl,h⟩
theorem spec_l09Load.j0_i {k:Nat} {x39:Bool} {x795000:List S122} {x810000:List Int} {x810001:Int} {x810002:Int} {x810003:Int} {x810004:List Int} {r:_}:(spec_l09Load.j0 k x39 x795000 x810000 x810001 x810002 x810003 x810004 = some r) = (∃ m,k = m + 1∧spec_l09Load.j0 (m + 1) x39 x795000 x810000 x810001 x810002 x810003 x810004 = some r):=propext ⟨spec_l09Load.j0_s,fun ⟨m,h,h2⟩ => by rw [h];exact h2⟩
theorem spec_l09Load.j4_i {k:Nat} {x11:Int} {x12:Int} {x14:List S145} {x16:Int} {x117:Bool} {x795000:List S122} {x810000:List Int} {x810001:Int} {x810002:Int} {x810003:Int} {x810004:List Int} {x811000:List Int} {x811001:Int} {x811002:Int} {x811003:Int} {x811004:List Int} {x811005:List S145} {x811006:Int} {r:_}:(spec_l09Load.j4 k x11 x12 x14 x16 x117 x795000 x810000 x810001 x810002 x810003 x810004 x811000 x811001 x811002 x811003 x811004 x811005 x811006 = some r) = (∃ m,k = m + 1∧spec_l09Load.j4 (m + 1) x11 x12 x14 x16 x117 x795000 x810000 x810001 x810002 x810003 x810004 x811000 x811001 x811002 x811003 x811004 x811005 x811006 = some r):=propext ⟨spec_l09Load.j4_s,fun ⟨m,h,h2⟩ => by rw [h];exact h2⟩
theorem spec_l09Load.con (E:En) (hE:E = E0) {k l0_0 r1 r2 r3 r4 r5 r6 r7 r8 r9} (H:spec_l09Load.f k l0_0 = some (r1,r2,r3,r4,r5,r6,r7,r8,r9)) :
  Cn 74 [.agg [.c (.sl [.str,.str] (E.e122 l0_0))]] [] (.tup [.agg [.own 0,.c (.int .i64 r2),.c (.int .i64 r3),.c (.int .i64 r4),.own 1,.own 2,.c (.int .i64 r7)],.c (.int .i64 r8),.c (.int .i64 r9)]) [.row false 3 [.int .i64] (E.eI .i64 r1),.row false 3 [.int .i64] (E.eI .i64 r5),.row false 145 [.str,.int .i64,.int .i64,.int .i64] (E.e145 r6)] []:=by
 refine co_ Tryz.func74 tabOk [400040,400044,400045] fun F hF Q hQ => ?_
 simp only [spec_l09Load.f] at H
 (conv => cbv)
 repeat' first
  | (rw [spec_l09Load.j0_i] at H;obtain ⟨m,hm,H⟩:=H;simp only [spec_l09Load.j0] at H;(try simp only [decide_eq_true_eq,Bool.false_eq_true,if_false,if_true] at H))
  | (rw [spec_l09Load.j4_i] at H;obtain ⟨m,hm,H⟩:=H;simp only [spec_l09Load.j4] at H;(try simp only [decide_eq_true_eq,Bool.false_eq_true,if_false,if_true] at H))
  | replace H:=s_ H
  | (exfalso;with_reducible assumption)
  | (rw [itn_iff] at H;obtain ⟨hc,H⟩:=H)
  | (rw [itn2_iff] at H;obtain ⟨hc,H⟩:=H)
  | ((with_reducible refine br2 hF H ?_ ?_) <;> (clear H;intro hb H;(try (conv => cbv))))
  | (refine w_ hF ?_;(try (conv => cbv)))
  | ((with_reducible refine k1_ 60 H ?_);clear H;intro _ hy H;refine ca_ hF (spec_l03Text.con E hE hy) ?_;(try (conv => cbv)))
  | ((with_reducible refine k1_ 61 H ?_);clear H;intro _ hy H;refine ca_ hF (spec_SegName.con E hE hy) ?_;(try (conv => cbv)))
  | ((with_reducible refine k2_ 63 H ?_);clear H;intro _ _ hy H;refine ca_ hF (spec_Frame.con E hE hy) ?_;(try (conv => cbv)))
  | ((with_reducible refine k1_ 75 H ?_);clear H;intro _ hy H;refine ca_ hF (spec_l03At.con E hE hy) ?_;(try (conv => cbv)))
  | ((with_reducible refine k1_ 95 H ?_);clear H;intro _ hy H;refine ca_ hF (spec_DiskOk.con E hE hy) ?_;(try (conv => cbv)))
  | ((with_reducible refine k1_ 96 H ?_);clear H;intro _ hy H;refine ca_ hF (spec_DirOk.con E hE hy) ?_;(try (conv => cbv)))
  | ((with_reducible refine k2_ 150 H ?_);clear H;intro _ _ hy H;refine ca_ hF (spec_FileAt.con E hE hy) ?_;(try (conv => cbv)))
  | ((with_reducible refine k6_ 151 H ?_);clear H;intro _ _ _ _ _ _ hy H;refine ca_ hF (spec_ReadManifest.con E hE hy) ?_;(try (conv => cbv)))
  | ((with_reducible refine k3_ 152 H ?_);clear H;intro _ _ _ hy H;refine ca_ hF (spec_ScanSeg.con E hE hy) ?_;(try (conv => cbv)))
  | ((with_reducible refine k1_ 153 H ?_);clear H;intro _ hy H;refine ca_ hF (spec_l08More.con E hE hy) ?_;(try (conv => cbv)))
  | ((with_reducible refine lo_ hF (fun n t => n≤k∧∃ x10 v0 v1 v2 v3 v4 v5 v6 v7 v8 v9,t = At 137 [(1,.ptr 1 0),(2,.ptr 2 0),(7,.ptr 7 0),(9,.ptr 9 0),(10,.c (.int .i64 x10))] [(1,.box [.c (.sl [.str,.str] (E.e122 v0))]),(2,.box [.own 400040,.c (.int .i64 0),.c (.int .i64 0),.c (.int .i64 0),.own 400044,.own 400045,.c (.int .i64 0)]),(7,.box [.own 400180,.c (.int .i64 v1),.c (.int .i64 v2),.c (.int .i64 v3),.own 400184]),(9,.box [.own 400180,.c (.int .i64 v5),.c (.int .i64 v6),.c (.int .i64 v7),.own 400184,.own 400185,.c (.int .i64 v9)]),(400040,.row false 3 [.int .i64] []),(400044,.row false 3 [.int .i64] []),(400045,.row false 145 [.str,.int .i64,.int .i64,.int .i64] []),(400180,.row false 3 [.int .i64] (E.eI .i64 v4)),(400184,.row false 3 [.int .i64] (E.eI .i64 v8)),(400185,.row false 145 [.str,.int .i64,.int .i64,.int .i64] [])]∧spec_l09Load.l0 n x10 v0 v4 v1 v2 v3 v8 v4 v5 v6 v7 v8 v9 = some (r1,r2,r3,r4,r5,r6,r7,r8,r9)) ⟨[1,2,7,9,10],[1,2,7,9],[],[(2,0,3),(2,4,3),(2,5,145),(9,0,3),(9,4,3),(9,5,145)]⟩ fun n0 t ht Q0 hN0 hX0 => ?_);obtain ⟨hl,_,_,_,_,_,_,_,_,_,_,_,rfl,H⟩:=ht;rcases n0 with _ | n0;cases H;simp only [spec_l09Load.l0] at H;(try (conv => cbv)))
  | ((with_reducible show Q0 _ _);first | exact nx_ hN0 | (refine xt_ hX0 ?_;(try (conv => cbv))))
  | ((with_reducible refine lo_ hF (fun n t => n≤k∧∃ x11 x12 v0 v1 v2 v3 v4 v5 v6 v7 v8 v9 v10,t = At 137 [(1,.ptr 1 0),(2,.ptr 2 0),(7,.ptr 7 0),(9,.ptr 9 0),(11,.c (.int .i64 x11)),(12,.c (.int .i64 x12))] [(1,.box [.c (.sl [.str,.str] (E.e122 v0))]),(2,.box [.own 400040,.c (.int .i64 0),.c (.int .i64 0),.c (.int .i64 0),.own 400044,.own 400045,.c (.int .i64 0)]),(7,.box [.own 400180,.c (.int .i64 v1),.c (.int .i64 v2),.c (.int .i64 v3),.own 400184]),(9,.box [.own 400180,.c (.int .i64 v5),.c (.int .i64 v6),.c (.int .i64 v7),.own 400184,.own 400185,.c (.int .i64 v10)]),(400040,.row false 3 [.int .i64] []),(400044,.row false 3 [.int .i64] []),(400045,.row false 145 [.str,.int .i64,.int .i64,.int .i64] []),(400180,.row false 3 [.int .i64] (E.eI .i64 v4)),(400184,.row false 3 [.int .i64] (E.eI .i64 v8)),(400185,.row false 145 [.str,.int .i64,.int .i64,.int .i64] (E.e145 v9))]∧spec_l09Load.l1 n x11 x12 v0 v4 v1 v2 v3 v8 v4 v5 v6 v7 v8 v9 v10 = some (r1,r2,r3,r4,r5,r6,r7,r8,r9)) ⟨[1,2,7,9,11,12],[1,2,7,9],[],[(2,0,3),(2,4,3),(2,5,145),(9,0,3),(9,4,3),(9,5,145)]⟩ fun n1 t ht Q1 hN1 hX1 => ?_);obtain ⟨hl,_,_,_,_,_,_,_,_,_,_,_,_,_,rfl,H⟩:=ht;rcases n1 with _ | n1;cases H;simp only [spec_l09Load.l1] at H;(try (conv => cbv)))
  | ((with_reducible show Q1 _ _);first | exact nx_ hN1 | (refine xt_ hX1 ?_;(try (conv => cbv))))
  | ((with_reducible refine lo_ hF (fun n t => n≤n1∧∃ x11 x12 x13 x14 x15 x16 x17 v0 v1 v2 v3 v4 v5 v6 v7 v8 v9 v10,t = At 137 [(1,.ptr 1 0),(2,.ptr 2 0),(7,.ptr 7 0),(9,.ptr 9 0),(11,.c (.int .i64 x11)),(12,.c (.int .i64 x12)),(13,.c (.str x13)),(14,.c (.sl [.str,.int .i64,.int .i64,.int .i64] (E.e145 x14))),(15,.c (.sl [.str] (E.eS x15))),(16,.c (.int .i64 x16)),(17,.c (.int .i64 x17))] [(1,.box [.c (.sl [.str,.str] (E.e122 v0))]),(2,.box [.own 400040,.c (.int .i64 0),.c (.int .i64 0),.c (.int .i64 0),.own 400044,.own 400045,.c (.int .i64 0)]),(7,.box [.own 400180,.c (.int .i64 v1),.c (.int .i64 v2),.c (.int .i64 v3),.own 400184]),(9,.box [.own 400180,.c (.int .i64 v5),.c (.int .i64 v6),.c (.int .i64 v7),.own 400184,.own 400185,.c (.int .i64 v10)]),(400040,.row false 3 [.int .i64] []),(400044,.row false 3 [.int .i64] []),(400045,.row false 145 [.str,.int .i64,.int .i64,.int .i64] []),(400180,.row false 3 [.int .i64] (E.eI .i64 v4)),(400184,.row false 3 [.int .i64] (E.eI .i64 v8)),(400185,.row false 145 [.str,.int .i64,.int .i64,.int .i64] (E.e145 v9))]∧spec_l09Load.l2 n x11 x12 x13 x14 x15 x16 x17 v0 v4 v1 v2 v3 v8 v4 v5 v6 v7 v8 v9 v10 = some (r1,r2,r3,r4,r5,r6,r7,r8,r9)) ⟨[1,2,7,9,11,12,13,14,15,16,17],[1,2,7,9],[],[(2,0,3),(2,4,3),(2,5,145),(9,0,3),(9,4,3),(9,5,145)]⟩ fun n2 t ht Q2 hN2 hX2 => ?_);obtain ⟨hl,_,_,_,_,_,_,_,_,_,_,_,_,_,_,_,_,_,_,rfl,H⟩:=ht;rcases n2 with _ | n2;cases H;simp only [spec_l09Load.l2] at H;(try (conv => cbv)))
  | ((with_reducible show Q2 _ _);first | exact nx_ hN2 | (refine xt_ hX2 ?_;(try (conv => cbv))))
  | ((with_reducible show Q _ _);exact en_ ⟨[2,3,4],[2],[],[(2,0,3),(2,4,3),(2,5,145)]⟩ 137 hQ)
  | contradiction
theorem spec_ReadDecimal.con (E:En) (hE:E = E0) {k a0 r1 r2} (H:spec_ReadDecimal.f k a0 = some (r1,r2)) :
  Cn 154 [.c (.str a0)] [] (.tup [.c (.int .i64 r1),.c (.bool r2)]) [] []:=by
 refine co_ Tryz.func154 tabOk [] fun F hF Q hQ => ?_
 simp only [spec_ReadDecimal.f] at H
 (conv => cbv)
 repeat' first
  | replace H:=s_ H
  | (exfalso;with_reducible assumption)
  | (rw [itn_iff] at H;obtain ⟨hc,H⟩:=H)
  | (rw [itn2_iff] at H;obtain ⟨hc,H⟩:=H)
  | ((with_reducible refine br2 hF H ?_ ?_) <;> (clear H;intro hb H;(try (conv => cbv))))
  | (refine w_ hF ?_;(try (conv => cbv)))
  | ((with_reducible refine k1_ 132 H ?_);clear H;intro _ hy H;refine ca_ hF (spec_Decimal.con E hE hy) ?_;(try (conv => cbv)))
  | ((with_reducible refine lo_ hF (fun n t => n≤k∧∃ x0 x4 x5,t = At 42 [(0,.c (.str x0)),(4,.c (.int .i64 x4)),(5,.c (.int .i64 x5))] []∧spec_ReadDecimal.l0 n x0 x4 x5 = some (r1,r2)) ⟨[0,4,5],[],[],[]⟩ fun n0 t ht Q0 hN0 hX0 => ?_);obtain ⟨hl,_,_,_,rfl,H⟩:=ht;rcases n0 with _ | n0;cases H;simp only [spec_ReadDecimal.l0] at H;(try (conv => cbv)))
  | ((with_reducible show Q0 _ _);first | exact nx_ hN0 | (refine xt_ hX0 ?_;(try (conv => cbv))))
  | ((with_reducible show Q _ _);exact en_ ⟨[2,3],[],[],[]⟩ 42 hQ)
  | contradiction
theorem spec_l09Seg.con (E:En) (hE:E = E0) {k a0 r} (H:spec_l09Seg.f k a0 = some (r)) :
  Cn 76 [.c (.str a0)] [] (.c (.int .i64 r)) [] []:=by
 refine co_ Tryz.func76 tabOk [] fun F hF Q hQ => ?_
 simp only [spec_l09Seg.f] at H
 (conv => cbv)
 repeat' first
  | replace H:=s_ H
  | (exfalso;with_reducible assumption)
  | (rw [itn_iff] at H;obtain ⟨hc,H⟩:=H)
  | (rw [itn2_iff] at H;obtain ⟨hc,H⟩:=H)
  | ((with_reducible refine br2 hF H ?_ ?_) <;> (clear H;intro hb H;(try (conv => cbv))))
  | (refine w_ hF ?_;(try (conv => cbv)))
  | ((with_reducible refine k1_ 61 H ?_);clear H;intro _ hy H;refine ca_ hF (spec_SegName.con E hE hy) ?_;(try (conv => cbv)))
  | ((with_reducible refine k2_ 154 H ?_);clear H;intro _ _ hy H;refine ca_ hF (spec_ReadDecimal.con E hE hy) ?_;(try (conv => cbv)))
  | ((with_reducible show Q _ _);exact en_ ⟨[2],[],[],[]⟩ 23 hQ)
  | contradiction
theorem spec_l09In.con (E:En) (hE:E = E0) {k l0 a1 r} (H:spec_l09In.f k l0 a1 = some (r)) :
  Cn 77 [.c (.sl [.int .i64] (E.eI .i64 l0)),.c (.int .i64 a1)] [] (.c (.bool r)) [] []:=by
 refine co_ Tryz.func77 tabOk [] fun F hF Q hQ => ?_
 simp only [spec_l09In.f] at H
 (conv => cbv)
 repeat' first
  | replace H:=s_ H
  | (exfalso;with_reducible assumption)
  | (rw [itn_iff] at H;obtain ⟨hc,H⟩:=H)
  | (rw [itn2_iff] at H;obtain ⟨hc,H⟩:=H)
  | ((with_reducible refine br2 hF H ?_ ?_) <;> (clear H;intro hb H;(try (conv => cbv))))
  | (refine w_ hF ?_;(try (conv => cbv)))
  | ((with_reducible refine lo_ hF (fun n t => n≤k∧∃ x0 x1 x5,t = At 18 [(0,.c (.sl [.int .i64] (E.eI .i64 x0))),(1,.c (.int .i64 x1)),(5,.c (.int .i64 x5))] []∧spec_l09In.l0 n x0 x1 x5 = some (r)) ⟨[0,1,5],[],[],[]⟩ fun n0 t ht Q0 hN0 hX0 => ?_);obtain ⟨hl,_,_,_,rfl,H⟩:=ht;rcases n0 with _ | n0;cases H;simp only [spec_l09In.l0] at H;(try (conv => cbv)))
  | ((with_reducible show Q0 _ _);first | exact nx_ hN0 | (refine xt_ hX0 ?_;(try (conv => cbv))))
  | ((with_reducible show Q _ _);exact en_ ⟨[4],[],[],[]⟩ 18 hQ)
  | contradiction
theorem spec_OpenShelf.j0_s {k:Nat} {x6:Int} {x8:List S119} {x838000:List S122} {x855000:List Int} {x855001:Int} {x855002:Int} {x855003:Int} {x855004:List Int} {x855005:List S145} {x855006:Int} {r:_} (h:spec_OpenShelf.j0 k x6 x8 x838000 x855000 x855001 x855002 x855003 x855004 x855005 x855006 = some r):∃ m,k = m + 1∧spec_OpenShelf.j0 (m + 1) x6 x8 x838000 x855000 x855001 x855002 x855003 x855004 x855005 x855006 = some r:=by
 cases k with
 | zero => simp [spec_OpenShelf.j0] at h
 | succ m => exact ⟨m,rfl,h⟩
theorem spec_OpenShelf.j0_i {k:Nat} {x6:Int} {x8:List S119} {x838000:List S122} {x855000:List Int} {x855001:Int} {x855002:Int} {x855003:Int} {x855004:List Int} {x855005:List S145} {x855006:Int} {r:_}:(spec_OpenShelf.j0 k x6 x8 x838000 x855000 x855001 x855002 x855003 x855004 x855005 x855006 = some r) = (∃ m,k = m + 1∧spec_OpenShelf.j0 (m + 1) x6 x8 x838000 x855000 x855001 x855002 x855003 x855004 x855005 x855006 = some r):=propext ⟨spec_OpenShelf.j0_s,fun ⟨m,h,h2⟩ => by rw [h];exact h2⟩
theorem spec_OpenShelf.con (E:En) (hE:E = E0) {k l0_0 r1 r2 r3 r4 r5 r6 r7 r8 r9} (H:spec_OpenShelf.f k l0_0 = some (r1,r2,r3,r4,r5,r6,r7,r8,r9)) :
  Cn 20 [.agg [.c (.sl [.str,.str] (E.e122 l0_0))]] [] (.tup [.agg [.own 0,.c (.int .i64 r2),.c (.int .i64 r3),.c (.int .i64 r4),.own 1,.own 2,.c (.int .i64 r7)],.own 3,.c (.int .i64 r9)]) [.row false 3 [.int .i64] (E.eI .i64 r1),.row false 3 [.int .i64] (E.eI .i64 r5),.row false 145 [.str,.int .i64,.int .i64,.int .i64] (E.e145 r6),.row false 119 [.int .i64,.str,.str,.str] (E.e119 r8)] []:=by
 refine co_ Tryz.func20 tabOk [400040,400044,400045,20003] fun F hF Q hQ => ?_
 simp only [spec_OpenShelf.f] at H
 (conv => cbv)
 repeat' first
  | (rw [spec_OpenShelf.j0_i] at H;obtain ⟨m,hm,H⟩:=H;simp only [spec_OpenShelf.j0] at H;(try simp only [decide_eq_true_eq,Bool.false_eq_true,if_false,if_true] at H))
  | replace H:=s_ H
  | (exfalso;with_reducible assumption)
  | (rw [itn_iff] at H;obtain ⟨hc,H⟩:=H)
  | (rw [itn2_iff] at H;obtain ⟨hc,H⟩:=H)
  | ((with_reducible refine br2 hF H ?_ ?_) <;> (clear H;intro hb H;(try (conv => cbv))))
  | (refine w_ hF ?_;(try (conv => cbv)))
  | ((with_reducible refine k1_ 60 H ?_);clear H;intro _ hy H;refine ca_ hF (spec_l03Text.con E hE hy) ?_;(try (conv => cbv)))
  | ((with_reducible refine k1_ 61 H ?_);clear H;intro _ hy H;refine ca_ hF (spec_SegName.con E hE hy) ?_;(try (conv => cbv)))
  | ((with_reducible refine k9_ 74 H ?_);clear H;intro _ _ _ _ _ _ _ _ _ hy H;refine ca_ hF (spec_l09Load.con E hE hy) ?_;(try (conv => cbv)))
  | ((with_reducible refine k1_ 75 H ?_);clear H;intro _ hy H;refine ca_ hF (spec_l03At.con E hE hy) ?_;(try (conv => cbv)))
  | ((with_reducible refine k1_ 76 H ?_);clear H;intro _ hy H;refine ca_ hF (spec_l09Seg.con E hE hy) ?_;(try (conv => cbv)))
  | ((with_reducible refine k1_ 77 H ?_);clear H;intro _ hy H;refine ca_ hF (spec_l09In.con E hE hy) ?_;(try (conv => cbv)))
  | ((with_reducible refine lo_ hF (fun n t => n≤k∧∃ x6 x8 x9 v0 v1 v2 v3 v4 v5 v6 v7,t = At 94 [(1,.ptr 1 0),(2,.ptr 2 0),(5,.ptr 5 0),(6,.c (.int .i64 x6)),(8,.own 20008),(9,.c (.int .i64 x9))] [(1,.box [.c (.sl [.str,.str] (E.e122 v0))]),(2,.box [.own 400040,.c (.int .i64 0),.c (.int .i64 0),.c (.int .i64 0),.own 400044,.own 400045,.c (.int .i64 0)]),(5,.box [.own 400100,.c (.int .i64 v2),.c (.int .i64 v3),.c (.int .i64 v4),.own 400104,.own 400105,.c (.int .i64 v7)]),(20008,.row false 119 [.int .i64,.str,.str,.str] (E.e119 x8)),(400040,.row false 3 [.int .i64] []),(400044,.row false 3 [.int .i64] []),(400045,.row false 145 [.str,.int .i64,.int .i64,.int .i64] []),(400100,.row false 3 [.int .i64] (E.eI .i64 v1)),(400104,.row false 3 [.int .i64] (E.eI .i64 v5)),(400105,.row false 145 [.str,.int .i64,.int .i64,.int .i64] (E.e145 v6))]∧spec_OpenShelf.l0 n x6 x8 x9 v0 v1 v2 v3 v4 v5 v6 v7 = some (r1,r2,r3,r4,r5,r6,r7,r8,r9)) ⟨[1,2,5,6,8,9],[1,2,5],[(8,119)],[(2,0,3),(2,4,3),(2,5,145),(5,0,3),(5,4,3),(5,5,145)]⟩ fun n0 t ht Q0 hN0 hX0 => ?_);obtain ⟨hl,_,_,_,_,_,_,_,_,_,_,_,rfl,H⟩:=ht;rcases n0 with _ | n0;cases H;simp only [spec_OpenShelf.l0] at H;(try (conv => cbv)))
  | ((with_reducible show Q0 _ _);first | exact nx_ hN0 | (refine xt_ hX0 ?_;(try (conv => cbv))))
  | ((with_reducible show Q _ _);exact en_ ⟨[2,3,4],[2],[(3,119)],[(2,0,3),(2,4,3),(2,5,145)]⟩ 94 hQ)
  | contradiction
theorem spec_l09SameInts.con (E:En) (hE:E = E0) {k l0 l1 r} (H:spec_l09SameInts.f k l0 l1 = some (r)) :
  Cn 129 [.c (.sl [.int .i64] (E.eI .i64 l0)),.c (.sl [.int .i64] (E.eI .i64 l1))] [] (.c (.bool r)) [] []:=by
 refine co_ Tryz.func129 tabOk [] fun F hF Q hQ => ?_
 simp only [spec_l09SameInts.f] at H
 (conv => cbv)
 repeat' first
  | replace H:=s_ H
  | (exfalso;with_reducible assumption)
  | (rw [itn_iff] at H;obtain ⟨hc,H⟩:=H)
  | (rw [itn2_iff] at H;obtain ⟨hc,H⟩:=H)
  | ((with_reducible refine br2 hF H ?_ ?_) <;> (clear H;intro hb H;(try (conv => cbv))))
  | (refine w_ hF ?_;(try (conv => cbv)))
  | ((with_reducible refine lo_ hF (fun n t => n≤k∧∃ x0 x1 x5,t = At 26 [(0,.c (.sl [.int .i64] (E.eI .i64 x0))),(1,.c (.sl [.int .i64] (E.eI .i64 x1))),(5,.c (.int .i64 x5))] []∧spec_l09SameInts.l0 n x0 x1 x5 = some (r)) ⟨[0,1,5],[],[],[]⟩ fun n0 t ht Q0 hN0 hX0 => ?_);obtain ⟨hl,_,_,_,rfl,H⟩:=ht;rcases n0 with _ | n0;cases H;simp only [spec_l09SameInts.l0] at H;(try (conv => cbv)))
  | ((with_reducible show Q0 _ _);first | exact nx_ hN0 | (refine xt_ hX0 ?_;(try (conv => cbv))))
  | ((with_reducible show Q _ _);exact en_ ⟨[4],[],[],[]⟩ 26 hQ)
  | contradiction
theorem spec_l09Same.j0_s {k:Nat} {x66:Bool} {x878000:List Int} {x878001:Int} {x878002:Int} {x878003:Int} {x878004:List Int} {x878005:List S145} {x878006:Int} {x879000:List Int} {x879001:Int} {x879002:Int} {x879003:Int} {x879004:List Int} {x879005:List S145} {x879006:Int} {r:_} (h:spec_l09Same.j0 k x66 x878000 x878001 x878002 x878003 x878004 x878005 x878006 x879000 x879001 x879002 x879003 x879004 x879005 x879006 = some r):∃ m,k = m + 1∧spec_l09Same.j0 (m + 1) x66 x878000 x878001 x878002 x878003 x878004 x878005 x878006 x879000 x879001 x879002 x879003 x879004 x879005 x879006 = some r:=by
 cases k with
 | zero => simp [spec_l09Same.j0] at h
 | succ m => exact ⟨m,rfl,h⟩
theorem spec_l09Same.j0_i {k:Nat} {x66:Bool} {x878000:List Int} {x878001:Int} {x878002:Int} {x878003:Int} {x878004:List Int} {x878005:List S145} {x878006:Int} {x879000:List Int} {x879001:Int} {x879002:Int} {x879003:Int} {x879004:List Int} {x879005:List S145} {x879006:Int} {r:_}:(spec_l09Same.j0 k x66 x878000 x878001 x878002 x878003 x878004 x878005 x878006 x879000 x879001 x879002 x879003 x879004 x879005 x879006 = some r) = (∃ m,k = m + 1∧spec_l09Same.j0 (m + 1) x66 x878000 x878001 x878002 x878003 x878004 x878005 x878006 x879000 x879001 x879002 x879003 x879004 x879005 x879006 = some r):=propext ⟨spec_l09Same.j0_s,fun ⟨m,h,h2⟩ => by rw [h];exact h2⟩
theorem spec_l09Same.con (E:En) (hE:E = E0) {k l0_0 a0_1 a0_2 a0_3 l0_4 l0_5 a0_6 l1_0 a1_1 a1_2 a1_3 l1_4 l1_5 a1_6 r} (H:spec_l09Same.f k l0_0 a0_1 a0_2 a0_3 l0_4 l0_5 a0_6 l1_0 a1_1 a1_2 a1_3 l1_4 l1_5 a1_6 = some (r)) :
  Cn 58 [.agg [.c (.sl [.int .i64] (E.eI .i64 l0_0)),.c (.int .i64 a0_1),.c (.int .i64 a0_2),.c (.int .i64 a0_3),.c (.sl [.int .i64] (E.eI .i64 l0_4)),.c (.sl [.str,.int .i64,.int .i64,.int .i64] (E.e145 l0_5)),.c (.int .i64 a0_6)],.agg [.c (.sl [.int .i64] (E.eI .i64 l1_0)),.c (.int .i64 a1_1),.c (.int .i64 a1_2),.c (.int .i64 a1_3),.c (.sl [.int .i64] (E.eI .i64 l1_4)),.c (.sl [.str,.int .i64,.int .i64,.int .i64] (E.e145 l1_5)),.c (.int .i64 a1_6)]] [] (.c (.bool r)) [] []:=by
 refine co_ Tryz.func58 tabOk [] fun F hF Q hQ => ?_
 simp only [spec_l09Same.f] at H
 (conv => cbv)
 repeat' first
  | (rw [spec_l09Same.j0_i] at H;obtain ⟨m,hm,H⟩:=H;simp only [spec_l09Same.j0] at H;(try simp only [decide_eq_true_eq,Bool.false_eq_true,if_false,if_true] at H))
  | replace H:=s_ H
  | (exfalso;with_reducible assumption)
  | (rw [itn_iff] at H;obtain ⟨hc,H⟩:=H)
  | (rw [itn2_iff] at H;obtain ⟨hc,H⟩:=H)
  | ((with_reducible refine br2 hF H ?_ ?_) <;> (clear H;intro hb H;(try (conv => cbv))))
  | (refine w_ hF ?_;(try (conv => cbv)))
  | ((with_reducible refine k1_ 129 H ?_);clear H;intro _ hy H;refine ca_ hF (spec_l09SameInts.con E hE hy) ?_;(try (conv => cbv)))
  | ((with_reducible refine lo_ hF (fun n t => n≤k∧∃ x5 v0 v1 v2 v3 v4 v5 v6 v7 v8 v9 v10 v11 v12 v13,t = At 85 [(2,.ptr 2 0),(3,.ptr 3 0),(5,.c (.int .i64 x5))] [(2,.box [.c (.sl [.int .i64] (E.eI .i64 v0)),.c (.int .i64 v1),.c (.int .i64 v2),.c (.int .i64 v3),.c (.sl [.int .i64] (E.eI .i64 v4)),.c (.sl [.str,.int .i64,.int .i64,.int .i64] (E.e145 v5)),.c (.int .i64 v6)]),(3,.box [.c (.sl [.int .i64] (E.eI .i64 v7)),.c (.int .i64 v8),.c (.int .i64 v9),.c (.int .i64 v10),.c (.sl [.int .i64] (E.eI .i64 v11)),.c (.sl [.str,.int .i64,.int .i64,.int .i64] (E.e145 v12)),.c (.int .i64 v13)])]∧spec_l09Same.l0 n x5 v0 v1 v2 v3 v4 v5 v6 v7 v8 v9 v10 v11 v12 v13 = some (r)) ⟨[2,3,5],[2,3],[],[]⟩ fun n0 t ht Q0 hN0 hX0 => ?_);obtain ⟨hl,_,_,_,_,_,_,_,_,_,_,_,_,_,_,_,rfl,H⟩:=ht;rcases n0 with _ | n0;cases H;simp only [spec_l09Same.l0] at H;(try (conv => cbv)))
  | ((with_reducible show Q0 _ _);first | exact nx_ hN0 | (refine xt_ hX0 ?_;(try (conv => cbv))))
  | ((with_reducible show Q _ _);exact en_ ⟨[4],[],[],[]⟩ 85 hQ)
  | contradiction
end Go.Ev
