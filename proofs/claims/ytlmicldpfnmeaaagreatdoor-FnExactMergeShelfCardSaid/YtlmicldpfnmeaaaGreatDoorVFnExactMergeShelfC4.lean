/- Contracts of the Go functions that this law reaches: what each call returns, by its plain function. No conditions but those that each statement names. By this repo's programs; comments are taken out. -/
import Derived.Test.YtlmicldpfnmeaaaGreatDoorVFnExactMergeShelfD
import Derived.Test.YtlmicldpfnmeaaaGreatDoorVFnExactMergeShelfC0
import Derived.Test.YtlmicldpfnmeaaaGreatDoorVFnExactMergeShelfC1
import Derived.Test.YtlmicldpfnmeaaaGreatDoorVFnExactMergeShelfC2
import Derived.Test.YtlmicldpfnmeaaaGreatDoorVFnExactMergeShelfC3
set_option linter.all false
namespace Go.Ev
open Go.RowKit Go.Proofs Go.Proofs.YtlmicldpfnmeaaaGreatDoorW.PrintWords Go.Proofs.YtlmicldpfnmeaaaGreatDoorW.PrintLast Go.Proofs.YtlmicldpfnmeaaaGreatDoorW.PrintMore
set_option maxRecDepth 100000
set_option maxHeartbeats 4000000
theorem spec_l09Clean.con (E:En) (hE:E = E0) {k l0_0 l1_0 a1_1 a1_2 a1_3 l1_4 l1_5 a1_6 r} (H:spec_l09Clean.f k l0_0 l1_0 a1_1 a1_2 a1_3 l1_4 l1_5 a1_6 = some (r)) :
  Cn 102 [.agg [.c (.sl [.str,.str] (E.e122 l0_0))],.agg [.c (.sl [.int .i64] (E.eI .i64 l1_0)),.c (.int .i64 a1_1),.c (.int .i64 a1_2),.c (.int .i64 a1_3),.c (.sl [.int .i64] (E.eI .i64 l1_4)),.c (.sl [.str,.int .i64,.int .i64,.int .i64] (E.e145 l1_5)),.c (.int .i64 a1_6)]] [] (.c (.bool r)) [] []:=by
 refine co_ Tryz.func102 tabOk [] fun F hF Q hQ => ?_
 simp only [spec_l09Clean.f] at H
 (conv => cbv)
 repeat' first
  | replace H:=s_ H
  | (exfalso;with_reducible assumption)
  | (rw [itn_iff] at H;obtain ⟨hc,H⟩:=H)
  | (rw [itn2_iff] at H;obtain ⟨hc,H⟩:=H)
  | ((with_reducible refine br2 hF H ?_ ?_) <;> (clear H;intro hb H;(try (conv => cbv))))
  | (refine w_ hF ?_;(try (conv => cbv)))
  | ((with_reducible refine k9_ 20 H ?_);clear H;intro _ _ _ _ _ _ _ _ _ hy H;refine ca_ hF (spec_OpenShelf.con E hE hy) ?_;(try (conv => cbv)))
  | ((with_reducible refine k1_ 58 H ?_);clear H;intro _ hy H;refine ca_ hF (spec_l09Same.con E hE hy) ?_;(try (conv => cbv)))
  | ((with_reducible show Q _ _);exact en_ ⟨[4],[],[],[]⟩ 26 hQ)
  | contradiction
theorem spec_ShelfMap.j0_s {k:Nat} {x6:List S147} {x19:Bool} {x544000:List S122} {x545000:List Int} {x545001:Int} {x545002:Int} {x545003:Int} {x545004:List Int} {x545005:List S145} {x545006:Int} {r:_} (h:spec_ShelfMap.j0 k x6 x19 x544000 x545000 x545001 x545002 x545003 x545004 x545005 x545006 = some r):∃ m,k = m + 1∧spec_ShelfMap.j0 (m + 1) x6 x19 x544000 x545000 x545001 x545002 x545003 x545004 x545005 x545006 = some r:=by
 cases k with
 | zero => simp [spec_ShelfMap.j0] at h
 | succ m => exact ⟨m,rfl,h⟩
theorem spec_ShelfMap.j0_i {k:Nat} {x6:List S147} {x19:Bool} {x544000:List S122} {x545000:List Int} {x545001:Int} {x545002:Int} {x545003:Int} {x545004:List Int} {x545005:List S145} {x545006:Int} {r:_}:(spec_ShelfMap.j0 k x6 x19 x544000 x545000 x545001 x545002 x545003 x545004 x545005 x545006 = some r) = (∃ m,k = m + 1∧spec_ShelfMap.j0 (m + 1) x6 x19 x544000 x545000 x545001 x545002 x545003 x545004 x545005 x545006 = some r):=propext ⟨spec_ShelfMap.j0_s,fun ⟨m,h,h2⟩ => by rw [h];exact h2⟩
theorem spec_ShelfMap.con (E:En) (hE:E = E0) {k l0_0 l1_0 a1_1 a1_2 a1_3 l1_4 l1_5 a1_6 r1 r2} (H:spec_ShelfMap.f k l0_0 l1_0 a1_1 a1_2 a1_3 l1_4 l1_5 a1_6 = some (r1,r2)) :
  Cn 30 [.agg [.c (.sl [.str,.str] (E.e122 l0_0))],.agg [.c (.sl [.int .i64] (E.eI .i64 l1_0)),.c (.int .i64 a1_1),.c (.int .i64 a1_2),.c (.int .i64 a1_3),.c (.sl [.int .i64] (E.eI .i64 l1_4)),.c (.sl [.str,.int .i64,.int .i64,.int .i64] (E.e145 l1_5)),.c (.int .i64 a1_6)]] [] (.tup [.own 0,.c (.bool r2)]) [.row false 147 [.str,.str] (E.e147 r1)] []:=by
 refine co_ Tryz.func30 tabOk [20004] fun F hF Q hQ => ?_
 simp only [spec_ShelfMap.f] at H
 (conv => cbv)
 repeat' first
  | (rw [spec_ShelfMap.j0_i] at H;obtain ⟨m,hm,H⟩:=H;simp only [spec_ShelfMap.j0] at H;(try simp only [decide_eq_true_eq,Bool.false_eq_true,if_false,if_true] at H))
  | replace H:=s_ H
  | (exfalso;with_reducible assumption)
  | (rw [itn_iff] at H;obtain ⟨hc,H⟩:=H)
  | (rw [itn2_iff] at H;obtain ⟨hc,H⟩:=H)
  | ((with_reducible refine br2 hF H ?_ ?_) <;> (clear H;intro hb H;(try (conv => cbv))))
  | (refine w_ hF ?_;(try (conv => cbv)))
  | ((with_reducible refine k1_ 60 H ?_);clear H;intro _ hy H;refine ca_ hF (spec_l03Text.con E hE hy) ?_;(try (conv => cbv)))
  | ((with_reducible refine k1_ 61 H ?_);clear H;intro _ hy H;refine ca_ hF (spec_SegName.con E hE hy) ?_;(try (conv => cbv)))
  | ((with_reducible refine k1_ 95 H ?_);clear H;intro _ hy H;refine ca_ hF (spec_DiskOk.con E hE hy) ?_;(try (conv => cbv)))
  | ((with_reducible refine k1_ 96 H ?_);clear H;intro _ hy H;refine ca_ hF (spec_DirOk.con E hE hy) ?_;(try (conv => cbv)))
  | ((with_reducible refine lo_ hF (fun n t => n≤k∧∃ x6 x7 v0 v1 v2 v3 v4 v5 v6 v7,t = At 63 [(2,.ptr 2 0),(3,.ptr 3 0),(6,.own 20006),(7,.c (.int .i64 x7))] [(2,.box [.c (.sl [.str,.str] (E.e122 v0))]),(3,.box [.c (.sl [.int .i64] (E.eI .i64 v1)),.c (.int .i64 v2),.c (.int .i64 v3),.c (.int .i64 v4),.c (.sl [.int .i64] (E.eI .i64 v5)),.c (.sl [.str,.int .i64,.int .i64,.int .i64] (E.e145 v6)),.c (.int .i64 v7)]),(20006,.row false 147 [.str,.str] (E.e147 x6))]∧spec_ShelfMap.l0 n x6 x7 v0 v1 v2 v3 v4 v5 v6 v7 = some (r1,r2)) ⟨[2,3,6,7],[2,3],[(6,147)],[]⟩ fun n0 t ht Q0 hN0 hX0 => ?_);obtain ⟨hl,_,_,_,_,_,_,_,_,_,_,rfl,H⟩:=ht;rcases n0 with _ | n0;cases H;simp only [spec_ShelfMap.l0] at H;(try (conv => cbv)))
  | ((with_reducible show Q0 _ _);first | exact nx_ hN0 | (refine xt_ hX0 ?_;(try (conv => cbv))))
  | ((with_reducible show Q _ _);exact en_ ⟨[4,5],[],[(4,147)],[]⟩ 63 hQ)
  | contradiction
theorem spec_MapOk.con (E:En) (hE:E = E0) {k l0 r} (H:spec_MapOk.f k l0 = some (r)) :
  Cn 115 [.c (.sl [.str,.str] (E.e147 l0))] [] (.c (.bool r)) [] []:=by
 refine co_ Tryz.func115 tabOk [] fun F hF Q hQ => ?_
 simp only [spec_MapOk.f] at H
 (conv => cbv)
 repeat' first
  | replace H:=s_ H
  | (exfalso;with_reducible assumption)
  | (rw [itn_iff] at H;obtain ⟨hc,H⟩:=H)
  | (rw [itn2_iff] at H;obtain ⟨hc,H⟩:=H)
  | ((with_reducible refine br2 hF H ?_ ?_) <;> (clear H;intro hb H;(try (conv => cbv))))
  | (refine w_ hF ?_;(try (conv => cbv)))
  | ((with_reducible refine k1_ 177 H ?_);clear H;intro _ hy H;refine ca_ hF (spec_l05Key.con E hE hy) ?_;(try (conv => cbv)))
  | ((with_reducible refine lo_ hF (fun n t => n≤k∧∃ x0 x3,t = At 47 [(0,.c (.sl [.str,.str] (E.e147 x0))),(3,.c (.int .i64 x3))] []∧spec_MapOk.l0 n x0 x3 = some (r)) ⟨[0,3],[],[],[]⟩ fun n0 t ht Q0 hN0 hX0 => ?_);obtain ⟨hl,_,_,rfl,H⟩:=ht;rcases n0 with _ | n0;cases H;simp only [spec_MapOk.l0] at H;(try (conv => cbv)))
  | ((with_reducible show Q0 _ _);first | exact nx_ hN0 | (refine xt_ hX0 ?_;(try (conv => cbv))))
  | ((with_reducible show Q _ _);exact en_ ⟨[2],[],[],[]⟩ 47 hQ)
  | contradiction
theorem spec_MapBatch.j0_s {k:Nat} {x0:List S147} {x1:Int} {x15:Bool} {r:_} (h:spec_MapBatch.j0 k x0 x1 x15 = some r):∃ m,k = m + 1∧spec_MapBatch.j0 (m + 1) x0 x1 x15 = some r:=by
 cases k with
 | zero => simp [spec_MapBatch.j0] at h
 | succ m => exact ⟨m,rfl,h⟩
theorem spec_MapBatch.j0_i {k:Nat} {x0:List S147} {x1:Int} {x15:Bool} {r:_}:(spec_MapBatch.j0 k x0 x1 x15 = some r) = (∃ m,k = m + 1∧spec_MapBatch.j0 (m + 1) x0 x1 x15 = some r):=propext ⟨spec_MapBatch.j0_s,fun ⟨m,h,h2⟩ => by rw [h];exact h2⟩
theorem spec_MapBatch.con (E:En) (hE:E = E0) {k l0 a1 r1 r2 r3} (H:spec_MapBatch.f k l0 a1 = some (r1,r2,r3)) :
  Cn 103 [.c (.sl [.str,.str] (E.e147 l0)),.c (.int .i64 a1)] [] (.tup [.agg [.c (.int .i64 r1),.own 0],.c (.bool r3)]) [.row false 162 [.str,.str,.bool] (E.e162 r2)] []:=by
 refine co_ Tryz.func103 tabOk [400081] fun F hF Q hQ => ?_
 simp only [spec_MapBatch.f] at H
 (conv => cbv)
 repeat' first
  | (rw [spec_MapBatch.j0_i] at H;obtain ⟨m,hm,H⟩:=H;simp only [spec_MapBatch.j0] at H;(try simp only [decide_eq_true_eq,Bool.false_eq_true,if_false,if_true] at H))
  | replace H:=s_ H
  | (exfalso;with_reducible assumption)
  | (rw [itn_iff] at H;obtain ⟨hc,H⟩:=H)
  | (rw [itn2_iff] at H;obtain ⟨hc,H⟩:=H)
  | ((with_reducible refine br2 hF H ?_ ?_) <;> (clear H;intro hb H;(try (conv => cbv))))
  | (refine w_ hF ?_;(try (conv => cbv)))
  | ((with_reducible refine k1_ 115 H ?_);clear H;intro _ hy H;refine ca_ hF (spec_MapOk.con E hE hy) ?_;(try (conv => cbv)))
  | ((with_reducible refine k1_ 131 H ?_);clear H;intro _ hy H;refine ca_ hF (spec_l01In.con E hE hy) ?_;(try (conv => cbv)))
  | ((with_reducible refine lo_ hF (fun n t => n≤k∧∃ x0 x7 v0 v1,t = At 42 [(0,.c (.sl [.str,.str] (E.e147 x0))),(4,.ptr 4 0),(6,.ptr 6 0),(7,.c (.int .i64 x7))] [(4,.box [.c (.int .i64 0),.own 400081]),(6,.box [.c (.int .i64 v0),.own 400121]),(400081,.row false 162 [.str,.str,.bool] []),(400121,.row false 162 [.str,.str,.bool] (E.e162 v1))]∧spec_MapBatch.l0 n x0 x7 v0 v1 = some (r1,r2,r3)) ⟨[0,4,6,7],[4,6],[],[(4,1,162),(6,1,162)]⟩ fun n0 t ht Q0 hN0 hX0 => ?_);obtain ⟨hl,_,_,_,_,rfl,H⟩:=ht;rcases n0 with _ | n0;cases H;simp only [spec_MapBatch.l0] at H;(try (conv => cbv)))
  | ((with_reducible show Q0 _ _);first | exact nx_ hN0 | (refine xt_ hX0 ?_;(try (conv => cbv))))
  | ((with_reducible show Q _ _);exact en_ ⟨[4,5],[4],[],[(4,1,162)]⟩ 42 hQ)
  | contradiction
theorem spec_l09NewMan.con (E:En) (hE:E = E0) {k l0_0 a0_1 a0_2 a0_3 l0_4 r1 r2} (H:spec_l09NewMan.f k l0_0 a0_1 a0_2 a0_3 l0_4 = some (r1,r2)) :
  Cn 113 [.agg [.c (.sl [.int .i64] (E.eI .i64 l0_0)),.c (.int .i64 a0_1),.c (.int .i64 a0_2),.c (.int .i64 a0_3),.c (.sl [.int .i64] (E.eI .i64 l0_4))]] [] (.tup [.own 0,.c (.bool r2)]) [.row false 119 [.int .i64,.str,.str,.str] (E.e119 r1)] []:=by
 refine co_ Tryz.func113 tabOk [20002] fun F hF Q hQ => ?_
 simp only [spec_l09NewMan.f] at H
 (conv => cbv)
 repeat' first
  | replace H:=s_ H
  | (exfalso;with_reducible assumption)
  | (rw [itn_iff] at H;obtain ⟨hc,H⟩:=H)
  | (rw [itn2_iff] at H;obtain ⟨hc,H⟩:=H)
  | ((with_reducible refine br2 hF H ?_ ?_) <;> (clear H;intro hb H;(try (conv => cbv))))
  | (refine w_ hF ?_;(try (conv => cbv)))
  | ((with_reducible refine k2_ 108 H ?_);clear H;intro _ _ hy H;refine ca_ hF (spec_ManifestText.con E hE hy) ?_;(try (conv => cbv)))
  | ((with_reducible show Q _ _);exact en_ ⟨[2,3],[],[(2,119)],[]⟩ 16 hQ)
  | contradiction
theorem spec_l03Put.con (E:En) (hE:E = E0) {k l0_0 a1_0 a1_1 r} (H:spec_l03Put.f k l0_0 a1_0 a1_1 = some (r)) :
  Cn 186 [.agg [.c (.sl [.str,.str] (E.e122 l0_0))],.agg [.c (.str a1_0),.c (.str a1_1)]] [] (.agg [.own 0]) [.row false 122 [.str,.str] (E.e122 r)] []:=by
 refine co_ Tryz.func186 tabOk [400080] fun F hF Q hQ => ?_
 simp only [spec_l03Put.f] at H
 (conv => cbv)
 repeat' first
  | replace H:=s_ H
  | (exfalso;with_reducible assumption)
  | (rw [itn_iff] at H;obtain ⟨hc,H⟩:=H)
  | (rw [itn2_iff] at H;obtain ⟨hc,H⟩:=H)
  | ((with_reducible refine br2 hF H ?_ ?_) <;> (clear H;intro hb H;(try (conv => cbv))))
  | (refine w_ hF ?_;(try (conv => cbv)))
  | ((with_reducible refine lo_ hF (fun n t => n≤k∧∃ x6 v0 v1 v2 v3,t = At 68 [(2,.ptr 2 0),(3,.ptr 3 0),(4,.ptr 4 0),(5,.ptr 5 0),(6,.c (.int .i64 x6))] [(2,.box [.c (.sl [.str,.str] (E.e122 v0))]),(3,.box [.c (.str v1),.c (.str v2)]),(4,.box [.own 400080]),(5,.box [.own 400100]),(400080,.row false 122 [.str,.str] []),(400100,.row false 122 [.str,.str] (E.e122 v3))]∧spec_l03Put.l0 n x6 v0 v1 v2 v3 = some (r)) ⟨[2,3,4,5,6],[2,3,4,5],[],[(4,0,122),(5,0,122)]⟩ fun n0 t ht Q0 hN0 hX0 => ?_);obtain ⟨hl,_,_,_,_,_,rfl,H⟩:=ht;rcases n0 with _ | n0;cases H;simp only [spec_l03Put.l0] at H;(try (conv => cbv)))
  | ((with_reducible show Q0 _ _);first | exact nx_ hN0 | (refine xt_ hX0 ?_;(try (conv => cbv))))
  | ((with_reducible refine lo_ hF (fun n t => n≤k∧∃ x7 v0 v1 v2 v3,t = At 68 [(2,.ptr 2 0),(3,.ptr 3 0),(4,.ptr 4 0),(5,.ptr 5 0),(7,.c (.int .i64 x7))] [(2,.box [.c (.sl [.str,.str] (E.e122 v0))]),(3,.box [.c (.str v1),.c (.str v2)]),(4,.box [.own 400080]),(5,.box [.own 400100]),(400080,.row false 122 [.str,.str] []),(400100,.row false 122 [.str,.str] (E.e122 v3))]∧spec_l03Put.l1 n x7 v0 v1 v2 v3 = some (r)) ⟨[2,3,4,5,7],[2,3,4,5],[],[(4,0,122),(5,0,122)]⟩ fun n1 t ht Q1 hN1 hX1 => ?_);obtain ⟨hl,_,_,_,_,_,rfl,H⟩:=ht;rcases n1 with _ | n1;cases H;simp only [spec_l03Put.l1] at H;(try (conv => cbv)))
  | ((with_reducible show Q1 _ _);first | exact nx_ hN1 | (refine xt_ hX1 ?_;(try (conv => cbv))))
  | ((with_reducible show Q _ _);exact en_ ⟨[4],[4],[],[(4,0,122)]⟩ 68 hQ)
  | contradiction
theorem spec_l03Drop.con (E:En) (hE:E = E0) {k l0_0 a1 r} (H:spec_l03Drop.f k l0_0 a1 = some (r)) :
  Cn 187 [.agg [.c (.sl [.str,.str] (E.e122 l0_0))],.c (.str a1)] [] (.agg [.own 0]) [.row false 122 [.str,.str] (E.e122 r)] []:=by
 refine co_ Tryz.func187 tabOk [400080] fun F hF Q hQ => ?_
 simp only [spec_l03Drop.f] at H
 (conv => cbv)
 repeat' first
  | replace H:=s_ H
  | (exfalso;with_reducible assumption)
  | (rw [itn_iff] at H;obtain ⟨hc,H⟩:=H)
  | (rw [itn2_iff] at H;obtain ⟨hc,H⟩:=H)
  | ((with_reducible refine br2 hF H ?_ ?_) <;> (clear H;intro hb H;(try (conv => cbv))))
  | (refine w_ hF ?_;(try (conv => cbv)))
  | ((with_reducible refine lo_ hF (fun n t => n≤k∧∃ x1 x6 v0 v1,t = At 34 [(1,.c (.str x1)),(2,.ptr 2 0),(4,.ptr 4 0),(5,.ptr 5 0),(6,.c (.int .i64 x6))] [(2,.box [.c (.sl [.str,.str] (E.e122 v0))]),(4,.box [.own 400080]),(5,.box [.own 400100]),(400080,.row false 122 [.str,.str] []),(400100,.row false 122 [.str,.str] (E.e122 v1))]∧spec_l03Drop.l0 n x1 x6 v0 v1 = some (r)) ⟨[1,2,4,5,6],[2,4,5],[],[(4,0,122),(5,0,122)]⟩ fun n0 t ht Q0 hN0 hX0 => ?_);obtain ⟨hl,_,_,_,_,rfl,H⟩:=ht;rcases n0 with _ | n0;cases H;simp only [spec_l03Drop.l0] at H;(try (conv => cbv)))
  | ((with_reducible show Q0 _ _);first | exact nx_ hN0 | (refine xt_ hX0 ?_;(try (conv => cbv))))
  | ((with_reducible show Q _ _);exact en_ ⟨[4],[4],[],[(4,0,122)]⟩ 34 hQ)
  | contradiction
theorem spec_PutRaw.j0_s {k:Nat} {x6:Int} {x29:Bool} {x950000:List S122} {x951000:Int} {x951001:ByteArray} {x951002:ByteArray} {x951003:ByteArray} {r:_} (h:spec_PutRaw.j0 k x6 x29 x950000 x951000 x951001 x951002 x951003 = some r):∃ m,k = m + 1∧spec_PutRaw.j0 (m + 1) x6 x29 x950000 x951000 x951001 x951002 x951003 = some r:=by
 cases k with
 | zero => simp [spec_PutRaw.j0] at h
 | succ m => exact ⟨m,rfl,h⟩
theorem spec_PutRaw.j0_i {k:Nat} {x6:Int} {x29:Bool} {x950000:List S122} {x951000:Int} {x951001:ByteArray} {x951002:ByteArray} {x951003:ByteArray} {r:_}:(spec_PutRaw.j0 k x6 x29 x950000 x951000 x951001 x951002 x951003 = some r) = (∃ m,k = m + 1∧spec_PutRaw.j0 (m + 1) x6 x29 x950000 x951000 x951001 x951002 x951003 = some r):=propext ⟨spec_PutRaw.j0_s,fun ⟨m,h,h2⟩ => by rw [h];exact h2⟩
theorem spec_PutRaw.con (E:En) (hE:E = E0) {k l0_0 a1_0 a1_1 a1_2 a1_3 r1 r2} (H:spec_PutRaw.f k l0_0 a1_0 a1_1 a1_2 a1_3 = some (r1,r2)) :
  Cn 106 [.agg [.c (.sl [.str,.str] (E.e122 l0_0))],.agg [.c (.int .i64 a1_0),.c (.str a1_1),.c (.str a1_2),.c (.str a1_3)]] [] (.tup [.agg [.own 0],.c (.bool r2)]) [.row false 122 [.str,.str] (E.e122 r1)] []:=by
 refine co_ Tryz.func106 tabOk [400080] fun F hF Q hQ => ?_
 simp only [spec_PutRaw.f] at H
 (conv => cbv)
 repeat' first
  | (rw [spec_PutRaw.j0_i] at H;obtain ⟨m,hm,H⟩:=H;simp only [spec_PutRaw.j0] at H;(try simp only [decide_eq_true_eq,Bool.false_eq_true,if_false,if_true] at H))
  | replace H:=s_ H
  | (exfalso;with_reducible assumption)
  | (rw [itn_iff] at H;obtain ⟨hc,H⟩:=H)
  | (rw [itn2_iff] at H;obtain ⟨hc,H⟩:=H)
  | ((with_reducible refine br2 hF H ?_ ?_) <;> (clear H;intro hb H;(try (conv => cbv))))
  | (refine w_ hF ?_;(try (conv => cbv)))
  | ((with_reducible refine k1_ 60 H ?_);clear H;intro _ hy H;refine ca_ hF (spec_l03Text.con E hE hy) ?_;(try (conv => cbv)))
  | ((with_reducible refine k1_ 75 H ?_);clear H;intro _ hy H;refine ca_ hF (spec_l03At.con E hE hy) ?_;(try (conv => cbv)))
  | ((with_reducible refine k1_ 95 H ?_);clear H;intro _ hy H;refine ca_ hF (spec_DiskOk.con E hE hy) ?_;(try (conv => cbv)))
  | ((with_reducible refine k1_ 131 H ?_);clear H;intro _ hy H;refine ca_ hF (spec_l01In.con E hE hy) ?_;(try (conv => cbv)))
  | ((with_reducible refine k1_ 186 H ?_);clear H;intro _ hy H;refine ca_ hF (spec_l03Put.con E hE hy) ?_;(try (conv => cbv)))
  | ((with_reducible refine k1_ 187 H ?_);clear H;intro _ hy H;refine ca_ hF (spec_l03Drop.con E hE hy) ?_;(try (conv => cbv)))
  | ((with_reducible show Q _ _);exact en_ ⟨[4,5],[4],[],[(4,0,122)]⟩ 93 hQ)
  | contradiction
theorem spec_PutRaws.j0_s {k:Nat} {x1:List S119} {x17:Bool} {x986000:List S122} {r:_} (h:spec_PutRaws.j0 k x1 x17 x986000 = some r):∃ m,k = m + 1∧spec_PutRaws.j0 (m + 1) x1 x17 x986000 = some r:=by
 cases k with
 | zero => simp [spec_PutRaws.j0] at h
 | succ m => exact ⟨m,rfl,h⟩
theorem spec_PutRaws.j0_i {k:Nat} {x1:List S119} {x17:Bool} {x986000:List S122} {r:_}:(spec_PutRaws.j0 k x1 x17 x986000 = some r) = (∃ m,k = m + 1∧spec_PutRaws.j0 (m + 1) x1 x17 x986000 = some r):=propext ⟨spec_PutRaws.j0_s,fun ⟨m,h,h2⟩ => by rw [h];exact h2⟩
theorem spec_PutRaws.con (E:En) (hE:E = E0) {k l0_0 l1 r1 r2} (H:spec_PutRaws.f k l0_0 l1 = some (r1,r2)) :
  Cn 33 [.agg [.c (.sl [.str,.str] (E.e122 l0_0))],.c (.sl [.int .i64,.str,.str,.str] (E.e119 l1))] [] (.tup [.agg [.own 0],.c (.int .i64 r2)]) [.row false 122 [.str,.str] (E.e122 r1)] []:=by
 refine co_ Tryz.func33 tabOk [400080] fun F hF Q hQ => ?_
 simp only [spec_PutRaws.f] at H
 (conv => cbv)
 repeat' first
  | (rw [spec_PutRaws.j0_i] at H;obtain ⟨m,hm,H⟩:=H;simp only [spec_PutRaws.j0] at H;(try simp only [decide_eq_true_eq,Bool.false_eq_true,if_false,if_true] at H))
  | replace H:=s_ H
  | (exfalso;with_reducible assumption)
  | (rw [itn_iff] at H;obtain ⟨hc,H⟩:=H)
  | (rw [itn2_iff] at H;obtain ⟨hc,H⟩:=H)
  | ((with_reducible refine br2 hF H ?_ ?_) <;> (clear H;intro hb H;(try (conv => cbv))))
  | (refine w_ hF ?_;(try (conv => cbv)))
  | ((with_reducible refine k1_ 95 H ?_);clear H;intro _ hy H;refine ca_ hF (spec_DiskOk.con E hE hy) ?_;(try (conv => cbv)))
  | ((with_reducible refine k2_ 106 H ?_);clear H;intro _ _ hy H;refine ca_ hF (spec_PutRaw.con E hE hy) ?_;(try (conv => cbv)))
  | ((with_reducible refine lo_ hF (fun n t => n≤k∧∃ x1 x7 v0,t = At 47 [(1,.c (.sl [.int .i64,.str,.str,.str] (E.e119 x1))),(4,.ptr 4 0),(6,.ptr 6 0),(7,.c (.int .i64 x7))] [(4,.box [.own 400080]),(6,.box [.own 400120]),(400080,.row false 122 [.str,.str] []),(400120,.row false 122 [.str,.str] (E.e122 v0))]∧spec_PutRaws.l0 n x1 x7 v0 = some (r1,r2)) ⟨[1,4,6,7],[4,6],[],[(4,0,122),(6,0,122)]⟩ fun n0 t ht Q0 hN0 hX0 => ?_);obtain ⟨hl,_,_,_,rfl,H⟩:=ht;rcases n0 with _ | n0;cases H;simp only [spec_PutRaws.l0] at H;(try (conv => cbv)))
  | ((with_reducible show Q0 _ _);first | exact nx_ hN0 | (refine xt_ hX0 ?_;(try (conv => cbv))))
  | ((with_reducible show Q _ _);exact en_ ⟨[4,5],[4],[],[(4,0,122)]⟩ 47 hQ)
  | contradiction
theorem spec_l09After.con (E:En) (hE:E = E0) {k l0_0 l1 r1 r2 r3 r4 r5 r6 r7 r8} (H:spec_l09After.f k l0_0 l1 = some (r1,r2,r3,r4,r5,r6,r7,r8)) :
  Cn 114 [.agg [.c (.sl [.str,.str] (E.e122 l0_0))],.c (.sl [.int .i64,.str,.str,.str] (E.e119 l1))] [] (.tup [.agg [.own 0,.c (.int .i64 r2),.c (.int .i64 r3),.c (.int .i64 r4),.own 1,.own 2,.c (.int .i64 r7)],.c (.bool r8)]) [.row false 3 [.int .i64] (E.eI .i64 r1),.row false 3 [.int .i64] (E.eI .i64 r5),.row false 145 [.str,.int .i64,.int .i64,.int .i64] (E.e145 r6)] []:=by
 refine co_ Tryz.func114 tabOk [400080,400084,400085] fun F hF Q hQ => ?_
 simp only [spec_l09After.f] at H
 (conv => cbv)
 repeat' first
  | replace H:=s_ H
  | (exfalso;with_reducible assumption)
  | (rw [itn_iff] at H;obtain ⟨hc,H⟩:=H)
  | (rw [itn2_iff] at H;obtain ⟨hc,H⟩:=H)
  | ((with_reducible refine br2 hF H ?_ ?_) <;> (clear H;intro hb H;(try (conv => cbv))))
  | (refine w_ hF ?_;(try (conv => cbv)))
  | ((with_reducible refine k9_ 20 H ?_);clear H;intro _ _ _ _ _ _ _ _ _ hy H;refine ca_ hF (spec_OpenShelf.con E hE hy) ?_;(try (conv => cbv)))
  | ((with_reducible refine k2_ 33 H ?_);clear H;intro _ _ hy H;refine ca_ hF (spec_PutRaws.con E hE hy) ?_;(try (conv => cbv)))
  | ((with_reducible show Q _ _);exact en_ ⟨[4,5],[4],[],[(4,0,3),(4,4,3),(4,5,145)]⟩ 36 hQ)
  | contradiction
end Go.Ev
