/- Contracts of the Go functions that this law reaches: what each call returns, by its plain function. No conditions but those that each statement names. By this repo's programs; comments are taken out. -/
import Derived.Test.YtlmicldpfnmeaaaGreatDoorVFnExactInstallShelfD
import Derived.Test.YtlmicldpfnmeaaaGreatDoorVFnExactInstallShelfK
import Derived.Test.YtlmicldpfnmeaaaGreatDoorVFnExactInstallShelfC5
import Derived.Test.YtlmicldpfnmeaaaGreatDoorVFnExactInstallShelfC6
set_option linter.all false
namespace Go.Ev
open Go.RowKit Go.Proofs Go.Proofs.YtlmicldpfnmeaaaGreatDoorW.PrintWords Go.Proofs.YtlmicldpfnmeaaaGreatDoorW.PrintLast Go.Proofs.YtlmicldpfnmeaaaGreatDoorW.PrintMore
set_option maxRecDepth 100000
set_option maxHeartbeats 4000000
theorem impl_ManifestOk.con (E:En) (hE:E = E0) {k l0_0 a0_1 a0_2 a0_3 l0_4 r} (H:impl_ManifestOk.f k l0_0 a0_1 a0_2 a0_3 l0_4 = some (r)) :
  Cn 161 [.agg [.c (.sl [.int .i64] (E.eI .i64 l0_0)),.c (.int .i64 a0_1),.c (.int .i64 a0_2),.c (.int .i64 a0_3),.c (.sl [.int .i64] (E.eI .i64 l0_4))]] [] (.c (.bool r)) [] []:=by
 refine co_ Tryz.func161 tabOk [] fun F hF Q hQ => ?_
 simp only [impl_ManifestOk.f] at H
 (conv => cbv)
 repeat' first
  | replace H:=s_ H
  | (exfalso;with_reducible assumption)
  | (rw [itn_iff] at H;obtain ⟨hc,H⟩:=H)
  | (rw [itn2_iff] at H;obtain ⟨hc,H⟩:=H)
  | ((with_reducible refine br2 hF H ?_ ?_) <;> (clear H;intro hb H;(try (conv => cbv))))
  | (refine w_ hF ?_;(try (conv => cbv)))
  | ((with_reducible refine k1_ 144 H ?_);clear H;intro _ hy H;refine ca_ hF (impl_within.con E hE hy) ?_;(try (conv => cbv)))
  | ((with_reducible refine k1_ 209 H ?_);clear H;intro _ hy H;refine ca_ hF (impl_ConfOk.con E hE hy) ?_;(try (conv => cbv)))
  | ((with_reducible refine lo_ hF (fun n t => n≤k∧∃ x6 x7 x8 v0 v1 v2 v3 v4,t = At 61 [(1,.ptr 1 0),(6,.c (.sl [.int .i64] (E.eI .i64 x6))),(7,.c (.int .i64 x7)),(8,.c (.int .i64 x8))] [(1,.box [.c (.sl [.int .i64] (E.eI .i64 v0)),.c (.int .i64 v1),.c (.int .i64 v2),.c (.int .i64 v3),.c (.sl [.int .i64] (E.eI .i64 v4))])]∧impl_ManifestOk.l0 n x6 x7 x8 v0 v1 v2 v3 v4 = some (r)) ⟨[1,6,7,8],[1],[],[]⟩ fun n0 t ht Q0 hN0 hX0 => ?_);obtain ⟨hl,_,_,_,_,_,_,_,_,rfl,H⟩:=ht;rcases n0 with _ | n0;cases H;simp only [impl_ManifestOk.l0] at H;(try (conv => cbv)))
  | ((with_reducible show Q0 _ _);first | exact nx_ hN0 | (refine xt_ hX0 ?_;(try (conv => cbv))))
  | ((with_reducible show Q _ _);exact en_ ⟨[2],[],[],[]⟩ 61 hQ)
  | contradiction
theorem impl_ReadManifest.con (E:En) (hE:E = E0) {k a0 r1 r2 r3 r4 r5 r6} (H:impl_ReadManifest.f k a0 = some (r1,r2,r3,r4,r5,r6)) :
  Cn 79 [.c (.str a0)] [] (.tup [.agg [.own 0,.c (.int .i64 r2),.c (.int .i64 r3),.c (.int .i64 r4),.own 1],.c (.bool r6)]) [.row false 3 [.int .i64] (E.eI .i64 r1),.row false 3 [.int .i64] (E.eI .i64 r5)] []:=by
 refine co_ Tryz.func79 tabOkM [400040,400044] fun F hF Q hQ => ?_
 simp only [impl_ReadManifest.f] at H
 (conv => cbv)
 repeat' first
  | replace H:=s_ H
  | (exfalso;with_reducible assumption)
  | (rw [itn_iff] at H;obtain ⟨hc,H⟩:=H)
  | (rw [itn2_iff] at H;obtain ⟨hc,H⟩:=H)
  | ((with_reducible refine br2 hF H ?_ ?_) <;> (clear H;intro hb H;(try (conv => cbv))))
  | (refine w_ hF ?_;(try (conv => cbv)))
  | ((with_reducible refine k2_ 155 H ?_);clear H;intro _ _ hy H;refine ca_ hF (impl_Unsealed.con E hE hy) ?_;(try (conv => cbv)))
  | ((with_reducible refine k8_ 156 H ?_);clear H;intro _ _ _ _ _ _ _ _ hy H;refine ca_ hF (each_ReadManifest_c1.con E hE hy) ?_;(try (conv => cbv)))
  | ((with_reducible refine k4_ 158 H ?_);clear H;intro _ _ _ _ hy H;refine ca_ hF (impl_reader_num.con E hE hy) ?_;(try (conv => cbv)))
  | ((with_reducible refine k8_ 156 H ?_);clear H;intro _ _ _ _ _ _ _ _ hy H;refine ca_ hF (each_ReadManifest_c2.con E hE hy) ?_;(try (conv => cbv)))
  | ((with_reducible refine k4_ 160 H ?_);clear H;intro _ _ _ _ hy H;refine ca_ hF (impl_reader_done.con E hE hy) ?_;(try (conv => cbv)))
  | ((with_reducible refine k1_ 161 H ?_);clear H;intro _ hy H;refine ca_ hF (impl_ManifestOk.con E hE hy) ?_;(try (conv => cbv)))
  | ((with_reducible show Q _ _);exact en_ ⟨[2,3],[2],[],[(2,0,3),(2,4,3)]⟩ 44 hQ)
  | contradiction
theorem impl_SegName.con (E:En) (hE:E = E0) {a0 r} (H:impl_SegName.f a0 = some (r)) :
  Cn 69 [.c (.int .i64 a0)] [] (.c (.str r)) [] []:=by
 refine co_ Tryz.func69 tabOk [] fun F hF Q hQ => ?_
 simp only [impl_SegName.f] at H
 (conv => cbv)
 repeat' first
  | replace H:=s_ H
  | (exfalso;with_reducible assumption)
  | (rw [itn_iff] at H;obtain ⟨hc,H⟩:=H)
  | (rw [itn2_iff] at H;obtain ⟨hc,H⟩:=H)
  | ((with_reducible refine br2 hF H ?_ ?_) <;> (clear H;intro hb H;(try (conv => cbv))))
  | (refine w_ hF ?_;(try (conv => cbv)))
  | ((with_reducible refine k1_ 144 H ?_);clear H;intro _ hy H;refine ca_ hF (impl_within.con E hE hy) ?_;(try (conv => cbv)))
  | ((with_reducible refine k1_ 145 H ?_);clear H;intro _ hy H;refine ca_ hF (impl_Decimal.con E hE hy) ?_;(try (conv => cbv)))
  | ((with_reducible show Q _ _);exact en_ ⟨[2],[],[],[]⟩ 9 hQ)
  | contradiction
theorem internal_stringslite_HasPrefix.con (E:En) (hE:E = E0) {a0 a1 r} (H:internal_stringslite_HasPrefix.f a0 a1 = some r) :
  Cn 234 [.c (.str a0),.c (.str a1)] [] (.c (.bool r)) [] []:=by
 refine co_ Tryz.func234 tabOkM [] fun F hF Q hQ => ?_
 simp only [internal_stringslite_HasPrefix.f] at H
 (conv => cbv)
 repeat' first
  | replace H:=s_ H
  | (exfalso;with_reducible assumption)
  | (rw [itn_iff] at H;obtain ⟨hc,H⟩:=H)
  | (rw [itn2_iff] at H;obtain ⟨hc,H⟩:=H)
  | ((with_reducible refine br2 hF H ?_ ?_) <;> (clear H;intro hb H;(try (conv => cbv))))
  | (refine w_ hF ?_;(try (conv => cbv)))
  | ((with_reducible show Q _ _);exact en_ ⟨[4],[],[],[]⟩ 18 hQ)
  | contradiction
theorem internal_stringslite_CutPrefix.con (E:En) (hE:E = E0) {a0 a1 r1 r2} (H:internal_stringslite_CutPrefix.f a0 a1 = some (r1,r2)) :
  Cn 226 [.c (.str a0),.c (.str a1)] [] (.tup [.c (.str r1),.c (.bool r2)]) [] []:=by
 refine co_ Tryz.func226 tabOkM [] fun F hF Q hQ => ?_
 simp only [internal_stringslite_CutPrefix.f] at H
 (conv => cbv)
 repeat' first
  | replace H:=s_ H
  | (exfalso;with_reducible assumption)
  | (rw [itn_iff] at H;obtain ⟨hc,H⟩:=H)
  | (rw [itn2_iff] at H;obtain ⟨hc,H⟩:=H)
  | ((with_reducible refine br2 hF H ?_ ?_) <;> (clear H;intro hb H;(try (conv => cbv))))
  | (refine w_ hF ?_;(try (conv => cbv)))
  | ((with_reducible refine k1_ 234 H ?_);clear H;intro _ hy H;refine ca_ hF (internal_stringslite_HasPrefix.con E hE hy) ?_;(try (conv => cbv)))
  | ((with_reducible show Q _ _);exact en_ ⟨[4,5],[],[],[]⟩ 15 hQ)
  | contradiction
theorem strings_CutPrefix.con (E:En) (hE:E = E0) {a0 a1 r1 r2} (H:strings_CutPrefix.f a0 a1 = some (r1,r2)) :
  Cn 210 [.c (.str a0),.c (.str a1)] [] (.tup [.c (.str r1),.c (.bool r2)]) [] []:=by
 refine co_ Tryz.func210 tabOkM [] fun F hF Q hQ => ?_
 simp only [strings_CutPrefix.f] at H
 (conv => cbv)
 repeat' first
  | replace H:=s_ H
  | (exfalso;with_reducible assumption)
  | (rw [itn_iff] at H;obtain ⟨hc,H⟩:=H)
  | (rw [itn2_iff] at H;obtain ⟨hc,H⟩:=H)
  | ((with_reducible refine br2 hF H ?_ ?_) <;> (clear H;intro hb H;(try (conv => cbv))))
  | (refine w_ hF ?_;(try (conv => cbv)))
  | ((with_reducible refine k2_ 226 H ?_);clear H;intro _ _ hy H;refine ca_ hF (internal_stringslite_CutPrefix.con E hE hy) ?_;(try (conv => cbv)))
  | ((with_reducible show Q _ _);exact en_ ⟨[4,5],[],[],[]⟩ 11 hQ)
  | contradiction
theorem impl_ReadDecimal.con (E:En) (hE:E = E0) {a0 r1 r2} (H:impl_ReadDecimal.f a0 = some (r1,r2)) :
  Cn 211 [.c (.str a0)] [] (.tup [.c (.int .i64 r1),.c (.bool r2)]) [] []:=by
 refine co_ Tryz.func211 tabOkM [] fun F hF Q hQ => ?_
 simp only [impl_ReadDecimal.f] at H
 (conv => cbv)
 repeat' first
  | replace H:=s_ H
  | (exfalso;with_reducible assumption)
  | (rw [itn_iff] at H;obtain ⟨hc,H⟩:=H)
  | (rw [itn2_iff] at H;obtain ⟨hc,H⟩:=H)
  | ((with_reducible refine br2 hF H ?_ ?_) <;> (clear H;intro hb H;(try (conv => cbv))))
  | (refine w_ hF ?_;(try (conv => cbv)))
  | ((with_reducible refine k2_ 227 H ?_);clear H;intro _ _ hy H;refine ca_ hF (strconv_Atoi.con E hE hy) ?_;(try (conv => cbv)))
  | ((with_reducible refine k1_ 145 H ?_);clear H;intro _ hy H;refine ca_ hF (impl_Decimal.con E hE hy) ?_;(try (conv => cbv)))
  | ((with_reducible refine k1_ 144 H ?_);clear H;intro _ hy H;refine ca_ hF (impl_within.con E hE hy) ?_;(try (conv => cbv)))
  | ((with_reducible show Q _ _);exact en_ ⟨[2,3],[],[],[]⟩ 25 hQ)
  | contradiction
theorem impl_isSegName.con (E:En) (hE:E = E0) {a0 r} (H:impl_isSegName.f a0 = some r) :
  Cn 162 [.c (.str a0)] [] (.c (.bool r)) [] []:=by
 refine co_ Tryz.func162 tabOkM [] fun F hF Q hQ => ?_
 simp only [impl_isSegName.f] at H
 (conv => cbv)
 repeat' first
  | replace H:=s_ H
  | (exfalso;with_reducible assumption)
  | (rw [itn_iff] at H;obtain ⟨hc,H⟩:=H)
  | (rw [itn2_iff] at H;obtain ⟨hc,H⟩:=H)
  | ((with_reducible refine br2 hF H ?_ ?_) <;> (clear H;intro hb H;(try (conv => cbv))))
  | (refine w_ hF ?_;(try (conv => cbv)))
  | ((with_reducible refine k2_ 210 H ?_);clear H;intro _ _ hy H;refine ca_ hF (strings_CutPrefix.con E hE hy) ?_;(try (conv => cbv)))
  | ((with_reducible refine k2_ 211 H ?_);clear H;intro _ _ hy H;refine ca_ hF (impl_ReadDecimal.con E hE hy) ?_;(try (conv => cbv)))
  | ((with_reducible refine k1_ 69 H ?_);clear H;intro _ hy H;refine ca_ hF (impl_SegName.con E hE hy) ?_;(try (conv => cbv)))
  | ((with_reducible show Q _ _);exact en_ ⟨[2],[],[],[]⟩ 27 hQ)
  | contradiction
theorem impl_cleaning_c1.con (E:En) (hE:E = E0) {a0 s1_0 s1_1 r1 r2 r3} (H:impl_cleaning_c1.f a0 s1_0 s1_1 = some (r1,r2,r3)) :
  Cn 164 [.c (.int .i64 a0),.ptr 10000 0] [.box [.c (.str s1_0),.c (.str s1_1)]] (.c (.bool r1)) [] [.box [.c (.str r2),.c (.str r3)]]:=by
 refine co_ Tryz.func164 tabOkM [] fun F hF Q hQ => ?_
 simp only [impl_cleaning_c1.f] at H
 (conv => cbv)
 repeat' first
  | replace H:=s_ H
  | (exfalso;with_reducible assumption)
  | (rw [itn_iff] at H;obtain ⟨hc,H⟩:=H)
  | (rw [itn2_iff] at H;obtain ⟨hc,H⟩:=H)
  | ((with_reducible refine br2 hF H ?_ ?_) <;> (clear H;intro hb H;(try (conv => cbv))))
  | (refine w_ hF ?_;(try (conv => cbv)))
  | ((with_reducible refine k1_ 69 H ?_);clear H;intro _ hy H;refine ca_ hF (impl_SegName.con E hE hy) ?_;(try (conv => cbv)))
  | ((with_reducible show Q _ _);exact en_ ⟨[3],[],[],[]⟩ 9 hQ)
  | contradiction
theorem slices_IndexFunc_int_int.con (E:En) (hE:E = E0) {k l0 s1_0_0 s1_0_1 r1 r2 r3} (H:slices_IndexFunc_int_int.f k l0 s1_0_0 s1_0_1 = some (r1,r2,r3)) :
  Cn 212 [.c (.sl [.int .i64] (E.eI .i64 l0)),.clo 164 [.ptr 10000 0]] [.box [.c (.str s1_0_0),.c (.str s1_0_1)]] (.c (.int .i64 r1)) [] [.box [.c (.str r2),.c (.str r3)]]:=by
 refine co_ Tryz.func212 tabOkM [] fun F hF Q hQ => ?_
 simp only [slices_IndexFunc_int_int.f] at H
 (conv => cbv)
 repeat' first
  | replace H:=s_ H
  | (exfalso;with_reducible assumption)
  | (rw [itn_iff] at H;obtain ⟨hc,H⟩:=H)
  | (rw [itn2_iff] at H;obtain ⟨hc,H⟩:=H)
  | ((with_reducible refine br2 hF H ?_ ?_) <;> (clear H;intro hb H;(try (conv => cbv))))
  | (refine w_ hF ?_;(try (conv => cbv)))
  | ((with_reducible refine k3_ 164 H ?_);clear H;intro _ _ _ hy H;refine ca_ hF (impl_cleaning_c1.con E hE hy) ?_;(try (conv => cbv)))
  | ((with_reducible refine lo_ hF (fun n t => n≤k∧∃ x0 x7 x8 v0 v1,t = At 19 [(0,.c (.sl [.int .i64] (E.eI .i64 x0))),(1,.clo 164 [.ptr 10000 0]),(7,.c (.int .i64 x7)),(8,.c (.int .i64 x8))] [(10000,.box [.c (.str v0),.c (.str v1)])]∧slices_IndexFunc_int_int.l0 n x0 x7 x8 v0 v1 = some (r1,r2,r3)) ⟨[0,1,7,8],[],[],[]⟩ fun n0 t ht Q0 hN0 hX0 => ?_);obtain ⟨hl,_,_,_,_,_,rfl,H⟩:=ht;rcases n0 with _ | n0;cases H;simp only [slices_IndexFunc_int_int.l0] at H;(try (conv => cbv)))
  | ((with_reducible show Q0 _ _);first | exact nx_ hN0 | (refine xt_ hX0 ?_;(try (conv => cbv))))
  | ((with_reducible show Q _ _);exact en_ ⟨[4],[],[],[]⟩ 19 hQ)
  | contradiction
theorem slices_ContainsFunc_int_int.con (E:En) (hE:E = E0) {k l0 s1_0_0 s1_0_1 r1 r2 r3} (H:slices_ContainsFunc_int_int.f k l0 s1_0_0 s1_0_1 = some (r1,r2,r3)) :
  Cn 163 [.c (.sl [.int .i64] (E.eI .i64 l0)),.clo 164 [.ptr 10000 0]] [.box [.c (.str s1_0_0),.c (.str s1_0_1)]] (.c (.bool r1)) [] [.box [.c (.str r2),.c (.str r3)]]:=by
 refine co_ Tryz.func163 tabOkM [] fun F hF Q hQ => ?_
 simp only [slices_ContainsFunc_int_int.f] at H
 (conv => cbv)
 repeat' first
  | replace H:=s_ H
  | (exfalso;with_reducible assumption)
  | (rw [itn_iff] at H;obtain ⟨hc,H⟩:=H)
  | (rw [itn2_iff] at H;obtain ⟨hc,H⟩:=H)
  | ((with_reducible refine br2 hF H ?_ ?_) <;> (clear H;intro hb H;(try (conv => cbv))))
  | (refine w_ hF ?_;(try (conv => cbv)))
  | ((with_reducible refine k3_ 212 H ?_);clear H;intro _ _ _ hy H;refine ca_ hF (slices_IndexFunc_int_int.con E hE hy) ?_;(try (conv => cbv)))
  | ((with_reducible show Q _ _);exact en_ ⟨[4],[],[],[]⟩ 9 hQ)
  | contradiction
theorem impl_cleaning.con (E:En) (hE:E = E0) {k l0_0 l1_0 a1_1 a1_2 a1_3 l1_4 r} (H:impl_cleaning.f k l0_0 l1_0 a1_1 a1_2 a1_3 l1_4 = some r) :
  Cn 80 [.agg [.c (.sl [.str,.str] (E.e122 l0_0))],.agg [.c (.sl [.int .i64] (E.eI .i64 l1_0)),.c (.int .i64 a1_1),.c (.int .i64 a1_2),.c (.int .i64 a1_3),.c (.sl [.int .i64] (E.eI .i64 l1_4))]] [] (.own 0) [.row false 119 [.int .i64,.str,.str,.str] (E.e119 r)] []:=by
 refine co_ Tryz.func80 tabOkM [20004] fun F hF Q hQ => ?_
 simp only [impl_cleaning.f] at H
 (conv => cbv)
 repeat' first
  | replace H:=s_ H
  | (exfalso;with_reducible assumption)
  | (rw [itn_iff] at H;obtain ⟨hc,H⟩:=H)
  | (rw [itn2_iff] at H;obtain ⟨hc,H⟩:=H)
  | ((with_reducible refine br2 hF H ?_ ?_) <;> (clear H;intro hb H;(try (conv => cbv))))
  | (refine w_ hF ?_;(try (conv => cbv)))
  | ((with_reducible refine k2_ 68 H ?_);clear H;intro _ _ hy H;refine ca_ hF (impl_FileAt.con E hE hy) ?_;(try (conv => cbv)))
  | ((with_reducible refine k1_ 162 H ?_);clear H;intro _ hy H;refine ca_ hF (impl_isSegName.con E hE hy) ?_;(try (conv => cbv)))
  | ((with_reducible refine k3_ 163 H ?_);clear H;intro _ _ _ hy H;refine ca_ hF (slices_ContainsFunc_int_int.con E hE hy) ?_;(try (conv => cbv)))
  | ((with_reducible refine lo_ hF (fun n t => n≤k∧∃ x5 x21 x22 x23 v0 v1 v2 v3 v4,t = At 45 [(3,.ptr 3 0),(5,.own 20005),(21,.c (.sl [.str,.str] (E.e122 x21))),(22,.c (.int .i64 x22)),(23,.c (.int .i64 x23))] [(3,.box [.c (.sl [.int .i64] (E.eI .i64 v0)),.c (.int .i64 v1),.c (.int .i64 v2),.c (.int .i64 v3),.c (.sl [.int .i64] (E.eI .i64 v4))]),(20005,.row false 119 [.int .i64,.str,.str,.str] (E.e119 x5))]∧impl_cleaning.l0 n x5 x21 x22 x23 v0 v1 v2 v3 v4 = some r) ⟨[3,5,21,22,23],[3],[(5,119)],[]⟩ fun n0 t ht Q0 hN0 hX0 => ?_);obtain ⟨hl,_,_,_,_,_,_,_,_,_,rfl,H⟩:=ht;rcases n0 with _ | n0;cases H;simp only [impl_cleaning.l0] at H;(try (conv => cbv)))
  | ((with_reducible show Q0 _ _);first | exact nx_ hN0 | (refine xt_ hX0 ?_;(try (conv => cbv))))
  | ((with_reducible show Q _ _);exact en_ ⟨[4],[],[(4,119)],[]⟩ 45 hQ)
  | contradiction
theorem impl_spotsOf.con (E:En) (hE:E = E0) {k a0_0 l0_1 a0_2 a0_3 a1 r} (H:impl_spotsOf.f k a0_0 l0_1 a0_2 a0_3 a1 = some (r)) :
  Cn 165 [.agg [.c (.int .i64 a0_0),.c (.sl [.str,.str,.bool] (E.e162 l0_1)),.c (.str a0_2),.c (.int .i64 a0_3)],.c (.int .i64 a1)] [] (.own 0) [.row false 145 [.str,.int .i64,.int .i64,.int .i64] (E.e145 r)] []:=by
 refine co_ Tryz.func165 tabOk [20004] fun F hF Q hQ => ?_
 simp only [impl_spotsOf.f] at H
 (conv => cbv)
 repeat' first
  | replace H:=s_ H
  | (exfalso;with_reducible assumption)
  | (rw [itn_iff] at H;obtain ⟨hc,H⟩:=H)
  | (rw [itn2_iff] at H;obtain ⟨hc,H⟩:=H)
  | ((with_reducible refine br2 hF H ?_ ?_) <;> (clear H;intro hb H;(try (conv => cbv))))
  | (refine w_ hF ?_;(try (conv => cbv)))
  | ((with_reducible refine k2_ 180 H ?_);clear H;intro _ _ hy H;refine ca_ hF (impl_vars.con E hE hy) ?_;(try (conv => cbv)))
  | ((with_reducible refine k1_ 181 H ?_);clear H;intro _ hy H;refine ca_ hF (impl_short.con E hE hy) ?_;(try (conv => cbv)))
  | ((with_reducible refine lo_ hF (fun n t => n≤k∧∃ x1 x7 x8 x31 x32 x33,t = At 76 [(1,.c (.int .i64 x1)),(7,.c (.int .i64 x7)),(8,.own 20008),(31,.c (.sl [.str,.str,.bool] (E.e162 x31))),(32,.c (.int .i64 x32)),(33,.c (.int .i64 x33))] [(20008,.row false 145 [.str,.int .i64,.int .i64,.int .i64] (E.e145 x8))]∧impl_spotsOf.l0 n x1 x7 x8 x31 x32 x33 = some (r)) ⟨[1,7,8,31,32,33],[],[(8,145)],[]⟩ fun n0 t ht Q0 hN0 hX0 => ?_);obtain ⟨hl,_,_,_,_,_,_,rfl,H⟩:=ht;rcases n0 with _ | n0;cases H;simp only [impl_spotsOf.l0] at H;(try (conv => cbv)))
  | ((with_reducible show Q0 _ _);first | exact nx_ hN0 | (refine xt_ hX0 ?_;(try (conv => cbv))))
  | ((with_reducible show Q _ _);exact en_ ⟨[4],[],[(4,145)],[]⟩ 76 hQ)
  | contradiction
theorem impl_ScanSeg.con (E:En) (hE:E = E0) {k a0 a1 r1 r2 r3} (H:impl_ScanSeg.f k a0 a1 = some (r1,r2,r3)) :
  Cn 81 [.c (.str a0),.c (.int .i64 a1)] [] (.tup [.own 0,.own 1,.c (.int .i64 r3)]) [.row false 145 [.str,.int .i64,.int .i64,.int .i64] (E.e145 r1),.row false 9 [.str] (E.eS r2)] []:=by
 refine co_ Tryz.func81 tabOk [20004,20005] fun F hF Q hQ => ?_
 simp only [impl_ScanSeg.f] at H
 (conv => cbv)
 repeat' first
  | replace H:=s_ H
  | (exfalso;with_reducible assumption)
  | (rw [itn_iff] at H;obtain ⟨hc,H⟩:=H)
  | (rw [itn2_iff] at H;obtain ⟨hc,H⟩:=H)
  | ((with_reducible refine br2 hF H ?_ ?_) <;> (clear H;intro hb H;(try (conv => cbv))))
  | (refine w_ hF ?_;(try (conv => cbv)))
  | ((with_reducible refine k2_ 70 H ?_);clear H;intro _ _ hy H;refine ca_ hF (impl_batchesOf.con E hE hy) ?_;(try (conv => cbv)))
  | ((with_reducible refine k1_ 165 H ?_);clear H;intro _ hy H;refine ca_ hF (impl_spotsOf.con E hE hy) ?_;(try (conv => cbv)))
  | ((with_reducible refine lo_ hF (fun n t => n≤k∧∃ x1 x9 x10 x11 x19 x20 x21,t = At 44 [(1,.c (.int .i64 x1)),(9,.own 20009),(10,.own 20010),(11,.c (.int .i64 x11)),(19,.c (.sl [.int .i64,.sl [.str,.str,.bool],.str,.int .i64] (E.e113 x19))),(20,.c (.int .i64 x20)),(21,.c (.int .i64 x21))] [(20009,.row false 145 [.str,.int .i64,.int .i64,.int .i64] (E.e145 x9)),(20010,.row false 9 [.str] (E.eS x10))]∧impl_ScanSeg.l0 n x1 x9 x10 x11 x19 x20 x21 = some (r1,r2,r3)) ⟨[1,9,10,11,19,20,21],[],[(9,145),(10,9)],[]⟩ fun n0 t ht Q0 hN0 hX0 => ?_);obtain ⟨hl,_,_,_,_,_,_,_,rfl,H⟩:=ht;rcases n0 with _ | n0;cases H;simp only [impl_ScanSeg.l0] at H;(try (conv => cbv)))
  | ((with_reducible show Q0 _ _);first | exact nx_ hN0 | (refine xt_ hX0 ?_;(try (conv => cbv))))
  | ((with_reducible show Q _ _);exact en_ ⟨[4,5,6],[],[(4,145),(5,9)],[]⟩ 44 hQ)
  | contradiction
theorem impl_DirOk.con (E:En) (hE:E = E0) {k l0 r} (H:impl_DirOk.f k l0 = some (r)) :
  Cn 107 [.c (.sl [.str,.int .i64,.int .i64,.int .i64] (E.e145 l0))] [] (.c (.bool r)) [] []:=by
 refine co_ Tryz.func107 tabOk [] fun F hF Q hQ => ?_
 simp only [impl_DirOk.f] at H
 (conv => cbv)
 repeat' first
  | replace H:=s_ H
  | (exfalso;with_reducible assumption)
  | (rw [itn_iff] at H;obtain ⟨hc,H⟩:=H)
  | (rw [itn2_iff] at H;obtain ⟨hc,H⟩:=H)
  | ((with_reducible refine br2 hF H ?_ ?_) <;> (clear H;intro hb H;(try (conv => cbv))))
  | (refine w_ hF ?_;(try (conv => cbv)))
  | ((with_reducible refine k1_ 144 H ?_);clear H;intro _ hy H;refine ca_ hF (impl_within.con E hE hy) ?_;(try (conv => cbv)))
  | ((with_reducible refine k1_ 188 H ?_);clear H;intro _ hy H;refine ca_ hF (impl_keyOk.con E hE hy) ?_;(try (conv => cbv)))
  | ((with_reducible refine lo_ hF (fun n t => n≤k∧∃ x0 x5 x6 x7,t = At 53 [(0,.c (.sl [.str,.int .i64,.int .i64,.int .i64] (E.e145 x0))),(5,.c (.sl [.str,.int .i64,.int .i64,.int .i64] (E.e145 x5))),(6,.c (.int .i64 x6)),(7,.c (.int .i64 x7))] []∧impl_DirOk.l0 n x0 x5 x6 x7 = some (r)) ⟨[0,5,6,7],[],[],[]⟩ fun n0 t ht Q0 hN0 hX0 => ?_);obtain ⟨hl,_,_,_,_,rfl,H⟩:=ht;rcases n0 with _ | n0;cases H;simp only [impl_DirOk.l0] at H;(try (conv => cbv)))
  | ((with_reducible show Q0 _ _);first | exact nx_ hN0 | (refine xt_ hX0 ?_;(try (conv => cbv))))
  | ((with_reducible show Q _ _);exact en_ ⟨[2],[],[],[]⟩ 53 hQ)
  | contradiction
theorem impl_DirMore_c1.con (E:En) (hE:E = E0) {a0_0 a0_1 a0_2 a0_3 a1 r} (H:impl_DirMore_c1.f a0_0 a0_1 a0_2 a0_3 a1 = some r) :
  Cn 167 [.agg [.c (.str a0_0),.c (.int .i64 a0_1),.c (.int .i64 a0_2),.c (.int .i64 a0_3)],.c (.str a1)] [] (.c (.int .i64 r)) [] []:=by
 refine co_ Tryz.func167 tabOkM [] fun F hF Q hQ => ?_
 simp only [impl_DirMore_c1.f] at H
 (conv => cbv)
 repeat' first
  | replace H:=s_ H
  | (exfalso;with_reducible assumption)
  | (rw [itn_iff] at H;obtain ⟨hc,H⟩:=H)
  | (rw [itn2_iff] at H;obtain ⟨hc,H⟩:=H)
  | ((with_reducible refine br2 hF H ?_ ?_) <;> (clear H;intro hb H;(try (conv => cbv))))
  | (refine w_ hF ?_;(try (conv => cbv)))
  | ((with_reducible refine k1_ 168 H ?_);clear H;intro _ hy H;refine ca_ hF (strings_Compare.con E hE hy) ?_;(try (conv => cbv)))
  | ((with_reducible show Q _ _);exact en_ ⟨[4],[],[],[]⟩ 9 hQ)
  | contradiction
theorem slices_BinarySearchFunc_impl_Spot_impl_Spot_string.con (E:En) (hE:E = E0) {k l0 a1 r1 r2} (H:slices_BinarySearchFunc_impl_Spot_impl_Spot_string.f k l0 a1 = some (r1,r2)) :
  Cn 166 [.c (.sl [.str,.int .i64,.int .i64,.int .i64] (E.e145 l0)),.c (.str a1),.c (.fn 167)] [] (.tup [.c (.int .i64 r1),.c (.bool r2)]) [] []:=by
 refine co_ Tryz.func166 tabOkM [] fun F hF Q hQ => ?_
 simp only [slices_BinarySearchFunc_impl_Spot_impl_Spot_string.f] at H
 (conv => cbv)
 repeat' first
  | replace H:=s_ H
  | (exfalso;with_reducible assumption)
  | (rw [itn_iff] at H;obtain ⟨hc,H⟩:=H)
  | (rw [itn2_iff] at H;obtain ⟨hc,H⟩:=H)
  | ((with_reducible refine br2 hF H ?_ ?_) <;> (clear H;intro hb H;(try (conv => cbv))))
  | (refine w_ hF ?_;(try (conv => cbv)))
  | ((with_reducible refine k1_ 167 H ?_);clear H;intro _ hy H;refine ca_ hF (impl_DirMore_c1.con E hE hy) ?_;(try (conv => cbv)))
  | ((with_reducible refine lo_ hF (fun n t => n≤k∧∃ x0 x1 x8 x9 x10,t = At 49 [(0,.c (.sl [.str,.int .i64,.int .i64,.int .i64] (E.e145 x0))),(1,.c (.str x1)),(2,.c (.fn 167)),(8,.c (.int .i64 x8)),(9,.c (.int .i64 x9)),(10,.c (.int .i64 x10))] []∧slices_BinarySearchFunc_impl_Spot_impl_Spot_string.l0 n x0 x1 x8 x9 x10 = some (r1,r2)) ⟨[0,1,2,8,9,10],[],[],[]⟩ fun n0 t ht Q0 hN0 hX0 => ?_);obtain ⟨hl,_,_,_,_,_,rfl,H⟩:=ht;rcases n0 with _ | n0;cases H;simp only [slices_BinarySearchFunc_impl_Spot_impl_Spot_string.l0] at H;(try (conv => cbv)))
  | ((with_reducible show Q0 _ _);first | exact nx_ hN0 | (refine xt_ hX0 ?_;(try (conv => cbv))))
  | ((with_reducible show Q _ _);exact en_ ⟨[6,7],[],[],[]⟩ 49 hQ)
  | contradiction
end Go.Ev
