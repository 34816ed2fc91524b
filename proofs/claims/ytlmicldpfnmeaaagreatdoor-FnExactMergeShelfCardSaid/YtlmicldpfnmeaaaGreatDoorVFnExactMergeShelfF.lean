/- The closed facts of the row and of the card of the law FnExactMergeShelf, one theorem each. No conditions. -/
import Derived.Test.YtlmicldpfnmeaaaGreatDoorRows
import Derived.Test.YtlmicldpfnmeaaaGreatDoorTie
import Derived.Test.YtlmicldpfnmeaaaGreatDoorCards
import Derived.ProofKit
import Derived.JoinedOf
import Derived.SevenTiedAt
namespace Go.Proofs.YtlmicldpfnmeaaaGreatDoor.fnExactMergeShelf
open Go.ChangeShapes Go.WideShapes Go.ChangeAt Go.RowKit
set_option linter.all false
theorem q1:(Rows.fnExactMergeShelfRow.wf (OpenSpec.ofChange Rows.fnExactMergeShelfSpec)) = true:=by kernel_rfl
theorem q2:(laidOutB Tryz.prog) = true:=by kernel_rfl
theorem q3:(mapsRowed Tryz.prog) = true:=by kernel_rfl
theorem q4:(Tryz.f8.params.all (Tryz.prog.readableRec ·)) = true:=by kernel_rfl
theorem q5:(namedTie Tryz.prog Rows.fnExactMergeShelfRow.named Rows.fnExactMergeShelfSpec.vars) = true:=by kernel_rfl
theorem q6:((Rows.fnExactMergeShelfRow.stops == [])) = true:=by kernel_rfl
theorem q7:((Tryz.prog.stops == [])) = true:=by kernel_rfl
theorem q8:((Rows.fnExactMergeShelfRow.knobs == [])) = true:=by kernel_rfl
theorem q9:((Tryz.prog.stopKnobs == [])) = true:=by kernel_rfl
theorem q10:((Rows.fnExactMergeShelfRow.inPlace == Tryz.prog.inPlace 8)) = true:=by kernel_rfl
theorem q11:((Rows.fnExactMergeShelfRow.unfollowed == Tryz.prog.unfollowed 8)) = true:=by kernel_rfl
theorem q12:((Rows.fnExactMergeShelfRow.recurses == Tryz.prog.recurses 8)) = true:=by kernel_rfl
theorem q13:((Rows.fnExactMergeShelfRow.named == Tryz.prog.varsNamed 8)) = true:=by kernel_rfl
theorem q14:((Rows.fnExactMergeShelfRow.maps == (Tryz.f8.params.toList++Rows.fnExactMergeShelfSpec.plain.varTypes Tryz.prog).any (Tryz.prog.mapsRec ·))) = true:=by kernel_rfl
theorem q15:((Rows.fnExactMergeShelfRow.ifaces == (Tryz.f8.params.toList++Rows.fnExactMergeShelfSpec.plain.varTypes Tryz.prog).any (Tryz.prog.ifacesRec ·))) = true:=by kernel_rfl
theorem q16:((Rows.fnExactMergeShelfRow.mapsOut == Tryz.prog.mapsAmong Tryz.f8.resultTypes.toList)) = true:=by kernel_rfl
theorem q17:((Rows.fnExactMergeShelfRow.loops == (Tryz.f8.params.toList++Rows.fnExactMergeShelfSpec.plain.varTypes Tryz.prog).any (Tryz.prog.loopsFrom ·))) = true:=by kernel_rfl
theorem q18:((Rows.fnExactMergeShelfRow.wideKeys == (Tryz.f8.params.toList++Rows.fnExactMergeShelfSpec.plain.varTypes Tryz.prog++Tryz.f8.resultTypes.toList).any (Tryz.prog.wideKeysFrom ·))) = true:=by kernel_rfl
theorem q19:(Rows.fnExactMergeShelfSpec.vars.all (Tryz.prog.varReadable ·)) = true:=by kernel_rfl
theorem q20:(Tryz.f8.resultTypes.all (fun t => Tryz.prog.readableRec t && decide (t < Tryz.prog.types.size))) = true:=by kernel_rfl
theorem q21:((Rows.fnExactMergeShelfRow.ifacesOut == Tryz.f8.resultTypes.toList.any (Tryz.prog.ifacesRec ·))) = true:=by kernel_rfl
theorem q22:((Rows.fnExactMergeShelfRow.loopsOut == Tryz.f8.resultTypes.toList.any (Tryz.prog.loopsFrom ·))) = true:=by kernel_rfl
theorem q23:((Rows.fnExactMergeShelfRow.plainKeys == Tryz.prog.plainKeys)) = true:=by kernel_rfl
theorem q24:(Rows.fnExactMergeShelfRow.shortTexts.isNone) = true:=by kernel_rfl
theorem q25:(Tryz.prog.stopsHeard) = true:=by kernel_rfl
theorem q26:(Tryz.prog.mayEnter) = true:=by kernel_rfl
theorem q27:((Rows.fnExactMergeShelfRow.lifted == Tryz.prog.liftsFinal)) = true:=by kernel_rfl
theorem q28:((Tryz.prog.make == some Rows.fnExactMergeShelfRow.make)) = true:=by kernel_rfl
theorem q29:((Rows.fnExactMergeShelfRow.kinds == (if Rows.fnExactMergeShelfRow.domain.isEmpty then [] else Tryz.f8.params.toList.map fun t => match Tryz.prog.underlying t with | some (.int k) => some k | _ => none))) = true:=by kernel_rfl
theorem q30:((Rows.fnExactMergeShelfRow.pinned == Rows.fnExactMergeShelfRow.pinnedBy)) = true:=by kernel_rfl
theorem q31:((Rows.fnExactMergeShelfRow.veiled == (Tryz.f8.params.toList++Rows.fnExactMergeShelfSpec.plain.varTypes Tryz.prog++Tryz.f8.resultTypes.toList).any (Tryz.prog.veiledRec ·))) = true:=by kernel_rfl
theorem q32:(Rows.fnExactMergeShelfRow.veiledFits Tryz.prog Tryz.f8.params.toList (Tryz.f8.params.toList++Rows.fnExactMergeShelfSpec.plain.varTypes Tryz.prog++Tryz.f8.resultTypes.toList)) = true:=by kernel_rfl
theorem and_ {a b:Bool} (h:a = true) (k:b = true):(a && b) = true:=by rw [h,k];rfl
set_option maxRecDepth 100000 in
theorem closed:joinedFacts Tryz.prog 8 Tryz.f8 Rows.fnExactMergeShelfSpec Rows.fnExactMergeShelfRow = true:=by
 unfold joinedFacts
 exact and_ (and_ (and_ (and_ (and_ (and_ (and_ (and_ (and_ (and_ (and_ (and_ (and_ (and_ (and_ (and_ (and_ (and_ (and_ (and_ (and_ (and_ (and_ (and_ (and_ (and_ (and_ (and_ (and_ (and_ (and_ q1 q2) q3) q4) q5) q6) q7) q8) q9) q10) q11) q12) q13) q14) q15) q16) q17) q18) q19) q20) q21) q22) q23) q24) q25) q26) q27) q28) q29) q30) q31) q32
theorem r1:Rows.fnExactMergeShelfRow.wfByText (OpenSpec.ofChange Rows.fnExactMergeShelfSpec) = true:=by kernel_rfl
theorem r2 : Tryz.pinned.checked.prog.mainIs = some (true, "16b1db0768ba2a9f5cbaac4d12258301ba5e55da28f7f23efd5139271d52a7ee".toList) := by kernel_rfl
theorem r3:true = Tryz.pinned.checked.prog.looks []:=by kernel_rfl
theorem r4:([24,30,3,3,25].all fun u => !Tryz.prog.wantsStandIn u) = true:=by kernel_rfl
theorem r5:false = Rows.fnExactMergeShelfRow.goesBy Tryz.pinned.checked.prog:=by kernel_rfl
theorem r6 : Tryz.prog.funcNamed "loop.example/g00103/laws.FnExactMergeShelf" = some 8 := by kernel_rfl
end Go.Proofs.YtlmicldpfnmeaaaGreatDoor.fnExactMergeShelf
