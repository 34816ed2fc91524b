/- The closed facts of the row and of the card of the law FnExactSnapText, one theorem each. No conditions. -/
import Derived.Test.YtlmicldpfnmeaaaGreatDoorRows
import Derived.Test.YtlmicldpfnmeaaaGreatDoorTie
import Derived.Test.YtlmicldpfnmeaaaGreatDoorCards
import Derived.ProofKit
import Derived.JoinedOf
import Derived.SevenTiedAt
namespace Go.Proofs.YtlmicldpfnmeaaaGreatDoor.fnExactSnapText
open Go.ChangeShapes Go.WideShapes Go.ChangeAt Go.RowKit
set_option linter.all false
theorem q1:(Rows.fnExactSnapTextRow.wf (OpenSpec.ofChange Rows.fnExactSnapTextSpec)) = true:=by kernel_rfl
theorem q2:(laidOutB Tryz.prog) = true:=by kernel_rfl
theorem q3:(mapsRowed Tryz.prog) = true:=by kernel_rfl
theorem q4:(Tryz.f3.params.all (Tryz.prog.readableRec ·)) = true:=by kernel_rfl
theorem q5:(namedTie Tryz.prog Rows.fnExactSnapTextRow.named Rows.fnExactSnapTextSpec.vars) = true:=by kernel_rfl
theorem q6:((Rows.fnExactSnapTextRow.stops == [])) = true:=by kernel_rfl
theorem q7:((Tryz.prog.stops == [])) = true:=by kernel_rfl
theorem q8:((Rows.fnExactSnapTextRow.knobs == [])) = true:=by kernel_rfl
theorem q9:((Tryz.prog.stopKnobs == [])) = true:=by kernel_rfl
theorem q10:((Rows.fnExactSnapTextRow.inPlace == Tryz.prog.inPlace 3)) = true:=by kernel_rfl
theorem q11:((Rows.fnExactSnapTextRow.unfollowed == Tryz.prog.unfollowed 3)) = true:=by kernel_rfl
theorem q12:((Rows.fnExactSnapTextRow.recurses == Tryz.prog.recurses 3)) = true:=by kernel_rfl
theorem q13:((Rows.fnExactSnapTextRow.named == Tryz.prog.varsNamed 3)) = true:=by kernel_rfl
theorem q14:((Rows.fnExactSnapTextRow.maps == (Tryz.f3.params.toList++Rows.fnExactSnapTextSpec.plain.varTypes Tryz.prog).any (Tryz.prog.mapsRec ·))) = true:=by kernel_rfl
theorem q15:((Rows.fnExactSnapTextRow.ifaces == (Tryz.f3.params.toList++Rows.fnExactSnapTextSpec.plain.varTypes Tryz.prog).any (Tryz.prog.ifacesRec ·))) = true:=by kernel_rfl
theorem q16:((Rows.fnExactSnapTextRow.mapsOut == Tryz.prog.mapsAmong Tryz.f3.resultTypes.toList)) = true:=by kernel_rfl
theorem q17:((Rows.fnExactSnapTextRow.loops == (Tryz.f3.params.toList++Rows.fnExactSnapTextSpec.plain.varTypes Tryz.prog).any (Tryz.prog.loopsFrom ·))) = true:=by kernel_rfl
theorem q18:((Rows.fnExactSnapTextRow.wideKeys == (Tryz.f3.params.toList++Rows.fnExactSnapTextSpec.plain.varTypes Tryz.prog++Tryz.f3.resultTypes.toList).any (Tryz.prog.wideKeysFrom ·))) = true:=by kernel_rfl
theorem q19:(Rows.fnExactSnapTextSpec.vars.all (Tryz.prog.varReadable ·)) = true:=by kernel_rfl
theorem q20:(Tryz.f3.resultTypes.all (fun t => Tryz.prog.readableRec t && decide (t < Tryz.prog.types.size))) = true:=by kernel_rfl
theorem q21:((Rows.fnExactSnapTextRow.ifacesOut == Tryz.f3.resultTypes.toList.any (Tryz.prog.ifacesRec ·))) = true:=by kernel_rfl
theorem q22:((Rows.fnExactSnapTextRow.loopsOut == Tryz.f3.resultTypes.toList.any (Tryz.prog.loopsFrom ·))) = true:=by kernel_rfl
theorem q23:((Rows.fnExactSnapTextRow.plainKeys == Tryz.prog.plainKeys)) = true:=by kernel_rfl
theorem q24:(Rows.fnExactSnapTextRow.shortTexts.isNone) = true:=by kernel_rfl
theorem q25:(Tryz.prog.stopsHeard) = true:=by kernel_rfl
theorem q26:(Tryz.prog.mayEnter) = true:=by kernel_rfl
theorem q27:((Rows.fnExactSnapTextRow.lifted == Tryz.prog.liftsFinal)) = true:=by kernel_rfl
theorem q28:((Tryz.prog.make == some Rows.fnExactSnapTextRow.make)) = true:=by kernel_rfl
theorem q29:((Rows.fnExactSnapTextRow.kinds == (if Rows.fnExactSnapTextRow.domain.isEmpty then [] else Tryz.f3.params.toList.map fun t => match Tryz.prog.underlying t with | some (.int k) => some k | _ => none))) = true:=by kernel_rfl
theorem q30:((Rows.fnExactSnapTextRow.pinned == Rows.fnExactSnapTextRow.pinnedBy)) = true:=by kernel_rfl
theorem q31:((Rows.fnExactSnapTextRow.veiled == (Tryz.f3.params.toList++Rows.fnExactSnapTextSpec.plain.varTypes Tryz.prog++Tryz.f3.resultTypes.toList).any (Tryz.prog.veiledRec ·))) = true:=by kernel_rfl
theorem q32:(Rows.fnExactSnapTextRow.veiledFits Tryz.prog Tryz.f3.params.toList (Tryz.f3.params.toList++Rows.fnExactSnapTextSpec.plain.varTypes Tryz.prog++Tryz.f3.resultTypes.toList)) = true:=by kernel_rfl
theorem and_ {a b:Bool} (h:a = true) (k:b = true):(a && b) = true:=by rw [h,k];rfl
set_option maxRecDepth 100000 in
theorem closed:joinedFacts Tryz.prog 3 Tryz.f3 Rows.fnExactSnapTextSpec Rows.fnExactSnapTextRow = true:=by
 unfold joinedFacts
 exact and_ (and_ (and_ (and_ (and_ (and_ (and_ (and_ (and_ (and_ (and_ (and_ (and_ (and_ (and_ (and_ (and_ (and_ (and_ (and_ (and_ (and_ (and_ (and_ (and_ (and_ (and_ (and_ (and_ (and_ (and_ q1 q2) q3) q4) q5) q6) q7) q8) q9) q10) q11) q12) q13) q14) q15) q16) q17) q18) q19) q20) q21) q22) q23) q24) q25) q26) q27) q28) q29) q30) q31) q32
theorem r1:Rows.fnExactSnapTextRow.wfByText (OpenSpec.ofChange Rows.fnExactSnapTextSpec) = true:=by kernel_rfl
theorem r2 : Tryz.pinned.checked.prog.mainIs = some (true, "16b1db0768ba2a9f5cbaac4d12258301ba5e55da28f7f23efd5139271d52a7ee".toList) := by kernel_rfl
theorem r3:true = Tryz.pinned.checked.prog.looks []:=by kernel_rfl
theorem r4:([24,30].all fun u => !Tryz.prog.wantsStandIn u) = true:=by kernel_rfl
theorem r5:false = Rows.fnExactSnapTextRow.goesBy Tryz.pinned.checked.prog:=by kernel_rfl
theorem r6 : Tryz.prog.funcNamed "loop.example/g00103/laws.FnExactSnapText" = some 3 := by kernel_rfl
end Go.Proofs.YtlmicldpfnmeaaaGreatDoor.fnExactSnapText
