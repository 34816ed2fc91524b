/- The closed facts of the row and of the card of the law FnShelves, one theorem each. No conditions. -/
import Derived.Test.YtlmicldpfnmeaaaGreatDoorRows
import Derived.Test.YtlmicldpfnmeaaaGreatDoorTie
import Derived.Test.YtlmicldpfnmeaaaGreatDoorCards
import Derived.ProofKit
import Derived.JoinedOf
import Derived.SevenTiedAt
namespace Go.Proofs.YtlmicldpfnmeaaaGreatDoor.fnShelves
open Go.ChangeShapes Go.WideShapes Go.ChangeAt Go.RowKit
set_option linter.all false
theorem q1:(Rows.fnShelvesRow.wf (OpenSpec.ofChange Rows.fnShelvesSpec)) = true:=by kernel_rfl
theorem q2:(laidOutB Tryz.prog) = true:=by kernel_rfl
theorem q3:(mapsRowed Tryz.prog) = true:=by kernel_rfl
theorem q4:(Tryz.f6.params.all (Tryz.prog.readableRec ·)) = true:=by kernel_rfl
theorem q5:(namedTie Tryz.prog Rows.fnShelvesRow.named Rows.fnShelvesSpec.vars) = true:=by kernel_rfl
theorem q6:((Rows.fnShelvesRow.stops == [])) = true:=by kernel_rfl
theorem q7:((Tryz.prog.stops == [])) = true:=by kernel_rfl
theorem q8:((Rows.fnShelvesRow.knobs == [])) = true:=by kernel_rfl
theorem q9:((Tryz.prog.stopKnobs == [])) = true:=by kernel_rfl
theorem q10:((Rows.fnShelvesRow.inPlace == Tryz.prog.inPlace 6)) = true:=by kernel_rfl
theorem q11:((Rows.fnShelvesRow.unfollowed == Tryz.prog.unfollowed 6)) = true:=by kernel_rfl
theorem q12:((Rows.fnShelvesRow.recurses == Tryz.prog.recurses 6)) = true:=by kernel_rfl
theorem q13:((Rows.fnShelvesRow.named == Tryz.prog.varsNamed 6)) = true:=by kernel_rfl
theorem q14:((Rows.fnShelvesRow.maps == (Tryz.f6.params.toList++Rows.fnShelvesSpec.plain.varTypes Tryz.prog).any (Tryz.prog.mapsRec ·))) = true:=by kernel_rfl
theorem q15:((Rows.fnShelvesRow.ifaces == (Tryz.f6.params.toList++Rows.fnShelvesSpec.plain.varTypes Tryz.prog).any (Tryz.prog.ifacesRec ·))) = true:=by kernel_rfl
theorem q16:((Rows.fnShelvesRow.mapsOut == Tryz.prog.mapsAmong Tryz.f6.resultTypes.toList)) = true:=by kernel_rfl
theorem q17:((Rows.fnShelvesRow.loops == (Tryz.f6.params.toList++Rows.fnShelvesSpec.plain.varTypes Tryz.prog).any (Tryz.prog.loopsFrom ·))) = true:=by kernel_rfl
theorem q18:((Rows.fnShelvesRow.wideKeys == (Tryz.f6.params.toList++Rows.fnShelvesSpec.plain.varTypes Tryz.prog++Tryz.f6.resultTypes.toList).any (Tryz.prog.wideKeysFrom ·))) = true:=by kernel_rfl
theorem q19:(Rows.fnShelvesSpec.vars.all (Tryz.prog.varReadable ·)) = true:=by kernel_rfl
theorem q20:(Tryz.f6.resultTypes.all (fun t => Tryz.prog.readableRec t && decide (t < Tryz.prog.types.size))) = true:=by kernel_rfl
theorem q21:((Rows.fnShelvesRow.ifacesOut == Tryz.f6.resultTypes.toList.any (Tryz.prog.ifacesRec ·))) = true:=by kernel_rfl
theorem q22:((Rows.fnShelvesRow.loopsOut == Tryz.f6.resultTypes.toList.any (Tryz.prog.loopsFrom ·))) = true:=by kernel_rfl
theorem q23:((Rows.fnShelvesRow.plainKeys == Tryz.prog.plainKeys)) = true:=by kernel_rfl
theorem q24:(Rows.fnShelvesRow.shortTexts.isNone) = true:=by kernel_rfl
theorem q25:(Tryz.prog.stopsHeard) = true:=by kernel_rfl
theorem q26:(Tryz.prog.mayEnter) = true:=by kernel_rfl
theorem q27:((Rows.fnShelvesRow.lifted == Tryz.prog.liftsFinal)) = true:=by kernel_rfl
theorem q28:((Tryz.prog.make == some Rows.fnShelvesRow.make)) = true:=by kernel_rfl
theorem q29:((Rows.fnShelvesRow.kinds == (if Rows.fnShelvesRow.domain.isEmpty then [] else Tryz.f6.params.toList.map fun t => match Tryz.prog.underlying t with | some (.int k) => some k | _ => none))) = true:=by kernel_rfl
theorem q30:((Rows.fnShelvesRow.pinned == Rows.fnShelvesRow.pinnedBy)) = true:=by kernel_rfl
theorem q31:((Rows.fnShelvesRow.veiled == (Tryz.f6.params.toList++Rows.fnShelvesSpec.plain.varTypes Tryz.prog++Tryz.f6.resultTypes.toList).any (Tryz.prog.veiledRec ·))) = true:=by kernel_rfl
theorem q32:(Rows.fnShelvesRow.veiledFits Tryz.prog Tryz.f6.params.toList (Tryz.f6.params.toList++Rows.fnShelvesSpec.plain.varTypes Tryz.prog++Tryz.f6.resultTypes.toList)) = true:=by kernel_rfl
theorem and_ {a b:Bool} (h:a = true) (k:b = true):(a && b) = true:=by rw [h,k];rfl
set_option maxRecDepth 100000 in
theorem closed:joinedFacts Tryz.prog 6 Tryz.f6 Rows.fnShelvesSpec Rows.fnShelvesRow = true:=by
 unfold joinedFacts
 exact and_ (and_ (and_ (and_ (and_ (and_ (and_ (and_ (and_ (and_ (and_ (and_ (and_ (and_ (and_ (and_ (and_ (and_ (and_ (and_ (and_ (and_ (and_ (and_ (and_ (and_ (and_ (and_ (and_ (and_ (and_ q1 q2) q3) q4) q5) q6) q7) q8) q9) q10) q11) q12) q13) q14) q15) q16) q17) q18) q19) q20) q21) q22) q23) q24) q25) q26) q27) q28) q29) q30) q31) q32
theorem r1:Rows.fnShelvesRow.wfByText (OpenSpec.ofChange Rows.fnShelvesSpec) = true:=by kernel_rfl
theorem r2 : Tryz.pinned.checked.prog.mainIs = some (true, "16b1db0768ba2a9f5cbaac4d12258301ba5e55da28f7f23efd5139271d52a7ee".toList) := by kernel_rfl
theorem r3:true = Tryz.pinned.checked.prog.looks []:=by kernel_rfl
theorem r4:([55].all fun u => !Tryz.prog.wantsStandIn u) = true:=by kernel_rfl
theorem r5:false = Rows.fnShelvesRow.goesBy Tryz.pinned.checked.prog:=by kernel_rfl
theorem r6 : Tryz.prog.funcNamed "loop.example/g00103/laws.FnShelves" = some 6 := by kernel_rfl
end Go.Proofs.YtlmicldpfnmeaaaGreatDoor.fnShelves
