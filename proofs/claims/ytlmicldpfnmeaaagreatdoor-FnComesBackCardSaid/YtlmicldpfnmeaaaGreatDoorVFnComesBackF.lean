/- The closed facts of the row and of the card of the law FnComesBack, one theorem each. No conditions. -/
import Derived.Test.YtlmicldpfnmeaaaGreatDoorRows
import Derived.Test.YtlmicldpfnmeaaaGreatDoorTie
import Derived.Test.YtlmicldpfnmeaaaGreatDoorCards
import Derived.ProofKit
import Derived.JoinedOf
import Derived.SevenTiedAt
namespace Go.Proofs.YtlmicldpfnmeaaaGreatDoor.fnComesBack
open Go.ChangeShapes Go.WideShapes Go.ChangeAt Go.RowKit
set_option linter.all false
theorem q1:(Rows.fnComesBackRow.wf (OpenSpec.ofChange Rows.fnComesBackSpec)) = true:=by kernel_rfl
theorem q2:(laidOutB Tryz.prog) = true:=by kernel_rfl
theorem q3:(mapsRowed Tryz.prog) = true:=by kernel_rfl
theorem q4:(Tryz.f11.params.all (Tryz.prog.readableRec ·)) = true:=by kernel_rfl
theorem q5:(namedTie Tryz.prog Rows.fnComesBackRow.named Rows.fnComesBackSpec.vars) = true:=by kernel_rfl
theorem q6:((Rows.fnComesBackRow.stops == [])) = true:=by kernel_rfl
theorem q7:((Tryz.prog.stops == [])) = true:=by kernel_rfl
theorem q8:((Rows.fnComesBackRow.knobs == [])) = true:=by kernel_rfl
theorem q9:((Tryz.prog.stopKnobs == [])) = true:=by kernel_rfl
theorem q10:((Rows.fnComesBackRow.inPlace == Tryz.prog.inPlace 11)) = true:=by kernel_rfl
theorem q11:((Rows.fnComesBackRow.unfollowed == Tryz.prog.unfollowed 11)) = true:=by kernel_rfl
theorem q12:((Rows.fnComesBackRow.recurses == Tryz.prog.recurses 11)) = true:=by kernel_rfl
theorem q13:((Rows.fnComesBackRow.named == Tryz.prog.varsNamed 11)) = true:=by kernel_rfl
theorem q14:((Rows.fnComesBackRow.maps == (Tryz.f11.params.toList++Rows.fnComesBackSpec.plain.varTypes Tryz.prog).any (Tryz.prog.mapsRec ·))) = true:=by kernel_rfl
theorem q15:((Rows.fnComesBackRow.ifaces == (Tryz.f11.params.toList++Rows.fnComesBackSpec.plain.varTypes Tryz.prog).any (Tryz.prog.ifacesRec ·))) = true:=by kernel_rfl
theorem q16:((Rows.fnComesBackRow.mapsOut == Tryz.prog.mapsAmong Tryz.f11.resultTypes.toList)) = true:=by kernel_rfl
theorem q17:((Rows.fnComesBackRow.loops == (Tryz.f11.params.toList++Rows.fnComesBackSpec.plain.varTypes Tryz.prog).any (Tryz.prog.loopsFrom ·))) = true:=by kernel_rfl
theorem q18:((Rows.fnComesBackRow.wideKeys == (Tryz.f11.params.toList++Rows.fnComesBackSpec.plain.varTypes Tryz.prog++Tryz.f11.resultTypes.toList).any (Tryz.prog.wideKeysFrom ·))) = true:=by kernel_rfl
theorem q19:(Rows.fnComesBackSpec.vars.all (Tryz.prog.varReadable ·)) = true:=by kernel_rfl
theorem q20:(Tryz.f11.resultTypes.all (fun t => Tryz.prog.readableRec t && decide (t < Tryz.prog.types.size))) = true:=by kernel_rfl
theorem q21:((Rows.fnComesBackRow.ifacesOut == Tryz.f11.resultTypes.toList.any (Tryz.prog.ifacesRec ·))) = true:=by kernel_rfl
theorem q22:((Rows.fnComesBackRow.loopsOut == Tryz.f11.resultTypes.toList.any (Tryz.prog.loopsFrom ·))) = true:=by kernel_rfl
theorem q23:((Rows.fnComesBackRow.plainKeys == Tryz.prog.plainKeys)) = true:=by kernel_rfl
theorem q24:(Rows.fnComesBackRow.shortTexts.isNone) = true:=by kernel_rfl
theorem q25:(Tryz.prog.stopsHeard) = true:=by kernel_rfl
theorem q26:(Tryz.prog.mayEnter) = true:=by kernel_rfl
theorem q27:((Rows.fnComesBackRow.lifted == Tryz.prog.liftsFinal)) = true:=by kernel_rfl
theorem q28:((Tryz.prog.make == some Rows.fnComesBackRow.make)) = true:=by kernel_rfl
theorem q29:((Rows.fnComesBackRow.kinds == (if Rows.fnComesBackRow.domain.isEmpty then [] else Tryz.f11.params.toList.map fun t => match Tryz.prog.underlying t with | some (.int k) => some k | _ => none))) = true:=by kernel_rfl
theorem q30:((Rows.fnComesBackRow.pinned == Rows.fnComesBackRow.pinnedBy)) = true:=by kernel_rfl
theorem q31:((Rows.fnComesBackRow.veiled == (Tryz.f11.params.toList++Rows.fnComesBackSpec.plain.varTypes Tryz.prog++Tryz.f11.resultTypes.toList).any (Tryz.prog.veiledRec ·))) = true:=by kernel_rfl
theorem q32:(Rows.fnComesBackRow.veiledFits Tryz.prog Tryz.f11.params.toList (Tryz.f11.params.toList++Rows.fnComesBackSpec.plain.varTypes Tryz.prog++Tryz.f11.resultTypes.toList)) = true:=by kernel_rfl
theorem and_ {a b:Bool} (h:a = true) (k:b = true):(a && b) = true:=by rw [h,k];rfl
set_option maxRecDepth 100000 in
theorem closed:joinedFacts Tryz.prog 11 Tryz.f11 Rows.fnComesBackSpec Rows.fnComesBackRow = true:=by
 unfold joinedFacts
 exact and_ (and_ (and_ (and_ (and_ (and_ (and_ (and_ (and_ (and_ (and_ (and_ (and_ (and_ (and_ (and_ (and_ (and_ (and_ (and_ (and_ (and_ (and_ (and_ (and_ (and_ (and_ (and_ (and_ (and_ (and_ q1 q2) q3) q4) q5) q6) q7) q8) q9) q10) q11) q12) q13) q14) q15) q16) q17) q18) q19) q20) q21) q22) q23) q24) q25) q26) q27) q28) q29) q30) q31) q32
theorem r1:Rows.fnComesBackRow.wfByText (OpenSpec.ofChange Rows.fnComesBackSpec) = true:=by kernel_rfl
theorem r2 : Tryz.pinned.checked.prog.mainIs = some (true, "16b1db0768ba2a9f5cbaac4d12258301ba5e55da28f7f23efd5139271d52a7ee".toList) := by kernel_rfl
theorem r3:true = Tryz.pinned.checked.prog.looks []:=by kernel_rfl
theorem r4:([55].all fun u => !Tryz.prog.wantsStandIn u) = true:=by kernel_rfl
theorem r5:false = Rows.fnComesBackRow.goesBy Tryz.pinned.checked.prog:=by kernel_rfl
theorem r6 : Tryz.prog.funcNamed "loop.example/g00103/laws.FnComesBack" = some 11 := by kernel_rfl
end Go.Proofs.YtlmicldpfnmeaaaGreatDoor.fnComesBack
