/- The closed facts of the row and of the card of the law FnExactOpenShelf, one theorem each. No conditions. -/
import Derived.Test.YtlmicldpfnmeaaaGreatDoorRows
import Derived.Test.YtlmicldpfnmeaaaGreatDoorTie
import Derived.Test.YtlmicldpfnmeaaaGreatDoorCards
import Derived.ProofKit
import Derived.JoinedOf
import Derived.SevenTiedAt
namespace Go.Proofs.YtlmicldpfnmeaaaGreatDoor.fnExactOpenShelf
open Go.ChangeShapes Go.WideShapes Go.ChangeAt Go.RowKit
set_option linter.all false
theorem q1 : (Rows.fnExactOpenShelfRow.wf (OpenSpec.ofChange Rows.fnExactOpenShelfSpec)) = true := by kernel_rfl
theorem q2 : (laidOutB Tryz.prog) = true := by kernel_rfl
theorem q3 : (mapsRowed Tryz.prog) = true := by kernel_rfl
theorem q4 : (Tryz.f4.params.all (Tryz.prog.readableRec ·)) = true := by kernel_rfl
theorem q5 : (namedTie Tryz.prog Rows.fnExactOpenShelfRow.named Rows.fnExactOpenShelfSpec.vars) = true := by kernel_rfl
theorem q6 : ((Rows.fnExactOpenShelfRow.stops == [])) = true := by kernel_rfl
theorem q7 : ((Tryz.prog.stops == [])) = true := by kernel_rfl
theorem q8 : ((Rows.fnExactOpenShelfRow.knobs == [])) = true := by kernel_rfl
theorem q9 : ((Tryz.prog.stopKnobs == [])) = true := by kernel_rfl
theorem q10 : ((Rows.fnExactOpenShelfRow.inPlace == Tryz.prog.inPlace 4)) = true := by kernel_rfl
theorem q11 : ((Rows.fnExactOpenShelfRow.unfollowed == Tryz.prog.unfollowed 4)) = true := by kernel_rfl
theorem q12 : ((Rows.fnExactOpenShelfRow.recurses == Tryz.prog.recurses 4)) = true := by kernel_rfl
theorem q13 : ((Rows.fnExactOpenShelfRow.named == Tryz.prog.varsNamed 4)) = true := by kernel_rfl
theorem q14 : ((Rows.fnExactOpenShelfRow.maps == (Tryz.f4.params.toList ++ Rows.fnExactOpenShelfSpec.plain.varTypes Tryz.prog).any (Tryz.prog.mapsRec ·))) = true := by kernel_rfl
theorem q15 : ((Rows.fnExactOpenShelfRow.ifaces == (Tryz.f4.params.toList ++ Rows.fnExactOpenShelfSpec.plain.varTypes Tryz.prog).any (Tryz.prog.ifacesRec ·))) = true := by kernel_rfl
theorem q16 : ((Rows.fnExactOpenShelfRow.mapsOut == Tryz.prog.mapsAmong Tryz.f4.resultTypes.toList)) = true := by kernel_rfl
theorem q17 : ((Rows.fnExactOpenShelfRow.loops == (Tryz.f4.params.toList ++ Rows.fnExactOpenShelfSpec.plain.varTypes Tryz.prog).any (Tryz.prog.loopsFrom ·))) = true := by kernel_rfl
theorem q18 : ((Rows.fnExactOpenShelfRow.wideKeys == (Tryz.f4.params.toList ++ Rows.fnExactOpenShelfSpec.plain.varTypes Tryz.prog ++ Tryz.f4.resultTypes.toList).any (Tryz.prog.wideKeysFrom ·))) = true := by kernel_rfl
theorem q19 : (Rows.fnExactOpenShelfSpec.vars.all (Tryz.prog.varReadable ·)) = true := by kernel_rfl
theorem q20 : (Tryz.f4.resultTypes.all (fun t => Tryz.prog.readableRec t && decide (t < Tryz.prog.types.size))) = true := by kernel_rfl
theorem q21 : ((Rows.fnExactOpenShelfRow.ifacesOut == Tryz.f4.resultTypes.toList.any (Tryz.prog.ifacesRec ·))) = true := by kernel_rfl
theorem q22 : ((Rows.fnExactOpenShelfRow.loopsOut == Tryz.f4.resultTypes.toList.any (Tryz.prog.loopsFrom ·))) = true := by kernel_rfl
theorem q23 : ((Rows.fnExactOpenShelfRow.plainKeys == Tryz.prog.plainKeys)) = true := by kernel_rfl
theorem q24 : (Rows.fnExactOpenShelfRow.shortTexts.isNone) = true := by kernel_rfl
theorem q25 : (Tryz.prog.stopsHeard) = true := by kernel_rfl
theorem q26 : (Tryz.prog.mayEnter) = true := by kernel_rfl
theorem q27 : ((Rows.fnExactOpenShelfRow.lifted == Tryz.prog.liftsFinal)) = true := by kernel_rfl
theorem q28 : ((Tryz.prog.make == some Rows.fnExactOpenShelfRow.make)) = true := by kernel_rfl
theorem q29 : ((Rows.fnExactOpenShelfRow.kinds == (if Rows.fnExactOpenShelfRow.domain.isEmpty then [] else Tryz.f4.params.toList.map fun t => match Tryz.prog.underlying t with | some (.int k) => some k | _ => none))) = true := by kernel_rfl
theorem q30 : ((Rows.fnExactOpenShelfRow.pinned == Rows.fnExactOpenShelfRow.pinnedBy)) = true := by kernel_rfl
theorem q31 : ((Rows.fnExactOpenShelfRow.veiled == (Tryz.f4.params.toList ++ Rows.fnExactOpenShelfSpec.plain.varTypes Tryz.prog ++ Tryz.f4.resultTypes.toList).any (Tryz.prog.veiledRec ·))) = true := by kernel_rfl
theorem q32 : (Rows.fnExactOpenShelfRow.veiledFits Tryz.prog Tryz.f4.params.toList (Tryz.f4.params.toList ++ Rows.fnExactOpenShelfSpec.plain.varTypes Tryz.prog ++ Tryz.f4.resultTypes.toList)) = true := by kernel_rfl
theorem and_ {a b : Bool} (h : a = true) (k : b = true) : (a && b) = true := by rw [h, k]; rfl
set_option maxRecDepth 100000 in
theorem closed : joinedFacts Tryz.prog 4 Tryz.f4 Rows.fnExactOpenShelfSpec Rows.fnExactOpenShelfRow = true := by
  unfold joinedFacts
  exact and_ (and_ (and_ (and_ (and_ (and_ (and_ (and_ (and_ (and_ (and_ (and_ (and_ (and_ (and_ (and_ (and_ (and_ (and_ (and_ (and_ (and_ (and_ (and_ (and_ (and_ (and_ (and_ (and_ (and_ (and_ q1 q2) q3) q4) q5) q6) q7) q8) q9) q10) q11) q12) q13) q14) q15) q16) q17) q18) q19) q20) q21) q22) q23) q24) q25) q26) q27) q28) q29) q30) q31) q32
theorem r1 : Rows.fnExactOpenShelfRow.wfByText (OpenSpec.ofChange Rows.fnExactOpenShelfSpec) = true := by kernel_rfl
theorem r2 : Tryz.pinned.checked.prog.mainIs = some (true, "16b1db0768ba2a9f5cbaac4d12258301ba5e55da28f7f23efd5139271d52a7ee".toList) := by kernel_rfl
theorem r3 : true = Tryz.pinned.checked.prog.looks [] := by kernel_rfl
theorem r4 : ([24].all fun u => !Tryz.prog.wantsStandIn u) = true := by kernel_rfl
theorem r5 : false = Rows.fnExactOpenShelfRow.goesBy Tryz.pinned.checked.prog := by kernel_rfl
theorem r6 : Tryz.prog.funcNamed "loop.example/g00103/laws.FnExactOpenShelf" = some 4 := by kernel_rfl
end Go.Proofs.YtlmicldpfnmeaaaGreatDoor.fnExactOpenShelf
