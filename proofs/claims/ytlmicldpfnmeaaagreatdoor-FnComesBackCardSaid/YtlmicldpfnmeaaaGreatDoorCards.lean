/-
  DERIVED. GIVEN WITH THE SEED: THE CARDS: each row of YtlmicldpfnmeaaaGreatDoorRows.lean that lists a variable, with what it lists TIED to the program's text (the seventh form; the later family's looks); each row that meets fmt, with fmt's text TOLD by the authors' own Lean function (tested against real Go, not proved from fmt's source: count such statements apart). THE CARD IS WHAT COUNTS. Prove the row's statement (the work); the ties are given (YtlmicldpfnmeaaaGreatDoorTie.lean); close each card by the builder's one call (the guide's Derived/Test/ToyasCard.lean, 'card_holds'). Laid BY PROGRAM, IN A SANDBOX (cutbox-door.mjs). By AI agents, Wed Nov 11 2026. No macro, syntax, notation, axiom, sorry.
-/
import Derived.Test.YtlmicldpfnmeaaaGreatDoorRows
import GoSem.ClaimSeven
namespace Go.Proofs.YtlmicldpfnmeaaaGreatDoor
namespace Rows

/-- THE TIED CARD OF 'laws.FnExactSnapText'. -/
def fnExactSnapTextCard : Claim7 := { stood := { row := fnExactSnapTextRow, standIns := [], harness := (true, "16b1db0768ba2a9f5cbaac4d12258301ba5e55da28f7f23efd5139271d52a7ee"), looks := true }, kinds := [], alts := [], laidByText := true, laidKinds := [.data, .data, .data, .sentinel, .sentinel], laidTests := true, laidLooks := .later }
def FnExactSnapTextCardSaid : Prop := Claim7.holds Tryz.pinned (.plain (OpenSpec.ofChange fnExactSnapTextSpec)) fnExactSnapTextCard

/-- THE TIED CARD OF 'laws.FnExactOpenShelf'. -/
def fnExactOpenShelfCard : Claim7 := { stood := { row := fnExactOpenShelfRow, standIns := [], harness := (true, "16b1db0768ba2a9f5cbaac4d12258301ba5e55da28f7f23efd5139271d52a7ee"), looks := true }, kinds := [], alts := [], laidByText := true, laidKinds := [.data, .data, .data, .sentinel, .sentinel], laidTests := true, laidLooks := .later }
def FnExactOpenShelfCardSaid : Prop := Claim7.holds Tryz.pinned (.plain (OpenSpec.ofChange fnExactOpenShelfSpec)) fnExactOpenShelfCard

/-- THE TIED CARD OF 'laws.FnMerges'. -/
def fnMergesCard : Claim7 := { stood := { row := fnMergesRow, standIns := [], harness := (true, "16b1db0768ba2a9f5cbaac4d12258301ba5e55da28f7f23efd5139271d52a7ee"), looks := true }, kinds := [], alts := [], laidByText := true, laidKinds := [.data, .data, .data, .sentinel, .sentinel], laidTests := true, laidLooks := .later }
def FnMergesCardSaid : Prop := Claim7.holds Tryz.pinned (.plain (OpenSpec.ofChange fnMergesSpec)) fnMergesCard

/-- THE TIED CARD OF 'laws.FnShelves'. -/
def fnShelvesCard : Claim7 := { stood := { row := fnShelvesRow, standIns := [], harness := (true, "16b1db0768ba2a9f5cbaac4d12258301ba5e55da28f7f23efd5139271d52a7ee"), looks := true }, kinds := [], alts := [], laidByText := true, laidKinds := [.data, .data, .data, .sentinel, .sentinel], laidTests := true, laidLooks := .later }
def FnShelvesCardSaid : Prop := Claim7.holds Tryz.pinned (.plain (OpenSpec.ofChange fnShelvesSpec)) fnShelvesCard

/-- THE TIED CARD OF 'laws.FnExactInstallShelf'. -/
def fnExactInstallShelfCard : Claim7 := { stood := { row := fnExactInstallShelfRow, standIns := [], harness := (true, "16b1db0768ba2a9f5cbaac4d12258301ba5e55da28f7f23efd5139271d52a7ee"), looks := true }, kinds := [], alts := [], laidByText := true, laidKinds := [.data, .data, .data, .sentinel, .sentinel], laidTests := true, laidLooks := .later }
def FnExactInstallShelfCardSaid : Prop := Claim7.holds Tryz.pinned (.plain (OpenSpec.ofChange fnExactInstallShelfSpec)) fnExactInstallShelfCard

/-- THE TIED CARD OF 'laws.FnExactMergeShelf'. -/
def fnExactMergeShelfCard : Claim7 := { stood := { row := fnExactMergeShelfRow, standIns := [], harness := (true, "16b1db0768ba2a9f5cbaac4d12258301ba5e55da28f7f23efd5139271d52a7ee"), looks := true }, kinds := [], alts := [], laidByText := true, laidKinds := [.data, .data, .data, .sentinel, .sentinel], laidTests := true, laidLooks := .later }
def FnExactMergeShelfCardSaid : Prop := Claim7.holds Tryz.pinned (.plain (OpenSpec.ofChange fnExactMergeShelfSpec)) fnExactMergeShelfCard

/-- THE TIED CARD OF 'laws.FnExactAddBatch'. -/
def fnExactAddBatchCard : Claim7 := { stood := { row := fnExactAddBatchRow, standIns := [], harness := (true, "16b1db0768ba2a9f5cbaac4d12258301ba5e55da28f7f23efd5139271d52a7ee"), looks := true }, kinds := [], alts := [], laidByText := true, laidKinds := [.data, .data, .data, .sentinel, .sentinel], laidTests := true, laidLooks := .later }
def FnExactAddBatchCardSaid : Prop := Claim7.holds Tryz.pinned (.plain (OpenSpec.ofChange fnExactAddBatchSpec)) fnExactAddBatchCard

/-- THE TIED CARD OF 'laws.FnMergesCut'. -/
def fnMergesCutCard : Claim7 := { stood := { row := fnMergesCutRow, standIns := [], harness := (true, "16b1db0768ba2a9f5cbaac4d12258301ba5e55da28f7f23efd5139271d52a7ee"), looks := true }, kinds := [], alts := [], laidByText := true, laidKinds := [.data, .data, .data, .sentinel, .sentinel], laidTests := true, laidLooks := .later }
def FnMergesCutCardSaid : Prop := Claim7.holds Tryz.pinned (.plain (OpenSpec.ofChange fnMergesCutSpec)) fnMergesCutCard

/-- THE TIED CARD OF 'laws.FnComesBack'. -/
def fnComesBackCard : Claim7 := { stood := { row := fnComesBackRow, standIns := [], harness := (true, "16b1db0768ba2a9f5cbaac4d12258301ba5e55da28f7f23efd5139271d52a7ee"), looks := true }, kinds := [], alts := [], laidByText := true, laidKinds := [.data, .data, .data, .sentinel, .sentinel], laidTests := true, laidLooks := .later }
def FnComesBackCardSaid : Prop := Claim7.holds Tryz.pinned (.plain (OpenSpec.ofChange fnComesBackSpec)) fnComesBackCard

/-- THE SECOND FORM's CARD OF 'laws.FnExactSnapText'. -/
def fnExactSnapTextUptoCard : Claim7 := { stood := { row := fnExactSnapTextUptoRow, standIns := [], harness := (true, "16b1db0768ba2a9f5cbaac4d12258301ba5e55da28f7f23efd5139271d52a7ee"), looks := true }, kinds := [], alts := [], laidByText := true, laidKinds := [.data, .data, .data, .sentinel, .sentinel], laidTests := true, laidLooks := .later }
def FnExactSnapTextUptoCardSaid : Prop := Claim7.holds Tryz.pinned (.plain (OpenSpec.upto fnExactSnapTextSpec)) fnExactSnapTextUptoCard

/-- THE SECOND FORM's CARD OF 'laws.FnExactOpenShelf'. -/
def fnExactOpenShelfUptoCard : Claim7 := { stood := { row := fnExactOpenShelfUptoRow, standIns := [], harness := (true, "16b1db0768ba2a9f5cbaac4d12258301ba5e55da28f7f23efd5139271d52a7ee"), looks := true }, kinds := [], alts := [], laidByText := true, laidKinds := [.data, .data, .data, .sentinel, .sentinel], laidTests := true, laidLooks := .later }
def FnExactOpenShelfUptoCardSaid : Prop := Claim7.holds Tryz.pinned (.plain (OpenSpec.upto fnExactOpenShelfSpec)) fnExactOpenShelfUptoCard

/-- THE SECOND FORM's CARD OF 'laws.FnMerges'. -/
def fnMergesUptoCard : Claim7 := { stood := { row := fnMergesUptoRow, standIns := [], harness := (true, "16b1db0768ba2a9f5cbaac4d12258301ba5e55da28f7f23efd5139271d52a7ee"), looks := true }, kinds := [], alts := [], laidByText := true, laidKinds := [.data, .data, .data, .sentinel, .sentinel], laidTests := true, laidLooks := .later }
def FnMergesUptoCardSaid : Prop := Claim7.holds Tryz.pinned (.plain (OpenSpec.upto fnMergesSpec)) fnMergesUptoCard

/-- THE SECOND FORM's CARD OF 'laws.FnShelves'. -/
def fnShelvesUptoCard : Claim7 := { stood := { row := fnShelvesUptoRow, standIns := [], harness := (true, "16b1db0768ba2a9f5cbaac4d12258301ba5e55da28f7f23efd5139271d52a7ee"), looks := true }, kinds := [], alts := [], laidByText := true, laidKinds := [.data, .data, .data, .sentinel, .sentinel], laidTests := true, laidLooks := .later }
def FnShelvesUptoCardSaid : Prop := Claim7.holds Tryz.pinned (.plain (OpenSpec.upto fnShelvesSpec)) fnShelvesUptoCard

/-- THE SECOND FORM's CARD OF 'laws.FnExactInstallShelf'. -/
def fnExactInstallShelfUptoCard : Claim7 := { stood := { row := fnExactInstallShelfUptoRow, standIns := [], harness := (true, "16b1db0768ba2a9f5cbaac4d12258301ba5e55da28f7f23efd5139271d52a7ee"), looks := true }, kinds := [], alts := [], laidByText := true, laidKinds := [.data, .data, .data, .sentinel, .sentinel], laidTests := true, laidLooks := .later }
def FnExactInstallShelfUptoCardSaid : Prop := Claim7.holds Tryz.pinned (.plain (OpenSpec.upto fnExactInstallShelfSpec)) fnExactInstallShelfUptoCard

/-- THE SECOND FORM's CARD OF 'laws.FnExactMergeShelf'. -/
def fnExactMergeShelfUptoCard : Claim7 := { stood := { row := fnExactMergeShelfUptoRow, standIns := [], harness := (true, "16b1db0768ba2a9f5cbaac4d12258301ba5e55da28f7f23efd5139271d52a7ee"), looks := true }, kinds := [], alts := [], laidByText := true, laidKinds := [.data, .data, .data, .sentinel, .sentinel], laidTests := true, laidLooks := .later }
def FnExactMergeShelfUptoCardSaid : Prop := Claim7.holds Tryz.pinned (.plain (OpenSpec.upto fnExactMergeShelfSpec)) fnExactMergeShelfUptoCard

/-- THE SECOND FORM's CARD OF 'laws.FnExactAddBatch'. -/
def fnExactAddBatchUptoCard : Claim7 := { stood := { row := fnExactAddBatchUptoRow, standIns := [], harness := (true, "16b1db0768ba2a9f5cbaac4d12258301ba5e55da28f7f23efd5139271d52a7ee"), looks := true }, kinds := [], alts := [], laidByText := true, laidKinds := [.data, .data, .data, .sentinel, .sentinel], laidTests := true, laidLooks := .later }
def FnExactAddBatchUptoCardSaid : Prop := Claim7.holds Tryz.pinned (.plain (OpenSpec.upto fnExactAddBatchSpec)) fnExactAddBatchUptoCard

/-- THE SECOND FORM's CARD OF 'laws.FnMergesCut'. -/
def fnMergesCutUptoCard : Claim7 := { stood := { row := fnMergesCutUptoRow, standIns := [], harness := (true, "16b1db0768ba2a9f5cbaac4d12258301ba5e55da28f7f23efd5139271d52a7ee"), looks := true }, kinds := [], alts := [], laidByText := true, laidKinds := [.data, .data, .data, .sentinel, .sentinel], laidTests := true, laidLooks := .later }
def FnMergesCutUptoCardSaid : Prop := Claim7.holds Tryz.pinned (.plain (OpenSpec.upto fnMergesCutSpec)) fnMergesCutUptoCard

/-- THE SECOND FORM's CARD OF 'laws.FnComesBack'. -/
def fnComesBackUptoCard : Claim7 := { stood := { row := fnComesBackUptoRow, standIns := [], harness := (true, "16b1db0768ba2a9f5cbaac4d12258301ba5e55da28f7f23efd5139271d52a7ee"), looks := true }, kinds := [], alts := [], laidByText := true, laidKinds := [.data, .data, .data, .sentinel, .sentinel], laidTests := true, laidLooks := .later }
def FnComesBackUptoCardSaid : Prop := Claim7.holds Tryz.pinned (.plain (OpenSpec.upto fnComesBackSpec)) fnComesBackUptoCard
end Rows
end Go.Proofs.YtlmicldpfnmeaaaGreatDoor
