/-
  DERIVED. GIVEN WITH THE SEED: THE CARDS: each row of YtbcgnncbiblibaaDoorRows.lean that lists a variable, with what it lists TIED to the program's text (the seventh form; the later family's looks); each row that meets fmt, with fmt's text TOLD by the authors' own Lean function (tested against real Go, not proved from fmt's source: count such statements apart). THE CARD IS WHAT COUNTS. Prove the row's statement (the work); the ties are given (YtbcgnncbiblibaaDoorTie.lean); close each card by the builder's one call (the guide's Derived/Test/ToyasCard.lean, 'card_holds'). Laid BY PROGRAM, IN A SANDBOX (cutbox-door.mjs). By AI agents, Wed Nov 11 2026. No macro, syntax, notation, axiom, sorry.
-/
import Derived.Test.YtbcgnncbiblibaaDoorRows
import GoSem.ClaimSeven
namespace Go.Proofs.YtbcgnncbiblibaaDoor
namespace Rows

/-- THE TIED CARD OF 'laws.FnExactFormatShelf'. -/
def fnExactFormatShelfCard : Claim7 := { stood := { row := fnExactFormatShelfRow, standIns := [], harness := (true, "9cfb7efb67072369e6202c617a505893860ca3d4550262319337710c92e74ca2"), looks := false }, kinds := [], alts := [], laidByText := true, laidKinds := [.data, .data, .data], laidTests := true, laidLooks := .later }
def FnExactFormatShelfCardSaid : Prop := Claim7.holds Tryd.pinned (.plain (OpenSpec.ofChange fnExactFormatShelfSpec)) fnExactFormatShelfCard

/-- THE TIED CARD OF 'laws.FnExactShelfMap'. -/
def fnExactShelfMapCard : Claim7 := { stood := { row := fnExactShelfMapRow, standIns := [], harness := (true, "9cfb7efb67072369e6202c617a505893860ca3d4550262319337710c92e74ca2"), looks := false }, kinds := [], alts := [], laidByText := true, laidKinds := [.data, .data, .data], laidTests := true, laidLooks := .later }
def FnExactShelfMapCardSaid : Prop := Claim7.holds Tryd.pinned (.plain (OpenSpec.ofChange fnExactShelfMapSpec)) fnExactShelfMapCard

/-- THE SECOND FORM's CARD OF 'laws.FnExactFormatShelf'. -/
def fnExactFormatShelfUptoCard : Claim7 := { stood := { row := fnExactFormatShelfUptoRow, standIns := [], harness := (true, "9cfb7efb67072369e6202c617a505893860ca3d4550262319337710c92e74ca2"), looks := false }, kinds := [], alts := [], laidByText := true, laidKinds := [.data, .data, .data], laidTests := true, laidLooks := .later }
def FnExactFormatShelfUptoCardSaid : Prop := Claim7.holds Tryd.pinned (.plain (OpenSpec.upto fnExactFormatShelfSpec)) fnExactFormatShelfUptoCard

/-- THE SECOND FORM's CARD OF 'laws.FnExactShelfMap'. -/
def fnExactShelfMapUptoCard : Claim7 := { stood := { row := fnExactShelfMapUptoRow, standIns := [], harness := (true, "9cfb7efb67072369e6202c617a505893860ca3d4550262319337710c92e74ca2"), looks := false }, kinds := [], alts := [], laidByText := true, laidKinds := [.data, .data, .data], laidTests := true, laidLooks := .later }
def FnExactShelfMapUptoCardSaid : Prop := Claim7.holds Tryd.pinned (.plain (OpenSpec.upto fnExactShelfMapSpec)) fnExactShelfMapUptoCard
end Rows
end Go.Proofs.YtbcgnncbiblibaaDoor
