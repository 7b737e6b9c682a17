/-
  DERIVED. GIVEN WITH THE SEED: THE CARDS: each row of YtjebeifjkkofaaaGreatDoorRows.lean that lists a variable, with what it lists TIED to the program's text (the seventh form; the later family's looks); each row that meets fmt, with fmt's text TOLD by the authors' own Lean function (tested against real Go, not proved from fmt's source: count such statements apart). THE CARD IS WHAT COUNTS. Prove the row's statement (the work); the ties are given (YtjebeifjkkofaaaGreatDoorTie.lean); close each card by the builder's one call (the guide's Derived/Test/ToyasCard.lean, 'card_holds'). Laid BY PROGRAM, IN A SANDBOX (cutbox-door.mjs). By AI agents, Wed Nov 11 2026. No macro, syntax, notation, axiom, sorry.
-/
import Derived.Test.YtjebeifjkkofaaaGreatDoorRows
import GoSem.ClaimSeven
namespace Go.Proofs.YtjebeifjkkofaaaGreatDoor
namespace Rows

/-- THE TIED CARD OF 'constablelaw26.TransKinds'. -/
def transKindsCard : Claim7 := { stood := { row := transKindsRow, standIns := [], harness := (true, "e0a9cc02ae9e7bd68da0941dbc21077ad0b175b233553fdd9f2c65cf7e88650a"), looks := true }, kinds := [], alts := [], laidByText := true, laidKinds := [.data, .data, .data, .data, .sentinel, .sentinel, .pinned], laidTests := true, laidLooks := .later }
def TransKindsCardSaid : Prop := Claim7.holds Tryz.pinned (.plain (OpenSpec.ofChange transKindsSpec)) transKindsCard

/-- THE SECOND FORM's CARD OF 'constablelaw26.TransKinds'. -/
def transKindsUptoCard : Claim7 := { stood := { row := transKindsUptoRow, standIns := [], harness := (true, "e0a9cc02ae9e7bd68da0941dbc21077ad0b175b233553fdd9f2c65cf7e88650a"), looks := true }, kinds := [], alts := [], laidByText := true, laidKinds := [.data, .data, .data, .data, .sentinel, .sentinel, .pinned], laidTests := true, laidLooks := .later }
def TransKindsUptoCardSaid : Prop := Claim7.holds Tryz.pinned (.plain (OpenSpec.upto transKindsSpec)) transKindsUptoCard
end Rows
end Go.Proofs.YtjebeifjkkofaaaGreatDoor
