/-
  DERIVED. GIVEN WITH THE SEED: THE CARDS: each row of YtmnmpmmpihimpaaGreatDoorRows.lean that lists a variable, with what it lists TIED to the program's text (the seventh form; the later family's looks); each row that meets fmt, with fmt's text TOLD by the authors' own Lean function (tested against real Go, not proved from fmt's source: count such statements apart). THE CARD IS WHAT COUNTS. Prove the row's statement (the work); the ties are given (YtmnmpmmpihimpaaGreatDoorTie.lean); close each card by the builder's one call (the guide's Derived/Test/ToyasCard.lean, 'card_holds'). Laid BY PROGRAM, IN A SANDBOX (cutbox-door.mjs). By AI agents, Wed Nov 11 2026. No macro, syntax, notation, axiom, sorry.
-/
import Derived.Test.YtmnmpmmpihimpaaGreatDoorRows
import GoSem.ClaimSeven
namespace Go.Proofs.YtmnmpmmpihimpaaGreatDoor
namespace Rows

/-- THE TIED CARD OF 'constablelaw23.FireKinds'. -/
def fireKindsCard : Claim7 := { stood := { row := fireKindsRow, standIns := [], harness := (true, "a661111a0c3132c1f0e8f721e15bf1bd77c34e6ed4f7cad956305c359b77ff80"), looks := true }, kinds := [], alts := [], laidByText := true, laidKinds := [.data, .data, .data, .data, .sentinel, .sentinel, .pinned], laidTests := true, laidLooks := .later }
def FireKindsCardSaid : Prop := Claim7.holds Tryz.pinned (.plain (OpenSpec.ofChange fireKindsSpec)) fireKindsCard

/-- THE TIED CARD OF 'constablelaw23.FireOver'. -/
def fireOverCard : Claim7 := { stood := { row := fireOverRow, standIns := [], harness := (true, "a661111a0c3132c1f0e8f721e15bf1bd77c34e6ed4f7cad956305c359b77ff80"), looks := true }, kinds := [], alts := [], laidByText := true, laidKinds := [.data, .data, .data, .data, .sentinel, .sentinel, .pinned], laidTests := true, laidLooks := .later }
def FireOverCardSaid : Prop := Claim7.holds Tryz.pinned (.plain (OpenSpec.ofChange fireOverSpec)) fireOverCard

/-- THE TIED CARD OF 'constablelaw23.FireSmall'. -/
def fireSmallCard : Claim7 := { stood := { row := fireSmallRow, standIns := [], harness := (true, "a661111a0c3132c1f0e8f721e15bf1bd77c34e6ed4f7cad956305c359b77ff80"), looks := true }, kinds := [], alts := [], laidByText := true, laidKinds := [.data, .data, .data, .data, .sentinel, .sentinel, .pinned], laidTests := true, laidLooks := .later }
def FireSmallCardSaid : Prop := Claim7.holds Tryz.pinned (.plain (OpenSpec.ofChange fireSmallSpec)) fireSmallCard

/-- THE SECOND FORM's CARD OF 'constablelaw23.FireKinds'. -/
def fireKindsUptoCard : Claim7 := { stood := { row := fireKindsUptoRow, standIns := [], harness := (true, "a661111a0c3132c1f0e8f721e15bf1bd77c34e6ed4f7cad956305c359b77ff80"), looks := true }, kinds := [], alts := [], laidByText := true, laidKinds := [.data, .data, .data, .data, .sentinel, .sentinel, .pinned], laidTests := true, laidLooks := .later }
def FireKindsUptoCardSaid : Prop := Claim7.holds Tryz.pinned (.plain (OpenSpec.upto fireKindsSpec)) fireKindsUptoCard

/-- THE SECOND FORM's CARD OF 'constablelaw23.FireOver'. -/
def fireOverUptoCard : Claim7 := { stood := { row := fireOverUptoRow, standIns := [], harness := (true, "a661111a0c3132c1f0e8f721e15bf1bd77c34e6ed4f7cad956305c359b77ff80"), looks := true }, kinds := [], alts := [], laidByText := true, laidKinds := [.data, .data, .data, .data, .sentinel, .sentinel, .pinned], laidTests := true, laidLooks := .later }
def FireOverUptoCardSaid : Prop := Claim7.holds Tryz.pinned (.plain (OpenSpec.upto fireOverSpec)) fireOverUptoCard

/-- THE SECOND FORM's CARD OF 'constablelaw23.FireSmall'. -/
def fireSmallUptoCard : Claim7 := { stood := { row := fireSmallUptoRow, standIns := [], harness := (true, "a661111a0c3132c1f0e8f721e15bf1bd77c34e6ed4f7cad956305c359b77ff80"), looks := true }, kinds := [], alts := [], laidByText := true, laidKinds := [.data, .data, .data, .data, .sentinel, .sentinel, .pinned], laidTests := true, laidLooks := .later }
def FireSmallUptoCardSaid : Prop := Claim7.holds Tryz.pinned (.plain (OpenSpec.upto fireSmallSpec)) fireSmallUptoCard
end Rows
end Go.Proofs.YtmnmpmmpihimpaaGreatDoor
