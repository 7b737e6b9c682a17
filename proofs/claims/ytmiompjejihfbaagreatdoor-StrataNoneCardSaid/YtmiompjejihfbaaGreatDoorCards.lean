/-
  DERIVED. GIVEN WITH THE SEED: THE CARDS: each row of YtmiompjejihfbaaGreatDoorRows.lean that lists a variable, with what it lists TIED to the program's text (the seventh form; the later family's looks); each row that meets fmt, with fmt's text TOLD by the authors' own Lean function (tested against real Go, not proved from fmt's source: count such statements apart). THE CARD IS WHAT COUNTS. Prove the row's statement (the work); the ties are given (YtmiompjejihfbaaGreatDoorTie.lean); close each card by the builder's one call (the guide's Derived/Test/ToyasCard.lean, 'card_holds'). Laid BY PROGRAM, IN A SANDBOX (cutbox-door.mjs). By AI agents, Wed Nov 11 2026. No macro, syntax, notation, axiom, sorry.
-/
import Derived.Test.YtmiompjejihfbaaGreatDoorRows
import GoSem.ClaimSeven
namespace Go.Proofs.YtmiompjejihfbaaGreatDoor
namespace Rows

/-- THE TIED CARD OF 'constablelaw16.SafePatterns'. -/
def safePatternsCard : Claim7 := { stood := { row := safePatternsRow, standIns := [], harness := (true, "7f4a7c9307ab13e7b9d7b8e21a154f6f43745775e88e22088de66c556b1ae471"), looks := true }, kinds := [], alts := [], laidByText := true, laidKinds := [.data, .data, .data, .data, .sentinel, .sentinel, .pinned], laidTests := true, laidLooks := .later }
def SafePatternsCardSaid : Prop := Claim7.holds Tryz.pinned (.plain (OpenSpec.ofChange safePatternsSpec)) safePatternsCard

/-- THE TIED CARD OF 'constablelaw17.StrataNone'. -/
def strataNoneCard : Claim7 := { stood := { row := strataNoneRow, standIns := [], harness := (true, "7f4a7c9307ab13e7b9d7b8e21a154f6f43745775e88e22088de66c556b1ae471"), looks := true }, kinds := [], alts := [], laidByText := true, laidKinds := [.data, .data, .data, .data, .sentinel, .sentinel, .pinned], laidTests := true, laidLooks := .later }
def StrataNoneCardSaid : Prop := Claim7.holds Tryz.pinned (.plain (OpenSpec.ofChange strataNoneSpec)) strataNoneCard

/-- THE SECOND FORM's CARD OF 'constablelaw16.SafePatterns'. -/
def safePatternsUptoCard : Claim7 := { stood := { row := safePatternsUptoRow, standIns := [], harness := (true, "7f4a7c9307ab13e7b9d7b8e21a154f6f43745775e88e22088de66c556b1ae471"), looks := true }, kinds := [], alts := [], laidByText := true, laidKinds := [.data, .data, .data, .data, .sentinel, .sentinel, .pinned], laidTests := true, laidLooks := .later }
def SafePatternsUptoCardSaid : Prop := Claim7.holds Tryz.pinned (.plain (OpenSpec.upto safePatternsSpec)) safePatternsUptoCard

/-- THE SECOND FORM's CARD OF 'constablelaw17.StrataNone'. -/
def strataNoneUptoCard : Claim7 := { stood := { row := strataNoneUptoRow, standIns := [], harness := (true, "7f4a7c9307ab13e7b9d7b8e21a154f6f43745775e88e22088de66c556b1ae471"), looks := true }, kinds := [], alts := [], laidByText := true, laidKinds := [.data, .data, .data, .data, .sentinel, .sentinel, .pinned], laidTests := true, laidLooks := .later }
def StrataNoneUptoCardSaid : Prop := Claim7.holds Tryz.pinned (.plain (OpenSpec.upto strataNoneSpec)) strataNoneUptoCard
end Rows
end Go.Proofs.YtmiompjejihfbaaGreatDoor
