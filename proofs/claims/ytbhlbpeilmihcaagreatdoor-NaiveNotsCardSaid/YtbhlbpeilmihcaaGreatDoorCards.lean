/-
  DERIVED. GIVEN WITH THE SEED: THE CARDS: each row of YtbhlbpeilmihcaaGreatDoorRows.lean that lists a variable, with what it lists TIED to the program's text (the seventh form; the later family's looks); each row that meets fmt, with fmt's text TOLD by the authors' own Lean function (tested against real Go, not proved from fmt's source: count such statements apart). THE CARD IS WHAT COUNTS. Prove the row's statement (the work); the ties are given (YtbhlbpeilmihcaaGreatDoorTie.lean); close each card by the builder's one call (the guide's Derived/Test/ToyasCard.lean, 'card_holds'). Laid BY PROGRAM, IN A SANDBOX (cutbox-door.mjs). By AI agents, Wed Nov 11 2026. No macro, syntax, notation, axiom, sorry.
-/
import Derived.Test.YtbhlbpeilmihcaaGreatDoorRows
import GoSem.ClaimSeven
namespace Go.Proofs.YtbhlbpeilmihcaaGreatDoor
namespace Rows

/-- THE TIED CARD OF 'constablelaw18.NaiveJoins'. -/
def naiveJoinsCard : Claim7 := { stood := { row := naiveJoinsRow, standIns := [], harness := (true, "10d2994ce97e6b83104ee704b6ab82e3416c363d316acaf3514d79418943b981"), looks := true }, kinds := [], alts := [], laidByText := true, laidKinds := [.data, .data, .data, .data, .sentinel, .sentinel, .pinned], laidTests := true, laidLooks := .later }
def NaiveJoinsCardSaid : Prop := Claim7.holds Tryz.pinned (.plain (OpenSpec.ofChange naiveJoinsSpec)) naiveJoinsCard

/-- THE TIED CARD OF 'constablelaw18.NaiveNots'. -/
def naiveNotsCard : Claim7 := { stood := { row := naiveNotsRow, standIns := [], harness := (true, "10d2994ce97e6b83104ee704b6ab82e3416c363d316acaf3514d79418943b981"), looks := true }, kinds := [], alts := [], laidByText := true, laidKinds := [.data, .data, .data, .data, .sentinel, .sentinel, .pinned], laidTests := true, laidLooks := .later }
def NaiveNotsCardSaid : Prop := Claim7.holds Tryz.pinned (.plain (OpenSpec.ofChange naiveNotsSpec)) naiveNotsCard

/-- THE SECOND FORM's CARD OF 'constablelaw18.NaiveJoins'. -/
def naiveJoinsUptoCard : Claim7 := { stood := { row := naiveJoinsUptoRow, standIns := [], harness := (true, "10d2994ce97e6b83104ee704b6ab82e3416c363d316acaf3514d79418943b981"), looks := true }, kinds := [], alts := [], laidByText := true, laidKinds := [.data, .data, .data, .data, .sentinel, .sentinel, .pinned], laidTests := true, laidLooks := .later }
def NaiveJoinsUptoCardSaid : Prop := Claim7.holds Tryz.pinned (.plain (OpenSpec.upto naiveJoinsSpec)) naiveJoinsUptoCard

/-- THE SECOND FORM's CARD OF 'constablelaw18.NaiveNots'. -/
def naiveNotsUptoCard : Claim7 := { stood := { row := naiveNotsUptoRow, standIns := [], harness := (true, "10d2994ce97e6b83104ee704b6ab82e3416c363d316acaf3514d79418943b981"), looks := true }, kinds := [], alts := [], laidByText := true, laidKinds := [.data, .data, .data, .data, .sentinel, .sentinel, .pinned], laidTests := true, laidLooks := .later }
def NaiveNotsUptoCardSaid : Prop := Claim7.holds Tryz.pinned (.plain (OpenSpec.upto naiveNotsSpec)) naiveNotsUptoCard
end Rows
end Go.Proofs.YtbhlbpeilmihcaaGreatDoor
