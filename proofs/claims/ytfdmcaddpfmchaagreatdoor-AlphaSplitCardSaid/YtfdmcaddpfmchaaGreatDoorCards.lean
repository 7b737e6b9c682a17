/-
  DERIVED. GIVEN WITH THE SEED: THE CARDS: each row of YtfdmcaddpfmchaaGreatDoorRows.lean that lists a variable, with what it lists TIED to the program's text (the seventh form; the later family's looks); each row that meets fmt, with fmt's text TOLD by the authors' own Lean function (tested against real Go, not proved from fmt's source: count such statements apart). THE CARD IS WHAT COUNTS. Prove the row's statement (the work); the ties are given (YtfdmcaddpfmchaaGreatDoorTie.lean); close each card by the builder's one call (the guide's Derived/Test/ToyasCard.lean, 'card_holds'). Laid BY PROGRAM, IN A SANDBOX (cutbox-door.mjs). By AI agents, Wed Nov 11 2026. No macro, syntax, notation, axiom, sorry.
-/
import Derived.Test.YtfdmcaddpfmchaaGreatDoorRows
import GoSem.ClaimSeven
namespace Go.Proofs.YtfdmcaddpfmchaaGreatDoor
namespace Rows

/-- THE TIED CARD OF 'constablelaw16.SafeExact'. -/
def safeExactCard : Claim7 := { stood := { row := safeExactRow, standIns := [], harness := (true, "2570b2396b8a693a686f239682194147406e8d71d0ca2d8140d7a10442a5d23a"), looks := true }, kinds := [], alts := [], laidByText := true, laidKinds := [.data, .data, .data, .data, .sentinel, .sentinel, .pinned], laidTests := true, laidLooks := .later }
def SafeExactCardSaid : Prop := Claim7.holds Tryz.pinned (.plain (OpenSpec.ofChange safeExactSpec)) safeExactCard

/-- THE TIED CARD OF 'constablelaw16.SafeFound'. -/
def safeFoundCard : Claim7 := { stood := { row := safeFoundRow, standIns := [], harness := (true, "2570b2396b8a693a686f239682194147406e8d71d0ca2d8140d7a10442a5d23a"), looks := true }, kinds := [], alts := [], laidByText := true, laidKinds := [.data, .data, .data, .data, .sentinel, .sentinel, .pinned], laidTests := true, laidLooks := .later }
def SafeFoundCardSaid : Prop := Claim7.holds Tryz.pinned (.plain (OpenSpec.ofChange safeFoundSpec)) safeFoundCard

/-- THE TIED CARD OF 'constablelaw16.SafeRules'. -/
def safeRulesCard : Claim7 := { stood := { row := safeRulesRow, standIns := [], harness := (true, "2570b2396b8a693a686f239682194147406e8d71d0ca2d8140d7a10442a5d23a"), looks := true }, kinds := [], alts := [], laidByText := true, laidKinds := [.data, .data, .data, .data, .sentinel, .sentinel, .pinned], laidTests := true, laidLooks := .later }
def SafeRulesCardSaid : Prop := Claim7.holds Tryz.pinned (.plain (OpenSpec.ofChange safeRulesSpec)) safeRulesCard

/-- THE TIED CARD OF 'constablelaw16.SafePairs'. -/
def safePairsCard : Claim7 := { stood := { row := safePairsRow, standIns := [], harness := (true, "2570b2396b8a693a686f239682194147406e8d71d0ca2d8140d7a10442a5d23a"), looks := true }, kinds := [], alts := [], laidByText := true, laidKinds := [.data, .data, .data, .data, .sentinel, .sentinel, .pinned], laidTests := true, laidLooks := .later }
def SafePairsCardSaid : Prop := Claim7.holds Tryz.pinned (.plain (OpenSpec.ofChange safePairsSpec)) safePairsCard

/-- THE TIED CARD OF 'constablelaw19.AlphaNamed'. -/
def alphaNamedCard : Claim7 := { stood := { row := alphaNamedRow, standIns := [], harness := (true, "2570b2396b8a693a686f239682194147406e8d71d0ca2d8140d7a10442a5d23a"), looks := true }, kinds := [], alts := [], laidByText := true, laidKinds := [.data, .data, .data, .data, .sentinel, .sentinel, .pinned], laidTests := true, laidLooks := .later }
def AlphaNamedCardSaid : Prop := Claim7.holds Tryz.pinned (.plain (OpenSpec.ofChange alphaNamedSpec)) alphaNamedCard

/-- THE TIED CARD OF 'constablelaw17.StrataRise'. -/
def strataRiseCard : Claim7 := { stood := { row := strataRiseRow, standIns := [], harness := (true, "2570b2396b8a693a686f239682194147406e8d71d0ca2d8140d7a10442a5d23a"), looks := true }, kinds := [], alts := [], laidByText := true, laidKinds := [.data, .data, .data, .data, .sentinel, .sentinel, .pinned], laidTests := true, laidLooks := .later }
def StrataRiseCardSaid : Prop := Claim7.holds Tryz.pinned (.plain (OpenSpec.ofChange strataRiseSpec)) strataRiseCard

/-- THE TIED CARD OF 'constablelaw17.StrataOrder'. -/
def strataOrderCard : Claim7 := { stood := { row := strataOrderRow, standIns := [], harness := (true, "2570b2396b8a693a686f239682194147406e8d71d0ca2d8140d7a10442a5d23a"), looks := true }, kinds := [], alts := [], laidByText := true, laidKinds := [.data, .data, .data, .data, .sentinel, .sentinel, .pinned], laidTests := true, laidLooks := .later }
def StrataOrderCardSaid : Prop := Claim7.holds Tryz.pinned (.plain (OpenSpec.ofChange strataOrderSpec)) strataOrderCard

/-- THE TIED CARD OF 'constablelaw19.AlphaAlike'. -/
def alphaAlikeCard : Claim7 := { stood := { row := alphaAlikeRow, standIns := [], harness := (true, "2570b2396b8a693a686f239682194147406e8d71d0ca2d8140d7a10442a5d23a"), looks := true }, kinds := [], alts := [], laidByText := true, laidKinds := [.data, .data, .data, .data, .sentinel, .sentinel, .pinned], laidTests := true, laidLooks := .later }
def AlphaAlikeCardSaid : Prop := Claim7.holds Tryz.pinned (.plain (OpenSpec.ofChange alphaAlikeSpec)) alphaAlikeCard

/-- THE TIED CARD OF 'constablelaw19.AlphaSplit'. -/
def alphaSplitCard : Claim7 := { stood := { row := alphaSplitRow, standIns := [], harness := (true, "2570b2396b8a693a686f239682194147406e8d71d0ca2d8140d7a10442a5d23a"), looks := true }, kinds := [], alts := [], laidByText := true, laidKinds := [.data, .data, .data, .data, .sentinel, .sentinel, .pinned], laidTests := true, laidLooks := .later }
def AlphaSplitCardSaid : Prop := Claim7.holds Tryz.pinned (.plain (OpenSpec.ofChange alphaSplitSpec)) alphaSplitCard

/-- THE SECOND FORM's CARD OF 'constablelaw16.SafeExact'. -/
def safeExactUptoCard : Claim7 := { stood := { row := safeExactUptoRow, standIns := [], harness := (true, "2570b2396b8a693a686f239682194147406e8d71d0ca2d8140d7a10442a5d23a"), looks := true }, kinds := [], alts := [], laidByText := true, laidKinds := [.data, .data, .data, .data, .sentinel, .sentinel, .pinned], laidTests := true, laidLooks := .later }
def SafeExactUptoCardSaid : Prop := Claim7.holds Tryz.pinned (.plain (OpenSpec.upto safeExactSpec)) safeExactUptoCard

/-- THE SECOND FORM's CARD OF 'constablelaw16.SafeFound'. -/
def safeFoundUptoCard : Claim7 := { stood := { row := safeFoundUptoRow, standIns := [], harness := (true, "2570b2396b8a693a686f239682194147406e8d71d0ca2d8140d7a10442a5d23a"), looks := true }, kinds := [], alts := [], laidByText := true, laidKinds := [.data, .data, .data, .data, .sentinel, .sentinel, .pinned], laidTests := true, laidLooks := .later }
def SafeFoundUptoCardSaid : Prop := Claim7.holds Tryz.pinned (.plain (OpenSpec.upto safeFoundSpec)) safeFoundUptoCard

/-- THE SECOND FORM's CARD OF 'constablelaw16.SafeRules'. -/
def safeRulesUptoCard : Claim7 := { stood := { row := safeRulesUptoRow, standIns := [], harness := (true, "2570b2396b8a693a686f239682194147406e8d71d0ca2d8140d7a10442a5d23a"), looks := true }, kinds := [], alts := [], laidByText := true, laidKinds := [.data, .data, .data, .data, .sentinel, .sentinel, .pinned], laidTests := true, laidLooks := .later }
def SafeRulesUptoCardSaid : Prop := Claim7.holds Tryz.pinned (.plain (OpenSpec.upto safeRulesSpec)) safeRulesUptoCard

/-- THE SECOND FORM's CARD OF 'constablelaw16.SafePairs'. -/
def safePairsUptoCard : Claim7 := { stood := { row := safePairsUptoRow, standIns := [], harness := (true, "2570b2396b8a693a686f239682194147406e8d71d0ca2d8140d7a10442a5d23a"), looks := true }, kinds := [], alts := [], laidByText := true, laidKinds := [.data, .data, .data, .data, .sentinel, .sentinel, .pinned], laidTests := true, laidLooks := .later }
def SafePairsUptoCardSaid : Prop := Claim7.holds Tryz.pinned (.plain (OpenSpec.upto safePairsSpec)) safePairsUptoCard

/-- THE SECOND FORM's CARD OF 'constablelaw19.AlphaNamed'. -/
def alphaNamedUptoCard : Claim7 := { stood := { row := alphaNamedUptoRow, standIns := [], harness := (true, "2570b2396b8a693a686f239682194147406e8d71d0ca2d8140d7a10442a5d23a"), looks := true }, kinds := [], alts := [], laidByText := true, laidKinds := [.data, .data, .data, .data, .sentinel, .sentinel, .pinned], laidTests := true, laidLooks := .later }
def AlphaNamedUptoCardSaid : Prop := Claim7.holds Tryz.pinned (.plain (OpenSpec.upto alphaNamedSpec)) alphaNamedUptoCard

/-- THE SECOND FORM's CARD OF 'constablelaw17.StrataRise'. -/
def strataRiseUptoCard : Claim7 := { stood := { row := strataRiseUptoRow, standIns := [], harness := (true, "2570b2396b8a693a686f239682194147406e8d71d0ca2d8140d7a10442a5d23a"), looks := true }, kinds := [], alts := [], laidByText := true, laidKinds := [.data, .data, .data, .data, .sentinel, .sentinel, .pinned], laidTests := true, laidLooks := .later }
def StrataRiseUptoCardSaid : Prop := Claim7.holds Tryz.pinned (.plain (OpenSpec.upto strataRiseSpec)) strataRiseUptoCard

/-- THE SECOND FORM's CARD OF 'constablelaw17.StrataOrder'. -/
def strataOrderUptoCard : Claim7 := { stood := { row := strataOrderUptoRow, standIns := [], harness := (true, "2570b2396b8a693a686f239682194147406e8d71d0ca2d8140d7a10442a5d23a"), looks := true }, kinds := [], alts := [], laidByText := true, laidKinds := [.data, .data, .data, .data, .sentinel, .sentinel, .pinned], laidTests := true, laidLooks := .later }
def StrataOrderUptoCardSaid : Prop := Claim7.holds Tryz.pinned (.plain (OpenSpec.upto strataOrderSpec)) strataOrderUptoCard

/-- THE SECOND FORM's CARD OF 'constablelaw19.AlphaAlike'. -/
def alphaAlikeUptoCard : Claim7 := { stood := { row := alphaAlikeUptoRow, standIns := [], harness := (true, "2570b2396b8a693a686f239682194147406e8d71d0ca2d8140d7a10442a5d23a"), looks := true }, kinds := [], alts := [], laidByText := true, laidKinds := [.data, .data, .data, .data, .sentinel, .sentinel, .pinned], laidTests := true, laidLooks := .later }
def AlphaAlikeUptoCardSaid : Prop := Claim7.holds Tryz.pinned (.plain (OpenSpec.upto alphaAlikeSpec)) alphaAlikeUptoCard

/-- THE SECOND FORM's CARD OF 'constablelaw19.AlphaSplit'. -/
def alphaSplitUptoCard : Claim7 := { stood := { row := alphaSplitUptoRow, standIns := [], harness := (true, "2570b2396b8a693a686f239682194147406e8d71d0ca2d8140d7a10442a5d23a"), looks := true }, kinds := [], alts := [], laidByText := true, laidKinds := [.data, .data, .data, .data, .sentinel, .sentinel, .pinned], laidTests := true, laidLooks := .later }
def AlphaSplitUptoCardSaid : Prop := Claim7.holds Tryz.pinned (.plain (OpenSpec.upto alphaSplitSpec)) alphaSplitUptoCard
end Rows
end Go.Proofs.YtfdmcaddpfmchaaGreatDoor
