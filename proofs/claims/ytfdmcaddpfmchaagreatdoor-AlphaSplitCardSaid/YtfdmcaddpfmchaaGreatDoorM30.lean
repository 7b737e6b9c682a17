/-
  A part of a proof: the last text of the claim says what is proved, and under which conditions.
-/
import Derived.Test.YtfdmcaddpfmchaaGreatDoorM15
set_option linter.unusedSimpArgs false
set_option linter.unusedVariables false
set_option linter.unnecessarySimpa false
/-
  AlphaSplit: a fact of the card.
-/
namespace Go.Proofs.YtfdmcaddpfmchaaGreatDoor
open Go Go.Vm Go.ChangeShapes Go.WideShapes Go.ChangeAt Go.RowKit
theorem card11_1:Tryz.pinned.checked.prog.mainIs=some ((true,"2570b2396b8a693a686f239682194147406e8d71d0ca2d8140d7a10442a5d23a").1,(true,"2570b2396b8a693a686f239682194147406e8d71d0ca2d8140d7a10442a5d23a").2.toList):=by kernel_rfl
end Go.Proofs.YtfdmcaddpfmchaaGreatDoor
