/-
  A part of a proof: the last text of the claim says what is proved, and under which conditions.
-/
import Derived.Test.YtjebeifjkkofaaaGreatDoorM13
set_option linter.unusedSimpArgs false
set_option linter.unusedVariables false
set_option linter.unnecessarySimpa false
/-
  TransKinds: a fact of the card.
-/
namespace Go.Proofs.YtjebeifjkkofaaaGreatDoor
open Go Go.Vm Go.ChangeShapes Go.WideShapes Go.ChangeAt Go.RowKit
theorem card3_1 : Tryz.pinned.checked.prog.mainIs = some ((true, "e0a9cc02ae9e7bd68da0941dbc21077ad0b175b233553fdd9f2c65cf7e88650a").1, (true, "e0a9cc02ae9e7bd68da0941dbc21077ad0b175b233553fdd9f2c65cf7e88650a").2.toList) := by kernel_rfl
end Go.Proofs.YtjebeifjkkofaaaGreatDoor
