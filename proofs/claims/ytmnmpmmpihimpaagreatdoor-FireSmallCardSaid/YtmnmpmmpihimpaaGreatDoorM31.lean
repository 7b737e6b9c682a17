/-
  A part of a proof: the last text of the claim says what is proved, and under which conditions.
-/
import Derived.Test.YtmnmpmmpihimpaaGreatDoorM9
set_option linter.unusedSimpArgs false
set_option linter.unusedVariables false
set_option linter.unnecessarySimpa false
/-
  FireSmall: a fact of the row.
-/
namespace Go.Proofs.YtmnmpmmpihimpaaGreatDoor
open Go Go.Vm Go.ChangeShapes Go.WideShapes Go.ChangeAt Go.RowKit

theorem fact5_0 : (Rows.fireSmallRow.inPlace == Tryz.pinned.checked.prog.inPlace 5) = true := by kernel_rfl
end Go.Proofs.YtmnmpmmpihimpaaGreatDoor
