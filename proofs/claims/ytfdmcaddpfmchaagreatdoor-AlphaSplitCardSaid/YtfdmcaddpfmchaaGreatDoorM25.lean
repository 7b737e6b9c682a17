/-
  A part of a proof: the last text of the claim says what is proved, and under which conditions.
-/
import Derived.Test.YtfdmcaddpfmchaaGreatDoorM15
import Derived.Test.YtfdmcaddpfmchaaGreatDoorM21
import Derived.Test.YtfdmcaddpfmchaaGreatDoorM22
import Derived.Test.YtfdmcaddpfmchaaGreatDoorM23
import Derived.Test.YtfdmcaddpfmchaaGreatDoorM24
set_option linter.unusedSimpArgs false
set_option linter.unusedVariables false
set_option linter.unnecessarySimpa false
/-
  AlphaSplit: a fact of the row.
-/
namespace Go.Proofs.YtfdmcaddpfmchaaGreatDoor
open Go Go.Vm Go.ChangeShapes Go.WideShapes Go.ChangeAt Go.RowKit
theorem fact11_4:joinedFacts Tryz.pinned.checked.prog 11 Tryz.f11 Rows.alphaSplitSpec Rows.alphaSplitRow=true:=by unfold joinedFacts;rw[fact11_0,fact11_1,fact11_2,fact11_3];kernel_rfl
end Go.Proofs.YtfdmcaddpfmchaaGreatDoor
