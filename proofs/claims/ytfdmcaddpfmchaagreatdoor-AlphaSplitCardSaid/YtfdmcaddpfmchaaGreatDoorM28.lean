/-
  A part of a proof: the last text of the claim says what is proved, and under which conditions.
-/
import Derived.Test.YtfdmcaddpfmchaaGreatDoorM20
import Derived.Test.YtfdmcaddpfmchaaGreatDoorM21
import Derived.Test.YtfdmcaddpfmchaaGreatDoorM22
import Derived.Test.YtfdmcaddpfmchaaGreatDoorM23
import Derived.Test.YtfdmcaddpfmchaaGreatDoorM24
import Derived.Test.YtfdmcaddpfmchaaGreatDoorM25
import Derived.Test.YtfdmcaddpfmchaaGreatDoorM26
import Derived.Test.YtfdmcaddpfmchaaGreatDoorM27
set_option linter.unusedSimpArgs false
set_option linter.unusedVariables false
set_option linter.unnecessarySimpa false
/-
  AlphaSplit: the row.
-/
namespace Go.Proofs.YtfdmcaddpfmchaaGreatDoor
open Go Go.Vm Go.ChangeShapes Go.WideShapes Go.ChangeAt Go.RowKit
theorem holds11:Rows.AlphaSplitSaid:=
 OpenClaim.holds_of_wide 11 Tryz.f11 rfl rfl rfl rfl rfl rfl rfl ⟨rfl,rfl,rfl,rfl,rfl⟩ rfl rfl rfl rfl rfl (by kernel_rfl) Tryz.func11 fact11_4
  fact11_5 fact11_6
  (fun os started H enc _=>lifted11 os started H enc)
end Go.Proofs.YtfdmcaddpfmchaaGreatDoor
