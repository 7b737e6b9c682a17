/-
  A part of a proof: the last text of the claim says what is proved, and under which conditions.
-/
import Derived.Test.YtfdmcaddpfmchaaGreatDoorM18
import Derived.Test.YtfdmcaddpfmchaaGreatDoorM19
import Derived.Test.YtfdmcaddpfmchaaGreatDoorM20
import Derived.Test.YtfdmcaddpfmchaaGreatDoorM21
import Derived.Test.YtfdmcaddpfmchaaGreatDoorM22
set_option linter.unusedSimpArgs false
set_option linter.unusedVariables false
set_option linter.unnecessarySimpa false
/-
  SafeFound: the row.
-/
namespace Go.Proofs.YtfdmcaddpfmchaaGreatDoor
open Go Go.Vm Go.ChangeShapes Go.WideShapes Go.ChangeAt Go.RowKit

theorem holds4 : Rows.SafeFoundSaid :=
  OpenClaim.holds_of_wide 4 Tryz.f4 rfl rfl rfl rfl rfl rfl rfl ⟨rfl, rfl, rfl, rfl, rfl⟩ rfl rfl rfl rfl rfl (by kernel_rfl) Tryz.func4 (by unfold joinedFacts; rw [fact4_0, fact4_1, fact4_2, fact4_3]; kernel_rfl)
    (of_decide_eq_true (by kernel_rfl)) (by unfold Func.isWrapper; first | (rw [if_pos (by decide +kernel)]; kernel_rfl) | (rw [if_neg (by decide +kernel)]; exact ⟨rfl, rfl⟩))
    (fun os started H enc _ => lifted4 os started H enc)
end Go.Proofs.YtfdmcaddpfmchaaGreatDoor
