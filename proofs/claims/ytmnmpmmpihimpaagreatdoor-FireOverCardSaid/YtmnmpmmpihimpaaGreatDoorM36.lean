/-
  Proved: for every input constablelaw23.FireOver returns true and leaves its arguments as they were (the tied card of its row). Conditions: none but the row's own.
-/
import Derived.Test.YtmnmpmmpihimpaaGreatDoorM35
set_option linter.unusedSimpArgs false
set_option linter.unusedVariables false
set_option linter.unnecessarySimpa false
/-
  FireOver: the card.
-/
namespace Go.Proofs.YtmnmpmmpihimpaaGreatDoor
open Go Go.Vm Go.ChangeShapes Go.WideShapes Go.ChangeAt Go.RowKit
theorem fireOver : Rows.FireOverCardSaid :=
  Claim7.holds_tied_plain_at .later [] [.data, .data, .data, .data, .sentinel, .sentinel, .pinned] true (true, "a661111a0c3132c1f0e8f721e15bf1bd77c34e6ed4f7cad956305c359b77ff80") true holds4 (fun _ h => by cases h) (by kernel_rfl) (fun _ h => by cases h) fireOver_row_tie rfl ⟨rfl, rfl⟩ (by kernel_rfl) rfl
    (fun f fn hf hfn => by
      obtain rfl : f = 4 := Option.some.inj ((show Tryz.prog.funcNamed "constable/constablelaw23.FireOver" = some 4 by kernel_rfl).symm.trans hf) |>.symm
      obtain rfl : fn = Tryz.f4 := (Option.some.inj (Tryz.func4.symm.trans hfn)).symm
      exact ⟨by kernel_rfl, fun j t ht => by
        rw [Tryz.params4] at ht
        have hm : t ∈ [3, 3] := by simpa using Array.mem_of_getElem? ht
        have hall : ([3, 3].all fun u => !Tryz.prog.wantsStandIn u) = true := by kernel_rfl
        exact (show Tryz.prog.wantsStandIn t = false by simpa using List.all_eq_true.1 hall t hm)⟩)
    (by kernel_rfl)
#print axioms fireOver
end Go.Proofs.YtmnmpmmpihimpaaGreatDoor
