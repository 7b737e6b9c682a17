/-
  Proved: for every input constablelaw23.FireSmall returns true and leaves its arguments as they were (the tied card of its row). Conditions: none but the row's own.
-/
import Derived.Test.YtmnmpmmpihimpaaGreatDoorM35
set_option linter.unusedSimpArgs false
set_option linter.unusedVariables false
set_option linter.unnecessarySimpa false
/-
  FireSmall: the card.
-/
namespace Go.Proofs.YtmnmpmmpihimpaaGreatDoor
open Go Go.Vm Go.ChangeShapes Go.WideShapes Go.ChangeAt Go.RowKit
theorem fireSmall : Rows.FireSmallCardSaid :=
  Claim7.holds_tied_plain_at .later [] [.data, .data, .data, .data, .sentinel, .sentinel, .pinned] true (true, "a661111a0c3132c1f0e8f721e15bf1bd77c34e6ed4f7cad956305c359b77ff80") true holds5 (fun _ h => by cases h) (by kernel_rfl) (fun _ h => by cases h) fireSmall_row_tie rfl ⟨rfl, rfl⟩ (by kernel_rfl) rfl
    (fun f fn hf hfn => by
      obtain rfl : f = 5 := Option.some.inj ((show Tryz.prog.funcNamed "constable/constablelaw23.FireSmall" = some 5 by kernel_rfl).symm.trans hf) |>.symm
      obtain rfl : fn = Tryz.f5 := (Option.some.inj (Tryz.func5.symm.trans hfn)).symm
      exact ⟨by kernel_rfl, fun j t ht => by
        rw [Tryz.params5] at ht
        have hm : t ∈ [55, 3] := by simpa using Array.mem_of_getElem? ht
        have hall : ([55, 3].all fun u => !Tryz.prog.wantsStandIn u) = true := by kernel_rfl
        exact (show Tryz.prog.wantsStandIn t = false by simpa using List.all_eq_true.1 hall t hm)⟩)
    (by kernel_rfl)
#print axioms fireSmall
end Go.Proofs.YtmnmpmmpihimpaaGreatDoor
