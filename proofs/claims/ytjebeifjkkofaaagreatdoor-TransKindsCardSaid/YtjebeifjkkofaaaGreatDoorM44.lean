/-
  
-/
import Derived.Test.YtjebeifjkkofaaaGreatDoorM39
import Derived.Test.YtjebeifjkkofaaaGreatDoorM40
import Derived.Test.YtjebeifjkkofaaaGreatDoorM41
import Derived.Test.YtjebeifjkkofaaaGreatDoorM42
import Derived.Test.YtjebeifjkkofaaaGreatDoorM43
set_option linter.unusedSimpArgs false
set_option linter.unusedVariables false
set_option linter.unnecessarySimpa false
/-
  TransKinds: the card.
-/
namespace Go.Proofs.YtjebeifjkkofaaaGreatDoor
open Go Go.Vm Go.ChangeShapes Go.WideShapes Go.ChangeAt Go.RowKit
theorem transKinds : Rows.TransKindsCardSaid :=
  Claim7.holds_tied_plain_at .later [] [.data, .data, .data, .data, .sentinel, .sentinel, .pinned] true (true, "e0a9cc02ae9e7bd68da0941dbc21077ad0b175b233553fdd9f2c65cf7e88650a") true holds3 (fun _ h => by cases h) card3_0 (fun _ h => by cases h) transKinds_row_tie rfl ⟨rfl, rfl⟩ card3_1 rfl
    (fun f fn hf hfn => by
      obtain rfl : f = 3 := Option.some.inj ((show Tryz.prog.funcNamed "constable/constablelaw26.TransKinds" = some 3 by kernel_rfl).symm.trans hf) |>.symm
      obtain rfl : fn = Tryz.f3 := (Option.some.inj (Tryz.func3.symm.trans hfn)).symm
      exact ⟨card3_2, fun j t ht => by
        rw [Tryz.params3] at ht
        have hm : t ∈ [3, 3] := by simpa using Array.mem_of_getElem? ht
        have hall : ([3, 3].all fun u => !Tryz.prog.wantsStandIn u) = true := by kernel_rfl
        exact (show Tryz.prog.wantsStandIn t = false by simpa using List.all_eq_true.1 hall t hm)⟩)
    card3_3
#print axioms transKinds
end Go.Proofs.YtjebeifjkkofaaaGreatDoor
