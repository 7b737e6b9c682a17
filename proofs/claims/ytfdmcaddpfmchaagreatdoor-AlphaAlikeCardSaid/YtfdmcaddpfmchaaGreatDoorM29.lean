/-
  AlphaAlike: atoms alike match the same facts; to be alike is so whichever stands ahead, and through a third: for all data the law answers true. Conditions: none beyond those of the statement.
-/
import Derived.Test.YtfdmcaddpfmchaaGreatDoorM24
import Derived.Test.YtfdmcaddpfmchaaGreatDoorM25
import Derived.Test.YtfdmcaddpfmchaaGreatDoorM26
import Derived.Test.YtfdmcaddpfmchaaGreatDoorM27
import Derived.Test.YtfdmcaddpfmchaaGreatDoorM28
set_option linter.unusedSimpArgs false
set_option linter.unusedVariables false
set_option linter.unnecessarySimpa false
/-
  AlphaAlike: the card.
-/
namespace Go.Proofs.YtfdmcaddpfmchaaGreatDoor
open Go Go.Vm Go.ChangeShapes Go.WideShapes Go.ChangeAt Go.RowKit
theorem alphaAlike : Rows.AlphaAlikeCardSaid :=
  Claim7.holds_tied_plain_at .later [] [.data, .data, .data, .data, .sentinel, .sentinel, .pinned] true (true, "2570b2396b8a693a686f239682194147406e8d71d0ca2d8140d7a10442a5d23a") true holds10 (fun _ h => by cases h) card10_0 (fun _ h => by cases h) alphaAlike_row_tie rfl ⟨rfl, rfl⟩ card10_1 rfl
    (fun f fn hf hfn => by
      obtain rfl : f = 10 := Option.some.inj ((show Tryz.prog.funcNamed "constable/constablelaw19.AlphaAlike" = some 10 by kernel_rfl).symm.trans hf) |>.symm
      obtain rfl : fn = Tryz.f10 := (Option.some.inj (Tryz.func10.symm.trans hfn)).symm
      exact ⟨card10_2, fun j t ht => by
        rw [Tryz.params10] at ht
        have hm : t ∈ [43, 43, 43, 91] := by simpa using Array.mem_of_getElem? ht
        have hall : ([43, 43, 43, 91].all fun u => !Tryz.prog.wantsStandIn u) = true := by kernel_rfl
        exact (show Tryz.prog.wantsStandIn t = false by simpa using List.all_eq_true.1 hall t hm)⟩)
    card10_3
#print axioms alphaAlike
end Go.Proofs.YtfdmcaddpfmchaaGreatDoor
