/-
  SafePairs holds of the program: the statement's card, for every input that its guards let in, and on no further condition.
-/
import Derived.Test.YtfdmcaddpfmchaaGreatDoorM23
import Derived.Test.YtfdmcaddpfmchaaGreatDoorM24
import Derived.Test.YtfdmcaddpfmchaaGreatDoorM25
import Derived.Test.YtfdmcaddpfmchaaGreatDoorM26
import Derived.Test.YtfdmcaddpfmchaaGreatDoorM27
set_option linter.unusedSimpArgs false
set_option linter.unusedVariables false
set_option linter.unnecessarySimpa false
/-
  SafePairs: the card.
-/
namespace Go.Proofs.YtfdmcaddpfmchaaGreatDoor
open Go Go.Vm Go.ChangeShapes Go.WideShapes Go.ChangeAt Go.RowKit
theorem safePairs : Rows.SafePairsCardSaid :=
  Claim7.holds_tied_plain_at .later [] [.data, .data, .data, .data, .sentinel, .sentinel, .pinned] true (true, "2570b2396b8a693a686f239682194147406e8d71d0ca2d8140d7a10442a5d23a") true holds6 (fun _ h => by cases h) card6_0 (fun _ h => by cases h) safePairs_row_tie rfl ⟨rfl, rfl⟩ card6_1 rfl
    (fun f fn hf hfn => by
      obtain rfl : f = 6 := Option.some.inj ((show Tryz.prog.funcNamed "constable/constablelaw16.SafePairs" = some 6 by kernel_rfl).symm.trans hf) |>.symm
      obtain rfl : fn = Tryz.f6 := (Option.some.inj (Tryz.func6.symm.trans hfn)).symm
      exact ⟨card6_2, fun j t ht => by
        rw [Tryz.params6] at ht
        have hm : t ∈ [26, 26] := by simpa using Array.mem_of_getElem? ht
        have hall : ([26, 26].all fun u => !Tryz.prog.wantsStandIn u) = true := by kernel_rfl
        exact (show Tryz.prog.wantsStandIn t = false by simpa using List.all_eq_true.1 hall t hm)⟩)
    card6_3
#print axioms safePairs
end Go.Proofs.YtfdmcaddpfmchaaGreatDoor
