/-
  A part of a proof: the last text of the claim says what is proved, and under which conditions.
-/
import Derived.Test.YtfdmcaddpfmchaaGreatDoorM15
set_option linter.unusedSimpArgs false
set_option linter.unusedVariables false
set_option linter.unnecessarySimpa false
/-
  AlphaSplit: a fact of the row.
-/
namespace Go.Proofs.YtfdmcaddpfmchaaGreatDoor
open Go Go.Vm Go.ChangeShapes Go.WideShapes Go.ChangeAt Go.RowKit
theorem fact11_6:Tryz.f11.isWrapper Tryz.pinned.checked.prog Rows.alphaSplitRow.wrapper Rows.alphaSplitRow.mainSum:=by unfold Func.isWrapper;first|(rw[if_pos (by decide +kernel)];kernel_rfl)|(rw[if_neg (by decide +kernel)];exact⟨rfl,rfl⟩)
end Go.Proofs.YtfdmcaddpfmchaaGreatDoor
