/-
  AlphaSplit: whatever program and list of facts come in, the law's run ends and answers true. Conditions: none beyond those of the statement.
-/
import Derived.Test.YtfdmcaddpfmchaaGreatDoorM28
import Derived.Test.YtfdmcaddpfmchaaGreatDoorM29
import Derived.Test.YtfdmcaddpfmchaaGreatDoorM30
import Derived.Test.YtfdmcaddpfmchaaGreatDoorM31
import Derived.Test.YtfdmcaddpfmchaaGreatDoorM32
set_option linter.unusedSimpArgs false
set_option linter.unusedVariables false
set_option linter.unnecessarySimpa false
/-
  AlphaSplit: the card.
-/
namespace Go.Proofs.YtfdmcaddpfmchaaGreatDoor
open Go Go.Vm Go.ChangeShapes Go.WideShapes Go.ChangeAt Go.RowKit
theorem alphaSplit:Rows.AlphaSplitCardSaid:=
 Claim7.holds_tied_plain_at .later [] [.data,.data,.data,.data,.sentinel,.sentinel,.pinned] true (true,"2570b2396b8a693a686f239682194147406e8d71d0ca2d8140d7a10442a5d23a") true holds11 (fun _ h=>by cases h) card11_0 (fun _ h=>by cases h) alphaSplit_row_tie rfl ⟨rfl,rfl⟩ card11_1 rfl
  (fun f fn hf hfn=>by
   obtain rfl:f=11:=Option.some.inj ((show Tryz.prog.funcNamed "constable/constablelaw19.AlphaSplit" = some 11 by kernel_rfl).symm.trans hf) |>.symm
   obtain rfl:fn=Tryz.f11:=(Option.some.inj (Tryz.func11.symm.trans hfn)).symm
   exact⟨card11_2,fun j t ht=>by
    rw[Tryz.params11] at ht
    have hm:t∈[31,96]:=by simpa using Array.mem_of_getElem? ht
    have hall:([31,96].all fun u=>!Tryz.prog.wantsStandIn u)=true:=by kernel_rfl
    exact(show Tryz.prog.wantsStandIn t=false by simpa using List.all_eq_true.1 hall t hm)⟩)
  card11_3
#print axioms alphaSplit
end Go.Proofs.YtfdmcaddpfmchaaGreatDoor
