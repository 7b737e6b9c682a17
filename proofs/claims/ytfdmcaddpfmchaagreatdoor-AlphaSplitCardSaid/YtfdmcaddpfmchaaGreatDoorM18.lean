/-
  A part of a proof: the last text of the claim says what is proved, and under which conditions.
-/
import Derived.Test.YtfdmcaddpfmchaaGreatDoorM9
import Derived.Test.YtfdmcaddpfmchaaGreatDoorM15
set_option linter.unusedSimpArgs false
set_option linter.unusedVariables false
set_option linter.unnecessarySimpa false
/-
  The wakes of layer 19: reckoned by the kernel.
-/
namespace Go.Vm
open Go Go.Sp
set_option maxRecDepth 100000
theorem wakes19_run (p:List Fr→Bool) (sg:List Fr):callC C0 orcN TX.funs TX.prim 2000 42 [] sg (fun v' sg' wd=>ifK (veq v' (.bool true)) (ifK (Nat.beq wd 0) (p sg') false) false)=p sg:=by kernel_rfl
def lawWakes19:Bool:=true
theorem lawWakes19_says:SaysT TX 42 [] (eB lawWakes19):=says_of_C orcN_ok (prim_su num0) cl_ok wakes19_run
end Go.Vm
