/-
  A part of a proof: the last text of the claim says what is proved, and under which conditions.
-/
import Derived.Test.YtfdmcaddpfmchaaGreatDoorM8
import Derived.Test.YtfdmcaddpfmchaaGreatDoorM14
set_option linter.unusedSimpArgs false
set_option linter.unusedVariables false
set_option linter.unnecessarySimpa false
/-
  The wakes of layer 16: reckoned by the kernel.
-/
namespace Go.Vm
open Go Go.Sp
set_option maxRecDepth 100000

theorem wakes16_run (p : List Fr → Bool) (sg : List Fr) : callC C0 orcN TX.funs TX.prim 2000 27 [] sg (fun v' sg' wd => ifK (veq v' (.bool true)) (ifK (Nat.beq wd 0) (p sg') false) false) = p sg := by kernel_rfl
def lawWakes : Bool := true
theorem lawWakes_says : SaysT TX 27 [] (eB lawWakes) := says_of_C orcN_ok (prim_su num0) cl_ok wakes16_run
end Go.Vm
