/-
  A part of a proof: the last text of the claim says what is proved, and under which conditions.
-/
import Derived.Test.YtmnmpmmpihimpaaGreatDoorM21
set_option linter.unusedSimpArgs false
set_option linter.unusedVariables false
set_option linter.unnecessarySimpa false
/- Printed by closed2.py. -/
namespace Go.Vm
open Go
set_option maxRecDepth 1000000
theorem Sr21 (p : List Fr → Bool) (sg : List Fr) : callC C0 SO0_0 TX.funs TX.prim 2000 7 Sa21 sg (fun v' sg' wd => ifK (veq v' Sv21) (ifK (Nat.beq wd 0) (p sg') false) false) = p sg := by kernel_rfl
theorem Ss21 (n : Int) (hn : 0 ≤ n ∧ n < 100) : SaysS TX (sgT [(.i64, n)]) 7 Sa21 Sv21 := saysS_of_C (sgT_num _) (sgT_onto _) (SO0_0_ok n hn) (primAll_su (sgT_num _) KX LX) cl_ok Sr21
theorem Sr19 (p : List Fr → Bool) (sg : List Fr) : callC C0 SO0_0 TX.funs TX.prim 2000 145 Sa19 sg (fun v' sg' wd => ifK (veq v' Sv19) (ifK (Nat.beq wd 0) (p sg') false) false) = p sg := by kernel_rfl
theorem Ss19 (n : Int) (hn : 0 ≤ n ∧ n < 100) : SaysS TX (sgT [(.i64, n)]) 145 Sa19 Sv19 := saysS_of_C (sgT_num _) (sgT_onto _) (SO0_0_ok n hn) (primAll_su (sgT_num _) KX LX) cl_ok Sr19
end Go.Vm
