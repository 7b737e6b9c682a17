/-
  A part of a proof: the last text of the claim says what is proved, and under which conditions.
-/
import Derived.Test.YtmnmpmmpihimpaaGreatDoorM23
set_option linter.unusedSimpArgs false
set_option linter.unusedVariables false
set_option linter.unnecessarySimpa false
/- Printed by closed2.py. -/
namespace Go.Vm
open Go
set_option maxRecDepth 1000000
theorem Sr27 (p : List Fr → Bool) (sg : List Fr) : callC C0 SO0_1 TX.funs TX.prim 2000 7 Sa27 sg (fun v' sg' wd => ifK (veq v' Sv27) (ifK (Nat.beq wd 0) (p sg') false) false) = p sg := by kernel_rfl
theorem Ss27 (n : Int) (hn : 0 ≤ n ∧ n < 100) : SaysS TX (sgT [(.i64, n)]) 7 Sa27 Sv27 := saysS_of_C (sgT_num _) (sgT_onto _) (SO0_1_ok n hn) (primAll_su (sgT_num _) KX LX) cl_ok Sr27
theorem Sr20 (p : List Fr → Bool) (sg : List Fr) : callC C0 SO0_1 TX.funs TX.prim 2000 7 Sa20 sg (fun v' sg' wd => ifK (veq v' Sv20) (ifK (Nat.beq wd 0) (p sg') false) false) = p sg := by kernel_rfl
theorem Ss20 (n : Int) (hn : 0 ≤ n ∧ n < 100) : SaysS TX (sgT [(.i64, n)]) 7 Sa20 Sv20 := saysS_of_C (sgT_num _) (sgT_onto _) (SO0_1_ok n hn) (primAll_su (sgT_num _) KX LX) cl_ok Sr20
end Go.Vm
