/-
  A part of a proof: the last text of the claim says what is proved, and under which conditions.
-/
import Derived.Test.YtmnmpmmpihimpaaGreatDoorM26
set_option linter.unusedSimpArgs false
set_option linter.unusedVariables false
set_option linter.unnecessarySimpa false
/- Printed by closed2.py. -/
namespace Go.Vm
open Go
set_option maxRecDepth 1000000
theorem Sr24 (p : List Fr → Bool) (sg : List Fr) : callC C0 SO0_2 TX.funs TX.prim 2000 7 Sa24 sg (fun v' sg' wd => ifK (veq v' Sv24) (ifK (Nat.beq wd 0) (p sg') false) false) = p sg := by kernel_rfl
theorem Ss24 (n : Int) (hn : 0 ≤ n ∧ n < 100) : SaysS TX (sgT [(.i64, n)]) 7 Sa24 Sv24 := saysS_of_C (sgT_num _) (sgT_onto _) (SO0_2_ok n hn) (primAll_su (sgT_num _) KX LX) cl_ok Sr24
theorem Sr26 (p : List Fr → Bool) (sg : List Fr) : callC C0 SO0_2 TX.funs TX.prim 2000 7 Sa26 sg (fun v' sg' wd => ifK (veq v' Sv26) (ifK (Nat.beq wd 0) (p sg') false) false) = p sg := by kernel_rfl
theorem Ss26 (n : Int) (hn : 0 ≤ n ∧ n < 100) : SaysS TX (sgT [(.i64, n)]) 7 Sa26 Sv26 := saysS_of_C (sgT_num _) (sgT_onto _) (SO0_2_ok n hn) (primAll_su (sgT_num _) KX LX) cl_ok Sr26
end Go.Vm
