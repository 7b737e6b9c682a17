/-
  A part of a proof: the last text of the claim says what is proved, and under which conditions.
-/
import Derived.Test.YtmnmpmmpihimpaaGreatDoorM18
set_option linter.unusedSimpArgs false
set_option linter.unusedVariables false
set_option linter.unnecessarySimpa false
/- Printed by closed.py. -/
namespace Go.Vm
open Go
set_option maxRecDepth 1000000
theorem fireKinds_0 : callC C0 (orcA 1 (fun j q => bif Nat.beq j 0 && q == 4 then some (0) else none) (fun _ _ => none) KA5) TX.funs TX.prim 2000 3 [.int .i16 0] [] endT = true := by decide +kernel
theorem fireKinds_1 : callC C0 (orcA 1 (fun j q => bif Nat.beq j 0 && q == 4 then some (1) else none) (fun _ _ => none) KA5) TX.funs TX.prim 2000 3 [.int .i16 0] [] endT = true := by decide +kernel
theorem fireKinds_2 : callC C0 (orcA 1 (fun j q => bif Nat.beq j 0 && q == 4 then some (2) else none) (fun _ _ => none) KA5) TX.funs TX.prim 2000 3 [.int .i16 0] [] endT = true := by decide +kernel
theorem fireKinds_3 : callC C0 (orcA 1 (fun j q => bif Nat.beq j 0 && q == 4 then some (3) else none) (fun _ _ => none) KA5) TX.funs TX.prim 2000 3 [.int .i16 0] [] endT = true := by decide +kernel
end Go.Vm
