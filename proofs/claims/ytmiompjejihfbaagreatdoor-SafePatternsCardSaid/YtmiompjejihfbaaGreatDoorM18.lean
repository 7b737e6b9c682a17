/-
  A part of a proof: the last text of the claim says what is proved, and under which conditions.
-/
import Derived.Test.YtmiompjejihfbaaGreatDoorM17
set_option linter.unusedSimpArgs false
set_option linter.unusedVariables false
set_option linter.unnecessarySimpa false
/- Printed by closed.py. -/
namespace Go.Vm
open Go
set_option maxRecDepth 1000000
theorem safePatterns_0 : callC C0 (orcA 1 (fun j q => bif Nat.beq j 0 && q == 10 then some (0) else none) (fun _ _ => none) SA4) TX.funs TX.prim 2000 3 [.int .i16 0] [] endT = true := by decide +kernel
theorem safePatterns_1 : callC C0 (orcA 1 (fun j q => bif Nat.beq j 0 && q == 10 then some (1) else none) (fun _ _ => none) SA4) TX.funs TX.prim 2000 3 [.int .i16 0] [] endT = true := by decide +kernel
theorem safePatterns_2 : callC C0 (orcA 1 (fun j q => bif Nat.beq j 0 && q == 10 then some (2) else none) (fun _ _ => none) SA4) TX.funs TX.prim 2000 3 [.int .i16 0] [] endT = true := by decide +kernel
theorem safePatterns_3 : callC C0 (orcA 1 (fun j q => bif Nat.beq j 0 && q == 10 then some (3) else none) (fun _ _ => none) SA4) TX.funs TX.prim 2000 3 [.int .i16 0] [] endT = true := by decide +kernel
theorem safePatterns_4 : callC C0 (orcA 1 (fun j q => bif Nat.beq j 0 && q == 10 then some (4) else none) (fun _ _ => none) SA4) TX.funs TX.prim 2000 3 [.int .i16 0] [] endT = true := by decide +kernel
theorem safePatterns_5 : callC C0 (orcA 1 (fun j q => bif Nat.beq j 0 && q == 10 then some (5) else none) (fun _ _ => none) SA4) TX.funs TX.prim 2000 3 [.int .i16 0] [] endT = true := by decide +kernel
theorem safePatterns_6 : callC C0 (orcA 1 (fun j q => bif Nat.beq j 0 && q == 10 then some (6) else none) (fun _ _ => none) SA4) TX.funs TX.prim 2000 3 [.int .i16 0] [] endT = true := by decide +kernel
theorem safePatterns_7 : callC C0 (orcA 1 (fun j q => bif Nat.beq j 0 && q == 10 then some (7) else none) (fun _ _ => none) SA4) TX.funs TX.prim 2000 3 [.int .i16 0] [] endT = true := by decide +kernel
theorem safePatterns_8 : callC C0 (orcA 1 (fun j q => bif Nat.beq j 0 && q == 10 then some (8) else none) (fun _ _ => none) SA4) TX.funs TX.prim 2000 3 [.int .i16 0] [] endT = true := by decide +kernel
theorem safePatterns_9 : callC C0 (orcA 1 (fun j q => bif Nat.beq j 0 && q == 10 then some (9) else none) (fun _ _ => none) SA4) TX.funs TX.prim 2000 3 [.int .i16 0] [] endT = true := by decide +kernel
end Go.Vm
