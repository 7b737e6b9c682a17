/-
  A part of a proof: the last text of the claim says what is proved, and under which conditions.
-/
import Derived.Test.YtmiompjejihfbaaGreatDoorM30
set_option linter.unusedSimpArgs false
set_option linter.unusedVariables false
set_option linter.unnecessarySimpa false
/- Printed by closed.py. -/
namespace Go.Vm
open Go
set_option maxRecDepth 1000000
theorem strataNone_0_0 : callC C0 (orcA 2 (fun j q => bif Nat.beq j 0 && q == 8 then some (0) else bif Nat.beq j 1 && q == 3 then some (0) else none) (fun _ _ => none) NA4) TX.funs TX.prim 2000 4 [.int .i16 0, .int .i16 1] [] endT = true := by decide +kernel
theorem strataNone_0_1 : callC C0 (orcA 2 (fun j q => bif Nat.beq j 0 && q == 8 then some (0) else bif Nat.beq j 1 && q == 3 then some (1) else none) (fun _ _ => none) NA4) TX.funs TX.prim 2000 4 [.int .i16 0, .int .i16 1] [] endT = true := by decide +kernel
theorem strataNone_0_2 : callC C0 (orcA 2 (fun j q => bif Nat.beq j 0 && q == 8 then some (0) else bif Nat.beq j 1 && q == 3 then some (2) else none) (fun _ _ => none) NA4) TX.funs TX.prim 2000 4 [.int .i16 0, .int .i16 1] [] endT = true := by decide +kernel
theorem strataNone_1_0 : callC C0 (orcA 2 (fun j q => bif Nat.beq j 0 && q == 8 then some (1) else bif Nat.beq j 1 && q == 3 then some (0) else none) (fun _ _ => none) NA4) TX.funs TX.prim 2000 4 [.int .i16 0, .int .i16 1] [] endT = true := by decide +kernel
theorem strataNone_1_1 : callC C0 (orcA 2 (fun j q => bif Nat.beq j 0 && q == 8 then some (1) else bif Nat.beq j 1 && q == 3 then some (1) else none) (fun _ _ => none) NA4) TX.funs TX.prim 2000 4 [.int .i16 0, .int .i16 1] [] endT = true := by decide +kernel
theorem strataNone_1_2 : callC C0 (orcA 2 (fun j q => bif Nat.beq j 0 && q == 8 then some (1) else bif Nat.beq j 1 && q == 3 then some (2) else none) (fun _ _ => none) NA4) TX.funs TX.prim 2000 4 [.int .i16 0, .int .i16 1] [] endT = true := by decide +kernel
theorem strataNone_2_0 : callC C0 (orcA 2 (fun j q => bif Nat.beq j 0 && q == 8 then some (2) else bif Nat.beq j 1 && q == 3 then some (0) else none) (fun _ _ => none) NA4) TX.funs TX.prim 2000 4 [.int .i16 0, .int .i16 1] [] endT = true := by decide +kernel
theorem strataNone_2_1 : callC C0 (orcA 2 (fun j q => bif Nat.beq j 0 && q == 8 then some (2) else bif Nat.beq j 1 && q == 3 then some (1) else none) (fun _ _ => none) NA4) TX.funs TX.prim 2000 4 [.int .i16 0, .int .i16 1] [] endT = true := by decide +kernel
theorem strataNone_2_2 : callC C0 (orcA 2 (fun j q => bif Nat.beq j 0 && q == 8 then some (2) else bif Nat.beq j 1 && q == 3 then some (2) else none) (fun _ _ => none) NA4) TX.funs TX.prim 2000 4 [.int .i16 0, .int .i16 1] [] endT = true := by decide +kernel
theorem strataNone_3_0 : callC C0 (orcA 2 (fun j q => bif Nat.beq j 0 && q == 8 then some (3) else bif Nat.beq j 1 && q == 3 then some (0) else none) (fun _ _ => none) NA4) TX.funs TX.prim 2000 4 [.int .i16 0, .int .i16 1] [] endT = true := by decide +kernel
theorem strataNone_3_1 : callC C0 (orcA 2 (fun j q => bif Nat.beq j 0 && q == 8 then some (3) else bif Nat.beq j 1 && q == 3 then some (1) else none) (fun _ _ => none) NA4) TX.funs TX.prim 2000 4 [.int .i16 0, .int .i16 1] [] endT = true := by decide +kernel
theorem strataNone_3_2 : callC C0 (orcA 2 (fun j q => bif Nat.beq j 0 && q == 8 then some (3) else bif Nat.beq j 1 && q == 3 then some (2) else none) (fun _ _ => none) NA4) TX.funs TX.prim 2000 4 [.int .i16 0, .int .i16 1] [] endT = true := by decide +kernel
end Go.Vm
