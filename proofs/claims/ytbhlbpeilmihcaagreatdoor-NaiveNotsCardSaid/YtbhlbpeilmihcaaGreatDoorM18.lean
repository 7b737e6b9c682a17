/-
  A part of a proof: the last text of the claim says what is proved, and under which conditions.
-/
import Derived.Test.YtbhlbpeilmihcaaGreatDoorM14
set_option linter.unusedSimpArgs false
set_option linter.unusedVariables false
set_option linter.unnecessarySimpa false
/- Printed by runsN.py. -/
namespace Go.Vm
open Go
set_option maxRecDepth 1000000

theorem nots_0_3 : callC C0 (orcM kN 8 (two 0 3)) TX.funs TX.prim 2000 4 [.int .i16 0, .int .i16 1] [] endT = true := by decide +kernel
theorem nots_0_7 : callC C0 (orcM kN 8 (two 0 7)) TX.funs TX.prim 2000 4 [.int .i16 0, .int .i16 1] [] endT = true := by decide +kernel
theorem nots_1_2 : callC C0 (orcM kN 8 (two 1 2)) TX.funs TX.prim 2000 4 [.int .i16 0, .int .i16 1] [] endT = true := by decide +kernel
theorem nots_1_6 : callC C0 (orcM kN 8 (two 1 6)) TX.funs TX.prim 2000 4 [.int .i16 0, .int .i16 1] [] endT = true := by decide +kernel
theorem nots_2_1 : callC C0 (orcM kN 8 (two 2 1)) TX.funs TX.prim 2000 4 [.int .i16 0, .int .i16 1] [] endT = true := by decide +kernel
theorem nots_2_5 : callC C0 (orcM kN 8 (two 2 5)) TX.funs TX.prim 2000 4 [.int .i16 0, .int .i16 1] [] endT = true := by decide +kernel
theorem nots_3_0 : callC C0 (orcM kN 8 (two 3 0)) TX.funs TX.prim 2000 4 [.int .i16 0, .int .i16 1] [] endT = true := by decide +kernel
theorem nots_3_4 : callC C0 (orcM kN 8 (two 3 4)) TX.funs TX.prim 2000 4 [.int .i16 0, .int .i16 1] [] endT = true := by decide +kernel
theorem nots_4_3 : callC C0 (orcM kN 8 (two 4 3)) TX.funs TX.prim 2000 4 [.int .i16 0, .int .i16 1] [] endT = true := by decide +kernel
theorem nots_4_7 : callC C0 (orcM kN 8 (two 4 7)) TX.funs TX.prim 2000 4 [.int .i16 0, .int .i16 1] [] endT = true := by decide +kernel
theorem nots_5_2 : callC C0 (orcM kN 8 (two 5 2)) TX.funs TX.prim 2000 4 [.int .i16 0, .int .i16 1] [] endT = true := by decide +kernel
theorem nots_5_6 : callC C0 (orcM kN 8 (two 5 6)) TX.funs TX.prim 2000 4 [.int .i16 0, .int .i16 1] [] endT = true := by decide +kernel
theorem nots_6_1 : callC C0 (orcM kN 8 (two 6 1)) TX.funs TX.prim 2000 4 [.int .i16 0, .int .i16 1] [] endT = true := by decide +kernel
theorem nots_6_5 : callC C0 (orcM kN 8 (two 6 5)) TX.funs TX.prim 2000 4 [.int .i16 0, .int .i16 1] [] endT = true := by decide +kernel
theorem nots_7_0 : callC C0 (orcM kN 8 (two 7 0)) TX.funs TX.prim 2000 4 [.int .i16 0, .int .i16 1] [] endT = true := by decide +kernel
theorem nots_7_4 : callC C0 (orcM kN 8 (two 7 4)) TX.funs TX.prim 2000 4 [.int .i16 0, .int .i16 1] [] endT = true := by decide +kernel
end Go.Vm
