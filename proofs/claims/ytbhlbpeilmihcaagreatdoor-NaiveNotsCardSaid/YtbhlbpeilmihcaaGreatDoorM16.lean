/-
  A part of a proof: the last text of the claim says what is proved, and under which conditions.
-/
import Derived.Test.YtbhlbpeilmihcaaGreatDoorM14
set_option linter.unusedSimpArgs false
set_option linter.unusedVariables false
set_option linter.unnecessarySimpa false
/- Printed by runsN.py. -/
namespace Go.Vm
open Go
set_option maxRecDepth 1000000

theorem nots_0_1 : callC C0 (orcM kN 8 (two 0 1)) TX.funs TX.prim 2000 4 [.int .i16 0, .int .i16 1] [] endT = true := by decide +kernel
theorem nots_0_5 : callC C0 (orcM kN 8 (two 0 5)) TX.funs TX.prim 2000 4 [.int .i16 0, .int .i16 1] [] endT = true := by decide +kernel
theorem nots_1_0 : callC C0 (orcM kN 8 (two 1 0)) TX.funs TX.prim 2000 4 [.int .i16 0, .int .i16 1] [] endT = true := by decide +kernel
theorem nots_1_4 : callC C0 (orcM kN 8 (two 1 4)) TX.funs TX.prim 2000 4 [.int .i16 0, .int .i16 1] [] endT = true := by decide +kernel
theorem nots_2_3 : callC C0 (orcM kN 8 (two 2 3)) TX.funs TX.prim 2000 4 [.int .i16 0, .int .i16 1] [] endT = true := by decide +kernel
theorem nots_2_7 : callC C0 (orcM kN 8 (two 2 7)) TX.funs TX.prim 2000 4 [.int .i16 0, .int .i16 1] [] endT = true := by decide +kernel
theorem nots_3_2 : callC C0 (orcM kN 8 (two 3 2)) TX.funs TX.prim 2000 4 [.int .i16 0, .int .i16 1] [] endT = true := by decide +kernel
theorem nots_3_6 : callC C0 (orcM kN 8 (two 3 6)) TX.funs TX.prim 2000 4 [.int .i16 0, .int .i16 1] [] endT = true := by decide +kernel
theorem nots_4_1 : callC C0 (orcM kN 8 (two 4 1)) TX.funs TX.prim 2000 4 [.int .i16 0, .int .i16 1] [] endT = true := by decide +kernel
theorem nots_4_5 : callC C0 (orcM kN 8 (two 4 5)) TX.funs TX.prim 2000 4 [.int .i16 0, .int .i16 1] [] endT = true := by decide +kernel
theorem nots_5_0 : callC C0 (orcM kN 8 (two 5 0)) TX.funs TX.prim 2000 4 [.int .i16 0, .int .i16 1] [] endT = true := by decide +kernel
theorem nots_5_4 : callC C0 (orcM kN 8 (two 5 4)) TX.funs TX.prim 2000 4 [.int .i16 0, .int .i16 1] [] endT = true := by decide +kernel
theorem nots_6_3 : callC C0 (orcM kN 8 (two 6 3)) TX.funs TX.prim 2000 4 [.int .i16 0, .int .i16 1] [] endT = true := by decide +kernel
theorem nots_6_7 : callC C0 (orcM kN 8 (two 6 7)) TX.funs TX.prim 2000 4 [.int .i16 0, .int .i16 1] [] endT = true := by decide +kernel
theorem nots_7_2 : callC C0 (orcM kN 8 (two 7 2)) TX.funs TX.prim 2000 4 [.int .i16 0, .int .i16 1] [] endT = true := by decide +kernel
theorem nots_7_6 : callC C0 (orcM kN 8 (two 7 6)) TX.funs TX.prim 2000 4 [.int .i16 0, .int .i16 1] [] endT = true := by decide +kernel
end Go.Vm
