/-
  A part of a proof: the last text of the claim says what is proved, and under which conditions.
-/
import Derived.Test.YtbhlbpeilmihcaaGreatDoorM14
set_option linter.unusedSimpArgs false
set_option linter.unusedVariables false
set_option linter.unnecessarySimpa false
/- Printed by runsN.py. -/
namespace Go.Vm
open Go
set_option maxRecDepth 1000000

theorem nots_0_2 : callC C0 (orcM kN 8 (two 0 2)) TX.funs TX.prim 2000 4 [.int .i16 0, .int .i16 1] [] endT = true := by decide +kernel
theorem nots_0_6 : callC C0 (orcM kN 8 (two 0 6)) TX.funs TX.prim 2000 4 [.int .i16 0, .int .i16 1] [] endT = true := by decide +kernel
theorem nots_1_1 : callC C0 (orcM kN 8 (two 1 1)) TX.funs TX.prim 2000 4 [.int .i16 0, .int .i16 1] [] endT = true := by decide +kernel
theorem nots_1_5 : callC C0 (orcM kN 8 (two 1 5)) TX.funs TX.prim 2000 4 [.int .i16 0, .int .i16 1] [] endT = true := by decide +kernel
theorem nots_2_0 : callC C0 (orcM kN 8 (two 2 0)) TX.funs TX.prim 2000 4 [.int .i16 0, .int .i16 1] [] endT = true := by decide +kernel
theorem nots_2_4 : callC C0 (orcM kN 8 (two 2 4)) TX.funs TX.prim 2000 4 [.int .i16 0, .int .i16 1] [] endT = true := by decide +kernel
theorem nots_3_3 : callC C0 (orcM kN 8 (two 3 3)) TX.funs TX.prim 2000 4 [.int .i16 0, .int .i16 1] [] endT = true := by decide +kernel
theorem nots_3_7 : callC C0 (orcM kN 8 (two 3 7)) TX.funs TX.prim 2000 4 [.int .i16 0, .int .i16 1] [] endT = true := by decide +kernel
theorem nots_4_2 : callC C0 (orcM kN 8 (two 4 2)) TX.funs TX.prim 2000 4 [.int .i16 0, .int .i16 1] [] endT = true := by decide +kernel
theorem nots_4_6 : callC C0 (orcM kN 8 (two 4 6)) TX.funs TX.prim 2000 4 [.int .i16 0, .int .i16 1] [] endT = true := by decide +kernel
theorem nots_5_1 : callC C0 (orcM kN 8 (two 5 1)) TX.funs TX.prim 2000 4 [.int .i16 0, .int .i16 1] [] endT = true := by decide +kernel
theorem nots_5_5 : callC C0 (orcM kN 8 (two 5 5)) TX.funs TX.prim 2000 4 [.int .i16 0, .int .i16 1] [] endT = true := by decide +kernel
theorem nots_6_0 : callC C0 (orcM kN 8 (two 6 0)) TX.funs TX.prim 2000 4 [.int .i16 0, .int .i16 1] [] endT = true := by decide +kernel
theorem nots_6_4 : callC C0 (orcM kN 8 (two 6 4)) TX.funs TX.prim 2000 4 [.int .i16 0, .int .i16 1] [] endT = true := by decide +kernel
theorem nots_7_3 : callC C0 (orcM kN 8 (two 7 3)) TX.funs TX.prim 2000 4 [.int .i16 0, .int .i16 1] [] endT = true := by decide +kernel
theorem nots_7_7 : callC C0 (orcM kN 8 (two 7 7)) TX.funs TX.prim 2000 4 [.int .i16 0, .int .i16 1] [] endT = true := by decide +kernel
end Go.Vm
