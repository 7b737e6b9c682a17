/-
  A part of a proof: the last text of the claim says what is proved, and under which conditions.
-/
import Derived.Test.YtbhlbpeilmihcaaGreatDoorM14
set_option linter.unusedSimpArgs false
set_option linter.unusedVariables false
set_option linter.unnecessarySimpa false
/- Printed by runsN.py. -/
namespace Go.Vm
open Go
set_option maxRecDepth 1000000

theorem nots_0_0 : callC C0 (orcM kN 8 (two 0 0)) TX.funs TX.prim 2000 4 [.int .i16 0, .int .i16 1] [] endT = true := by decide +kernel
theorem nots_0_4 : callC C0 (orcM kN 8 (two 0 4)) TX.funs TX.prim 2000 4 [.int .i16 0, .int .i16 1] [] endT = true := by decide +kernel
theorem nots_1_3 : callC C0 (orcM kN 8 (two 1 3)) TX.funs TX.prim 2000 4 [.int .i16 0, .int .i16 1] [] endT = true := by decide +kernel
theorem nots_1_7 : callC C0 (orcM kN 8 (two 1 7)) TX.funs TX.prim 2000 4 [.int .i16 0, .int .i16 1] [] endT = true := by decide +kernel
theorem nots_2_2 : callC C0 (orcM kN 8 (two 2 2)) TX.funs TX.prim 2000 4 [.int .i16 0, .int .i16 1] [] endT = true := by decide +kernel
theorem nots_2_6 : callC C0 (orcM kN 8 (two 2 6)) TX.funs TX.prim 2000 4 [.int .i16 0, .int .i16 1] [] endT = true := by decide +kernel
theorem nots_3_1 : callC C0 (orcM kN 8 (two 3 1)) TX.funs TX.prim 2000 4 [.int .i16 0, .int .i16 1] [] endT = true := by decide +kernel
theorem nots_3_5 : callC C0 (orcM kN 8 (two 3 5)) TX.funs TX.prim 2000 4 [.int .i16 0, .int .i16 1] [] endT = true := by decide +kernel
theorem nots_4_0 : callC C0 (orcM kN 8 (two 4 0)) TX.funs TX.prim 2000 4 [.int .i16 0, .int .i16 1] [] endT = true := by decide +kernel
theorem nots_4_4 : callC C0 (orcM kN 8 (two 4 4)) TX.funs TX.prim 2000 4 [.int .i16 0, .int .i16 1] [] endT = true := by decide +kernel
theorem nots_5_3 : callC C0 (orcM kN 8 (two 5 3)) TX.funs TX.prim 2000 4 [.int .i16 0, .int .i16 1] [] endT = true := by decide +kernel
theorem nots_5_7 : callC C0 (orcM kN 8 (two 5 7)) TX.funs TX.prim 2000 4 [.int .i16 0, .int .i16 1] [] endT = true := by decide +kernel
theorem nots_6_2 : callC C0 (orcM kN 8 (two 6 2)) TX.funs TX.prim 2000 4 [.int .i16 0, .int .i16 1] [] endT = true := by decide +kernel
theorem nots_6_6 : callC C0 (orcM kN 8 (two 6 6)) TX.funs TX.prim 2000 4 [.int .i16 0, .int .i16 1] [] endT = true := by decide +kernel
theorem nots_7_1 : callC C0 (orcM kN 8 (two 7 1)) TX.funs TX.prim 2000 4 [.int .i16 0, .int .i16 1] [] endT = true := by decide +kernel
theorem nots_7_5 : callC C0 (orcM kN 8 (two 7 5)) TX.funs TX.prim 2000 4 [.int .i16 0, .int .i16 1] [] endT = true := by decide +kernel
end Go.Vm
