/-
  A part of the proof of: Proved: for every input constablelaw18.NaiveJoins returns true and leaves its arguments as they were (the tied card of its row). Conditions: none but the row's own.
-/
import Derived.Test.YtbhlbpeilmihcaaGreatDoorM12
set_option linter.unusedSimpArgs false
set_option linter.unusedVariables false
set_option linter.unnecessarySimpa false
/- Printed by runs.py. -/
namespace Go.Vm
open Go
set_option maxRecDepth 1000000

theorem joins_1_0_1 : callC C0 (orcM kJ 12 (fun _ => 1)) TX.funs TX.prim 2000 3 [.int .i16 0, .bool false, .bool true] [] endT = true := by decide +kernel
theorem joins_1_1_1 : callC C0 (orcM kJ 12 (fun _ => 1)) TX.funs TX.prim 2000 3 [.int .i16 0, .bool true, .bool true] [] endT = true := by decide +kernel
theorem joins_2_0_0 : callC C0 (orcM kJ 12 (fun _ => 2)) TX.funs TX.prim 2000 3 [.int .i16 0, .bool false, .bool false] [] endT = true := by decide +kernel
theorem joins_3_1_0 : callC C0 (orcM kJ 12 (fun _ => 3)) TX.funs TX.prim 2000 3 [.int .i16 0, .bool true, .bool false] [] endT = true := by decide +kernel
theorem joins_4_1_1 : callC C0 (orcM kJ 12 (fun _ => 4)) TX.funs TX.prim 2000 3 [.int .i16 0, .bool true, .bool true] [] endT = true := by decide +kernel
theorem joins_5_0_1 : callC C0 (orcM kJ 12 (fun _ => 5)) TX.funs TX.prim 2000 3 [.int .i16 0, .bool false, .bool true] [] endT = true := by decide +kernel
theorem joins_6_0_1 : callC C0 (orcM kJ 12 (fun _ => 6)) TX.funs TX.prim 2000 3 [.int .i16 0, .bool false, .bool true] [] endT = true := by decide +kernel
theorem joins_6_1_1 : callC C0 (orcM kJ 12 (fun _ => 6)) TX.funs TX.prim 2000 3 [.int .i16 0, .bool true, .bool true] [] endT = true := by decide +kernel
theorem joins_9_1_1 : callC C0 (orcM kJ 12 (fun _ => 9)) TX.funs TX.prim 2000 3 [.int .i16 0, .bool true, .bool true] [] endT = true := by decide +kernel
theorem joins_10_1_1 : callC C0 (orcM kJ 12 (fun _ => 10)) TX.funs TX.prim 2000 3 [.int .i16 0, .bool true, .bool true] [] endT = true := by decide +kernel
theorem joins_11_0_0 : callC C0 (orcM kJ 12 (fun _ => 11)) TX.funs TX.prim 2000 3 [.int .i16 0, .bool false, .bool false] [] endT = true := by decide +kernel
theorem joins_11_1_1 : callC C0 (orcM kJ 12 (fun _ => 11)) TX.funs TX.prim 2000 3 [.int .i16 0, .bool true, .bool true] [] endT = true := by decide +kernel
end Go.Vm
