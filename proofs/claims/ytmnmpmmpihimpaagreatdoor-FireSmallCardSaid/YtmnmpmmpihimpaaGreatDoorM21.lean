/-
  A part of a proof: the last text of the claim says what is proved, and under which conditions.
-/
import Derived.Test.YtmnmpmmpihimpaaGreatDoorM20
set_option linter.unusedSimpArgs false
set_option linter.unusedVariables false
set_option linter.unnecessarySimpa false
/- Printed by closed2.py. -/
namespace Go.Vm
open Go
set_option maxRecDepth 1000000
noncomputable def SO0_0 : Orc := orcM (orcS [(.geq, .int .i16 0, .int .i64 (-4611686018427387904), .bool true), (.leq, .int .i16 0, .int .i64 4611686018427387904, .bool true), (.neq, .int .i16 0, .int .i16 0, .bool false), (.lss, .int .i16 0, .int .i16 0, .bool false), (.gtr, .int .i16 0, .int .i16 0, .bool false)] [] [([2, 1, 1, 2], .agg [.str [88], .int .i64 1, .int .i16 0, .str []], .agg [.str [88], .int .i64 1, .int .i16 0, .str []], true)]) SA5
theorem SO0_0_ok (n : Int) (hn : 0 ≤ n ∧ n < 100) : OrcOk TX (sgT [(.i64, n)]) SO0_0 := by
  refine orcM_ok (orcS_ok ?_ ?_ ?_) SA5_ok
  · intro p hp
    simp only [List.mem_cons, List.mem_nil_iff, or_false] at hp
    rcases hp with rfl | rfl | rfl | rfl | rfl
    · first | rfl | exact bT (by omega) | exact bF (by omega) | exact beT (by omega) | exact beF (by omega) | exact bnT (by omega) | exact bnF (by omega)
    · first | rfl | exact bT (by omega) | exact bF (by omega) | exact beT (by omega) | exact beF (by omega) | exact bnT (by omega) | exact bnF (by omega)
    · first | rfl | exact bT (by omega) | exact bF (by omega) | exact beT (by omega) | exact beF (by omega) | exact bnT (by omega) | exact bnF (by omega)
    · first | rfl | exact bT (by omega) | exact bF (by omega) | exact beT (by omega) | exact beF (by omega) | exact bnT (by omega) | exact bnF (by omega)
    · first | rfl | exact bT (by omega) | exact bF (by omega) | exact beT (by omega) | exact beF (by omega) | exact bnT (by omega) | exact bnF (by omega)
  · intro p hp
    cases hp
  · intro p hp
    simp only [List.mem_cons, List.mem_nil_iff, or_false] at hp
    rcases hp with rfl
    · exact ⟨_, _, rfl, rfl, by simp [eqL, eqK, su, suL, sgT, show (IntKind.i64 == IntKind.i16) = false from by decide, show (IntKind.u64 == IntKind.i16) = false from by decide, show (IntKind.u8 == IntKind.i16) = false from by decide]⟩
end Go.Vm
