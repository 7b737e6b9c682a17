/-
  Proved: for every input constablelaw18.NaiveJoins returns true and leaves its arguments as they were (the tied card of its row). Conditions: none but the row's own.
-/
import Derived.Test.YtbhlbpeilmihcaaGreatDoorM13
import Derived.Test.YtbhlbpeilmihcaaGreatDoorM14
import Derived.Test.YtbhlbpeilmihcaaGreatDoorM15
import Derived.Test.YtbhlbpeilmihcaaGreatDoorM16
import Derived.Test.YtbhlbpeilmihcaaGreatDoorM10
set_option linter.unusedSimpArgs false
set_option linter.unusedVariables false
set_option linter.unnecessarySimpa false
/- Printed by runs.py. -/
namespace Go.Vm
open Go
set_option maxRecDepth 1000000

theorem rest12 (n : Int) : 0 ≤ (IntKind.u64.wrap n).tmod 12 ∧ (IntKind.u64.wrap n).tmod 12 < 12 := by
  have h : 0 ≤ IntKind.u64.wrap n := by
    show 0 ≤ n.emod _
    exact Int.emod_nonneg _ (by decide)
  exact ⟨Int.tmod_nonneg _ h, Int.tmod_lt_of_pos _ (by decide)⟩
theorem joins_all (n : Int) (a b : Bool) : callC C0 (orcM kJ 12 (fun _ => (IntKind.u64.wrap n).tmod 12)) TX.funs TX.prim 2000 3 [.int .i16 0, .bool a, .bool b] [] endT = true := by
  obtain ⟨h0, h1⟩ := rest12 n
  generalize (IntKind.u64.wrap n).tmod 12 = r at *
  have hr : r = 0 ∨ r = 1 ∨ r = 2 ∨ r = 3 ∨ r = 4 ∨ r = 5 ∨ r = 6 ∨ r = 7 ∨ r = 8 ∨ r = 9 ∨ r = 10 ∨ r = 11 := by omega
  rcases hr with rfl | rfl | rfl | rfl | rfl | rfl | rfl | rfl | rfl | rfl | rfl | rfl <;> cases a <;> cases b
  · exact joins_0_0_0
  · exact joins_0_0_1
  · exact joins_0_1_0
  · exact joins_0_1_1
  · exact joins_1_0_0
  · exact joins_1_0_1
  · exact joins_1_1_0
  · exact joins_1_1_1
  · exact joins_2_0_0
  · exact joins_2_0_1
  · exact joins_2_1_0
  · exact joins_2_1_1
  · exact joins_3_0_0
  · exact joins_3_0_1
  · exact joins_3_1_0
  · exact joins_3_1_1
  · exact joins_4_0_0
  · exact joins_4_0_1
  · exact joins_4_1_0
  · exact joins_4_1_1
  · exact joins_5_0_0
  · exact joins_5_0_1
  · exact joins_5_1_0
  · exact joins_5_1_1
  · exact joins_6_0_0
  · exact joins_6_0_1
  · exact joins_6_1_0
  · exact joins_6_1_1
  · exact joins_7_0_0
  · exact joins_7_0_1
  · exact joins_7_1_0
  · exact joins_7_1_1
  · exact joins_8_0_0
  · exact joins_8_0_1
  · exact joins_8_1_0
  · exact joins_8_1_1
  · exact joins_9_0_0
  · exact joins_9_0_1
  · exact joins_9_1_0
  · exact joins_9_1_1
  · exact joins_10_0_0
  · exact joins_10_0_1
  · exact joins_10_1_0
  · exact joins_10_1_1
  · exact joins_11_0_0
  · exact joins_11_0_1
  · exact joins_11_1_0
  · exact joins_11_1_1
theorem joins_run (n : Int) (a b : Bool) : ∃ wd, TX.call 3 [.int .i64 n, .bool a, .bool b] [] = some (.bool true, [], wd) :=
  true_of_C (σ := sgM fun _ => n) (sgM_num _) (orcM_ok kJ_ok (by decide) (by decide) (fun _ => rfl)) (primAll_su (sgM_num _) KX LX) cl_ok (joins_all n a b)
end Go.Vm

/-
  NaiveJoins: the card.
-/
namespace Go.Proofs.YtbhlbpeilmihcaaGreatDoor
theorem naiveJoins : Rows.NaiveJoinsCardSaid := card3 fun n a b _ => Go.Vm.joins_run n a b
#print axioms naiveJoins
end Go.Proofs.YtbhlbpeilmihcaaGreatDoor
