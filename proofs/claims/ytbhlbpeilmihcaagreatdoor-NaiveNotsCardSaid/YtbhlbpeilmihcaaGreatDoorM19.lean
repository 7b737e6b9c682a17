/-
  Proved: for every input constablelaw18.NaiveNots returns true and leaves its arguments as they were (the tied card of its row). Conditions: none but the row's own.
-/
import Derived.Test.YtbhlbpeilmihcaaGreatDoorM15
import Derived.Test.YtbhlbpeilmihcaaGreatDoorM16
import Derived.Test.YtbhlbpeilmihcaaGreatDoorM17
import Derived.Test.YtbhlbpeilmihcaaGreatDoorM18
import Derived.Test.YtbhlbpeilmihcaaGreatDoorM11
set_option linter.unusedSimpArgs false
set_option linter.unusedVariables false
set_option linter.unnecessarySimpa false
/- Printed by runsN.py. -/
namespace Go.Vm
open Go
set_option maxRecDepth 1000000

theorem rest8 (n : Int) : 0 ≤ (IntKind.u64.wrap n).tmod 8 ∧ (IntKind.u64.wrap n).tmod 8 < 8 := by
  have h : 0 ≤ IntKind.u64.wrap n := by
    show 0 ≤ n.emod _
    exact Int.emod_nonneg _ (by decide)
  exact ⟨Int.tmod_nonneg _ h, Int.tmod_lt_of_pos _ (by decide)⟩
theorem nots_all (n k : Int) : callC C0 (orcM kN 8 (two ((IntKind.u64.wrap n).tmod 8) ((IntKind.u64.wrap k).tmod 8))) TX.funs TX.prim 2000 4 [.int .i16 0, .int .i16 1] [] endT = true := by
  obtain ⟨h0, h1⟩ := rest8 n
  obtain ⟨h2, h3⟩ := rest8 k
  generalize (IntKind.u64.wrap n).tmod 8 = r at *
  generalize (IntKind.u64.wrap k).tmod 8 = q at *
  have hr : r = 0 ∨ r = 1 ∨ r = 2 ∨ r = 3 ∨ r = 4 ∨ r = 5 ∨ r = 6 ∨ r = 7 := by omega
  have hq : q = 0 ∨ q = 1 ∨ q = 2 ∨ q = 3 ∨ q = 4 ∨ q = 5 ∨ q = 6 ∨ q = 7 := by omega
  rcases hr with rfl | rfl | rfl | rfl | rfl | rfl | rfl | rfl <;> rcases hq with rfl | rfl | rfl | rfl | rfl | rfl | rfl | rfl
  · exact nots_0_0
  · exact nots_0_1
  · exact nots_0_2
  · exact nots_0_3
  · exact nots_0_4
  · exact nots_0_5
  · exact nots_0_6
  · exact nots_0_7
  · exact nots_1_0
  · exact nots_1_1
  · exact nots_1_2
  · exact nots_1_3
  · exact nots_1_4
  · exact nots_1_5
  · exact nots_1_6
  · exact nots_1_7
  · exact nots_2_0
  · exact nots_2_1
  · exact nots_2_2
  · exact nots_2_3
  · exact nots_2_4
  · exact nots_2_5
  · exact nots_2_6
  · exact nots_2_7
  · exact nots_3_0
  · exact nots_3_1
  · exact nots_3_2
  · exact nots_3_3
  · exact nots_3_4
  · exact nots_3_5
  · exact nots_3_6
  · exact nots_3_7
  · exact nots_4_0
  · exact nots_4_1
  · exact nots_4_2
  · exact nots_4_3
  · exact nots_4_4
  · exact nots_4_5
  · exact nots_4_6
  · exact nots_4_7
  · exact nots_5_0
  · exact nots_5_1
  · exact nots_5_2
  · exact nots_5_3
  · exact nots_5_4
  · exact nots_5_5
  · exact nots_5_6
  · exact nots_5_7
  · exact nots_6_0
  · exact nots_6_1
  · exact nots_6_2
  · exact nots_6_3
  · exact nots_6_4
  · exact nots_6_5
  · exact nots_6_6
  · exact nots_6_7
  · exact nots_7_0
  · exact nots_7_1
  · exact nots_7_2
  · exact nots_7_3
  · exact nots_7_4
  · exact nots_7_5
  · exact nots_7_6
  · exact nots_7_7
theorem nots_run (n k : Int) : ∃ wd, TX.call 4 [.int .i64 n, .int .i64 k] [] = some (.bool true, [], wd) :=
  true_of_C (σ := sgM (two n k)) (sgM_num _) (orcM_ok kN_ok (by decide) (by decide) (fun j => by cases j <;> rfl)) (primAll_su (sgM_num _) KX LX) cl_ok (nots_all n k)
end Go.Vm

/-
  NaiveNots: the card.
-/
namespace Go.Proofs.YtbhlbpeilmihcaaGreatDoor
theorem naiveNots : Rows.NaiveNotsCardSaid := card4 fun n k _ _ => Go.Vm.nots_run n k
#print axioms naiveNots
end Go.Proofs.YtbhlbpeilmihcaaGreatDoor
