/-
  A part of a proof: the last text of the claim says what is proved, and under which conditions.
-/
import Derived.Test.YtmnmpmmpihimpaaGreatDoorM19
set_option linter.unusedSimpArgs false
set_option linter.unusedVariables false
set_option linter.unnecessarySimpa false
/- Printed by closed.py. -/
namespace Go.Vm
open Go
set_option maxRecDepth 1000000
theorem fireKinds_rest (n m : Int) (hm : 0 < m) : 0 ≤ (IntKind.u64.wrap n).tmod m ∧ (IntKind.u64.wrap n).tmod m < m := by
  have h : 0 ≤ IntKind.u64.wrap n := by
    show 0 ≤ n.emod _
    exact Int.emod_nonneg _ (by decide)
  exact ⟨Int.tmod_nonneg _ h, Int.tmod_lt_of_pos _ hm⟩
theorem fireKinds_all (a0 : Int) : callC C0 (orcA 1 (fun j q => bif Nat.beq j 0 && q == 4 then some ((IntKind.u64.wrap a0).tmod 4) else none) (fun _ _ => none) KA5) TX.funs TX.prim 2000 3 [.int .i16 0] [] endT = true := by
  obtain ⟨h0a, h0b⟩ := fireKinds_rest a0 4 (by decide)
  generalize (IntKind.u64.wrap a0).tmod 4 = r0 at *
  have hr0 : r0 = 0 ∨ r0 = 1 ∨ r0 = 2 ∨ r0 = 3 := by omega
  rcases hr0 with rfl | rfl | rfl | rfl
  · exact fireKinds_0
  · exact fireKinds_1
  · exact fireKinds_2
  · exact fireKinds_3
theorem fireKinds_run (a0 : Int) : ∃ wd, TX.call 3 [.int .i64 a0] [] = some (.bool true, [], wd) := by
  refine true_of_C (σ := sgA 1 (fun _ => a0)) (sgA_num _ _) (orcA_ok (ru := (fun j q => bif Nat.beq j 0 && q == 4 then some ((IntKind.u64.wrap a0).tmod 4) else none)) (rs := fun _ _ => none) KA5_ok ?_ (fun _ _ _ h => by cases h)) (primAll_su (sgA_num _ _) KX LX) cl_ok (fireKinds_all a0)
  intro j q z h
  cases h0 : (Nat.beq j 0 && q == 4) with
  | true =>
    rw [h0] at h
    cases h
    simp only [Bool.and_eq_true, beq_iff_eq] at h0
    obtain ⟨e1, rfl⟩ := h0
    have e1 := Nat.eq_of_beq_eq_true e1
    subst e1
    exact ⟨by decide, rfl⟩
  | false =>
  rw [h0] at h
  simp only [cond_false] at h
  cases h
end Go.Vm
