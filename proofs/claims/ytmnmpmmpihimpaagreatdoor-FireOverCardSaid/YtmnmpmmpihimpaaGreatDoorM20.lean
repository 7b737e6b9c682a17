/-
  A part of a proof: the last text of the claim says what is proved, and under which conditions.
-/
import Derived.Test.YtmnmpmmpihimpaaGreatDoorM19
set_option linter.unusedSimpArgs false
set_option linter.unusedVariables false
set_option linter.unnecessarySimpa false
/- Printed by closed2.py. -/
namespace Go.Vm
open Go
set_option maxRecDepth 1000000
theorem Or23 (p : List Fr → Bool) (sg : List Fr) : callC C0 OA4 TX.funs TX.prim 2000 7 Oa23 sg (fun v' sg' wd => ifK (veq v' Ov23) (ifK (Nat.beq wd 0) (p sg') false) false) = p sg := by kernel_rfl
theorem Os23 : SaysT TX 7 Oa23 Ov23 := says_of_C OA4_ok (prim_su num0) cl_ok Or23
theorem Or19 (p : List Fr → Bool) (sg : List Fr) : callC C0 OA4 TX.funs TX.prim 2000 7 Oa19 sg (fun v' sg' wd => ifK (veq v' Ov19) (ifK (Nat.beq wd 0) (p sg') false) false) = p sg := by kernel_rfl
theorem Os19 : SaysT TX 7 Oa19 Ov19 := says_of_C OA4_ok (prim_su num0) cl_ok Or19
end Go.Vm

/- Printed by closed2.py. -/
namespace Go.Vm
open Go
set_option maxRecDepth 1000000
noncomputable def Ok5_7 : List V → Option V := kM [(Oa23, Ov23), (Oa19, Ov19)]
theorem Ok5_7_ok : KOk TX 7 Ok5_7 := kM_ok fun p hp => by
  simp only [List.mem_cons, List.mem_nil_iff, or_false] at hp
  rcases hp with rfl | rfl
  · exact ⟨(fun _ => rfl), (fun _ => rfl), Os23⟩
  · exact ⟨(fun _ => rfl), (fun _ => rfl), Os19⟩
noncomputable def OT5 : KT := (.node 7 Ok5_7 .leaf .leaf)
theorem OT5_ok : OT5.Ok TX := ⟨Ok5_7_ok, trivial, trivial⟩
noncomputable def OA5 : Orc := orcL OT5 OA4
theorem OA5_ok {σ : Int → V} : OrcOk TX σ OA5 := orcL_ok OT5_ok OA4_ok
end Go.Vm
