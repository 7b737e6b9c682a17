/-
  A part of a proof: the last text of the claim says what is proved, and under which conditions.
-/
import Derived.Test.YtmnmpmmpihimpaaGreatDoorM18
set_option linter.unusedSimpArgs false
set_option linter.unusedVariables false
set_option linter.unnecessarySimpa false
/- Printed by closed2.py. -/
namespace Go.Vm
open Go
set_option maxRecDepth 1000000
theorem Or22 (p : List Fr → Bool) (sg : List Fr) : callC C0 OA3 TX.funs TX.prim 2000 337 Oa22 sg (fun v' sg' wd => ifK (veq v' Ov22) (ifK (Nat.beq wd 0) (p sg') false) false) = p sg := by kernel_rfl
theorem Os22 : SaysT TX 337 Oa22 Ov22 := says_of_C OA3_ok (prim_su num0) cl_ok Or22
theorem Or21 (p : List Fr → Bool) (sg : List Fr) : callC C0 OA3 TX.funs TX.prim 2000 337 Oa21 sg (fun v' sg' wd => ifK (veq v' Ov21) (ifK (Nat.beq wd 0) (p sg') false) false) = p sg := by kernel_rfl
theorem Os21 : SaysT TX 337 Oa21 Ov21 := says_of_C OA3_ok (prim_su num0) cl_ok Or21
theorem Or20 (p : List Fr → Bool) (sg : List Fr) : callC C0 OA3 TX.funs TX.prim 2000 337 Oa20 sg (fun v' sg' wd => ifK (veq v' Ov20) (ifK (Nat.beq wd 0) (p sg') false) false) = p sg := by kernel_rfl
theorem Os20 : SaysT TX 337 Oa20 Ov20 := says_of_C OA3_ok (prim_su num0) cl_ok Or20
theorem Or17 (p : List Fr → Bool) (sg : List Fr) : callC C0 OA3 TX.funs TX.prim 2000 28 Oa17 sg (fun v' sg' wd => ifK (veq v' Ov17) (ifK (Nat.beq wd 0) (p sg') false) false) = p sg := by kernel_rfl
theorem Os17 : SaysT TX 28 Oa17 Ov17 := says_of_C OA3_ok (prim_su num0) cl_ok Or17
end Go.Vm

/- Printed by closed2.py. -/
namespace Go.Vm
open Go
set_option maxRecDepth 1000000
noncomputable def Ok4_28 : List V → Option V := kM [(Oa17, Ov17)]
theorem Ok4_28_ok : KOk TX 28 Ok4_28 := kM_ok fun p hp => by
  simp only [List.mem_cons, List.mem_nil_iff, or_false] at hp
  rcases hp with rfl
  · exact ⟨(fun _ => rfl), (fun _ => rfl), Os17⟩
noncomputable def Ok4_337 : List V → Option V := kM [(Oa22, Ov22), (Oa21, Ov21), (Oa20, Ov20)]
theorem Ok4_337_ok : KOk TX 337 Ok4_337 := kM_ok fun p hp => by
  simp only [List.mem_cons, List.mem_nil_iff, or_false] at hp
  rcases hp with rfl | rfl | rfl
  · exact ⟨(fun _ => rfl), (fun _ => rfl), Os22⟩
  · exact ⟨(fun _ => rfl), (fun _ => rfl), Os21⟩
  · exact ⟨(fun _ => rfl), (fun _ => rfl), Os20⟩
noncomputable def OT4 : KT := (.node 337 Ok4_337 (.node 28 Ok4_28 .leaf .leaf) .leaf)
theorem OT4_ok : OT4.Ok TX := ⟨Ok4_337_ok, ⟨Ok4_28_ok, trivial, trivial⟩, trivial⟩
noncomputable def OA4 : Orc := orcL OT4 OA3
theorem OA4_ok {σ : Int → V} : OrcOk TX σ OA4 := orcL_ok OT4_ok OA3_ok
end Go.Vm
