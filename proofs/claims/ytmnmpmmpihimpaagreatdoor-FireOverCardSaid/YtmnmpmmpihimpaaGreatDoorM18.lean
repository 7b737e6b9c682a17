/-
  A part of a proof: the last text of the claim says what is proved, and under which conditions.
-/
import Derived.Test.YtmnmpmmpihimpaaGreatDoorM16
import Derived.Test.YtmnmpmmpihimpaaGreatDoorM17
set_option linter.unusedSimpArgs false
set_option linter.unusedVariables false
set_option linter.unnecessarySimpa false
/- Printed by closed2.py. -/
namespace Go.Vm
open Go
set_option maxRecDepth 1000000
theorem Or33 (p : List Fr → Bool) (sg : List Fr) : callC C0 OA2 TX.funs TX.prim 2000 6 Oa33 sg (fun v' sg' wd => ifK (veq v' Ov33) (ifK (Nat.beq wd 0) (p sg') false) false) = p sg := by kernel_rfl
theorem Os33 : SaysT TX 6 Oa33 Ov33 := says_of_C OA2_ok (prim_su num0) cl_ok Or33
theorem Or45 (p : List Fr → Bool) (sg : List Fr) : callC C0 OA2 TX.funs TX.prim 2000 6 Oa45 sg (fun v' sg' wd => ifK (veq v' Ov45) (ifK (Nat.beq wd 0) (p sg') false) false) = p sg := by kernel_rfl
theorem Os45 : SaysT TX 6 Oa45 Ov45 := says_of_C OA2_ok (prim_su num0) cl_ok Or45
theorem Or42 (p : List Fr → Bool) (sg : List Fr) : callC C0 OA2 TX.funs TX.prim 2000 7 Oa42 sg (fun v' sg' wd => ifK (veq v' Ov42) (ifK (Nat.beq wd 0) (p sg') false) false) = p sg := by kernel_rfl
theorem Os42 : SaysT TX 7 Oa42 Ov42 := says_of_C OA2_ok (prim_su num0) cl_ok Or42
theorem Or16 (p : List Fr → Bool) (sg : List Fr) : callC C0 OA2 TX.funs TX.prim 2000 95 Oa16 sg (fun v' sg' wd => ifK (veq v' Ov16) (ifK (Nat.beq wd 0) (p sg') false) false) = p sg := by kernel_rfl
theorem Os16 : SaysT TX 95 Oa16 Ov16 := says_of_C OA2_ok (prim_su num0) cl_ok Or16
theorem Or47 (p : List Fr → Bool) (sg : List Fr) : callC C0 OA2 TX.funs TX.prim 2000 28 Oa47 sg (fun v' sg' wd => ifK (veq v' Ov47) (ifK (Nat.beq wd 0) (p sg') false) false) = p sg := by kernel_rfl
theorem Os47 : SaysT TX 28 Oa47 Ov47 := says_of_C OA2_ok (prim_su num0) cl_ok Or47
end Go.Vm

/- Printed by closed2.py. -/
namespace Go.Vm
open Go
set_option maxRecDepth 1000000
noncomputable def Ok3_6 : List V → Option V := kM [(Oa14, Ov14), (Oa33, Ov33), (Oa45, Ov45), (Oa38, Ov38), (Oa7, Ov7)]
theorem Ok3_6_ok : KOk TX 6 Ok3_6 := kM_ok fun p hp => by
  simp only [List.mem_cons, List.mem_nil_iff, or_false] at hp
  rcases hp with rfl | rfl | rfl | rfl | rfl
  · exact ⟨(fun _ => rfl), (fun _ => rfl), Os14⟩
  · exact ⟨(fun _ => rfl), (fun _ => rfl), Os33⟩
  · exact ⟨(fun _ => rfl), (fun _ => rfl), Os45⟩
  · exact ⟨(fun _ => rfl), (fun _ => rfl), Os38⟩
  · exact ⟨(fun _ => rfl), (fun _ => rfl), Os7⟩
noncomputable def Ok3_7 : List V → Option V := kM [(Oa42, Ov42)]
theorem Ok3_7_ok : KOk TX 7 Ok3_7 := kM_ok fun p hp => by
  simp only [List.mem_cons, List.mem_nil_iff, or_false] at hp
  rcases hp with rfl
  · exact ⟨(fun _ => rfl), (fun _ => rfl), Os42⟩
noncomputable def Ok3_28 : List V → Option V := kM [(Oa47, Ov47)]
theorem Ok3_28_ok : KOk TX 28 Ok3_28 := kM_ok fun p hp => by
  simp only [List.mem_cons, List.mem_nil_iff, or_false] at hp
  rcases hp with rfl
  · exact ⟨(fun _ => rfl), (fun _ => rfl), Os47⟩
noncomputable def Ok3_95 : List V → Option V := kM [(Oa16, Ov16)]
theorem Ok3_95_ok : KOk TX 95 Ok3_95 := kM_ok fun p hp => by
  simp only [List.mem_cons, List.mem_nil_iff, or_false] at hp
  rcases hp with rfl
  · exact ⟨(fun _ => rfl), (fun _ => rfl), Os16⟩
noncomputable def OT3 : KT := (.node 28 Ok3_28 (.node 7 Ok3_7 (.node 6 Ok3_6 .leaf .leaf) .leaf) (.node 95 Ok3_95 .leaf .leaf))
theorem OT3_ok : OT3.Ok TX := ⟨Ok3_28_ok, ⟨Ok3_7_ok, ⟨Ok3_6_ok, trivial, trivial⟩, trivial⟩, ⟨Ok3_95_ok, trivial, trivial⟩⟩
noncomputable def OA3 : Orc := orcL OT3 OA2
theorem OA3_ok {σ : Int → V} : OrcOk TX σ OA3 := orcL_ok OT3_ok OA2_ok
end Go.Vm
