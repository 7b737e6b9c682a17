/-
  A part of a proof: the last text of the claim says what is proved, and under which conditions.
-/
import Derived.Test.YtmnmpmmpihimpaaGreatDoorM13
import Derived.Test.YtmnmpmmpihimpaaGreatDoorM14
import Derived.Test.YtmnmpmmpihimpaaGreatDoorM15
set_option linter.unusedSimpArgs false
set_option linter.unusedVariables false
set_option linter.unnecessarySimpa false
/- Printed by closed2.py. -/
namespace Go.Vm
open Go
set_option maxRecDepth 1000000
theorem Or32 (p : List Fr → Bool) (sg : List Fr) : callC C0 OA1 TX.funs TX.prim 2000 12 Oa32 sg (fun v' sg' wd => ifK (veq v' Ov32) (ifK (Nat.beq wd 0) (p sg') false) false) = p sg := by kernel_rfl
theorem Os32 : SaysT TX 12 Oa32 Ov32 := says_of_C OA1_ok (prim_su num0) cl_ok Or32
theorem Or44 (p : List Fr → Bool) (sg : List Fr) : callC C0 OA1 TX.funs TX.prim 2000 12 Oa44 sg (fun v' sg' wd => ifK (veq v' Ov44) (ifK (Nat.beq wd 0) (p sg') false) false) = p sg := by kernel_rfl
theorem Os44 : SaysT TX 12 Oa44 Ov44 := says_of_C OA1_ok (prim_su num0) cl_ok Or44
theorem Or39 (p : List Fr → Bool) (sg : List Fr) : callC C0 OA1 TX.funs TX.prim 2000 28 Oa39 sg (fun v' sg' wd => ifK (veq v' Ov39) (ifK (Nat.beq wd 0) (p sg') false) false) = p sg := by kernel_rfl
theorem Os39 : SaysT TX 28 Oa39 Ov39 := says_of_C OA1_ok (prim_su num0) cl_ok Or39
theorem Or34 (p : List Fr → Bool) (sg : List Fr) : callC C0 OA1 TX.funs TX.prim 2000 95 Oa34 sg (fun v' sg' wd => ifK (veq v' Ov34) (ifK (Nat.beq wd 0) (p sg') false) false) = p sg := by kernel_rfl
theorem Os34 : SaysT TX 95 Oa34 Ov34 := says_of_C OA1_ok (prim_su num0) cl_ok Or34
theorem Or6 (p : List Fr → Bool) (sg : List Fr) : callC C0 OA1 TX.funs TX.prim 2000 25 Oa6 sg (fun v' sg' wd => ifK (veq v' Ov6) (ifK (Nat.beq wd 0) (p sg') false) false) = p sg := by kernel_rfl
theorem Os6 : SaysT TX 25 Oa6 Ov6 := says_of_C OA1_ok (prim_su num0) cl_ok Or6
end Go.Vm

/- Printed by closed2.py. -/
namespace Go.Vm
open Go
set_option maxRecDepth 1000000
noncomputable def Ok2_12 : List V → Option V := kM [(Oa12, Ov12), (Oa2, Ov2), (Oa32, Ov32), (Oa44, Ov44), (Oa37, Ov37)]
theorem Ok2_12_ok : KOk TX 12 Ok2_12 := kM_ok fun p hp => by
  simp only [List.mem_cons, List.mem_nil_iff, or_false] at hp
  rcases hp with rfl | rfl | rfl | rfl | rfl
  · exact ⟨(fun _ => rfl), (fun _ => rfl), Os12⟩
  · exact ⟨(fun _ => rfl), (fun _ => rfl), Os2⟩
  · exact ⟨(fun _ => rfl), (fun _ => rfl), Os32⟩
  · exact ⟨(fun _ => rfl), (fun _ => rfl), Os44⟩
  · exact ⟨(fun _ => rfl), (fun _ => rfl), Os37⟩
noncomputable def Ok2_25 : List V → Option V := kM [(Oa6, Ov6)]
theorem Ok2_25_ok : KOk TX 25 Ok2_25 := kM_ok fun p hp => by
  simp only [List.mem_cons, List.mem_nil_iff, or_false] at hp
  rcases hp with rfl
  · exact ⟨(fun _ => rfl), (fun _ => rfl), Os6⟩
noncomputable def Ok2_28 : List V → Option V := kM [(Oa39, Ov39), (Oa8, Ov8)]
theorem Ok2_28_ok : KOk TX 28 Ok2_28 := kM_ok fun p hp => by
  simp only [List.mem_cons, List.mem_nil_iff, or_false] at hp
  rcases hp with rfl | rfl
  · exact ⟨(fun _ => rfl), (fun _ => rfl), Os39⟩
  · exact ⟨(fun _ => rfl), (fun _ => rfl), Os8⟩
noncomputable def Ok2_95 : List V → Option V := kM [(Oa34, Ov34), (Oa46, Ov46)]
theorem Ok2_95_ok : KOk TX 95 Ok2_95 := kM_ok fun p hp => by
  simp only [List.mem_cons, List.mem_nil_iff, or_false] at hp
  rcases hp with rfl | rfl
  · exact ⟨(fun _ => rfl), (fun _ => rfl), Os34⟩
  · exact ⟨(fun _ => rfl), (fun _ => rfl), Os46⟩
noncomputable def Ok2_179 : List V → Option V := kM [(Oa15, Ov15)]
theorem Ok2_179_ok : KOk TX 179 Ok2_179 := kM_ok fun p hp => by
  simp only [List.mem_cons, List.mem_nil_iff, or_false] at hp
  rcases hp with rfl
  · exact ⟨(fun _ => rfl), (fun _ => rfl), Os15⟩
noncomputable def Ok2_337 : List V → Option V := kM [(Oa41, Ov41), (Oa40, Ov40)]
theorem Ok2_337_ok : KOk TX 337 Ok2_337 := kM_ok fun p hp => by
  simp only [List.mem_cons, List.mem_nil_iff, or_false] at hp
  rcases hp with rfl | rfl
  · exact ⟨(fun _ => rfl), (fun _ => rfl), Os41⟩
  · exact ⟨(fun _ => rfl), (fun _ => rfl), Os40⟩
noncomputable def OT2 : KT := (.node 95 Ok2_95 (.node 25 Ok2_25 (.node 12 Ok2_12 .leaf .leaf) (.node 28 Ok2_28 .leaf .leaf)) (.node 337 Ok2_337 (.node 179 Ok2_179 .leaf .leaf) .leaf))
theorem OT2_ok : OT2.Ok TX := ⟨Ok2_95_ok, ⟨Ok2_25_ok, ⟨Ok2_12_ok, trivial, trivial⟩, ⟨Ok2_28_ok, trivial, trivial⟩⟩, ⟨Ok2_337_ok, ⟨Ok2_179_ok, trivial, trivial⟩, trivial⟩⟩
noncomputable def OA2 : Orc := orcL OT2 OA1
theorem OA2_ok {σ : Int → V} : OrcOk TX σ OA2 := orcL_ok OT2_ok OA1_ok
end Go.Vm
