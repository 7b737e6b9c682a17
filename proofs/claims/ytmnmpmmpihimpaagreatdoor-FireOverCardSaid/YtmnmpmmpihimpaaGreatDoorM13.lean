/-
  A part of a proof: the last text of the claim says what is proved, and under which conditions.
-/
import Derived.Test.YtmnmpmmpihimpaaGreatDoorM12
set_option linter.unusedSimpArgs false
set_option linter.unusedVariables false
set_option linter.unnecessarySimpa false
/- Printed by closed2.py. -/
namespace Go.Vm
open Go
set_option maxRecDepth 1000000
theorem Or13 (p : List Fr → Bool) (sg : List Fr) : callC C0 OA0 TX.funs TX.prim 2000 80 Oa13 sg (fun v' sg' wd => ifK (veq v' Ov13) (ifK (Nat.beq wd 0) (p sg') false) false) = p sg := by kernel_rfl
theorem Os13 : SaysT TX 80 Oa13 Ov13 := says_of_C OA0_ok (prim_su num0) cl_ok Or13
theorem Or3 (p : List Fr → Bool) (sg : List Fr) : callC C0 OA0 TX.funs TX.prim 2000 80 Oa3 sg (fun v' sg' wd => ifK (veq v' Ov3) (ifK (Nat.beq wd 0) (p sg') false) false) = p sg := by kernel_rfl
theorem Os3 : SaysT TX 80 Oa3 Ov3 := says_of_C OA0_ok (prim_su num0) cl_ok Or3
theorem Or4 (p : List Fr → Bool) (sg : List Fr) : callC C0 OA0 TX.funs TX.prim 2000 80 Oa4 sg (fun v' sg' wd => ifK (veq v' Ov4) (ifK (Nat.beq wd 0) (p sg') false) false) = p sg := by kernel_rfl
theorem Os4 : SaysT TX 80 Oa4 Ov4 := says_of_C OA0_ok (prim_su num0) cl_ok Or4
theorem Or5 (p : List Fr → Bool) (sg : List Fr) : callC C0 OA0 TX.funs TX.prim 2000 80 Oa5 sg (fun v' sg' wd => ifK (veq v' Ov5) (ifK (Nat.beq wd 0) (p sg') false) false) = p sg := by kernel_rfl
theorem Os5 : SaysT TX 80 Oa5 Ov5 := says_of_C OA0_ok (prim_su num0) cl_ok Or5
theorem Or0 (p : List Fr → Bool) (sg : List Fr) : callC C0 OA0 TX.funs TX.prim 2000 45 Oa0 sg (fun v' sg' wd => ifK (veq v' Ov0) (ifK (Nat.beq wd 0) (p sg') false) false) = p sg := by kernel_rfl
theorem Os0 : SaysT TX 45 Oa0 Ov0 := says_of_C OA0_ok (prim_su num0) cl_ok Or0
theorem Or1 (p : List Fr → Bool) (sg : List Fr) : callC C0 OA0 TX.funs TX.prim 2000 45 Oa1 sg (fun v' sg' wd => ifK (veq v' Ov1) (ifK (Nat.beq wd 0) (p sg') false) false) = p sg := by kernel_rfl
theorem Os1 : SaysT TX 45 Oa1 Ov1 := says_of_C OA0_ok (prim_su num0) cl_ok Or1
theorem Or18 (p : List Fr → Bool) (sg : List Fr) : callC C0 OA0 TX.funs TX.prim 2000 145 Oa18 sg (fun v' sg' wd => ifK (veq v' Ov18) (ifK (Nat.beq wd 0) (p sg') false) false) = p sg := by kernel_rfl
theorem Os18 : SaysT TX 145 Oa18 Ov18 := says_of_C OA0_ok (prim_su num0) cl_ok Or18
end Go.Vm

/- Printed by closed2.py. -/
namespace Go.Vm
open Go
set_option maxRecDepth 1000000
noncomputable def Ok1_45 : List V → Option V := kM [(Oa0, Ov0), (Oa1, Ov1)]
theorem Ok1_45_ok : KOk TX 45 Ok1_45 := kM_ok fun p hp => by
  simp only [List.mem_cons, List.mem_nil_iff, or_false] at hp
  rcases hp with rfl | rfl
  · exact ⟨(fun _ => rfl), (fun _ => rfl), Os0⟩
  · exact ⟨(fun _ => rfl), (fun _ => rfl), Os1⟩
noncomputable def Ok1_80 : List V → Option V := kM [(Oa13, Ov13), (Oa3, Ov3), (Oa4, Ov4), (Oa5, Ov5)]
theorem Ok1_80_ok : KOk TX 80 Ok1_80 := kM_ok fun p hp => by
  simp only [List.mem_cons, List.mem_nil_iff, or_false] at hp
  rcases hp with rfl | rfl | rfl | rfl
  · exact ⟨(fun _ => rfl), (fun _ => rfl), Os13⟩
  · exact ⟨(fun _ => rfl), (fun _ => rfl), Os3⟩
  · exact ⟨(fun _ => rfl), (fun _ => rfl), Os4⟩
  · exact ⟨(fun _ => rfl), (fun _ => rfl), Os5⟩
noncomputable def Ok1_145 : List V → Option V := kM [(Oa18, Ov18)]
theorem Ok1_145_ok : KOk TX 145 Ok1_145 := kM_ok fun p hp => by
  simp only [List.mem_cons, List.mem_nil_iff, or_false] at hp
  rcases hp with rfl
  · exact ⟨(fun _ => rfl), (fun _ => rfl), Os18⟩
noncomputable def OT1 : KT := (.node 80 Ok1_80 (.node 45 Ok1_45 .leaf .leaf) (.node 145 Ok1_145 .leaf .leaf))
theorem OT1_ok : OT1.Ok TX := ⟨Ok1_80_ok, ⟨Ok1_45_ok, trivial, trivial⟩, ⟨Ok1_145_ok, trivial, trivial⟩⟩
noncomputable def OA1 : Orc := orcL OT1 OA0
theorem OA1_ok {σ : Int → V} : OrcOk TX σ OA1 := orcL_ok OT1_ok OA0_ok
end Go.Vm
