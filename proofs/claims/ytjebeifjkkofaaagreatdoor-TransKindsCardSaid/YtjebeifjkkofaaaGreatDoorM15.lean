/-
  A part of a proof: the last text of the claim says what is proved, and under which conditions.
-/
import Derived.Test.YtjebeifjkkofaaaGreatDoorM14
set_option linter.unusedSimpArgs false
set_option linter.unusedVariables false
set_option linter.unnecessarySimpa false
/- Printed by closed2.py. -/
namespace Go.Vm
open Go
set_option maxRecDepth 1000000
theorem Tr10 (p : List Fr → Bool) (sg : List Fr) : callC C0 TA0 TX.funs TX.prim 2000 117 Ta10 sg (fun v' sg' wd => ifK (veq v' Tv10) (ifK (Nat.beq wd 0) (p sg') false) false) = p sg := by kernel_rfl
theorem Ts10 : SaysT TX 117 Ta10 Tv10 := says_of_C TA0_ok (prim_su num0) cl_ok Tr10
theorem Tr9 (p : List Fr → Bool) (sg : List Fr) : callC C0 TA0 TX.funs TX.prim 2000 117 Ta9 sg (fun v' sg' wd => ifK (veq v' Tv9) (ifK (Nat.beq wd 0) (p sg') false) false) = p sg := by kernel_rfl
theorem Ts9 : SaysT TX 117 Ta9 Tv9 := says_of_C TA0_ok (prim_su num0) cl_ok Tr9
theorem Tr29 (p : List Fr → Bool) (sg : List Fr) : callC C0 TA0 TX.funs TX.prim 2000 117 Ta29 sg (fun v' sg' wd => ifK (veq v' Tv29) (ifK (Nat.beq wd 0) (p sg') false) false) = p sg := by kernel_rfl
theorem Ts29 : SaysT TX 117 Ta29 Tv29 := says_of_C TA0_ok (prim_su num0) cl_ok Tr29
theorem Tr46 (p : List Fr → Bool) (sg : List Fr) : callC C0 TA0 TX.funs TX.prim 2000 117 Ta46 sg (fun v' sg' wd => ifK (veq v' Tv46) (ifK (Nat.beq wd 0) (p sg') false) false) = p sg := by kernel_rfl
theorem Ts46 : SaysT TX 117 Ta46 Tv46 := says_of_C TA0_ok (prim_su num0) cl_ok Tr46
theorem Tr102 (p : List Fr → Bool) (sg : List Fr) : callC C0 TA0 TX.funs TX.prim 2000 117 Ta102 sg (fun v' sg' wd => ifK (veq v' Tv102) (ifK (Nat.beq wd 0) (p sg') false) false) = p sg := by kernel_rfl
theorem Ts102 : SaysT TX 117 Ta102 Tv102 := says_of_C TA0_ok (prim_su num0) cl_ok Tr102
theorem Tr103 (p : List Fr → Bool) (sg : List Fr) : callC C0 TA0 TX.funs TX.prim 2000 117 Ta103 sg (fun v' sg' wd => ifK (veq v' Tv103) (ifK (Nat.beq wd 0) (p sg') false) false) = p sg := by kernel_rfl
theorem Ts103 : SaysT TX 117 Ta103 Tv103 := says_of_C TA0_ok (prim_su num0) cl_ok Tr103
theorem Tr159 (p : List Fr → Bool) (sg : List Fr) : callC C0 TA0 TX.funs TX.prim 2000 117 Ta159 sg (fun v' sg' wd => ifK (veq v' Tv159) (ifK (Nat.beq wd 0) (p sg') false) false) = p sg := by kernel_rfl
theorem Ts159 : SaysT TX 117 Ta159 Tv159 := says_of_C TA0_ok (prim_su num0) cl_ok Tr159
theorem Tr8 (p : List Fr → Bool) (sg : List Fr) : callC C0 TA0 TX.funs TX.prim 2000 117 Ta8 sg (fun v' sg' wd => ifK (veq v' Tv8) (ifK (Nat.beq wd 0) (p sg') false) false) = p sg := by kernel_rfl
theorem Ts8 : SaysT TX 117 Ta8 Tv8 := says_of_C TA0_ok (prim_su num0) cl_ok Tr8
theorem Tr44 (p : List Fr → Bool) (sg : List Fr) : callC C0 TA0 TX.funs TX.prim 2000 117 Ta44 sg (fun v' sg' wd => ifK (veq v' Tv44) (ifK (Nat.beq wd 0) (p sg') false) false) = p sg := by kernel_rfl
theorem Ts44 : SaysT TX 117 Ta44 Tv44 := says_of_C TA0_ok (prim_su num0) cl_ok Tr44
theorem Tr45 (p : List Fr → Bool) (sg : List Fr) : callC C0 TA0 TX.funs TX.prim 2000 117 Ta45 sg (fun v' sg' wd => ifK (veq v' Tv45) (ifK (Nat.beq wd 0) (p sg') false) false) = p sg := by kernel_rfl
theorem Ts45 : SaysT TX 117 Ta45 Tv45 := says_of_C TA0_ok (prim_su num0) cl_ok Tr45
theorem Tr91 (p : List Fr → Bool) (sg : List Fr) : callC C0 TA0 TX.funs TX.prim 2000 117 Ta91 sg (fun v' sg' wd => ifK (veq v' Tv91) (ifK (Nat.beq wd 0) (p sg') false) false) = p sg := by kernel_rfl
theorem Ts91 : SaysT TX 117 Ta91 Tv91 := says_of_C TA0_ok (prim_su num0) cl_ok Tr91
theorem Tr2 (p : List Fr → Bool) (sg : List Fr) : callC C0 TA0 TX.funs TX.prim 2000 117 Ta2 sg (fun v' sg' wd => ifK (veq v' Tv2) (ifK (Nat.beq wd 0) (p sg') false) false) = p sg := by kernel_rfl
theorem Ts2 : SaysT TX 117 Ta2 Tv2 := says_of_C TA0_ok (prim_su num0) cl_ok Tr2
theorem Tr3 (p : List Fr → Bool) (sg : List Fr) : callC C0 TA0 TX.funs TX.prim 2000 117 Ta3 sg (fun v' sg' wd => ifK (veq v' Tv3) (ifK (Nat.beq wd 0) (p sg') false) false) = p sg := by kernel_rfl
theorem Ts3 : SaysT TX 117 Ta3 Tv3 := says_of_C TA0_ok (prim_su num0) cl_ok Tr3
theorem Tr4 (p : List Fr → Bool) (sg : List Fr) : callC C0 TA0 TX.funs TX.prim 2000 117 Ta4 sg (fun v' sg' wd => ifK (veq v' Tv4) (ifK (Nat.beq wd 0) (p sg') false) false) = p sg := by kernel_rfl
theorem Ts4 : SaysT TX 117 Ta4 Tv4 := says_of_C TA0_ok (prim_su num0) cl_ok Tr4
theorem Tr5 (p : List Fr → Bool) (sg : List Fr) : callC C0 TA0 TX.funs TX.prim 2000 117 Ta5 sg (fun v' sg' wd => ifK (veq v' Tv5) (ifK (Nat.beq wd 0) (p sg') false) false) = p sg := by kernel_rfl
theorem Ts5 : SaysT TX 117 Ta5 Tv5 := says_of_C TA0_ok (prim_su num0) cl_ok Tr5
theorem Tr6 (p : List Fr → Bool) (sg : List Fr) : callC C0 TA0 TX.funs TX.prim 2000 117 Ta6 sg (fun v' sg' wd => ifK (veq v' Tv6) (ifK (Nat.beq wd 0) (p sg') false) false) = p sg := by kernel_rfl
theorem Ts6 : SaysT TX 117 Ta6 Tv6 := says_of_C TA0_ok (prim_su num0) cl_ok Tr6
theorem Tr0 (p : List Fr → Bool) (sg : List Fr) : callC C0 TA0 TX.funs TX.prim 2000 63 Ta0 sg (fun v' sg' wd => ifK (veq v' Tv0) (ifK (Nat.beq wd 0) (p sg') false) false) = p sg := by kernel_rfl
theorem Ts0 : SaysT TX 63 Ta0 Tv0 := says_of_C TA0_ok (prim_su num0) cl_ok Tr0
theorem Tr11 (p : List Fr → Bool) (sg : List Fr) : callC C0 TA0 TX.funs TX.prim 2000 145 Ta11 sg (fun v' sg' wd => ifK (veq v' Tv11) (ifK (Nat.beq wd 0) (p sg') false) false) = p sg := by kernel_rfl
theorem Ts11 : SaysT TX 145 Ta11 Tv11 := says_of_C TA0_ok (prim_su num0) cl_ok Tr11
end Go.Vm

/- Printed by closed2.py. -/
namespace Go.Vm
open Go
set_option maxRecDepth 1000000
noncomputable def Tk1_63 : List V → Option V := kM [(Ta0,Tv0)]
theorem Tk1_63_ok : KOk TX 63 Tk1_63 := kM_ok fun p hp => by
  simp only [List.mem_cons,List.mem_nil_iff,or_false] at hp
  rcases hp with rfl
  · exact ⟨(fun _ => rfl),(fun _ => rfl),Ts0⟩
noncomputable def Tk1_117 : List V → Option V := kM [(Ta10,Tv10),(Ta9,Tv9),(Ta29,Tv29),(Ta46,Tv46),(Ta102,Tv102),(Ta103,Tv103),(Ta159,Tv159),(Ta8,Tv8),(Ta44,Tv44),(Ta45,Tv45),(Ta91,Tv91),(Ta2,Tv2),(Ta3,Tv3),(Ta4,Tv4),(Ta5,Tv5),(Ta6,Tv6)]
theorem Tk1_117_ok : KOk TX 117 Tk1_117 := kM_ok fun p hp => by
  simp only [List.mem_cons,List.mem_nil_iff,or_false] at hp
  rcases hp with rfl | rfl | rfl | rfl | rfl | rfl | rfl | rfl | rfl | rfl | rfl | rfl | rfl | rfl | rfl | rfl
  · exact ⟨(fun _ => rfl),(fun _ => rfl),Ts10⟩
  · exact ⟨(fun _ => rfl),(fun _ => rfl),Ts9⟩
  · exact ⟨(fun _ => rfl),(fun _ => rfl),Ts29⟩
  · exact ⟨(fun _ => rfl),(fun _ => rfl),Ts46⟩
  · exact ⟨(fun _ => rfl),(fun _ => rfl),Ts102⟩
  · exact ⟨(fun _ => rfl),(fun _ => rfl),Ts103⟩
  · exact ⟨(fun _ => rfl),(fun _ => rfl),Ts159⟩
  · exact ⟨(fun _ => rfl),(fun _ => rfl),Ts8⟩
  · exact ⟨(fun _ => rfl),(fun _ => rfl),Ts44⟩
  · exact ⟨(fun _ => rfl),(fun _ => rfl),Ts45⟩
  · exact ⟨(fun _ => rfl),(fun _ => rfl),Ts91⟩
  · exact ⟨(fun _ => rfl),(fun _ => rfl),Ts2⟩
  · exact ⟨(fun _ => rfl),(fun _ => rfl),Ts3⟩
  · exact ⟨(fun _ => rfl),(fun _ => rfl),Ts4⟩
  · exact ⟨(fun _ => rfl),(fun _ => rfl),Ts5⟩
  · exact ⟨(fun _ => rfl),(fun _ => rfl),Ts6⟩
noncomputable def Tk1_145 : List V → Option V := kM [(Ta11,Tv11)]
theorem Tk1_145_ok : KOk TX 145 Tk1_145 := kM_ok fun p hp => by
  simp only [List.mem_cons,List.mem_nil_iff,or_false] at hp
  rcases hp with rfl
  · exact ⟨(fun _ => rfl),(fun _ => rfl),Ts11⟩
noncomputable def TT1 : KT := (.node 117 Tk1_117 (.node 63 Tk1_63 .leaf .leaf) (.node 145 Tk1_145 .leaf .leaf))
theorem TT1_ok : TT1.Ok TX := ⟨Tk1_117_ok,⟨Tk1_63_ok,trivial,trivial⟩,⟨Tk1_145_ok,trivial,trivial⟩⟩
noncomputable def TA1 : Orc := orcL TT1 TA0
theorem TA1_ok {σ : Int → V} : OrcOk TX σ TA1 := orcL_ok TT1_ok TA0_ok
end Go.Vm
