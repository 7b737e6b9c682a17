/-
  A part of a proof: the last text of the claim says what is proved, and under which conditions.
-/
import Derived.Test.YtjebeifjkkofaaaGreatDoorM18
import Derived.Test.YtjebeifjkkofaaaGreatDoorM19
import Derived.Test.YtjebeifjkkofaaaGreatDoorM20
set_option linter.unusedSimpArgs false
set_option linter.unusedVariables false
set_option linter.unnecessarySimpa false
/- Printed by closed2.py. -/
namespace Go.Vm
open Go
set_option maxRecDepth 1000000
theorem Tr158 (p : List Fr → Bool) (sg : List Fr) : callC C0 TA2 TX.funs TX.prim 2000 15 Ta158 sg (fun v' sg' wd => ifK (veq v' Tv158) (ifK (Nat.beq wd 0) (p sg') false) false) = p sg := by kernel_rfl
theorem Ts158 : SaysT TX 15 Ta158 Tv158 := says_of_C TA2_ok (prim_su num0) cl_ok Tr158
theorem Tr49 (p : List Fr → Bool) (sg : List Fr) : callC C0 TA2 TX.funs TX.prim 2000 6 Ta49 sg (fun v' sg' wd => ifK (veq v' Tv49) (ifK (Nat.beq wd 0) (p sg') false) false) = p sg := by kernel_rfl
theorem Ts49 : SaysT TX 6 Ta49 Tv49 := says_of_C TA2_ok (prim_su num0) cl_ok Tr49
theorem Tr105 (p : List Fr → Bool) (sg : List Fr) : callC C0 TA2 TX.funs TX.prim 2000 13 Ta105 sg (fun v' sg' wd => ifK (veq v' Tv105) (ifK (Nat.beq wd 0) (p sg') false) false) = p sg := by kernel_rfl
theorem Ts105 : SaysT TX 13 Ta105 Tv105 := says_of_C TA2_ok (prim_su num0) cl_ok Tr105
theorem Tr132 (p : List Fr → Bool) (sg : List Fr) : callC C0 TA2 TX.funs TX.prim 2000 4 Ta132 sg (fun v' sg' wd => ifK (veq v' Tv132) (ifK (Nat.beq wd 0) (p sg') false) false) = p sg := by kernel_rfl
theorem Ts132 : SaysT TX 4 Ta132 Tv132 := says_of_C TA2_ok (prim_su num0) cl_ok Tr132
theorem Tr120 (p : List Fr → Bool) (sg : List Fr) : callC C0 TA2 TX.funs TX.prim 2000 6 Ta120 sg (fun v' sg' wd => ifK (veq v' Tv120) (ifK (Nat.beq wd 0) (p sg') false) false) = p sg := by kernel_rfl
theorem Ts120 : SaysT TX 6 Ta120 Tv120 := says_of_C TA2_ok (prim_su num0) cl_ok Tr120
theorem Tr101 (p : List Fr → Bool) (sg : List Fr) : callC C0 TA2 TX.funs TX.prim 2000 15 Ta101 sg (fun v' sg' wd => ifK (veq v' Tv101) (ifK (Nat.beq wd 0) (p sg') false) false) = p sg := by kernel_rfl
theorem Ts101 : SaysT TX 15 Ta101 Tv101 := says_of_C TA2_ok (prim_su num0) cl_ok Tr101
theorem Tr66 (p : List Fr → Bool) (sg : List Fr) : callC C0 TA2 TX.funs TX.prim 2000 13 Ta66 sg (fun v' sg' wd => ifK (veq v' Tv66) (ifK (Nat.beq wd 0) (p sg') false) false) = p sg := by kernel_rfl
theorem Ts66 : SaysT TX 13 Ta66 Tv66 := says_of_C TA2_ok (prim_su num0) cl_ok Tr66
end Go.Vm

/- Printed by closed2.py. -/
namespace Go.Vm
open Go
set_option maxRecDepth 1000000
noncomputable def Tk3_4 : List V → Option V := kM [(Ta100,Tv100),(Ta132,Tv132),(Ta157,Tv157),(Ta42,Tv42),(Ta89,Tv89)]
theorem Tk3_4_ok : KOk TX 4 Tk3_4 := kM_ok fun p hp => by
  simp only [List.mem_cons,List.mem_nil_iff,or_false] at hp
  rcases hp with rfl | rfl | rfl | rfl | rfl
  · exact ⟨(fun _ => rfl),(fun _ => rfl),Ts100⟩
  · exact ⟨(fun _ => rfl),(fun _ => rfl),Ts132⟩
  · exact ⟨(fun _ => rfl),(fun _ => rfl),Ts157⟩
  · exact ⟨(fun _ => rfl),(fun _ => rfl),Ts42⟩
  · exact ⟨(fun _ => rfl),(fun _ => rfl),Ts89⟩
noncomputable def Tk3_6 : List V → Option V := kM [(Ta161,Tv161),(Ta135,Tv135),(Ta49,Tv49),(Ta30,Tv30),(Ta14,Tv14),(Ta120,Tv120),(Ta76,Tv76)]
theorem Tk3_6_ok : KOk TX 6 Tk3_6 := kM_ok fun p hp => by
  simp only [List.mem_cons,List.mem_nil_iff,or_false] at hp
  rcases hp with rfl | rfl | rfl | rfl | rfl | rfl | rfl
  · exact ⟨(fun _ => rfl),(fun _ => rfl),Ts161⟩
  · exact ⟨(fun _ => rfl),(fun _ => rfl),Ts135⟩
  · exact ⟨(fun _ => rfl),(fun _ => rfl),Ts49⟩
  · exact ⟨(fun _ => rfl),(fun _ => rfl),Ts30⟩
  · exact ⟨(fun _ => rfl),(fun _ => rfl),Ts14⟩
  · exact ⟨(fun _ => rfl),(fun _ => rfl),Ts120⟩
  · exact ⟨(fun _ => rfl),(fun _ => rfl),Ts76⟩
noncomputable def Tk3_9 : List V → Option V := kM [(Ta25,Tv25)]
theorem Tk3_9_ok : KOk TX 9 Tk3_9 := kM_ok fun p hp => by
  simp only [List.mem_cons,List.mem_nil_iff,or_false] at hp
  rcases hp with rfl
  · exact ⟨(fun _ => rfl),(fun _ => rfl),Ts25⟩
noncomputable def Tk3_13 : List V → Option V := kM [(Ta92,Tv92),(Ta105,Tv105),(Ta66,Tv66)]
theorem Tk3_13_ok : KOk TX 13 Tk3_13 := kM_ok fun p hp => by
  simp only [List.mem_cons,List.mem_nil_iff,or_false] at hp
  rcases hp with rfl | rfl | rfl
  · exact ⟨(fun _ => rfl),(fun _ => rfl),Ts92⟩
  · exact ⟨(fun _ => rfl),(fun _ => rfl),Ts105⟩
  · exact ⟨(fun _ => rfl),(fun _ => rfl),Ts66⟩
noncomputable def Tk3_15 : List V → Option V := kM [(Ta158,Tv158),(Ta133,Tv133),(Ta43,Tv43),(Ta101,Tv101),(Ta90,Tv90)]
theorem Tk3_15_ok : KOk TX 15 Tk3_15 := kM_ok fun p hp => by
  simp only [List.mem_cons,List.mem_nil_iff,or_false] at hp
  rcases hp with rfl | rfl | rfl | rfl | rfl
  · exact ⟨(fun _ => rfl),(fun _ => rfl),Ts158⟩
  · exact ⟨(fun _ => rfl),(fun _ => rfl),Ts133⟩
  · exact ⟨(fun _ => rfl),(fun _ => rfl),Ts43⟩
  · exact ⟨(fun _ => rfl),(fun _ => rfl),Ts101⟩
  · exact ⟨(fun _ => rfl),(fun _ => rfl),Ts90⟩
noncomputable def TT3 : KT := (.node 9 Tk3_9 (.node 6 Tk3_6 (.node 4 Tk3_4 .leaf .leaf) .leaf) (.node 15 Tk3_15 (.node 13 Tk3_13 .leaf .leaf) .leaf))
theorem TT3_ok : TT3.Ok TX := ⟨Tk3_9_ok,⟨Tk3_6_ok,⟨Tk3_4_ok,trivial,trivial⟩,trivial⟩,⟨Tk3_15_ok,⟨Tk3_13_ok,trivial,trivial⟩,trivial⟩⟩
noncomputable def TA3 : Orc := orcL TT3 TA2
theorem TA3_ok {σ : Int → V} : OrcOk TX σ TA3 := orcL_ok TT3_ok TA2_ok
end Go.Vm
