/-
  A part of a proof: the last text of the claim says what is proved, and under which conditions.
-/
import Derived.Test.YtjebeifjkkofaaaGreatDoorM21
set_option linter.unusedSimpArgs false
set_option linter.unusedVariables false
set_option linter.unnecessarySimpa false
/- Printed by closed2.py. -/
namespace Go.Vm
open Go
set_option maxRecDepth 1000000
theorem Tr106 (p : List Fr → Bool) (sg : List Fr) : callC C0 TA3 TX.funs TX.prim 2000 6 Ta106 sg (fun v' sg' wd => ifK (veq v' Tv106) (ifK (Nat.beq wd 0) (p sg') false) false) = p sg := by kernel_rfl
theorem Ts106 : SaysT TX 6 Ta106 Tv106 := says_of_C TA3_ok (prim_su num0) cl_ok Tr106
theorem Tr93 (p : List Fr → Bool) (sg : List Fr) : callC C0 TA3 TX.funs TX.prim 2000 6 Ta93 sg (fun v' sg' wd => ifK (veq v' Tv93) (ifK (Nat.beq wd 0) (p sg') false) false) = p sg := by kernel_rfl
theorem Ts93 : SaysT TX 6 Ta93 Tv93 := says_of_C TA3_ok (prim_su num0) cl_ok Tr93
theorem Tr67 (p : List Fr → Bool) (sg : List Fr) : callC C0 TA3 TX.funs TX.prim 2000 6 Ta67 sg (fun v' sg' wd => ifK (veq v' Tv67) (ifK (Nat.beq wd 0) (p sg') false) false) = p sg := by kernel_rfl
theorem Ts67 : SaysT TX 6 Ta67 Tv67 := says_of_C TA3_ok (prim_su num0) cl_ok Tr67
end Go.Vm

/- Printed by closed2.py. -/
namespace Go.Vm
open Go
set_option maxRecDepth 1000000
noncomputable def Tk4_6 : List V → Option V := kM [(Ta106,Tv106),(Ta93,Tv93),(Ta67,Tv67)]
theorem Tk4_6_ok : KOk TX 6 Tk4_6 := kM_ok fun p hp => by
  simp only [List.mem_cons,List.mem_nil_iff,or_false] at hp
  rcases hp with rfl | rfl | rfl
  · exact ⟨(fun _ => rfl),(fun _ => rfl),Ts106⟩
  · exact ⟨(fun _ => rfl),(fun _ => rfl),Ts93⟩
  · exact ⟨(fun _ => rfl),(fun _ => rfl),Ts67⟩
noncomputable def TT4 : KT := (.node 6 Tk4_6 .leaf .leaf)
theorem TT4_ok : TT4.Ok TX := ⟨Tk4_6_ok,trivial,trivial⟩
noncomputable def TA4 : Orc := orcL TT4 TA3
theorem TA4_ok {σ : Int → V} : OrcOk TX σ TA4 := orcL_ok TT4_ok TA3_ok
end Go.Vm
