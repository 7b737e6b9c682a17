/-
  A part of a proof: the last text of the claim says what is proved, and under which conditions.
-/
import Derived.Test.YtjebeifjkkofaaaGreatDoorM15
import Derived.Test.YtjebeifjkkofaaaGreatDoorM16
import Derived.Test.YtjebeifjkkofaaaGreatDoorM17
set_option linter.unusedSimpArgs false
set_option linter.unusedVariables false
set_option linter.unnecessarySimpa false
/- Printed by closed2.py. -/
namespace Go.Vm
open Go
set_option maxRecDepth 1000000
theorem Tr155 (p : List Fr → Bool) (sg : List Fr) : callC C0 TA1 TX.funs TX.prim 2000 10 Ta155 sg (fun v' sg' wd => ifK (veq v' Tv155) (ifK (Nat.beq wd 0) (p sg') false) false) = p sg := by kernel_rfl
theorem Ts155 : SaysT TX 10 Ta155 Tv155 := says_of_C TA1_ok (prim_su num0) cl_ok Tr155
theorem Tr40 (p : List Fr → Bool) (sg : List Fr) : callC C0 TA1 TX.funs TX.prim 2000 10 Ta40 sg (fun v' sg' wd => ifK (veq v' Tv40) (ifK (Nat.beq wd 0) (p sg') false) false) = p sg := by kernel_rfl
theorem Ts40 : SaysT TX 10 Ta40 Tv40 := says_of_C TA1_ok (prim_su num0) cl_ok Tr40
theorem Tr27 (p : List Fr → Bool) (sg : List Fr) : callC C0 TA1 TX.funs TX.prim 2000 10 Ta27 sg (fun v' sg' wd => ifK (veq v' Tv27) (ifK (Nat.beq wd 0) (p sg') false) false) = p sg := by kernel_rfl
theorem Ts27 : SaysT TX 10 Ta27 Tv27 := says_of_C TA1_ok (prim_su num0) cl_ok Tr27
theorem Tr7 (p : List Fr → Bool) (sg : List Fr) : callC C0 TA1 TX.funs TX.prim 2000 15 Ta7 sg (fun v' sg' wd => ifK (veq v' Tv7) (ifK (Nat.beq wd 0) (p sg') false) false) = p sg := by kernel_rfl
theorem Ts7 : SaysT TX 15 Ta7 Tv7 := says_of_C TA1_ok (prim_su num0) cl_ok Tr7
theorem Tr24 (p : List Fr → Bool) (sg : List Fr) : callC C0 TA1 TX.funs TX.prim 2000 10 Ta24 sg (fun v' sg' wd => ifK (veq v' Tv24) (ifK (Nat.beq wd 0) (p sg') false) false) = p sg := by kernel_rfl
theorem Ts24 : SaysT TX 10 Ta24 Tv24 := says_of_C TA1_ok (prim_su num0) cl_ok Tr24
theorem Tr104 (p : List Fr → Bool) (sg : List Fr) : callC C0 TA1 TX.funs TX.prim 2000 32 Ta104 sg (fun v' sg' wd => ifK (veq v' Tv104) (ifK (Nat.beq wd 0) (p sg') false) false) = p sg := by kernel_rfl
theorem Ts104 : SaysT TX 32 Ta104 Tv104 := says_of_C TA1_ok (prim_su num0) cl_ok Tr104
theorem Tr12 (p : List Fr → Bool) (sg : List Fr) : callC C0 TA1 TX.funs TX.prim 2000 32 Ta12 sg (fun v' sg' wd => ifK (veq v' Tv12) (ifK (Nat.beq wd 0) (p sg') false) false) = p sg := by kernel_rfl
theorem Ts12 : SaysT TX 32 Ta12 Tv12 := says_of_C TA1_ok (prim_su num0) cl_ok Tr12
theorem Tr13 (p : List Fr → Bool) (sg : List Fr) : callC C0 TA1 TX.funs TX.prim 2000 32 Ta13 sg (fun v' sg' wd => ifK (veq v' Tv13) (ifK (Nat.beq wd 0) (p sg') false) false) = p sg := by kernel_rfl
theorem Ts13 : SaysT TX 32 Ta13 Tv13 := says_of_C TA1_ok (prim_su num0) cl_ok Tr13
theorem Tr99 (p : List Fr → Bool) (sg : List Fr) : callC C0 TA1 TX.funs TX.prim 2000 200 Ta99 sg (fun v' sg' wd => ifK (veq v' Tv99) (ifK (Nat.beq wd 0) (p sg') false) false) = p sg := by kernel_rfl
theorem Ts99 : SaysT TX 200 Ta99 Tv99 := says_of_C TA1_ok (prim_su num0) cl_ok Tr99
theorem Tr156 (p : List Fr → Bool) (sg : List Fr) : callC C0 TA1 TX.funs TX.prim 2000 200 Ta156 sg (fun v' sg' wd => ifK (veq v' Tv156) (ifK (Nat.beq wd 0) (p sg') false) false) = p sg := by kernel_rfl
theorem Ts156 : SaysT TX 200 Ta156 Tv156 := says_of_C TA1_ok (prim_su num0) cl_ok Tr156
theorem Tr88 (p : List Fr → Bool) (sg : List Fr) : callC C0 TA1 TX.funs TX.prim 2000 200 Ta88 sg (fun v' sg' wd => ifK (veq v' Tv88) (ifK (Nat.beq wd 0) (p sg') false) false) = p sg := by kernel_rfl
theorem Ts88 : SaysT TX 200 Ta88 Tv88 := says_of_C TA1_ok (prim_su num0) cl_ok Tr88
theorem Tr75 (p : List Fr → Bool) (sg : List Fr) : callC C0 TA1 TX.funs TX.prim 2000 200 Ta75 sg (fun v' sg' wd => ifK (veq v' Tv75) (ifK (Nat.beq wd 0) (p sg') false) false) = p sg := by kernel_rfl
theorem Ts75 : SaysT TX 200 Ta75 Tv75 := says_of_C TA1_ok (prim_su num0) cl_ok Tr75
end Go.Vm

/- Printed by closed2.py. -/
namespace Go.Vm
open Go
set_option maxRecDepth 1000000
noncomputable def Tk2_10 : List V → Option V := kM [(Ta98,Tv98),(Ta130,Tv130),(Ta155,Tv155),(Ta40,Tv40),(Ta87,Tv87),(Ta64,Tv64),(Ta118,Tv118),(Ta74,Tv74),(Ta27,Tv27),(Ta1,Tv1),(Ta24,Tv24)]
theorem Tk2_10_ok : KOk TX 10 Tk2_10 := kM_ok fun p hp => by
  simp only [List.mem_cons,List.mem_nil_iff,or_false] at hp
  rcases hp with rfl | rfl | rfl | rfl | rfl | rfl | rfl | rfl | rfl | rfl | rfl
  · exact ⟨(fun _ => rfl),(fun _ => rfl),Ts98⟩
  · exact ⟨(fun _ => rfl),(fun _ => rfl),Ts130⟩
  · exact ⟨(fun _ => rfl),(fun _ => rfl),Ts155⟩
  · exact ⟨(fun _ => rfl),(fun _ => rfl),Ts40⟩
  · exact ⟨(fun _ => rfl),(fun _ => rfl),Ts87⟩
  · exact ⟨(fun _ => rfl),(fun _ => rfl),Ts64⟩
  · exact ⟨(fun _ => rfl),(fun _ => rfl),Ts118⟩
  · exact ⟨(fun _ => rfl),(fun _ => rfl),Ts74⟩
  · exact ⟨(fun _ => rfl),(fun _ => rfl),Ts27⟩
  · exact ⟨(fun _ => rfl),(fun _ => rfl),Ts1⟩
  · exact ⟨(fun _ => rfl),(fun _ => rfl),Ts24⟩
noncomputable def Tk2_15 : List V → Option V := kM [(Ta7,Tv7),(Ta28,Tv28)]
theorem Tk2_15_ok : KOk TX 15 Tk2_15 := kM_ok fun p hp => by
  simp only [List.mem_cons,List.mem_nil_iff,or_false] at hp
  rcases hp with rfl | rfl
  · exact ⟨(fun _ => rfl),(fun _ => rfl),Ts7⟩
  · exact ⟨(fun _ => rfl),(fun _ => rfl),Ts28⟩
noncomputable def Tk2_31 : List V → Option V := kM [(Ta134,Tv134),(Ta160,Tv160),(Ta47,Tv47)]
theorem Tk2_31_ok : KOk TX 31 Tk2_31 := kM_ok fun p hp => by
  simp only [List.mem_cons,List.mem_nil_iff,or_false] at hp
  rcases hp with rfl | rfl | rfl
  · exact ⟨(fun _ => rfl),(fun _ => rfl),Ts134⟩
  · exact ⟨(fun _ => rfl),(fun _ => rfl),Ts160⟩
  · exact ⟨(fun _ => rfl),(fun _ => rfl),Ts47⟩
noncomputable def Tk2_32 : List V → Option V := kM [(Ta104,Tv104),(Ta12,Tv12),(Ta13,Tv13),(Ta48,Tv48)]
theorem Tk2_32_ok : KOk TX 32 Tk2_32 := kM_ok fun p hp => by
  simp only [List.mem_cons,List.mem_nil_iff,or_false] at hp
  rcases hp with rfl | rfl | rfl | rfl
  · exact ⟨(fun _ => rfl),(fun _ => rfl),Ts104⟩
  · exact ⟨(fun _ => rfl),(fun _ => rfl),Ts12⟩
  · exact ⟨(fun _ => rfl),(fun _ => rfl),Ts13⟩
  · exact ⟨(fun _ => rfl),(fun _ => rfl),Ts48⟩
noncomputable def Tk2_200 : List V → Option V := kM [(Ta99,Tv99),(Ta131,Tv131),(Ta156,Tv156),(Ta41,Tv41),(Ta88,Tv88),(Ta65,Tv65),(Ta75,Tv75),(Ta119,Tv119)]
theorem Tk2_200_ok : KOk TX 200 Tk2_200 := kM_ok fun p hp => by
  simp only [List.mem_cons,List.mem_nil_iff,or_false] at hp
  rcases hp with rfl | rfl | rfl | rfl | rfl | rfl | rfl | rfl
  · exact ⟨(fun _ => rfl),(fun _ => rfl),Ts99⟩
  · exact ⟨(fun _ => rfl),(fun _ => rfl),Ts131⟩
  · exact ⟨(fun _ => rfl),(fun _ => rfl),Ts156⟩
  · exact ⟨(fun _ => rfl),(fun _ => rfl),Ts41⟩
  · exact ⟨(fun _ => rfl),(fun _ => rfl),Ts88⟩
  · exact ⟨(fun _ => rfl),(fun _ => rfl),Ts65⟩
  · exact ⟨(fun _ => rfl),(fun _ => rfl),Ts75⟩
  · exact ⟨(fun _ => rfl),(fun _ => rfl),Ts119⟩
noncomputable def TT2 : KT := (.node 31 Tk2_31 (.node 15 Tk2_15 (.node 10 Tk2_10 .leaf .leaf) .leaf) (.node 200 Tk2_200 (.node 32 Tk2_32 .leaf .leaf) .leaf))
theorem TT2_ok : TT2.Ok TX := ⟨Tk2_31_ok,⟨Tk2_15_ok,⟨Tk2_10_ok,trivial,trivial⟩,trivial⟩,⟨Tk2_200_ok,⟨Tk2_32_ok,trivial,trivial⟩,trivial⟩⟩
noncomputable def TA2 : Orc := orcL TT2 TA1
theorem TA2_ok {σ : Int → V} : OrcOk TX σ TA2 := orcL_ok TT2_ok TA1_ok
end Go.Vm
