/-
  A part of a proof: the last text of the claim says what is proved, and under which conditions.
-/
import Derived.Test.YtmiompjejihfbaaGreatDoorM22
import Derived.Test.YtmiompjejihfbaaGreatDoorM23
import Derived.Test.YtmiompjejihfbaaGreatDoorM24
import Derived.Test.YtmiompjejihfbaaGreatDoorM25
import Derived.Test.YtmiompjejihfbaaGreatDoorM26
import Derived.Test.YtmiompjejihfbaaGreatDoorM27
import Derived.Test.YtmiompjejihfbaaGreatDoorM28
import Derived.Test.YtmiompjejihfbaaGreatDoorM29
set_option linter.unusedSimpArgs false
set_option linter.unusedVariables false
set_option linter.unnecessarySimpa false
/- Printed by closed.py. -/
namespace Go.Vm
open Go
set_option maxRecDepth 1000000
noncomputable def Nk3_5 : List V → Option V := kM [(Na88, Nv88), (Na84, Nv84), (Na80, Nv80), (Na77, Nv77), (Na74, Nv74), (Na71, Nv71), (Na66, Nv66), (Na63, Nv63), (Na60, Nv60), (Na55, Nv55), (Na52, Nv52), (Na49, Nv49), (Na44, Nv44), (Na41, Nv41), (Na39, Nv39), (Na34, Nv34), (Na32, Nv32), (Na30, Nv30), (Na25, Nv25), (Na23, Nv23), (Na21, Nv21), (Na16, Nv16), (Na14, Nv14)]
theorem Nk3_5_ok : KOk TX 5 Nk3_5 := kM_ok fun p hp => by
  simp only [List.mem_cons, List.mem_nil_iff, or_false] at hp
  rcases hp with rfl | rfl | rfl | rfl | rfl | rfl | rfl | rfl | rfl | rfl | rfl | rfl | rfl | rfl | rfl | rfl | rfl | rfl | rfl | rfl | rfl | rfl | rfl
  · exact ⟨(fun _ => rfl), (fun _ => rfl), Ns88⟩
  · exact ⟨(fun _ => rfl), (fun _ => rfl), Ns84⟩
  · exact ⟨(fun _ => rfl), (fun _ => rfl), Ns80⟩
  · exact ⟨(fun _ => rfl), (fun _ => rfl), Ns77⟩
  · exact ⟨(fun _ => rfl), (fun _ => rfl), Ns74⟩
  · exact ⟨(fun _ => rfl), (fun _ => rfl), Ns71⟩
  · exact ⟨(fun _ => rfl), (fun _ => rfl), Ns66⟩
  · exact ⟨(fun _ => rfl), (fun _ => rfl), Ns63⟩
  · exact ⟨(fun _ => rfl), (fun _ => rfl), Ns60⟩
  · exact ⟨(fun _ => rfl), (fun _ => rfl), Ns55⟩
  · exact ⟨(fun _ => rfl), (fun _ => rfl), Ns52⟩
  · exact ⟨(fun _ => rfl), (fun _ => rfl), Ns49⟩
  · exact ⟨(fun _ => rfl), (fun _ => rfl), Ns44⟩
  · exact ⟨(fun _ => rfl), (fun _ => rfl), Ns41⟩
  · exact ⟨(fun _ => rfl), (fun _ => rfl), Ns39⟩
  · exact ⟨(fun _ => rfl), (fun _ => rfl), Ns34⟩
  · exact ⟨(fun _ => rfl), (fun _ => rfl), Ns32⟩
  · exact ⟨(fun _ => rfl), (fun _ => rfl), Ns30⟩
  · exact ⟨(fun _ => rfl), (fun _ => rfl), Ns25⟩
  · exact ⟨(fun _ => rfl), (fun _ => rfl), Ns23⟩
  · exact ⟨(fun _ => rfl), (fun _ => rfl), Ns21⟩
  · exact ⟨(fun _ => rfl), (fun _ => rfl), Ns16⟩
  · exact ⟨(fun _ => rfl), (fun _ => rfl), Ns14⟩
noncomputable def Nk3_6 : List V → Option V := kM [(Na81, Nv81)]
theorem Nk3_6_ok : KOk TX 6 Nk3_6 := kM_ok fun p hp => by
  simp only [List.mem_cons, List.mem_nil_iff, or_false] at hp
  rcases hp with rfl
  · exact ⟨(fun _ => rfl), (fun _ => rfl), Ns81⟩
noncomputable def Nk3_8 : List V → Option V := kM [(Na75, Nv75), (Na78, Nv78), (Na72, Nv72), (Na64, Nv64), (Na67, Nv67), (Na61, Nv61), (Na53, Nv53), (Na56, Nv56), (Na50, Nv50), (Na42, Nv42), (Na45, Nv45)]
theorem Nk3_8_ok : KOk TX 8 Nk3_8 := kM_ok fun p hp => by
  simp only [List.mem_cons, List.mem_nil_iff, or_false] at hp
  rcases hp with rfl | rfl | rfl | rfl | rfl | rfl | rfl | rfl | rfl | rfl | rfl
  · exact ⟨(fun _ => rfl), (fun _ => rfl), Ns75⟩
  · exact ⟨(fun _ => rfl), (fun _ => rfl), Ns78⟩
  · exact ⟨(fun _ => rfl), (fun _ => rfl), Ns72⟩
  · exact ⟨(fun _ => rfl), (fun _ => rfl), Ns64⟩
  · exact ⟨(fun _ => rfl), (fun _ => rfl), Ns67⟩
  · exact ⟨(fun _ => rfl), (fun _ => rfl), Ns61⟩
  · exact ⟨(fun _ => rfl), (fun _ => rfl), Ns53⟩
  · exact ⟨(fun _ => rfl), (fun _ => rfl), Ns56⟩
  · exact ⟨(fun _ => rfl), (fun _ => rfl), Ns50⟩
  · exact ⟨(fun _ => rfl), (fun _ => rfl), Ns42⟩
  · exact ⟨(fun _ => rfl), (fun _ => rfl), Ns45⟩
noncomputable def Nk3_9 : List V → Option V := kM [(Na11, Nv11)]
theorem Nk3_9_ok : KOk TX 9 Nk3_9 := kM_ok fun p hp => by
  simp only [List.mem_cons, List.mem_nil_iff, or_false] at hp
  rcases hp with rfl
  · exact ⟨(fun _ => rfl), (fun _ => rfl), Ns11⟩
noncomputable def Nk3_13 : List V → Option V := kM [(Na89, Nv89), (Na85, Nv85)]
theorem Nk3_13_ok : KOk TX 13 Nk3_13 := kM_ok fun p hp => by
  simp only [List.mem_cons, List.mem_nil_iff, or_false] at hp
  rcases hp with rfl | rfl
  · exact ⟨(fun _ => rfl), (fun _ => rfl), Ns89⟩
  · exact ⟨(fun _ => rfl), (fun _ => rfl), Ns85⟩
noncomputable def NT3 : KT := (.node 8 Nk3_8 (.node 6 Nk3_6 (.node 5 Nk3_5 .leaf .leaf) .leaf) (.node 13 Nk3_13 (.node 9 Nk3_9 .leaf .leaf) .leaf))
theorem NT3_ok : NT3.Ok TX := ⟨Nk3_8_ok, ⟨Nk3_6_ok, ⟨Nk3_5_ok, trivial, trivial⟩, trivial⟩, ⟨Nk3_13_ok, ⟨Nk3_9_ok, trivial, trivial⟩, trivial⟩⟩
noncomputable def NA3 : Orc := orcL NT3 NA2
theorem NA3_ok {σ : Int → V} : OrcOk TX σ NA3 := orcL_ok NT3_ok NA2_ok
end Go.Vm

/- Printed by closed.py. -/
namespace Go.Vm
open Go
set_option maxRecDepth 1000000
theorem Nr86 (p : List Fr → Bool) (sg : List Fr) : callC C0 NA3 TX.funs TX.prim 2000 8 Na86 sg (fun v' sg' wd => ifK (veq v' Nv86) (ifK (Nat.beq wd 0) (p sg') false) false) = p sg := by kernel_rfl
theorem Ns86 : SaysT TX 8 Na86 Nv86 := says_of_C NA3_ok (primAll_su num0 KX LX) cl_ok Nr86
theorem Nr90 (p : List Fr → Bool) (sg : List Fr) : callC C0 NA3 TX.funs TX.prim 2000 8 Na90 sg (fun v' sg' wd => ifK (veq v' Nv90) (ifK (Nat.beq wd 0) (p sg') false) false) = p sg := by kernel_rfl
theorem Ns90 : SaysT TX 8 Na90 Nv90 := says_of_C NA3_ok (primAll_su num0 KX LX) cl_ok Nr90
theorem Nr82 (p : List Fr → Bool) (sg : List Fr) : callC C0 NA3 TX.funs TX.prim 2000 8 Na82 sg (fun v' sg' wd => ifK (veq v' Nv82) (ifK (Nat.beq wd 0) (p sg') false) false) = p sg := by kernel_rfl
theorem Ns82 : SaysT TX 8 Na82 Nv82 := says_of_C NA3_ok (primAll_su num0 KX LX) cl_ok Nr82
end Go.Vm

/- Printed by closed.py. -/
namespace Go.Vm
open Go
set_option maxRecDepth 1000000
noncomputable def Nk4_8 : List V → Option V := kM [(Na86, Nv86), (Na90, Nv90), (Na82, Nv82)]
theorem Nk4_8_ok : KOk TX 8 Nk4_8 := kM_ok fun p hp => by
  simp only [List.mem_cons, List.mem_nil_iff, or_false] at hp
  rcases hp with rfl | rfl | rfl
  · exact ⟨(fun _ => rfl), (fun _ => rfl), Ns86⟩
  · exact ⟨(fun _ => rfl), (fun _ => rfl), Ns90⟩
  · exact ⟨(fun _ => rfl), (fun _ => rfl), Ns82⟩
noncomputable def NT4 : KT := (.node 8 Nk4_8 .leaf .leaf)
theorem NT4_ok : NT4.Ok TX := ⟨Nk4_8_ok, trivial, trivial⟩
noncomputable def NA4 : Orc := orcL NT4 NA3
theorem NA4_ok {σ : Int → V} : OrcOk TX σ NA4 := orcL_ok NT4_ok NA3_ok
end Go.Vm
