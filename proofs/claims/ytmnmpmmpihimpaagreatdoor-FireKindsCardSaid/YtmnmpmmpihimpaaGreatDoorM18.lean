/-
  A part of a proof: the last text of the claim says what is proved, and under which conditions.
-/
import Derived.Test.YtmnmpmmpihimpaaGreatDoorM16
import Derived.Test.YtmnmpmmpihimpaaGreatDoorM17
set_option linter.unusedSimpArgs false
set_option linter.unusedVariables false
set_option linter.unnecessarySimpa false
/- Printed by closed.py. -/
namespace Go.Vm
open Go
set_option maxRecDepth 1000000
noncomputable def Kk4_7 : List V → Option V := kM [(Ka22, Kv22), (Ka11, Kv11), (Ka25, Kv25), (Ka28, Kv28), (Ka31, Kv31), (Ka12, Kv12), (Ka26, Kv26), (Ka29, Kv29), (Ka32, Kv32)]
theorem Kk4_7_ok : KOk TX 7 Kk4_7 := kM_ok fun p hp => by
  simp only [List.mem_cons, List.mem_nil_iff, or_false] at hp
  rcases hp with rfl | rfl | rfl | rfl | rfl | rfl | rfl | rfl | rfl
  · exact ⟨(fun _ => rfl), (fun _ => rfl), Ks22⟩
  · exact ⟨(fun _ => rfl), (fun _ => rfl), Ks11⟩
  · exact ⟨(fun _ => rfl), (fun _ => rfl), Ks25⟩
  · exact ⟨(fun _ => rfl), (fun _ => rfl), Ks28⟩
  · exact ⟨(fun _ => rfl), (fun _ => rfl), Ks31⟩
  · exact ⟨(fun _ => rfl), (fun _ => rfl), Ks12⟩
  · exact ⟨(fun _ => rfl), (fun _ => rfl), Ks26⟩
  · exact ⟨(fun _ => rfl), (fun _ => rfl), Ks29⟩
  · exact ⟨(fun _ => rfl), (fun _ => rfl), Ks32⟩
noncomputable def KT4 : KT := (.node 7 Kk4_7 .leaf .leaf)
theorem KT4_ok : KT4.Ok TX := ⟨Kk4_7_ok, trivial, trivial⟩
noncomputable def KA4 : Orc := orcL KT4 KA3
theorem KA4_ok {σ : Int → V} : OrcOk TX σ KA4 := orcL_ok KT4_ok KA3_ok
end Go.Vm

/- Printed by closed.py. -/
namespace Go.Vm
open Go
set_option maxRecDepth 1000000
theorem Kr23 (p : List Fr → Bool) (sg : List Fr) : callC C0 KA4 TX.funs TX.prim 2000 9 Ka23 sg (fun v' sg' wd => ifK (veq v' Kv23) (ifK (Nat.beq wd 0) (p sg') false) false) = p sg := by kernel_rfl
theorem Ks23 : SaysT TX 9 Ka23 Kv23 := says_of_C KA4_ok (primAll_su num0 KX LX) cl_ok Kr23
end Go.Vm

/- Printed by closed.py. -/
namespace Go.Vm
open Go
set_option maxRecDepth 1000000
noncomputable def Kk5_9 : List V → Option V := kM [(Ka23, Kv23)]
theorem Kk5_9_ok : KOk TX 9 Kk5_9 := kM_ok fun p hp => by
  simp only [List.mem_cons, List.mem_nil_iff, or_false] at hp
  rcases hp with rfl
  · exact ⟨(fun _ => rfl), (fun _ => rfl), Ks23⟩
noncomputable def KT5 : KT := (.node 9 Kk5_9 .leaf .leaf)
theorem KT5_ok : KT5.Ok TX := ⟨Kk5_9_ok, trivial, trivial⟩
noncomputable def KA5 : Orc := orcL KT5 KA4
theorem KA5_ok {σ : Int → V} : OrcOk TX σ KA5 := orcL_ok KT5_ok KA4_ok
end Go.Vm
