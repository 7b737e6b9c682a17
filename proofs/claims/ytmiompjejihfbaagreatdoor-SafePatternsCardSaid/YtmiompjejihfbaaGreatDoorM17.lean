/-
  A part of a proof: the last text of the claim says what is proved, and under which conditions.
-/
import Derived.Test.YtmiompjejihfbaaGreatDoorM15
import Derived.Test.YtmiompjejihfbaaGreatDoorM16
set_option linter.unusedSimpArgs false
set_option linter.unusedVariables false
set_option linter.unnecessarySimpa false
/- Printed by closed.py. -/
namespace Go.Vm
open Go
set_option maxRecDepth 1000000
noncomputable def Sk3_5 : List V → Option V := kM [(Sa11, Sv11), (Sa34, Sv34), (Sa25, Sv25), (Sa44, Sv44), (Sa32, Sv32), (Sa38, Sv38), (Sa42, Sv42), (Sa18, Sv18), (Sa20, Sv20), (Sa36, Sv36), (Sa28, Sv28), (Sa47, Sv47), (Sa30, Sv30)]
theorem Sk3_5_ok : KOk TX 5 Sk3_5 := kM_ok fun p hp => by
  simp only [List.mem_cons, List.mem_nil_iff, or_false] at hp
  rcases hp with rfl | rfl | rfl | rfl | rfl | rfl | rfl | rfl | rfl | rfl | rfl | rfl | rfl
  · exact ⟨(fun _ => rfl), (fun _ => rfl), Ss11⟩
  · exact ⟨(fun _ => rfl), (fun _ => rfl), Ss34⟩
  · exact ⟨(fun _ => rfl), (fun _ => rfl), Ss25⟩
  · exact ⟨(fun _ => rfl), (fun _ => rfl), Ss44⟩
  · exact ⟨(fun _ => rfl), (fun _ => rfl), Ss32⟩
  · exact ⟨(fun _ => rfl), (fun _ => rfl), Ss38⟩
  · exact ⟨(fun _ => rfl), (fun _ => rfl), Ss42⟩
  · exact ⟨(fun _ => rfl), (fun _ => rfl), Ss18⟩
  · exact ⟨(fun _ => rfl), (fun _ => rfl), Ss20⟩
  · exact ⟨(fun _ => rfl), (fun _ => rfl), Ss36⟩
  · exact ⟨(fun _ => rfl), (fun _ => rfl), Ss28⟩
  · exact ⟨(fun _ => rfl), (fun _ => rfl), Ss47⟩
  · exact ⟨(fun _ => rfl), (fun _ => rfl), Ss30⟩
noncomputable def Sk3_6 : List V → Option V := kM [(Sa13, Sv13)]
theorem Sk3_6_ok : KOk TX 6 Sk3_6 := kM_ok fun p hp => by
  simp only [List.mem_cons, List.mem_nil_iff, or_false] at hp
  rcases hp with rfl
  · exact ⟨(fun _ => rfl), (fun _ => rfl), Ss13⟩
noncomputable def ST3 : KT := (.node 6 Sk3_6 (.node 5 Sk3_5 .leaf .leaf) .leaf)
theorem ST3_ok : ST3.Ok TX := ⟨Sk3_6_ok, ⟨Sk3_5_ok, trivial, trivial⟩, trivial⟩
noncomputable def SA3 : Orc := orcL ST3 SA2
theorem SA3_ok {σ : Int → V} : OrcOk TX σ SA3 := orcL_ok ST3_ok SA2_ok
end Go.Vm

/- Printed by closed.py. -/
namespace Go.Vm
open Go
set_option maxRecDepth 1000000
theorem Sr14 (p : List Fr → Bool) (sg : List Fr) : callC C0 SA3 TX.funs TX.prim 2000 7 Sa14 sg (fun v' sg' wd => ifK (veq v' Sv14) (ifK (Nat.beq wd 0) (p sg') false) false) = p sg := by kernel_rfl
theorem Ss14 : SaysT TX 7 Sa14 Sv14 := says_of_C SA3_ok (primAll_su num0 KX LX) cl_ok Sr14
end Go.Vm

/- Printed by closed.py. -/
namespace Go.Vm
open Go
set_option maxRecDepth 1000000
noncomputable def Sk4_7 : List V → Option V := kM [(Sa14, Sv14)]
theorem Sk4_7_ok : KOk TX 7 Sk4_7 := kM_ok fun p hp => by
  simp only [List.mem_cons, List.mem_nil_iff, or_false] at hp
  rcases hp with rfl
  · exact ⟨(fun _ => rfl), (fun _ => rfl), Ss14⟩
noncomputable def ST4 : KT := (.node 7 Sk4_7 .leaf .leaf)
theorem ST4_ok : ST4.Ok TX := ⟨Sk4_7_ok, trivial, trivial⟩
noncomputable def SA4 : Orc := orcL ST4 SA3
theorem SA4_ok {σ : Int → V} : OrcOk TX σ SA4 := orcL_ok ST4_ok SA3_ok
end Go.Vm
