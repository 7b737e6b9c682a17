/-
  A part of a proof: the last text of the claim says what is proved, and under which conditions.
-/
import Derived.Test.YtmnmpmmpihimpaaGreatDoorM15
set_option linter.unusedSimpArgs false
set_option linter.unusedVariables false
set_option linter.unnecessarySimpa false
/- Printed by closed2.py. -/
namespace Go.Vm
open Go
set_option maxRecDepth 1000000
noncomputable def Sk3_6 : List V → Option V := kM [(Sa7, Sv7)]
theorem Sk3_6_ok : KOk TX 6 Sk3_6 := kM_ok fun p hp => by
  simp only [List.mem_cons, List.mem_nil_iff, or_false] at hp
  rcases hp with rfl
  · exact ⟨(fun _ => rfl), (fun _ => rfl), Ss7⟩
noncomputable def Sk3_28 : List V → Option V := kM [(Sa9, Sv9), (Sa18, Sv18)]
theorem Sk3_28_ok : KOk TX 28 Sk3_28 := kM_ok fun p hp => by
  simp only [List.mem_cons, List.mem_nil_iff, or_false] at hp
  rcases hp with rfl | rfl
  · exact ⟨(fun _ => rfl), (fun _ => rfl), Ss9⟩
  · exact ⟨(fun _ => rfl), (fun _ => rfl), Ss18⟩
noncomputable def Sk3_337 : List V → Option V := kM [(Sa13, Sv13), (Sa12, Sv12)]
theorem Sk3_337_ok : KOk TX 337 Sk3_337 := kM_ok fun p hp => by
  simp only [List.mem_cons, List.mem_nil_iff, or_false] at hp
  rcases hp with rfl | rfl
  · exact ⟨(fun _ => rfl), (fun _ => rfl), Ss13⟩
  · exact ⟨(fun _ => rfl), (fun _ => rfl), Ss12⟩
noncomputable def ST3 : KT := (.node 28 Sk3_28 (.node 6 Sk3_6 .leaf .leaf) (.node 337 Sk3_337 .leaf .leaf))
theorem ST3_ok : ST3.Ok TX := ⟨Sk3_28_ok, ⟨Sk3_6_ok, trivial, trivial⟩, ⟨Sk3_337_ok, trivial, trivial⟩⟩
noncomputable def SA3 : Orc := orcL ST3 SA2
theorem SA3_ok {σ : Int → V} : OrcOk TX σ SA3 := orcL_ok ST3_ok SA2_ok
end Go.Vm
