/-
  A part of a proof: the last text of the claim says what is proved, and under which conditions.
-/
import Derived.Test.YtmnmpmmpihimpaaGreatDoorM13
set_option linter.unusedSimpArgs false
set_option linter.unusedVariables false
set_option linter.unnecessarySimpa false
/- Printed by closed2.py. -/
namespace Go.Vm
open Go
set_option maxRecDepth 1000000
noncomputable def Sk2_12 : List V → Option V := kM [(Sa2, Sv2)]
theorem Sk2_12_ok : KOk TX 12 Sk2_12 := kM_ok fun p hp => by
  simp only [List.mem_cons, List.mem_nil_iff, or_false] at hp
  rcases hp with rfl
  · exact ⟨(fun _ => rfl), (fun _ => rfl), Ss2⟩
noncomputable def Sk2_95 : List V → Option V := kM [(Sa8, Sv8), (Sa17, Sv17)]
theorem Sk2_95_ok : KOk TX 95 Sk2_95 := kM_ok fun p hp => by
  simp only [List.mem_cons, List.mem_nil_iff, or_false] at hp
  rcases hp with rfl | rfl
  · exact ⟨(fun _ => rfl), (fun _ => rfl), Ss8⟩
  · exact ⟨(fun _ => rfl), (fun _ => rfl), Ss17⟩
noncomputable def ST2 : KT := (.node 95 Sk2_95 (.node 12 Sk2_12 .leaf .leaf) .leaf)
theorem ST2_ok : ST2.Ok TX := ⟨Sk2_95_ok, ⟨Sk2_12_ok, trivial, trivial⟩, trivial⟩
noncomputable def SA2 : Orc := orcL ST2 SA1
theorem SA2_ok {σ : Int → V} : OrcOk TX σ SA2 := orcL_ok ST2_ok SA1_ok
end Go.Vm
