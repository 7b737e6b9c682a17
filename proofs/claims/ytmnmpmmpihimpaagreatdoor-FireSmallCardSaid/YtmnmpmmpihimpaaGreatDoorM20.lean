/-
  A part of a proof: the last text of the claim says what is proved, and under which conditions.
-/
import Derived.Test.YtmnmpmmpihimpaaGreatDoorM19
set_option linter.unusedSimpArgs false
set_option linter.unusedVariables false
set_option linter.unnecessarySimpa false
/- Printed by closed2.py. -/
namespace Go.Vm
open Go
set_option maxRecDepth 1000000
noncomputable def Sk5_9 : List V → Option V := kM [(Sa16, Sv16)]
theorem Sk5_9_ok : KOk TX 9 Sk5_9 := kM_ok fun p hp => by
  simp only [List.mem_cons, List.mem_nil_iff, or_false] at hp
  rcases hp with rfl
  · exact ⟨(fun _ => rfl), (fun _ => rfl), Ss16⟩
noncomputable def ST5 : KT := (.node 9 Sk5_9 .leaf .leaf)
theorem ST5_ok : ST5.Ok TX := ⟨Sk5_9_ok, trivial, trivial⟩
noncomputable def SA5 : Orc := orcL ST5 SA4
theorem SA5_ok {σ : Int → V} : OrcOk TX σ SA5 := orcL_ok ST5_ok SA4_ok
end Go.Vm
