/-
  A part of a proof: the last text of the claim says what is proved, and under which conditions.
-/
import Derived.Test.YtmnmpmmpihimpaaGreatDoorM17
set_option linter.unusedSimpArgs false
set_option linter.unusedVariables false
set_option linter.unnecessarySimpa false
/- Printed by closed2.py. -/
namespace Go.Vm
open Go
set_option maxRecDepth 1000000
noncomputable def Sk4_7 : List V → Option V := kM [(Sa14, Sv14), (Sa11, Sv11), (Sa15, Sv15)]
theorem Sk4_7_ok : KOk TX 7 Sk4_7 := kM_ok fun p hp => by
  simp only [List.mem_cons, List.mem_nil_iff, or_false] at hp
  rcases hp with rfl | rfl | rfl
  · exact ⟨(fun _ => rfl), (fun _ => rfl), Ss14⟩
  · exact ⟨(fun _ => rfl), (fun _ => rfl), Ss11⟩
  · exact ⟨(fun _ => rfl), (fun _ => rfl), Ss15⟩
noncomputable def ST4 : KT := (.node 7 Sk4_7 .leaf .leaf)
theorem ST4_ok : ST4.Ok TX := ⟨Sk4_7_ok, trivial, trivial⟩
noncomputable def SA4 : Orc := orcL ST4 SA3
theorem SA4_ok {σ : Int → V} : OrcOk TX σ SA4 := orcL_ok ST4_ok SA3_ok
end Go.Vm
