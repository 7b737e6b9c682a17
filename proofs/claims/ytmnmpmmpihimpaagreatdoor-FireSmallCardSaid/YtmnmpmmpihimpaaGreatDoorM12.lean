/-
  A part of a proof: the last text of the claim says what is proved, and under which conditions.
-/
import Derived.Test.YtmnmpmmpihimpaaGreatDoorM11
set_option linter.unusedSimpArgs false
set_option linter.unusedVariables false
set_option linter.unnecessarySimpa false
/- Printed by closed2.py. -/
namespace Go.Vm
open Go
set_option maxRecDepth 1000000
noncomputable def Sk1_11 : List V → Option V := kM [(Sa0, Sv0)]
theorem Sk1_11_ok : KOk TX 11 Sk1_11 := kM_ok fun p hp => by
  simp only [List.mem_cons, List.mem_nil_iff, or_false] at hp
  rcases hp with rfl
  · exact ⟨(fun _ => rfl), (fun _ => rfl), Ss0⟩
noncomputable def Sk1_45 : List V → Option V := kM [(Sa1, Sv1)]
theorem Sk1_45_ok : KOk TX 45 Sk1_45 := kM_ok fun p hp => by
  simp only [List.mem_cons, List.mem_nil_iff, or_false] at hp
  rcases hp with rfl
  · exact ⟨(fun _ => rfl), (fun _ => rfl), Ss1⟩
noncomputable def Sk1_80 : List V → Option V := kM [(Sa4, Sv4), (Sa3, Sv3), (Sa5, Sv5), (Sa6, Sv6)]
theorem Sk1_80_ok : KOk TX 80 Sk1_80 := kM_ok fun p hp => by
  simp only [List.mem_cons, List.mem_nil_iff, or_false] at hp
  rcases hp with rfl | rfl | rfl | rfl
  · exact ⟨(fun _ => rfl), (fun _ => rfl), Ss4⟩
  · exact ⟨(fun _ => rfl), (fun _ => rfl), Ss3⟩
  · exact ⟨(fun _ => rfl), (fun _ => rfl), Ss5⟩
  · exact ⟨(fun _ => rfl), (fun _ => rfl), Ss6⟩
noncomputable def Sk1_145 : List V → Option V := kM [(Sa10, Sv10)]
theorem Sk1_145_ok : KOk TX 145 Sk1_145 := kM_ok fun p hp => by
  simp only [List.mem_cons, List.mem_nil_iff, or_false] at hp
  rcases hp with rfl
  · exact ⟨(fun _ => rfl), (fun _ => rfl), Ss10⟩
noncomputable def ST1 : KT := (.node 80 Sk1_80 (.node 45 Sk1_45 (.node 11 Sk1_11 .leaf .leaf) .leaf) (.node 145 Sk1_145 .leaf .leaf))
theorem ST1_ok : ST1.Ok TX := ⟨Sk1_80_ok, ⟨Sk1_45_ok, ⟨Sk1_11_ok, trivial, trivial⟩, trivial⟩, ⟨Sk1_145_ok, trivial, trivial⟩⟩
noncomputable def SA1 : Orc := orcL ST1 SA0
theorem SA1_ok {σ : Int → V} : OrcOk TX σ SA1 := orcL_ok ST1_ok SA0_ok
end Go.Vm
