/-
  A part of a proof: the last text of the claim says what is proved, and under which conditions.
-/
import Derived.Test.YtmnmpmmpihimpaaGreatDoorM11
set_option linter.unusedSimpArgs false
set_option linter.unusedVariables false
set_option linter.unnecessarySimpa false
/- Printed by closed.py. -/
namespace Go.Vm
open Go
set_option maxRecDepth 1000000
noncomputable def Kk2_12 : List V → Option V := kM [(Ka13, Kv13), (Ka1, Kv1)]
theorem Kk2_12_ok : KOk TX 12 Kk2_12 := kM_ok fun p hp => by
  simp only [List.mem_cons, List.mem_nil_iff, or_false] at hp
  rcases hp with rfl | rfl
  · exact ⟨(fun _ => rfl), (fun _ => rfl), Ks13⟩
  · exact ⟨(fun _ => rfl), (fun _ => rfl), Ks1⟩
noncomputable def Kk2_139 : List V → Option V := kM [(Ka16, Kv16)]
theorem Kk2_139_ok : KOk TX 139 Kk2_139 := kM_ok fun p hp => by
  simp only [List.mem_cons, List.mem_nil_iff, or_false] at hp
  rcases hp with rfl
  · exact ⟨(fun _ => rfl), (fun _ => rfl), Ks16⟩
noncomputable def Kk2_140 : List V → Option V := kM [(Ka8, Kv8)]
theorem Kk2_140_ok : KOk TX 140 Kk2_140 := kM_ok fun p hp => by
  simp only [List.mem_cons, List.mem_nil_iff, or_false] at hp
  rcases hp with rfl
  · exact ⟨(fun _ => rfl), (fun _ => rfl), Ks8⟩
noncomputable def KT2 : KT := (.node 139 Kk2_139 (.node 12 Kk2_12 .leaf .leaf) (.node 140 Kk2_140 .leaf .leaf))
theorem KT2_ok : KT2.Ok TX := ⟨Kk2_139_ok, ⟨Kk2_12_ok, trivial, trivial⟩, ⟨Kk2_140_ok, trivial, trivial⟩⟩
noncomputable def KA2 : Orc := orcL KT2 KA1
theorem KA2_ok {σ : Int → V} : OrcOk TX σ KA2 := orcL_ok KT2_ok KA1_ok
end Go.Vm
