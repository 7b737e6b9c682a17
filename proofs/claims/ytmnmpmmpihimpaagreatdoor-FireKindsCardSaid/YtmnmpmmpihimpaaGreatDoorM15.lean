/-
  A part of a proof: the last text of the claim says what is proved, and under which conditions.
-/
import Derived.Test.YtmnmpmmpihimpaaGreatDoorM13
import Derived.Test.YtmnmpmmpihimpaaGreatDoorM14
set_option linter.unusedSimpArgs false
set_option linter.unusedVariables false
set_option linter.unnecessarySimpa false
/- Printed by closed.py. -/
namespace Go.Vm
open Go
set_option maxRecDepth 1000000
noncomputable def Kk3_6 : List V → Option V := kM [(Ka15, Kv15), (Ka7, Kv7)]
theorem Kk3_6_ok : KOk TX 6 Kk3_6 := kM_ok fun p hp => by
  simp only [List.mem_cons, List.mem_nil_iff, or_false] at hp
  rcases hp with rfl | rfl
  · exact ⟨(fun _ => rfl), (fun _ => rfl), Ks15⟩
  · exact ⟨(fun _ => rfl), (fun _ => rfl), Ks7⟩
noncomputable def Kk3_28 : List V → Option V := kM [(Ka17, Kv17), (Ka9, Kv9)]
theorem Kk3_28_ok : KOk TX 28 Kk3_28 := kM_ok fun p hp => by
  simp only [List.mem_cons, List.mem_nil_iff, or_false] at hp
  rcases hp with rfl | rfl
  · exact ⟨(fun _ => rfl), (fun _ => rfl), Ks17⟩
  · exact ⟨(fun _ => rfl), (fun _ => rfl), Ks9⟩
noncomputable def Kk3_337 : List V → Option V := kM [(Ka21, Kv21), (Ka20, Kv20), (Ka19, Kv19), (Ka18, Kv18)]
theorem Kk3_337_ok : KOk TX 337 Kk3_337 := kM_ok fun p hp => by
  simp only [List.mem_cons, List.mem_nil_iff, or_false] at hp
  rcases hp with rfl | rfl | rfl | rfl
  · exact ⟨(fun _ => rfl), (fun _ => rfl), Ks21⟩
  · exact ⟨(fun _ => rfl), (fun _ => rfl), Ks20⟩
  · exact ⟨(fun _ => rfl), (fun _ => rfl), Ks19⟩
  · exact ⟨(fun _ => rfl), (fun _ => rfl), Ks18⟩
noncomputable def KT3 : KT := (.node 28 Kk3_28 (.node 6 Kk3_6 .leaf .leaf) (.node 337 Kk3_337 .leaf .leaf))
theorem KT3_ok : KT3.Ok TX := ⟨Kk3_28_ok, ⟨Kk3_6_ok, trivial, trivial⟩, ⟨Kk3_337_ok, trivial, trivial⟩⟩
noncomputable def KA3 : Orc := orcL KT3 KA2
theorem KA3_ok {σ : Int → V} : OrcOk TX σ KA3 := orcL_ok KT3_ok KA2_ok
end Go.Vm
