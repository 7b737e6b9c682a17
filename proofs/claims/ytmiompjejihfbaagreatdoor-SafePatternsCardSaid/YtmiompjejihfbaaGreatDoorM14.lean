/-
  A part of a proof: the last text of the claim says what is proved, and under which conditions.
-/
import Derived.Test.YtmiompjejihfbaaGreatDoorM10
import Derived.Test.YtmiompjejihfbaaGreatDoorM11
import Derived.Test.YtmiompjejihfbaaGreatDoorM12
import Derived.Test.YtmiompjejihfbaaGreatDoorM13
set_option linter.unusedSimpArgs false
set_option linter.unusedVariables false
set_option linter.unnecessarySimpa false
/- Printed by closed.py. -/
namespace Go.Vm
open Go
set_option maxRecDepth 1000000
noncomputable def Sk2_6 : List V → Option V := kM [(Sa39, Sv39)]
theorem Sk2_6_ok : KOk TX 6 Sk2_6 := kM_ok fun p hp => by
  simp only [List.mem_cons, List.mem_nil_iff, or_false] at hp
  rcases hp with rfl
  · exact ⟨(fun _ => rfl), (fun _ => rfl), Ss39⟩
noncomputable def Sk2_10 : List V → Option V := kM [(Sa10, Sv10), (Sa40, Sv40), (Sa23, Sv23), (Sa33, Sv33), (Sa43, Sv43), (Sa31, Sv31), (Sa17, Sv17), (Sa19, Sv19), (Sa35, Sv35), (Sa27, Sv27), (Sa37, Sv37), (Sa46, Sv46), (Sa29, Sv29), (Sa16, Sv16), (Sa21, Sv21), (Sa8, Sv8), (Sa15, Sv15), (Sa45, Sv45), (Sa22, Sv22), (Sa3, Sv3), (Sa26, Sv26), (Sa9, Sv9)]
theorem Sk2_10_ok : KOk TX 10 Sk2_10 := kM_ok fun p hp => by
  simp only [List.mem_cons, List.mem_nil_iff, or_false] at hp
  rcases hp with rfl | rfl | rfl | rfl | rfl | rfl | rfl | rfl | rfl | rfl | rfl | rfl | rfl | rfl | rfl | rfl | rfl | rfl | rfl | rfl | rfl | rfl
  · exact ⟨(fun _ => rfl), (fun _ => rfl), Ss10⟩
  · exact ⟨(fun _ => rfl), (fun _ => rfl), Ss40⟩
  · exact ⟨(fun _ => rfl), (fun _ => rfl), Ss23⟩
  · exact ⟨(fun _ => rfl), (fun _ => rfl), Ss33⟩
  · exact ⟨(fun _ => rfl), (fun _ => rfl), Ss43⟩
  · exact ⟨(fun _ => rfl), (fun _ => rfl), Ss31⟩
  · exact ⟨(fun _ => rfl), (fun _ => rfl), Ss17⟩
  · exact ⟨(fun _ => rfl), (fun _ => rfl), Ss19⟩
  · exact ⟨(fun _ => rfl), (fun _ => rfl), Ss35⟩
  · exact ⟨(fun _ => rfl), (fun _ => rfl), Ss27⟩
  · exact ⟨(fun _ => rfl), (fun _ => rfl), Ss37⟩
  · exact ⟨(fun _ => rfl), (fun _ => rfl), Ss46⟩
  · exact ⟨(fun _ => rfl), (fun _ => rfl), Ss29⟩
  · exact ⟨(fun _ => rfl), (fun _ => rfl), Ss16⟩
  · exact ⟨(fun _ => rfl), (fun _ => rfl), Ss21⟩
  · exact ⟨(fun _ => rfl), (fun _ => rfl), Ss8⟩
  · exact ⟨(fun _ => rfl), (fun _ => rfl), Ss15⟩
  · exact ⟨(fun _ => rfl), (fun _ => rfl), Ss45⟩
  · exact ⟨(fun _ => rfl), (fun _ => rfl), Ss22⟩
  · exact ⟨(fun _ => rfl), (fun _ => rfl), Ss3⟩
  · exact ⟨(fun _ => rfl), (fun _ => rfl), Ss26⟩
  · exact ⟨(fun _ => rfl), (fun _ => rfl), Ss9⟩
noncomputable def Sk2_31 : List V → Option V := kM [(Sa12, Sv12)]
theorem Sk2_31_ok : KOk TX 31 Sk2_31 := kM_ok fun p hp => by
  simp only [List.mem_cons, List.mem_nil_iff, or_false] at hp
  rcases hp with rfl
  · exact ⟨(fun _ => rfl), (fun _ => rfl), Ss12⟩
noncomputable def Sk2_141 : List V → Option V := kM [(Sa24, Sv24), (Sa41, Sv41)]
theorem Sk2_141_ok : KOk TX 141 Sk2_141 := kM_ok fun p hp => by
  simp only [List.mem_cons, List.mem_nil_iff, or_false] at hp
  rcases hp with rfl | rfl
  · exact ⟨(fun _ => rfl), (fun _ => rfl), Ss24⟩
  · exact ⟨(fun _ => rfl), (fun _ => rfl), Ss41⟩
noncomputable def ST2 : KT := (.node 31 Sk2_31 (.node 10 Sk2_10 (.node 6 Sk2_6 .leaf .leaf) .leaf) (.node 141 Sk2_141 .leaf .leaf))
theorem ST2_ok : ST2.Ok TX := ⟨Sk2_31_ok, ⟨Sk2_10_ok, ⟨Sk2_6_ok, trivial, trivial⟩, trivial⟩, ⟨Sk2_141_ok, trivial, trivial⟩⟩
noncomputable def SA2 : Orc := orcL ST2 SA1
theorem SA2_ok {σ : Int → V} : OrcOk TX σ SA2 := orcL_ok ST2_ok SA1_ok
end Go.Vm
