/-
  A part of a proof: the last text of the claim says what is proved, and under which conditions.
-/
import Derived.Test.YtmiompjejihfbaaGreatDoorM10
import Derived.Test.YtmiompjejihfbaaGreatDoorM11
import Derived.Test.YtmiompjejihfbaaGreatDoorM12
import Derived.Test.YtmiompjejihfbaaGreatDoorM13
import Derived.Test.YtmiompjejihfbaaGreatDoorM14
import Derived.Test.YtmiompjejihfbaaGreatDoorM15
import Derived.Test.YtmiompjejihfbaaGreatDoorM16
import Derived.Test.YtmiompjejihfbaaGreatDoorM17
import Derived.Test.YtmiompjejihfbaaGreatDoorM18
import Derived.Test.YtmiompjejihfbaaGreatDoorM19
import Derived.Test.YtmiompjejihfbaaGreatDoorM20
set_option linter.unusedSimpArgs false
set_option linter.unusedVariables false
set_option linter.unnecessarySimpa false
/- Printed by closed.py. -/
namespace Go.Vm
open Go
set_option maxRecDepth 1000000
noncomputable def Nk2_5 : List V → Option V := kM [(Na8, Nv8)]
theorem Nk2_5_ok : KOk TX 5 Nk2_5 := kM_ok fun p hp => by
  simp only [List.mem_cons, List.mem_nil_iff, or_false] at hp
  rcases hp with rfl
  · exact ⟨(fun _ => rfl), (fun _ => rfl), Ns8⟩
noncomputable def Nk2_10 : List V → Option V := kM [(Na87, Nv87), (Na83, Nv83), (Na79, Nv79), (Na76, Nv76), (Na73, Nv73), (Na68, Nv68), (Na65, Nv65), (Na62, Nv62), (Na57, Nv57), (Na54, Nv54), (Na51, Nv51), (Na46, Nv46), (Na43, Nv43), (Na40, Nv40), (Na35, Nv35), (Na33, Nv33), (Na31, Nv31), (Na26, Nv26), (Na24, Nv24), (Na22, Nv22), (Na17, Nv17), (Na15, Nv15), (Na12, Nv12), (Na1, Nv1)]
theorem Nk2_10_ok : KOk TX 10 Nk2_10 := kM_ok fun p hp => by
  simp only [List.mem_cons, List.mem_nil_iff, or_false] at hp
  rcases hp with rfl | rfl | rfl | rfl | rfl | rfl | rfl | rfl | rfl | rfl | rfl | rfl | rfl | rfl | rfl | rfl | rfl | rfl | rfl | rfl | rfl | rfl | rfl | rfl
  · exact ⟨(fun _ => rfl), (fun _ => rfl), Ns87⟩
  · exact ⟨(fun _ => rfl), (fun _ => rfl), Ns83⟩
  · exact ⟨(fun _ => rfl), (fun _ => rfl), Ns79⟩
  · exact ⟨(fun _ => rfl), (fun _ => rfl), Ns76⟩
  · exact ⟨(fun _ => rfl), (fun _ => rfl), Ns73⟩
  · exact ⟨(fun _ => rfl), (fun _ => rfl), Ns68⟩
  · exact ⟨(fun _ => rfl), (fun _ => rfl), Ns65⟩
  · exact ⟨(fun _ => rfl), (fun _ => rfl), Ns62⟩
  · exact ⟨(fun _ => rfl), (fun _ => rfl), Ns57⟩
  · exact ⟨(fun _ => rfl), (fun _ => rfl), Ns54⟩
  · exact ⟨(fun _ => rfl), (fun _ => rfl), Ns51⟩
  · exact ⟨(fun _ => rfl), (fun _ => rfl), Ns46⟩
  · exact ⟨(fun _ => rfl), (fun _ => rfl), Ns43⟩
  · exact ⟨(fun _ => rfl), (fun _ => rfl), Ns40⟩
  · exact ⟨(fun _ => rfl), (fun _ => rfl), Ns35⟩
  · exact ⟨(fun _ => rfl), (fun _ => rfl), Ns33⟩
  · exact ⟨(fun _ => rfl), (fun _ => rfl), Ns31⟩
  · exact ⟨(fun _ => rfl), (fun _ => rfl), Ns26⟩
  · exact ⟨(fun _ => rfl), (fun _ => rfl), Ns24⟩
  · exact ⟨(fun _ => rfl), (fun _ => rfl), Ns22⟩
  · exact ⟨(fun _ => rfl), (fun _ => rfl), Ns17⟩
  · exact ⟨(fun _ => rfl), (fun _ => rfl), Ns15⟩
  · exact ⟨(fun _ => rfl), (fun _ => rfl), Ns12⟩
  · exact ⟨(fun _ => rfl), (fun _ => rfl), Ns1⟩
noncomputable def Nk2_22 : List V → Option V := kM [(Na10, Nv10)]
theorem Nk2_22_ok : KOk TX 22 Nk2_22 := kM_ok fun p hp => by
  simp only [List.mem_cons, List.mem_nil_iff, or_false] at hp
  rcases hp with rfl
  · exact ⟨(fun _ => rfl), (fun _ => rfl), Ns10⟩
noncomputable def Nk2_35 : List V → Option V := kM [(Na48, Nv48), (Na59, Nv59), (Na70, Nv70), (Na6, Nv6), (Na20, Nv20), (Na29, Nv29), (Na38, Nv38)]
theorem Nk2_35_ok : KOk TX 35 Nk2_35 := kM_ok fun p hp => by
  simp only [List.mem_cons, List.mem_nil_iff, or_false] at hp
  rcases hp with rfl | rfl | rfl | rfl | rfl | rfl | rfl
  · exact ⟨(fun _ => rfl), (fun _ => rfl), Ns48⟩
  · exact ⟨(fun _ => rfl), (fun _ => rfl), Ns59⟩
  · exact ⟨(fun _ => rfl), (fun _ => rfl), Ns70⟩
  · exact ⟨(fun _ => rfl), (fun _ => rfl), Ns6⟩
  · exact ⟨(fun _ => rfl), (fun _ => rfl), Ns20⟩
  · exact ⟨(fun _ => rfl), (fun _ => rfl), Ns29⟩
  · exact ⟨(fun _ => rfl), (fun _ => rfl), Ns38⟩
noncomputable def NT2 : KT := (.node 22 Nk2_22 (.node 10 Nk2_10 (.node 5 Nk2_5 .leaf .leaf) .leaf) (.node 35 Nk2_35 .leaf .leaf))
theorem NT2_ok : NT2.Ok TX := ⟨Nk2_22_ok, ⟨Nk2_10_ok, ⟨Nk2_5_ok, trivial, trivial⟩, trivial⟩, ⟨Nk2_35_ok, trivial, trivial⟩⟩
noncomputable def NA2 : Orc := orcL NT2 NA1
theorem NA2_ok {σ : Int → V} : OrcOk TX σ NA2 := orcL_ok NT2_ok NA1_ok
end Go.Vm
