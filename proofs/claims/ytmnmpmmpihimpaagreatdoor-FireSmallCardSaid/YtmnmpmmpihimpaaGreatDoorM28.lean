/-
  A part of a proof: the last text of the claim says what is proved, and under which conditions.
-/
import Derived.Test.YtmnmpmmpihimpaaGreatDoorM27
set_option linter.unusedSimpArgs false
set_option linter.unusedVariables false
set_option linter.unnecessarySimpa false
/- Printed by closed2.py. -/
namespace Go.Vm
open Go
set_option maxRecDepth 1000000
noncomputable def Sk0_3_7 : List V → Option V := kM [(Sa24, Sv24), (Sa26, Sv26)]
theorem Sk0_3_7_ok (n : Int) (hn : 0 ≤ n ∧ n < 100) : KOkS TX (sgT [(.i64, n)]) 7 Sk0_3_7 := kM_okS fun p hp => by
  simp only [List.mem_cons, List.mem_nil_iff, or_false] at hp
  rcases hp with rfl | rfl
  · exact Ss24 n hn
  · exact Ss26 n hn
noncomputable def ST0_3 : KT := (.node 7 Sk0_3_7 .leaf .leaf)
theorem ST0_3_ok (n : Int) (hn : 0 ≤ n ∧ n < 100) : KT.OkS TX (sgT [(.i64, n)]) ST0_3 := ⟨Sk0_3_7_ok n hn, trivial, trivial⟩
noncomputable def SO0_3 : Orc := orcL ST0_3 SO0_2
theorem SO0_3_ok (n : Int) (hn : 0 ≤ n ∧ n < 100) : OrcOk TX (sgT [(.i64, n)]) SO0_3 := orcL_okS (ST0_3_ok n hn) (SO0_2_ok n hn)
end Go.Vm
