/-
  A part of a proof: the last text of the claim says what is proved, and under which conditions.
-/
import Derived.Test.YtmnmpmmpihimpaaGreatDoorM22
set_option linter.unusedSimpArgs false
set_option linter.unusedVariables false
set_option linter.unnecessarySimpa false
/- Printed by closed2.py. -/
namespace Go.Vm
open Go
set_option maxRecDepth 1000000
noncomputable def Sk0_1_7 : List V → Option V := kM [(Sa21, Sv21)]
theorem Sk0_1_7_ok (n : Int) (hn : 0 ≤ n ∧ n < 100) : KOkS TX (sgT [(.i64, n)]) 7 Sk0_1_7 := kM_okS fun p hp => by
  simp only [List.mem_cons, List.mem_nil_iff, or_false] at hp
  rcases hp with rfl
  · exact Ss21 n hn
noncomputable def Sk0_1_145 : List V → Option V := kM [(Sa19, Sv19)]
theorem Sk0_1_145_ok (n : Int) (hn : 0 ≤ n ∧ n < 100) : KOkS TX (sgT [(.i64, n)]) 145 Sk0_1_145 := kM_okS fun p hp => by
  simp only [List.mem_cons, List.mem_nil_iff, or_false] at hp
  rcases hp with rfl
  · exact Ss19 n hn
noncomputable def ST0_1 : KT := (.node 145 Sk0_1_145 (.node 7 Sk0_1_7 .leaf .leaf) .leaf)
theorem ST0_1_ok (n : Int) (hn : 0 ≤ n ∧ n < 100) : KT.OkS TX (sgT [(.i64, n)]) ST0_1 := ⟨Sk0_1_145_ok n hn, ⟨Sk0_1_7_ok n hn, trivial, trivial⟩, trivial⟩
noncomputable def SO0_1 : Orc := orcL ST0_1 SO0_0
theorem SO0_1_ok (n : Int) (hn : 0 ≤ n ∧ n < 100) : OrcOk TX (sgT [(.i64, n)]) SO0_1 := orcL_okS (ST0_1_ok n hn) (SO0_0_ok n hn)
end Go.Vm
