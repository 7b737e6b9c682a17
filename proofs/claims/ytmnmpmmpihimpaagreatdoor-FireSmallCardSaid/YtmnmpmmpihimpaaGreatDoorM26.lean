/-
  A part of a proof: the last text of the claim says what is proved, and under which conditions.
-/
import Derived.Test.YtmnmpmmpihimpaaGreatDoorM24
import Derived.Test.YtmnmpmmpihimpaaGreatDoorM25
set_option linter.unusedSimpArgs false
set_option linter.unusedVariables false
set_option linter.unnecessarySimpa false
/- Printed by closed2.py. -/
namespace Go.Vm
open Go
set_option maxRecDepth 1000000
noncomputable def Sk0_2_7 : List V → Option V := kM [(Sa27, Sv27), (Sa25, Sv25), (Sa20, Sv20)]
theorem Sk0_2_7_ok (n : Int) (hn : 0 ≤ n ∧ n < 100) : KOkS TX (sgT [(.i64, n)]) 7 Sk0_2_7 := kM_okS fun p hp => by
  simp only [List.mem_cons, List.mem_nil_iff, or_false] at hp
  rcases hp with rfl | rfl | rfl
  · exact Ss27 n hn
  · exact Ss25 n hn
  · exact Ss20 n hn
noncomputable def Sk0_2_337 : List V → Option V := kM [(Sa23, Sv23), (Sa22, Sv22)]
theorem Sk0_2_337_ok (n : Int) (hn : 0 ≤ n ∧ n < 100) : KOkS TX (sgT [(.i64, n)]) 337 Sk0_2_337 := kM_okS fun p hp => by
  simp only [List.mem_cons, List.mem_nil_iff, or_false] at hp
  rcases hp with rfl | rfl
  · exact Ss23 n hn
  · exact Ss22 n hn
noncomputable def ST0_2 : KT := (.node 337 Sk0_2_337 (.node 7 Sk0_2_7 .leaf .leaf) .leaf)
theorem ST0_2_ok (n : Int) (hn : 0 ≤ n ∧ n < 100) : KT.OkS TX (sgT [(.i64, n)]) ST0_2 := ⟨Sk0_2_337_ok n hn, ⟨Sk0_2_7_ok n hn, trivial, trivial⟩, trivial⟩
noncomputable def SO0_2 : Orc := orcL ST0_2 SO0_1
theorem SO0_2_ok (n : Int) (hn : 0 ≤ n ∧ n < 100) : OrcOk TX (sgT [(.i64, n)]) SO0_2 := orcL_okS (ST0_2_ok n hn) (SO0_1_ok n hn)
end Go.Vm
