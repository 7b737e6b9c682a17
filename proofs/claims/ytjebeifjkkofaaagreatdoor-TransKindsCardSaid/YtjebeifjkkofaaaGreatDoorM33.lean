/-
  A part of a proof: the last text of the claim says what is proved, and under which conditions.
-/
import Derived.Test.YtjebeifjkkofaaaGreatDoorM23
import Derived.Test.YtjebeifjkkofaaaGreatDoorM24
import Derived.Test.YtjebeifjkkofaaaGreatDoorM25
import Derived.Test.YtjebeifjkkofaaaGreatDoorM26
import Derived.Test.YtjebeifjkkofaaaGreatDoorM27
import Derived.Test.YtjebeifjkkofaaaGreatDoorM28
import Derived.Test.YtjebeifjkkofaaaGreatDoorM29
import Derived.Test.YtjebeifjkkofaaaGreatDoorM30
import Derived.Test.YtjebeifjkkofaaaGreatDoorM31
import Derived.Test.YtjebeifjkkofaaaGreatDoorM32
set_option linter.unusedSimpArgs false
set_option linter.unusedVariables false
set_option linter.unnecessarySimpa false
/-
  TransKinds: from the ten runs with a symbol to any two numbers.
-/
namespace Go.Vm
open Go

theorem wuT (n : Int) : IntKind.u64.wrap n = n % 18446744073709551616 := by simp [IntKind.wrap, IntKind.bits, IntKind.signed]
theorem wiT (n : Int) : IntKind.i64.wrap n = if n % 18446744073709551616 < 9223372036854775808 then n % 18446744073709551616 else n % 18446744073709551616 - 18446744073709551616 := by
  simp [IntKind.wrap, IntKind.bits, IntKind.signed]
  split <;> split <;> omega

theorem kinds_says (h n : Int) : ∃ wd, TX.call 3 [.int .i64 h, .int .i64 n] [] = some (.bool true, [], wd) := by
  generalize e1 : IntKind.u64.wrap n = u
  have hu : 0 ≤ u := by rw [wuT] at e1; omega
  generalize e2 : u.tmod 5 = c
  have hc : 0 ≤ c ∧ c < 5 := by
    rw [Int.tmod_eq_emod_of_nonneg hu] at e2; omega
  have e3 : IntKind.i64.wrap c = c := by rw [wiT]; split <;> omega
  generalize e7 : IntKind.u64.wrap h = hu'
  have hh : 0 ≤ hu' := by rw [wuT] at e7; omega
  have h8 : hu'.tmod 10 = 0 ∨ hu'.tmod 10 = 1 ∨ hu'.tmod 10 = 2 ∨ hu'.tmod 10 = 3 ∨ hu'.tmod 10 = 4 ∨ hu'.tmod 10 = 5 ∨ hu'.tmod 10 = 6 ∨ hu'.tmod 10 = 7 ∨ hu'.tmod 10 = 8 ∨ hu'.tmod 10 = 9 := by
    rw [Int.tmod_eq_emod_of_nonneg hh]; omega
  rcases h8 with e8 | e8 | e8 | e8 | e8 | e8 | e8 | e8 | e8 | e8
  · exact ⟨0, Ts26 h n u c hu' ⟨e1, e2, e3, e7, e8, hc⟩ []⟩
  · exact ⟨0, Ts39 h n u c hu' ⟨e1, e2, e3, e7, e8, hc⟩ []⟩
  · exact ⟨0, Ts63 h n u c hu' ⟨e1, e2, e3, e7, e8, hc⟩ []⟩
  · exact ⟨0, Ts73 h n u c hu' ⟨e1, e2, e3, e7, e8, hc⟩ []⟩
  · exact ⟨0, Ts86 h n u c hu' ⟨e1, e2, e3, e7, e8, hc⟩ []⟩
  · exact ⟨0, Ts97 h n u c hu' ⟨e1, e2, e3, e7, e8, hc⟩ []⟩
  · exact ⟨0, Ts117 h n u c hu' ⟨e1, e2, e3, e7, e8, hc⟩ []⟩
  · exact ⟨0, Ts129 h n u c hu' ⟨e1, e2, e3, e7, e8, hc⟩ []⟩
  · exact ⟨0, Ts154 h n u c hu' ⟨e1, e2, e3, e7, e8, hc⟩ []⟩
  · exact ⟨0, Ts176 h n u c hu' ⟨e1, e2, e3, e7, e8, hc⟩ []⟩
end Go.Vm
