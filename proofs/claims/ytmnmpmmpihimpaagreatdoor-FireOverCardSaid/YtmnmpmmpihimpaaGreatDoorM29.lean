/-
  A part of a proof: the last text of the claim says what is proved, and under which conditions.
-/
import Derived.Test.YtmnmpmmpihimpaaGreatDoorM21
import Derived.Test.YtmnmpmmpihimpaaGreatDoorM22
import Derived.Test.YtmnmpmmpihimpaaGreatDoorM23
import Derived.Test.YtmnmpmmpihimpaaGreatDoorM24
import Derived.Test.YtmnmpmmpihimpaaGreatDoorM25
import Derived.Test.YtmnmpmmpihimpaaGreatDoorM26
import Derived.Test.YtmnmpmmpihimpaaGreatDoorM27
import Derived.Test.YtmnmpmmpihimpaaGreatDoorM28
set_option linter.unusedSimpArgs false
set_option linter.unusedVariables false
set_option linter.unnecessarySimpa false
/-
  FireOver: from the eight runs with symbols to any two numbers.
-/
namespace Go.Vm
open Go

theorem wu64 (n : Int) : IntKind.u64.wrap n = n % 18446744073709551616 := by simp [IntKind.wrap, IntKind.bits, IntKind.signed]
theorem wi64 (n : Int) : IntKind.i64.wrap n = if n % 18446744073709551616 < 9223372036854775808 then n % 18446744073709551616 else n % 18446744073709551616 - 18446744073709551616 := by
  simp [IntKind.wrap, IntKind.bits, IntKind.signed]
  split <;> split <;> omega
theorem u64_of {x : Int} (h0 : 0 ≤ x) (h1 : x < 18446744073709551616) : IntKind.u64.wrap x = x := by
  rw [wu64]; omega
theorem i64_of {x : Int} (h0 : -9223372036854775808 ≤ x) (h1 : x < 9223372036854775808) : IntKind.i64.wrap x = x := by
  rw [wi64]; split <;> omega
theorem andO_of {x : Int} (h0 : 0 ≤ x) (h1 : x < 4294967296) : IntKind.u64.wrap (BitVec.ofInt (IntKind.bits .u64) x &&& BitVec.ofInt (IntKind.bits .u64) 4294967295).toNat = x := by
  have e : (BitVec.ofInt (IntKind.bits .u64) x &&& BitVec.ofInt (IntKind.bits .u64) 4294967295).toNat = x.toNat := by
    show (BitVec.ofInt 64 x &&& BitVec.ofInt 64 4294967295).toNat = x.toNat
    rw [BitVec.toNat_and, BitVec.toNat_ofInt, BitVec.toNat_ofInt]
    have e1 : (x % ((2 ^ 64 : Nat) : Int)).toNat = x.toNat := by omega
    have e2 : ((4294967295 : Int) % ((2 ^ 64 : Nat) : Int)).toNat = 2 ^ 32 - 1 := by decide
    rw [e1, e2, Nat.and_two_pow_sub_one_eq_mod]
    omega
  rw [e]
  rw [u64_of] <;> omega
theorem pow32 : (2 ^ min (Int.toNat 32) (IntKind.bits .u64) : Int) = 4294967296 := by decide
theorem shr_of {x : Int} (h0 : 0 ≤ x) : x.fdiv (2 ^ min (Int.toNat 32) (IntKind.bits .u64)) = x / 4294967296 := by
  rw [pow32, Int.fdiv_eq_ediv_of_nonneg _ (by decide)]

theorem over_says (h n : Int) : ∃ wd, TX.call 4 [.int .i64 h, .int .i64 n] [] = some (.bool true, [], wd) := by
  generalize e1 : IntKind.u64.wrap n = u
  have hu : 0 ≤ u := by rw [wu64] at e1; omega
  generalize e2 : u.tmod 1000 = c
  have hc : 0 ≤ c ∧ c < 1000 := by
    rw [Int.tmod_eq_emod_of_nonneg hu] at e2; omega
  have e3 : IntKind.i64.wrap c = c := i64_of (by omega) (by omega)
  have e4 : IntKind.i64.wrap (1 + c) = 1 + c := i64_of (by omega) (by omega)
  have e5 : IntKind.i64.wrap (3000000000 + c) = 3000000000 + c := i64_of (by omega) (by omega)
  generalize e6 : n.tmod 1000 = z
  have hz : -1000 < z ∧ z < 1000 := by
    have a := Int.tmod_lt_of_pos n (show (0 : Int) < 1000 by decide)
    have b := Int.lt_tmod_of_pos n (show (0 : Int) < 1000 by decide)
    omega
  generalize e7 : IntKind.u64.wrap h = hu'
  have hh : 0 ≤ hu' := by rw [wu64] at e7; omega
  have h8 : hu'.tmod 4 = 0 ∨ hu'.tmod 4 = 1 ∨ hu'.tmod 4 = 2 ∨ hu'.tmod 4 = 3 := by
    rw [Int.tmod_eq_emod_of_nonneg hh]; omega
  rcases h8 with e8 | e8 | e8 | e8
  · rcases Int.lt_trichotomy (1 + c) 7 with hx | hx | hx
    · exact ⟨0, Os24 h n u c z hu' e1 e2 e3 e4 e5 e6 e7 e8 hc hz hx []⟩
    · exact ⟨0, Os27 h n u c z hu' e1 e2 e3 e4 e5 e6 e7 e8 hc hz hx []⟩
    · exact ⟨0, Os31 h n u c z hu' e1 e2 e3 e4 e5 e6 e7 e8 hc hz hx []⟩
  · generalize ex : 3000000000 + c = x
    have hx1 : 3000000000 ≤ x := by omega
    have hx2 : x ≤ 3000000999 := by omega
    have hy1 : 9000000000000000000 ≤ x * x := by
      have := Int.mul_le_mul hx1 hx1 (by decide) (by omega)
      simpa using this
    have hy2 : x * x ≤ 9000005994000998001 := by
      have := Int.mul_le_mul hx2 hx2 (by omega) (by decide)
      simpa using this
    generalize ey : x * x = y at hy1 hy2
    have f4 : IntKind.u64.wrap (x * x) = y := by rw [ey]; exact u64_of (by omega) (by omega)
    have f6 := shr_of (x := y) (by omega)
    generalize et : y / 4294967296 = t at f6
    have ht : 0 ≤ t ∧ t < 4294967296 := by omega
    have f9 : t.fdiv (2 ^ min (Int.toNat 32) (IntKind.bits .u64)) = 0 := by rw [shr_of (by omega)]; omega
    have f3 : x.fdiv (2 ^ min (Int.toNat 32) (IntKind.bits .u64)) = 0 := by rw [shr_of (by omega)]; omega
    have e5' := e5
    exact ⟨0, Os36 h n u c z hu' e1 e2 e3 e4 e5 e6 e7 e8 hc hz x y t ex (u64_of (by omega) (by omega)) (andO_of (by omega) (by omega)) f3 f4 (by rw [Int.zero_mul]; rfl) f6 (by rw [Int.zero_add]; exact u64_of (by omega) (by omega)) (andO_of (by omega) (by omega)) f9 (by rw [Int.mul_zero]; rfl) (by rw [Int.add_zero]; exact u64_of (by omega) (by omega)) (by omega) []⟩
  · exact ⟨0, Os43 h n u c z hu' e1 e2 e3 e4 e5 e6 e7 e8 hc hz []⟩
  · rcases Int.lt_trichotomy z 7 with hx | hx | hx
    · exact ⟨0, Os48 h n u c z hu' e1 e2 e3 e4 e5 e6 e7 e8 hc hz hx []⟩
    · exact ⟨0, Os49 h n u c z hu' e1 e2 e3 e4 e5 e6 e7 e8 hc hz hx []⟩
    · exact ⟨0, Os50 h n u c z hu' e1 e2 e3 e4 e5 e6 e7 e8 hc hz hx []⟩
end Go.Vm
