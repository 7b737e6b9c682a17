/-
  A part of a proof: the last text of the claim says what is proved, and under which conditions.
-/
import Derived.Test.YtmnmpmmpihimpaaGreatDoorM28
import Derived.Test.YtmnmpmmpihimpaaGreatDoorM4
set_option linter.unusedSimpArgs false
set_option linter.unusedVariables false
set_option linter.unnecessarySimpa false
/- FireSmall: what the law's loop keeps. -/
namespace Go.Vm
open Go
set_option maxRecDepth 1000000

/-- where the small program stands: at the beginning, nothing there, opened, opened and held -/
inductive S4 where
  | bg | no | so | he
def soonV (n : Int) : V := .agg [.str [115, 111, 111, 110], .sl .no 3 [.agg [.int .i64 1, .int .i64 n, .str []]]]
def heldV (n : Int) : V := .agg [.str [104, 101, 108, 100], .sl .no 3 [.agg [.int .i64 1, .int .i64 n, .str []]]]
def S4.cs (n : Int) : S4 → List V
  | .bg => [.sl .ex 2 [], .sl .ex 2 [], .int .i64 0]
  | .no => [.sl .no 2 [], .sl .no 2 [], .int .i64 0]
  | .so => [.sl .no 2 [], .sl .no 2 [soonV n], .int .i64 0]
  | .he => [.sl .no 2 [heldV n], .sl .no 2 [soonV n], .int .i64 0]
def S4.held : S4 → Bool
  | .he => true
  | _ => false
def S4.soon : S4 → Bool
  | .he | .so => true
  | _ => false
def progC : List V := match Sv7 with
  | .tup (.agg (a :: b :: _ :: r) :: _) => a :: b :: .sl .ex 4 [] :: r
  | _ => []
def posC : List V := match Sv7 with
  | .tup (_ :: .agg cs :: _) => cs
  | _ => []
def boolV (b : Bool) : V := .bool b
def smLS (l : List Bool) (m : Int) (sg : List Fr) (i : Nat) (s : S4) : LS :=
  { vals := [.sl .no 1 (l.map boolV), .int .i64 m, .bp 0 0 0, .bp 0 2 0, .bool s.held, .bool s.soon, .int .i64 (i : Int)], fr := [.box progC, .box posC, .box (s.cs m)], sg := sg, wd := 0 }
theorem rest100 (n : Int) : ∃ m : Int, (0 ≤ m ∧ m < 100) ∧ IntKind.i64.wrap ((IntKind.u64.wrap n).tmod 100) = m := by
  have h0 : 0 ≤ IntKind.u64.wrap n := by
    show 0 ≤ (if (false && decide (n % 18446744073709551616 ≥ 9223372036854775808)) = true then n % 18446744073709551616 - 18446744073709551616 else n % 18446744073709551616)
    simp only [Bool.false_and, Bool.false_eq_true, if_false]; omega
  have h1 : (IntKind.u64.wrap n).tmod 100 = (IntKind.u64.wrap n) % 100 := Int.tmod_eq_emod_of_nonneg h0
  refine ⟨_, ⟨?_, ?_⟩, rfl⟩
  · rw [h1, wrap_id (by omega) (by omega)]; omega
  · rw [h1, wrap_id (by omega) (by omega)]; omega
theorem len_bool (l : List Bool) : (l.map boolV).length = l.length := List.length_map _

end Go.Vm

/- FireSmall: the law's loop, by the words of Vm55. -/
namespace Go.Vm
open Go
set_option maxRecDepth 1000000

theorem small_says (l : List Bool) (n : Int) (hll : l.length ≤ 4611686018427387904) : SaysT TX 5 [.sl .no 1 (l.map boolV), .int .i64 n] (.bool true) :=
  sy (α := Unit) (e := fun _ => .bool true) (r := ()) (F := c5) rfl fun sg => by
    refine gO 11 ?_
    by_cases h12 : 12 < l.length
    · refine dk 18 (b' := true) (b := decide (((l.map boolV).length : Int) > 12)) (by rw [len_bool]; simp; omega) ?_
      exact gO 40 <| en
    · obtain ⟨m, hm, hw⟩ := rest100 n
      refine dk 18 (b' := false) (b := decide (((l.map boolV).length : Int) > 12)) (by rw [len_bool]; simp; omega) ?_
      refine gO 20 <| cl Ss0 ?_
      refine gO 10 <| cl Ss7 ?_
      refine gO 60 <| ?_
      refine kw 1 (u := .int .i64 (IntKind.i64.wrap ((IntKind.u64.wrap n).tmod 100))) (v := .int .i64 m) (congrArg _ hw) ?_
      refine rgI (β := Bool) (A := S4) (fun _ _ => True) (smLS l m sg) (L := l) (acc0 := .bg) (fn := fun _ _ _ => ()) trivial ?_ ?_
      · intro i x xs s hd _ ih
        have hlt := drop_lt hd
        have hx := drop_get hd
        have hwi := wrap_s hlt hll
        refine gO 8 <| dk 35 (b' := true) (b := decide ((i : Int) < ((l.map boolV).length : Int))) (by rw [len_bool]; exact lt_true hlt) ?_
        refine gO 13 <| iak boolV hx ?_
        have hw2 := congrArg (V.int .i64) hwi
        cases s <;> cases x
        · exact gO 14 <| cli (Ss20 m hm _) <| gO 55 <| iak boolV hx <| gO 8 <| iak boolV hx <| gO 27 <| kw 37 hw2 <| gO 5 <| nx (ih .so trivial)
        · exact gO 16 <| cli (Ss21 m hm _) <| gO 55 <| iak boolV hx <| gO 10 <| iak boolV hx <| gO 27 <| kw 37 hw2 <| gO 5 <| nx (ih .no trivial)
        · exact gO 14 <| cli (Ss20 m hm _) <| gO 55 <| iak boolV hx <| gO 8 <| iak boolV hx <| gO 27 <| kw 37 hw2 <| gO 5 <| nx (ih .so trivial)
        · exact gO 16 <| cli (Ss21 m hm _) <| gO 55 <| iak boolV hx <| gO 10 <| iak boolV hx <| gO 27 <| kw 37 hw2 <| gO 5 <| nx (ih .no trivial)
        · exact gO 14 <| cli (Ss24 m hm _) <| gO 42 <| iak boolV hx <| gO 12 <| iak boolV hx <| gO 8 <| iak boolV hx <| gO 27 <| kw 37 hw2 <| gO 5 <| nx (ih .he trivial)
        · exact gO 16 <| cli (Ss25 m hm _) <| gO 42 <| iak boolV hx <| gO 12 <| iak boolV hx <| gO 10 <| iak boolV hx <| gO 27 <| kw 37 hw2 <| gO 5 <| nx (ih .no trivial)
        · exact gO 14 <| cli (Ss26 m hm _) <| gO 42 <| iak boolV hx <| gO 12 <| iak boolV hx <| gO 8 <| iak boolV hx <| gO 27 <| kw 37 hw2 <| gO 5 <| nx (ih .he trivial)
        · exact gO 16 <| cli (Ss27 m hm _) <| gO 42 <| iak boolV hx <| gO 12 <| iak boolV hx <| gO 10 <| iak boolV hx <| gO 27 <| kw 37 hw2 <| gO 5 <| nx (ih .no trivial)
      · intro i s hd _
        have hge := drop_ge hd
        refine gO 8 <| dk 35 (b' := false) (b := decide ((i : Int) < ((l.map boolV).length : Int))) (by rw [len_bool]; exact lt_false hge) ?_
        exact gO 40 <| cl Ss16 <| gO 20 <| en
end Go.Vm

/- FireSmall: whatever comes in. -/
namespace Go.Vm
open Go
theorem small_run (x0 x1 : V) (h0 : HasV (.sl 1 (.bool)) x0) (h1 : HasV (.int .i64) x1) : ∃ wd, TX.call 5 [x0, x1] [] = some (.bool true, [], wd) := by
  obtain ⟨l, rfl, hl, _⟩ := has_list (en := boolV) (ok := fun _ => True) (fun x h => by obtain ⟨b, rfl⟩ := has_bool h; exact ⟨b, rfl, trivial⟩) h0
  obtain ⟨n, rfl, _⟩ := has_int h1
  exact ⟨0, small_says l n (by unfold lenB at hl; omega) []⟩
end Go.Vm
