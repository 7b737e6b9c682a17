/-
  A part of a proof: the last text of the claim says what is proved, and under which conditions.
-/
import Derived.Test.YtbhlbpeilmihcaaGreatDoorM13
set_option linter.unusedSimpArgs false
set_option linter.unusedVariables false
set_option linter.unnecessarySimpa false
/- Printed by runsN.py. -/
namespace Go.Vm
open Go
set_option maxRecDepth 1000000

/-- the rule itself, and no error -/
def ruleN : V := .tup [.agg [.str [97], .int .i64 0, .sl .no 6 [.agg [.int .i64 1, .str [112], .sl .no 4 [.agg [.str [88], .int .i64 0, .int .i64 0, .str []]], .int .i64 0, .sl .no 5 [], .sl .no 5 []], .agg [.int .i64 2, .str [113], .sl .no 4 [.agg [.str [88], .int .i64 0, .int .i64 0, .str []]], .int .i64 0, .sl .no 5 [], .sl .no 5 []]], .sl .no 4 [.agg [.int .i64 1, .str [115], .sl .no 1 [.sl .no 5 [.agg [.int .i64 1, .str [88], .int .i64 0, .int .i64 0, .str []]]], .int .i64 0]]], .int .i64 0]
def textN : V := .str [114, 117, 108, 101, 32, 97, 32, 48, 58, 32, 112, 40, 88, 41, 44, 32, 110, 111, 116, 32, 113, 40, 88, 41, 32, 45, 62, 32, 43, 115, 40, 88, 41, 46]
theorem parsedN (p : List Fr → Bool) (sg : List Fr) : callC C0 (orcQ kQ) TX.funs TX.prim 2000 5 [textN] sg (fun v' sg' wd => ifK (veq v' ruleN) (ifK (Nat.beq wd 0) (p sg') false) false) = p sg := by kernel_rfl
theorem parseN_says : SaysT TX 5 [textN] ruleN := says_of_C (orcQ_ok kQ_ok) (primAll_su num0 KX LX) cl_ok parsedN
noncomputable def kxPN : List V → Option V := kM [([textN], ruleN)]
theorem kxPN_ok : KOk TX 5 kxPN := kM_ok fun p hp => by
  simp only [List.mem_cons, List.mem_nil_iff, or_false] at hp
  subst hp
  exact ⟨(fun _ => rfl), (fun _ => rfl), parseN_says⟩
noncomputable def kxWN : List V → Option V := kM [([], .bool true)]
theorem kxWN_ok : KOk TX 7 kxWN := kM_ok fun p hp => by
  simp only [List.mem_cons, List.mem_nil_iff, or_false] at hp
  subst hp
  exact ⟨(fun _ => rfl), (fun _ => rfl), wakes_says⟩
noncomputable def kN : KT := .node 7 kxWN (.node 5 kxPN .leaf .leaf) kQ
theorem kN_ok : kN.Ok TX := ⟨kxWN_ok, ⟨kxPN_ok, trivial, trivial⟩, kQ_ok⟩
def two (a b : Int) : Nat → Int := fun j => @Nat.rec (fun _ => Int) a (fun _ _ => b) j
end Go.Vm
