/-
  A part of a proof: the last text of the claim says what is proved, and under which conditions.
-/
import Derived.Test.YtmnmpmmpihimpaaGreatDoorM9
import Derived.Test.YtmnmpmmpihimpaaGreatDoorTie
import Derived.Test.YtmnmpmmpihimpaaGreatDoorCards
import Derived.ProofKit
import Derived.Below
import Derived.ChangeSame
import Derived.LaidMore
import Derived.OpenShut
import Derived.Lay
import Derived.SevenTiedAt
import Derived.Stop.Joined
import Derived.Test.YtmnmpmmpihimpaaGreatDoorM4
set_option linter.unusedSimpArgs false
set_option linter.unusedVariables false
set_option linter.unnecessarySimpa false
/-
  From runs to rows and cards.
-/
namespace Go.Proofs.YtmnmpmmpihimpaaGreatDoor
open Go Go.Vm Go.ChangeShapes Go.WideShapes Go.ChangeAt Go.RowKit

section
variable {H : Type} {enc : TypeId × Value → H} {P : Program}
theorem post_of_below {f : Func} {s : ChangeSpec} {apart fresh handsOn again : Bool} {W W' : World} {args : Array Value} {v : Value} {ds gs : List (DataW H)} {before pa pv : List MemPlace}
    (hW : DataW.Whole enc P f.params.toList s.vars apart W args.toList ds gs before)
    (hres : ∀ (b : Nat) (sp : Nat → Bool) (hd : Bool), DataW.TrodAll enc P W' b sp hd f.resultTypes.toList (v.resultList f.resultTypes.size) (s.fn H (ds ++ gs)).results [])
    (hargs : ∀ sp : Nat → Bool, (∀ p ∈ before, sp p.block = true) → DataW.TrodAll enc P W' 0 sp true f.params.toList args.toList (s.fn H (ds ++ gs)).args pa)
    (hvars : ∀ sp : Nat → Bool, (∀ p ∈ before, sp p.block = true) → DataW.TrodVars enc P W' sp s.vars (s.fn H (ds ++ gs)).vars pv)
    (hps : before = pa ++ pv) (hb : Below W.heap.size W W')
    (hok : ∀ (j : Nat) (t : TypeId) (r : Value), f.resultTypes[j]? = some t → (v.resultList f.resultTypes.size)[j]? = some r → Value.okWide P W' .any 0 t r) :
    s.post enc P f apart fresh handsOn again W args v W' := by
  have hlt : ∀ p ∈ before, p.block < W.heap.size := fun p hp => hW.lt p hp
  have hold : ∀ p ∈ before, (fun b => decide (b < W.heap.size)) p.block = true := fun p hp => by simpa using hlt p hp
  refine ⟨ds, gs, before, [], pa, pv, hW, hres _ _ _, hargs _ hold, hvars _ hold, World.keptBut_mono (fun p hp => ⟨hp, ?_⟩) (hb.frame (· ∈ before)), fun _ => ?_⟩
  · rw [hps, List.mem_append] at hp
    exact Or.inr hp
  · obtain ⟨_, _, _, _, _, hz, hn⟩ := hW
    refine ⟨hok, _, _, ([] ++ pa) ++ pv, ⟨[] ++ pa, pv, trodAll_append (hargs _ (fun _ _ => rfl)) (hres _ _ _), hvars _ (fun _ _ => rfl), rfl, ?_, ?_⟩, ?_⟩
    · intro b off hp
      have hin : MemPlace.cell b off ∈ before := by rw [hps]; simpa using hp
      rw [hb.frozen (hlt _ hin)]
      exact hz b off hin
    · intro ha
      have := hn ha
      rw [hps] at this
      simpa using this
    · intro p hp _
      rw [hps]
      simpa using hp
end

theorem own : ownKnob Tryz.prog.godebug = none := by kernel_rfl
theorem orders : Tryz.prog.follows .mixedOrders = true := by kernel_rfl

end Go.Proofs.YtmnmpmmpihimpaaGreatDoor

/- Printed by closed.py. -/
namespace Go.Vm
open Go
set_option maxRecDepth 1000000
noncomputable def KA0 : Orc := orcN
theorem KA0_ok {σ : Int → V} : OrcOk TX σ KA0 := orcN_ok
def Kd0 : List V := [.str [102, 97, 99, 116, 32, 101, 47, 49, 32, 101, 118, 101, 110, 116, 46, 32, 102, 97, 99, 116, 32, 111, 47, 48, 32, 101, 118, 101, 110, 116, 46, 32, 102, 97, 99, 116, 32, 97, 47, 49, 32, 112, 101, 114, 115, 105, 115, 116, 46, 32, 102, 97, 99, 116, 32, 98, 47, 49, 32, 110, 111, 119, 46, 32, 102, 97, 99, 116, 32, 99, 47, 49, 32, 110, 101, 120, 116, 46, 32, 102, 97, 99, 116, 32, 100, 47, 49, 32, 102, 111, 114, 98, 105, 100, 46, 32, 114, 117, 108, 101, 32, 114, 32, 48, 58, 32, 101, 40, 88, 41, 32, 45, 62, 32, 43, 97, 40, 88, 41, 44, 32, 43, 98, 40, 88, 41, 44, 32, 43, 99, 40, 88, 41, 44, 32, 43, 100, 40, 88, 41, 46]]
def Kd1 : V := .sl .no 1 [.sl .no 5 [.agg [.int .i64 1, .str [88], .int .i64 0, .int .i64 0, .str []]]]
def Kd2 : List V := [.agg [.str [114], .int .i64 0, .sl .no 6 [.agg [.int .i64 1, .str [101], .sl .no 4 [.agg [.str [88], .int .i64 0, .int .i64 0, .str []]], .int .i64 0, .sl .no 5 [], .sl .no 5 []]], .sl .no 4 [.agg [.int .i64 1, .str [97], Kd1, .int .i64 0], .agg [.int .i64 1, .str [98], Kd1, .int .i64 0], .agg [.int .i64 1, .str [99], Kd1, .int .i64 0], .agg [.int .i64 1, .str [100], Kd1, .int .i64 0]]]]
def Kd3 : V := .agg [.sl .no 3 [.agg [.str [101], .int .i64 1, .int .i64 1], .agg [.str [111], .int .i64 0, .int .i64 1], .agg [.str [97], .int .i64 1, .int .i64 2], .agg [.str [98], .int .i64 1, .int .i64 3], .agg [.str [99], .int .i64 1, .int .i64 4], .agg [.str [100], .int .i64 1, .int .i64 5]], .sl .no 4 Kd2, .sl .no 4 []]
def Kd4 : V := .agg [.str [101], .sl .no 3 [.agg [.int .i64 1, .int .i64 1, .str []]]]
def Kd5 : V := .agg [.str [97], .sl .no 3 [.agg [.int .i64 1, .int .i64 1, .str []]]]
def Kd6 : V := .agg [.str [100], .sl .no 3 [.agg [.int .i64 1, .int .i64 1, .str []]]]
def Kd7 : V := .agg [.str [99], .sl .no 3 [.agg [.int .i64 1, .int .i64 1, .str []]]]
def Kd8 : V := .sl .no 2 [Kd7]
def Kd9 : V := .sl .no 2 [Kd5]
def Kd10 : V := .agg [Kd9, Kd8, .int .i64 0]
def Kd11 : List V := [.str [102, 97, 99, 116, 32, 111, 112, 101, 110, 47, 49, 32, 101, 118, 101, 110, 116, 46, 32, 102, 97, 99, 116, 32, 99, 108, 111, 115, 101, 47, 49, 32, 101, 118, 101, 110, 116, 46, 32, 102, 97, 99, 116, 32, 104, 101, 108, 100, 47, 49, 32, 112, 101, 114, 115, 105, 115, 116, 46, 32, 102, 97, 99, 116, 32, 115, 111, 111, 110, 47, 49, 32, 110, 101, 120, 116, 46, 32, 102, 97, 99, 116, 32, 98, 97, 100, 47, 49, 32, 102, 111, 114, 98, 105, 100, 46, 10, 114, 117, 108, 101, 32, 111, 32, 48, 58, 32, 111, 112, 101, 110, 40, 88, 41, 32, 45, 62, 32, 43, 115, 111, 111, 110, 40, 88, 41, 46, 10, 114, 117, 108, 101, 32, 104, 32, 48, 58, 32, 115, 111, 111, 110, 40, 88, 41, 32, 45, 62, 32, 43, 104, 101, 108, 100, 40, 88, 41, 46, 10, 114, 117, 108, 101, 32, 98, 32, 49, 58, 32, 111, 112, 101, 110, 40, 88, 41, 44, 32, 104, 101, 108, 100, 40, 88, 41, 32, 45, 62, 32, 43, 98, 97, 100, 40, 88, 41, 46, 32, 37, 32, 116, 119, 105, 99, 101, 10, 114, 117, 108, 101, 32, 99, 32, 48, 58, 32, 99, 108, 111, 115, 101, 40, 88, 41, 44, 32, 104, 101, 108, 100, 40, 88, 41, 32, 45, 62, 32, 100, 114, 111, 112, 32, 49, 46, 10, 112, 97, 116, 116, 101, 114, 110, 32, 113, 58, 32, 99, 108, 111, 115, 101, 40, 88, 41, 32, 61, 62, 32, 111, 110, 99, 101, 32, 111, 112, 101, 110, 40, 88, 41, 46, 10]]
def Kd12 : V := .agg [.int .i64 1, .str [111, 112, 101, 110], .sl .no 4 [.agg [.str [88], .int .i64 0, .int .i64 0, .str []]], .int .i64 0, .sl .no 5 [], .sl .no 5 []]
def Kd13 : V := .agg [.int .i64 1, .str [104, 101, 108, 100], .sl .no 4 [.agg [.str [88], .int .i64 0, .int .i64 0, .str []]], .int .i64 0, .sl .no 5 [], .sl .no 5 []]
def Kd14 : V := .agg [.sl .no 3 [.agg [.str [111, 112, 101, 110], .int .i64 1, .int .i64 1], .agg [.str [99, 108, 111, 115, 101], .int .i64 1, .int .i64 1], .agg [.str [104, 101, 108, 100], .int .i64 1, .int .i64 2], .agg [.str [115, 111, 111, 110], .int .i64 1, .int .i64 4], .agg [.str [98, 97, 100], .int .i64 1, .int .i64 5]], .sl .no 4 [.agg [.str [111], .int .i64 0, .sl .no 6 [Kd12], .sl .no 4 [.agg [.int .i64 1, .str [115, 111, 111, 110], Kd1, .int .i64 0]]], .agg [.str [104], .int .i64 0, .sl .no 6 [.agg [.int .i64 1, .str [115, 111, 111, 110], .sl .no 4 [.agg [.str [88], .int .i64 0, .int .i64 0, .str []]], .int .i64 0, .sl .no 5 [], .sl .no 5 []]], .sl .no 4 [.agg [.int .i64 1, .str [104, 101, 108, 100], Kd1, .int .i64 0]]], .agg [.str [98], .int .i64 1, .sl .no 6 [Kd12, Kd13], .sl .no 4 [.agg [.int .i64 1, .str [98, 97, 100], Kd1, .int .i64 0]]], .agg [.str [99], .int .i64 0, .sl .no 6 [.agg [.int .i64 1, .str [99, 108, 111, 115, 101], .sl .no 4 [.agg [.str [88], .int .i64 0, .int .i64 0, .str []]], .int .i64 0, .sl .no 5 [], .sl .no 5 []], Kd13], .sl .no 4 [.agg [.int .i64 2, .str [], .sl .no 1 [], .int .i64 1]]]], .sl .no 4 [.agg [.str [113], .str [99, 108, 111, 115, 101], .sl .no 4 [.agg [.str [88], .int .i64 0, .int .i64 0, .str []]], .sl .no 5 [.agg [.int .i64 1, .str [111, 112, 101, 110], .sl .no 4 [.agg [.str [88], .int .i64 0, .int .i64 0, .str []]], .int .i64 0, .int .i64 0], .agg [.int .i64 6, .str [], .sl .no 4 [], .int .i64 0, .int .i64 0]]]]]
def Kd15 : List V := [Kd14]
def Kd16 : V := .agg [.str [111, 112, 101, 110], .sl .no 3 [.agg [.int .i64 1, .int .i64 1, .str []]]]
def Kd17 : V := .sl .no 2 [Kd16]
def Kd18 : V := .agg [.int .i64 0, Kd17]
def Kd19 : V := .agg [.str [115, 111, 111, 110], .sl .no 3 [.agg [.int .i64 1, .int .i64 1, .str []]]]
def Kd20 : V := .sl .no 2 [Kd19]
def Kd21 : V := .agg [.int .i64 1, Kd20]
def Kd22 : V := .agg [.str [104, 101, 108, 100], .sl .no 3 [.agg [.int .i64 1, .int .i64 1, .str []]]]
def Kd23 : V := .sl .no 2 [Kd18, Kd21, .agg [.int .i64 2, .sl .no 2 [Kd16, Kd22]]]
def Kd24 : V := .tup [Kd23, .int .i64 0]
def Kd25 : V := .agg [.str [98, 97, 100], .sl .no 3 [.agg [.int .i64 1, .int .i64 1, .str []]]]
def Kd26 : V := .sl .no 2 [Kd25, Kd22, Kd16, Kd19]
def Kd27 : V := .agg [.str [101], .sl .no 3 [.agg [.int .i64 1, .int .i64 2, .str []]]]
def Kd28 : V := .agg [.str [97], .sl .no 3 [.agg [.int .i64 1, .int .i64 2, .str []]]]
def Kd29 : V := .agg [.str [100], .sl .no 3 [.agg [.int .i64 1, .int .i64 2, .str []]]]
def Kd30 : V := .agg [.str [99], .sl .no 3 [.agg [.int .i64 1, .int .i64 2, .str []]]]
def Kd31 : V := .sl .no 2 [Kd30]
def Kd32 : V := .sl .no 2 [Kd28]
def Kd33 : V := .agg [Kd32, Kd31, .int .i64 0]
def Kd34 : V := .agg [.str [101], .sl .no 3 [.agg [.int .i64 1, .int .i64 3, .str []]]]
def Kd35 : V := .agg [.str [97], .sl .no 3 [.agg [.int .i64 1, .int .i64 3, .str []]]]
def Kd36 : V := .agg [.str [100], .sl .no 3 [.agg [.int .i64 1, .int .i64 3, .str []]]]
def Kd37 : V := .agg [.str [99], .sl .no 3 [.agg [.int .i64 1, .int .i64 3, .str []]]]
def Kd38 : V := .sl .no 2 [Kd37]
def Kd39 : V := .sl .no 2 [Kd35]
def Kd40 : V := .agg [Kd39, Kd38, .int .i64 0]
def Kd41 : V := .agg [.str [101], .sl .no 3 [.agg [.int .i64 1, .int .i64 4, .str []]]]
def Kd42 : V := .agg [.str [97], .sl .no 3 [.agg [.int .i64 1, .int .i64 4, .str []]]]
def Kd43 : V := .agg [.str [100], .sl .no 3 [.agg [.int .i64 1, .int .i64 4, .str []]]]
def Kd44 : V := .agg [.str [99], .sl .no 3 [.agg [.int .i64 1, .int .i64 4, .str []]]]
def Kd45 : V := .sl .no 2 [Kd44]
def Kd46 : V := .sl .no 2 [Kd42]
def Kd47 : V := .agg [Kd46, Kd45, .int .i64 0]
def Ka0 : List V := [.str [49]]
def Kv0 : V := .tup [.agg [.int .i64 1, .int .i64 1, .str []], .int .i64 0]
def Ka1 : List V := Kd0
def Kv1 : V := .tup [.sl .no 4 [.agg [.int .i64 1, .str [102, 97, 99, 116], .int .i64 1, .int .i64 1], .agg [.int .i64 1, .str [101], .int .i64 1, .int .i64 6], .agg [.int .i64 5, .str [47], .int .i64 1, .int .i64 7], .agg [.int .i64 3, .str [49], .int .i64 1, .int .i64 8], .agg [.int .i64 1, .str [101, 118, 101, 110, 116], .int .i64 1, .int .i64 10], .agg [.int .i64 5, .str [46], .int .i64 1, .int .i64 15], .agg [.int .i64 1, .str [102, 97, 99, 116], .int .i64 1, .int .i64 17], .agg [.int .i64 1, .str [111], .int .i64 1, .int .i64 22], .agg [.int .i64 5, .str [47], .int .i64 1, .int .i64 23], .agg [.int .i64 3, .str [48], .int .i64 1, .int .i64 24], .agg [.int .i64 1, .str [101, 118, 101, 110, 116], .int .i64 1, .int .i64 26], .agg [.int .i64 5, .str [46], .int .i64 1, .int .i64 31], .agg [.int .i64 1, .str [102, 97, 99, 116], .int .i64 1, .int .i64 33], .agg [.int .i64 1, .str [97], .int .i64 1, .int .i64 38], .agg [.int .i64 5, .str [47], .int .i64 1, .int .i64 39], .agg [.int .i64 3, .str [49], .int .i64 1, .int .i64 40], .agg [.int .i64 1, .str [112, 101, 114, 115, 105, 115, 116], .int .i64 1, .int .i64 42], .agg [.int .i64 5, .str [46], .int .i64 1, .int .i64 49], .agg [.int .i64 1, .str [102, 97, 99, 116], .int .i64 1, .int .i64 51], .agg [.int .i64 1, .str [98], .int .i64 1, .int .i64 56], .agg [.int .i64 5, .str [47], .int .i64 1, .int .i64 57], .agg [.int .i64 3, .str [49], .int .i64 1, .int .i64 58], .agg [.int .i64 1, .str [110, 111, 119], .int .i64 1, .int .i64 60], .agg [.int .i64 5, .str [46], .int .i64 1, .int .i64 63], .agg [.int .i64 1, .str [102, 97, 99, 116], .int .i64 1, .int .i64 65], .agg [.int .i64 1, .str [99], .int .i64 1, .int .i64 70], .agg [.int .i64 5, .str [47], .int .i64 1, .int .i64 71], .agg [.int .i64 3, .str [49], .int .i64 1, .int .i64 72], .agg [.int .i64 1, .str [110, 101, 120, 116], .int .i64 1, .int .i64 74], .agg [.int .i64 5, .str [46], .int .i64 1, .int .i64 78], .agg [.int .i64 1, .str [102, 97, 99, 116], .int .i64 1, .int .i64 80], .agg [.int .i64 1, .str [100], .int .i64 1, .int .i64 85], .agg [.int .i64 5, .str [47], .int .i64 1, .int .i64 86], .agg [.int .i64 3, .str [49], .int .i64 1, .int .i64 87], .agg [.int .i64 1, .str [102, 111, 114, 98, 105, 100], .int .i64 1, .int .i64 89], .agg [.int .i64 5, .str [46], .int .i64 1, .int .i64 95], .agg [.int .i64 1, .str [114, 117, 108, 101], .int .i64 1, .int .i64 97], .agg [.int .i64 1, .str [114], .int .i64 1, .int .i64 102], .agg [.int .i64 3, .str [48], .int .i64 1, .int .i64 104], .agg [.int .i64 5, .str [58], .int .i64 1, .int .i64 105], .agg [.int .i64 1, .str [101], .int .i64 1, .int .i64 107], .agg [.int .i64 5, .str [40], .int .i64 1, .int .i64 108], .agg [.int .i64 2, .str [88], .int .i64 1, .int .i64 109], .agg [.int .i64 5, .str [41], .int .i64 1, .int .i64 110], .agg [.int .i64 5, .str [45, 62], .int .i64 1, .int .i64 112], .agg [.int .i64 5, .str [43], .int .i64 1, .int .i64 115], .agg [.int .i64 1, .str [97], .int .i64 1, .int .i64 116], .agg [.int .i64 5, .str [40], .int .i64 1, .int .i64 117], .agg [.int .i64 2, .str [88], .int .i64 1, .int .i64 118], .agg [.int .i64 5, .str [41], .int .i64 1, .int .i64 119], .agg [.int .i64 5, .str [44], .int .i64 1, .int .i64 120], .agg [.int .i64 5, .str [43], .int .i64 1, .int .i64 122], .agg [.int .i64 1, .str [98], .int .i64 1, .int .i64 123], .agg [.int .i64 5, .str [40], .int .i64 1, .int .i64 124], .agg [.int .i64 2, .str [88], .int .i64 1, .int .i64 125], .agg [.int .i64 5, .str [41], .int .i64 1, .int .i64 126], .agg [.int .i64 5, .str [44], .int .i64 1, .int .i64 127], .agg [.int .i64 5, .str [43], .int .i64 1, .int .i64 129], .agg [.int .i64 1, .str [99], .int .i64 1, .int .i64 130], .agg [.int .i64 5, .str [40], .int .i64 1, .int .i64 131], .agg [.int .i64 2, .str [88], .int .i64 1, .int .i64 132], .agg [.int .i64 5, .str [41], .int .i64 1, .int .i64 133], .agg [.int .i64 5, .str [44], .int .i64 1, .int .i64 134], .agg [.int .i64 5, .str [43], .int .i64 1, .int .i64 136], .agg [.int .i64 1, .str [100], .int .i64 1, .int .i64 137], .agg [.int .i64 5, .str [40], .int .i64 1, .int .i64 138], .agg [.int .i64 2, .str [88], .int .i64 1, .int .i64 139], .agg [.int .i64 5, .str [41], .int .i64 1, .int .i64 140], .agg [.int .i64 5, .str [46], .int .i64 1, .int .i64 141]], .agg [.int .i64 0, .int .i64 0], .int .i64 0]
def Ka2 : List V := [.str [101]]
def Kv2 : V := .bool true
def Ka3 : List V := [.str [111]]
def Kv3 : V := .bool true
def Ka4 : List V := [.str [97]]
def Kv4 : V := .bool true
def Ka5 : List V := [.str [98]]
def Kv5 : V := .bool true
def Ka6 : List V := [.str [99]]
def Kv6 : V := .bool true
def Ka7 : List V := Kd0
def Kv7 : V := .tup [Kd3, .agg [.int .i64 0, .int .i64 0], .int .i64 0]
def Ka8 : List V := Kd2
def Kv8 : V := .int .i64 0
def Ka9 : List V := [Kd3]
def Kv9 : V := .tup [.sl .no 1 [.int .i64 0], .int .i64 0]
def Ka10 : List V := [.sl .no 3 [.agg [.int .i64 1, .int .i64 1, .str []]], .sl .no 3 [.agg [.int .i64 1, .int .i64 1, .str []]], .fn 146 [] []]
def Kv10 : V := .int .i64 0
def Ka11 : List V := [Kd3, .agg [.int .i64 10, .int .i64 30], .agg [.sl .no 2 [], .sl .no 2 [], .int .i64 0], Kd4]
def Kv11 : V := .tup [.agg [.sl .no 2 [Kd5, .agg [.str [98], .sl .no 3 [.agg [.int .i64 1, .int .i64 1, .str []]]], Kd6, Kd4], .sl .no 2 [.agg [.int .i64 0, .sl .no 2 [Kd4]]], .sl .no 2 [Kd6], Kd8], Kd10, .int .i64 0]
def Ka12 : List V := [Kd3, .agg [.int .i64 10, .int .i64 30], Kd10, .agg [.str [111], .sl .no 3 []]]
def Kv12 : V := .tup [.agg [.sl .no 2 [Kd5, Kd7, .agg [.str [111], .sl .no 3 []]], .sl .no 2 [], .sl .no 2 [], .sl .no 2 []], .agg [Kd9, .sl .no 2 [], .int .i64 0], .int .i64 0]
def Ka13 : List V := Kd11
def Kv13 : V := .tup [.sl .no 4 [.agg [.int .i64 1, .str [102, 97, 99, 116], .int .i64 1, .int .i64 1], .agg [.int .i64 1, .str [111, 112, 101, 110], .int .i64 1, .int .i64 6], .agg [.int .i64 5, .str [47], .int .i64 1, .int .i64 10], .agg [.int .i64 3, .str [49], .int .i64 1, .int .i64 11], .agg [.int .i64 1, .str [101, 118, 101, 110, 116], .int .i64 1, .int .i64 13], .agg [.int .i64 5, .str [46], .int .i64 1, .int .i64 18], .agg [.int .i64 1, .str [102, 97, 99, 116], .int .i64 1, .int .i64 20], .agg [.int .i64 1, .str [99, 108, 111, 115, 101], .int .i64 1, .int .i64 25], .agg [.int .i64 5, .str [47], .int .i64 1, .int .i64 30], .agg [.int .i64 3, .str [49], .int .i64 1, .int .i64 31], .agg [.int .i64 1, .str [101, 118, 101, 110, 116], .int .i64 1, .int .i64 33], .agg [.int .i64 5, .str [46], .int .i64 1, .int .i64 38], .agg [.int .i64 1, .str [102, 97, 99, 116], .int .i64 1, .int .i64 40], .agg [.int .i64 1, .str [104, 101, 108, 100], .int .i64 1, .int .i64 45], .agg [.int .i64 5, .str [47], .int .i64 1, .int .i64 49], .agg [.int .i64 3, .str [49], .int .i64 1, .int .i64 50], .agg [.int .i64 1, .str [112, 101, 114, 115, 105, 115, 116], .int .i64 1, .int .i64 52], .agg [.int .i64 5, .str [46], .int .i64 1, .int .i64 59], .agg [.int .i64 1, .str [102, 97, 99, 116], .int .i64 1, .int .i64 61], .agg [.int .i64 1, .str [115, 111, 111, 110], .int .i64 1, .int .i64 66], .agg [.int .i64 5, .str [47], .int .i64 1, .int .i64 70], .agg [.int .i64 3, .str [49], .int .i64 1, .int .i64 71], .agg [.int .i64 1, .str [110, 101, 120, 116], .int .i64 1, .int .i64 73], .agg [.int .i64 5, .str [46], .int .i64 1, .int .i64 77], .agg [.int .i64 1, .str [102, 97, 99, 116], .int .i64 1, .int .i64 79], .agg [.int .i64 1, .str [98, 97, 100], .int .i64 1, .int .i64 84], .agg [.int .i64 5, .str [47], .int .i64 1, .int .i64 87], .agg [.int .i64 3, .str [49], .int .i64 1, .int .i64 88], .agg [.int .i64 1, .str [102, 111, 114, 98, 105, 100], .int .i64 1, .int .i64 90], .agg [.int .i64 5, .str [46], .int .i64 1, .int .i64 96], .agg [.int .i64 1, .str [114, 117, 108, 101], .int .i64 2, .int .i64 1], .agg [.int .i64 1, .str [111], .int .i64 2, .int .i64 6], .agg [.int .i64 3, .str [48], .int .i64 2, .int .i64 8], .agg [.int .i64 5, .str [58], .int .i64 2, .int .i64 9], .agg [.int .i64 1, .str [111, 112, 101, 110], .int .i64 2, .int .i64 11], .agg [.int .i64 5, .str [40], .int .i64 2, .int .i64 15], .agg [.int .i64 2, .str [88], .int .i64 2, .int .i64 16], .agg [.int .i64 5, .str [41], .int .i64 2, .int .i64 17], .agg [.int .i64 5, .str [45, 62], .int .i64 2, .int .i64 19], .agg [.int .i64 5, .str [43], .int .i64 2, .int .i64 22], .agg [.int .i64 1, .str [115, 111, 111, 110], .int .i64 2, .int .i64 23], .agg [.int .i64 5, .str [40], .int .i64 2, .int .i64 27], .agg [.int .i64 2, .str [88], .int .i64 2, .int .i64 28], .agg [.int .i64 5, .str [41], .int .i64 2, .int .i64 29], .agg [.int .i64 5, .str [46], .int .i64 2, .int .i64 30], .agg [.int .i64 1, .str [114, 117, 108, 101], .int .i64 3, .int .i64 1], .agg [.int .i64 1, .str [104], .int .i64 3, .int .i64 6], .agg [.int .i64 3, .str [48], .int .i64 3, .int .i64 8], .agg [.int .i64 5, .str [58], .int .i64 3, .int .i64 9], .agg [.int .i64 1, .str [115, 111, 111, 110], .int .i64 3, .int .i64 11], .agg [.int .i64 5, .str [40], .int .i64 3, .int .i64 15], .agg [.int .i64 2, .str [88], .int .i64 3, .int .i64 16], .agg [.int .i64 5, .str [41], .int .i64 3, .int .i64 17], .agg [.int .i64 5, .str [45, 62], .int .i64 3, .int .i64 19], .agg [.int .i64 5, .str [43], .int .i64 3, .int .i64 22], .agg [.int .i64 1, .str [104, 101, 108, 100], .int .i64 3, .int .i64 23], .agg [.int .i64 5, .str [40], .int .i64 3, .int .i64 27], .agg [.int .i64 2, .str [88], .int .i64 3, .int .i64 28], .agg [.int .i64 5, .str [41], .int .i64 3, .int .i64 29], .agg [.int .i64 5, .str [46], .int .i64 3, .int .i64 30], .agg [.int .i64 1, .str [114, 117, 108, 101], .int .i64 4, .int .i64 1], .agg [.int .i64 1, .str [98], .int .i64 4, .int .i64 6], .agg [.int .i64 3, .str [49], .int .i64 4, .int .i64 8], .agg [.int .i64 5, .str [58], .int .i64 4, .int .i64 9], .agg [.int .i64 1, .str [111, 112, 101, 110], .int .i64 4, .int .i64 11], .agg [.int .i64 5, .str [40], .int .i64 4, .int .i64 15], .agg [.int .i64 2, .str [88], .int .i64 4, .int .i64 16], .agg [.int .i64 5, .str [41], .int .i64 4, .int .i64 17], .agg [.int .i64 5, .str [44], .int .i64 4, .int .i64 18], .agg [.int .i64 1, .str [104, 101, 108, 100], .int .i64 4, .int .i64 20], .agg [.int .i64 5, .str [40], .int .i64 4, .int .i64 24], .agg [.int .i64 2, .str [88], .int .i64 4, .int .i64 25], .agg [.int .i64 5, .str [41], .int .i64 4, .int .i64 26], .agg [.int .i64 5, .str [45, 62], .int .i64 4, .int .i64 28], .agg [.int .i64 5, .str [43], .int .i64 4, .int .i64 31], .agg [.int .i64 1, .str [98, 97, 100], .int .i64 4, .int .i64 32], .agg [.int .i64 5, .str [40], .int .i64 4, .int .i64 35], .agg [.int .i64 2, .str [88], .int .i64 4, .int .i64 36], .agg [.int .i64 5, .str [41], .int .i64 4, .int .i64 37], .agg [.int .i64 5, .str [46], .int .i64 4, .int .i64 38], .agg [.int .i64 1, .str [114, 117, 108, 101], .int .i64 5, .int .i64 1], .agg [.int .i64 1, .str [99], .int .i64 5, .int .i64 6], .agg [.int .i64 3, .str [48], .int .i64 5, .int .i64 8], .agg [.int .i64 5, .str [58], .int .i64 5, .int .i64 9], .agg [.int .i64 1, .str [99, 108, 111, 115, 101], .int .i64 5, .int .i64 11], .agg [.int .i64 5, .str [40], .int .i64 5, .int .i64 16], .agg [.int .i64 2, .str [88], .int .i64 5, .int .i64 17], .agg [.int .i64 5, .str [41], .int .i64 5, .int .i64 18], .agg [.int .i64 5, .str [44], .int .i64 5, .int .i64 19], .agg [.int .i64 1, .str [104, 101, 108, 100], .int .i64 5, .int .i64 21], .agg [.int .i64 5, .str [40], .int .i64 5, .int .i64 25], .agg [.int .i64 2, .str [88], .int .i64 5, .int .i64 26], .agg [.int .i64 5, .str [41], .int .i64 5, .int .i64 27], .agg [.int .i64 5, .str [45, 62], .int .i64 5, .int .i64 29], .agg [.int .i64 1, .str [100, 114, 111, 112], .int .i64 5, .int .i64 32], .agg [.int .i64 3, .str [49], .int .i64 5, .int .i64 37], .agg [.int .i64 5, .str [46], .int .i64 5, .int .i64 38], .agg [.int .i64 1, .str [112, 97, 116, 116, 101, 114, 110], .int .i64 6, .int .i64 1], .agg [.int .i64 1, .str [113], .int .i64 6, .int .i64 9], .agg [.int .i64 5, .str [58], .int .i64 6, .int .i64 10], .agg [.int .i64 1, .str [99, 108, 111, 115, 101], .int .i64 6, .int .i64 12], .agg [.int .i64 5, .str [40], .int .i64 6, .int .i64 17], .agg [.int .i64 2, .str [88], .int .i64 6, .int .i64 18], .agg [.int .i64 5, .str [41], .int .i64 6, .int .i64 19], .agg [.int .i64 5, .str [61, 62], .int .i64 6, .int .i64 21], .agg [.int .i64 1, .str [111, 110, 99, 101], .int .i64 6, .int .i64 24], .agg [.int .i64 1, .str [111, 112, 101, 110], .int .i64 6, .int .i64 29], .agg [.int .i64 5, .str [40], .int .i64 6, .int .i64 33], .agg [.int .i64 2, .str [88], .int .i64 6, .int .i64 34], .agg [.int .i64 5, .str [41], .int .i64 6, .int .i64 35], .agg [.int .i64 5, .str [46], .int .i64 6, .int .i64 36]], .agg [.int .i64 0, .int .i64 0], .int .i64 0]
def Ka14 : List V := [.str [111, 112, 101, 110]]
def Kv14 : V := .bool true
def Ka15 : List V := Kd11
def Kv15 : V := .tup [Kd14, .agg [.int .i64 0, .int .i64 0], .int .i64 0]
def Ka16 : List V := Kd15
def Kv16 : V := .int .i64 0
def Ka17 : List V := Kd15
def Kv17 : V := .tup [.sl .no 1 [.int .i64 0, .int .i64 0, .int .i64 0, .int .i64 0], .int .i64 0]
def Ka18 : List V := [Kd14, Kd17]
def Kv18 : V := .tup [.sl .no 2 [Kd18], .int .i64 0]
def Ka19 : List V := [Kd14, .sl .no 2 [Kd16, Kd19]]
def Kv19 : V := .tup [.sl .no 2 [Kd18, Kd21], .int .i64 0]
def Ka20 : List V := [Kd14, .sl .no 2 [Kd22, Kd16, Kd19]]
def Kv20 : V := Kd24
def Ka21 : List V := [Kd14, Kd26]
def Kv21 : V := Kd24
def Ka22 : List V := [Kd14, .agg [.int .i64 10, .int .i64 10], .agg [.sl .no 2 [], Kd20, .int .i64 0], Kd16]
def Kv22 : V := .tup [.agg [Kd26, Kd23, .sl .no 2 [Kd25], Kd20], .agg [.sl .no 2 [Kd22], Kd20, .int .i64 0], .int .i64 0]
def Ka23 : List V := []
def Kv23 : V := .bool true
def Ka24 : List V := [.sl .no 3 [.agg [.int .i64 1, .int .i64 2, .str []]], .sl .no 3 [.agg [.int .i64 1, .int .i64 2, .str []]], .fn 146 [] []]
def Kv24 : V := .int .i64 0
def Ka25 : List V := [Kd3, .agg [.int .i64 10, .int .i64 30], .agg [.sl .no 2 [], .sl .no 2 [], .int .i64 0], Kd27]
def Kv25 : V := .tup [.agg [.sl .no 2 [Kd28, .agg [.str [98], .sl .no 3 [.agg [.int .i64 1, .int .i64 2, .str []]]], Kd29, Kd27], .sl .no 2 [.agg [.int .i64 0, .sl .no 2 [Kd27]]], .sl .no 2 [Kd29], Kd31], Kd33, .int .i64 0]
def Ka26 : List V := [Kd3, .agg [.int .i64 10, .int .i64 30], Kd33, .agg [.str [111], .sl .no 3 []]]
def Kv26 : V := .tup [.agg [.sl .no 2 [Kd28, Kd30, .agg [.str [111], .sl .no 3 []]], .sl .no 2 [], .sl .no 2 [], .sl .no 2 []], .agg [Kd32, .sl .no 2 [], .int .i64 0], .int .i64 0]
def Ka27 : List V := [.sl .no 3 [.agg [.int .i64 1, .int .i64 3, .str []]], .sl .no 3 [.agg [.int .i64 1, .int .i64 3, .str []]], .fn 146 [] []]
def Kv27 : V := .int .i64 0
def Ka28 : List V := [Kd3, .agg [.int .i64 10, .int .i64 30], .agg [.sl .no 2 [], .sl .no 2 [], .int .i64 0], Kd34]
def Kv28 : V := .tup [.agg [.sl .no 2 [Kd35, .agg [.str [98], .sl .no 3 [.agg [.int .i64 1, .int .i64 3, .str []]]], Kd36, Kd34], .sl .no 2 [.agg [.int .i64 0, .sl .no 2 [Kd34]]], .sl .no 2 [Kd36], Kd38], Kd40, .int .i64 0]
def Ka29 : List V := [Kd3, .agg [.int .i64 10, .int .i64 30], Kd40, .agg [.str [111], .sl .no 3 []]]
def Kv29 : V := .tup [.agg [.sl .no 2 [Kd35, Kd37, .agg [.str [111], .sl .no 3 []]], .sl .no 2 [], .sl .no 2 [], .sl .no 2 []], .agg [Kd39, .sl .no 2 [], .int .i64 0], .int .i64 0]
def Ka30 : List V := [.sl .no 3 [.agg [.int .i64 1, .int .i64 4, .str []]], .sl .no 3 [.agg [.int .i64 1, .int .i64 4, .str []]], .fn 146 [] []]
def Kv30 : V := .int .i64 0
def Ka31 : List V := [Kd3, .agg [.int .i64 10, .int .i64 30], .agg [.sl .no 2 [], .sl .no 2 [], .int .i64 0], Kd41]
def Kv31 : V := .tup [.agg [.sl .no 2 [Kd42, .agg [.str [98], .sl .no 3 [.agg [.int .i64 1, .int .i64 4, .str []]]], Kd43, Kd41], .sl .no 2 [.agg [.int .i64 0, .sl .no 2 [Kd41]]], .sl .no 2 [Kd43], Kd45], Kd47, .int .i64 0]
def Ka32 : List V := [Kd3, .agg [.int .i64 10, .int .i64 30], Kd47, .agg [.str [111], .sl .no 3 []]]
def Kv32 : V := .tup [.agg [.sl .no 2 [Kd42, Kd44, .agg [.str [111], .sl .no 3 []]], .sl .no 2 [], .sl .no 2 [], .sl .no 2 []], .agg [Kd46, .sl .no 2 [], .int .i64 0], .int .i64 0]
end Go.Vm

/- Printed by closed.py. -/
namespace Go.Vm
open Go
set_option maxRecDepth 1000000
theorem Kr14 (p : List Fr → Bool) (sg : List Fr) : callC C0 KA0 TX.funs TX.prim 2000 80 Ka14 sg (fun v' sg' wd => ifK (veq v' Kv14) (ifK (Nat.beq wd 0) (p sg') false) false) = p sg := by kernel_rfl
theorem Ks14 : SaysT TX 80 Ka14 Kv14 := says_of_C KA0_ok (primAll_su num0 KX LX) cl_ok Kr14
theorem Kr2 (p : List Fr → Bool) (sg : List Fr) : callC C0 KA0 TX.funs TX.prim 2000 80 Ka2 sg (fun v' sg' wd => ifK (veq v' Kv2) (ifK (Nat.beq wd 0) (p sg') false) false) = p sg := by kernel_rfl
theorem Ks2 : SaysT TX 80 Ka2 Kv2 := says_of_C KA0_ok (primAll_su num0 KX LX) cl_ok Kr2
theorem Kr3 (p : List Fr → Bool) (sg : List Fr) : callC C0 KA0 TX.funs TX.prim 2000 80 Ka3 sg (fun v' sg' wd => ifK (veq v' Kv3) (ifK (Nat.beq wd 0) (p sg') false) false) = p sg := by kernel_rfl
theorem Ks3 : SaysT TX 80 Ka3 Kv3 := says_of_C KA0_ok (primAll_su num0 KX LX) cl_ok Kr3
theorem Kr4 (p : List Fr → Bool) (sg : List Fr) : callC C0 KA0 TX.funs TX.prim 2000 80 Ka4 sg (fun v' sg' wd => ifK (veq v' Kv4) (ifK (Nat.beq wd 0) (p sg') false) false) = p sg := by kernel_rfl
theorem Ks4 : SaysT TX 80 Ka4 Kv4 := says_of_C KA0_ok (primAll_su num0 KX LX) cl_ok Kr4
theorem Kr5 (p : List Fr → Bool) (sg : List Fr) : callC C0 KA0 TX.funs TX.prim 2000 80 Ka5 sg (fun v' sg' wd => ifK (veq v' Kv5) (ifK (Nat.beq wd 0) (p sg') false) false) = p sg := by kernel_rfl
theorem Ks5 : SaysT TX 80 Ka5 Kv5 := says_of_C KA0_ok (primAll_su num0 KX LX) cl_ok Kr5
theorem Kr6 (p : List Fr → Bool) (sg : List Fr) : callC C0 KA0 TX.funs TX.prim 2000 80 Ka6 sg (fun v' sg' wd => ifK (veq v' Kv6) (ifK (Nat.beq wd 0) (p sg') false) false) = p sg := by kernel_rfl
theorem Ks6 : SaysT TX 80 Ka6 Kv6 := says_of_C KA0_ok (primAll_su num0 KX LX) cl_ok Kr6
theorem Kr0 (p : List Fr → Bool) (sg : List Fr) : callC C0 KA0 TX.funs TX.prim 2000 45 Ka0 sg (fun v' sg' wd => ifK (veq v' Kv0) (ifK (Nat.beq wd 0) (p sg') false) false) = p sg := by kernel_rfl
theorem Ks0 : SaysT TX 45 Ka0 Kv0 := says_of_C KA0_ok (primAll_su num0 KX LX) cl_ok Kr0
theorem Kr10 (p : List Fr → Bool) (sg : List Fr) : callC C0 KA0 TX.funs TX.prim 2000 145 Ka10 sg (fun v' sg' wd => ifK (veq v' Kv10) (ifK (Nat.beq wd 0) (p sg') false) false) = p sg := by kernel_rfl
theorem Ks10 : SaysT TX 145 Ka10 Kv10 := says_of_C KA0_ok (primAll_su num0 KX LX) cl_ok Kr10
theorem Kr24 (p : List Fr → Bool) (sg : List Fr) : callC C0 KA0 TX.funs TX.prim 2000 145 Ka24 sg (fun v' sg' wd => ifK (veq v' Kv24) (ifK (Nat.beq wd 0) (p sg') false) false) = p sg := by kernel_rfl
theorem Ks24 : SaysT TX 145 Ka24 Kv24 := says_of_C KA0_ok (primAll_su num0 KX LX) cl_ok Kr24
theorem Kr27 (p : List Fr → Bool) (sg : List Fr) : callC C0 KA0 TX.funs TX.prim 2000 145 Ka27 sg (fun v' sg' wd => ifK (veq v' Kv27) (ifK (Nat.beq wd 0) (p sg') false) false) = p sg := by kernel_rfl
theorem Ks27 : SaysT TX 145 Ka27 Kv27 := says_of_C KA0_ok (primAll_su num0 KX LX) cl_ok Kr27
theorem Kr30 (p : List Fr → Bool) (sg : List Fr) : callC C0 KA0 TX.funs TX.prim 2000 145 Ka30 sg (fun v' sg' wd => ifK (veq v' Kv30) (ifK (Nat.beq wd 0) (p sg') false) false) = p sg := by kernel_rfl
theorem Ks30 : SaysT TX 145 Ka30 Kv30 := says_of_C KA0_ok (primAll_su num0 KX LX) cl_ok Kr30
end Go.Vm

/- Printed by closed.py. -/
namespace Go.Vm
open Go
set_option maxRecDepth 1000000
noncomputable def Kk1_45 : List V → Option V := kM [(Ka0, Kv0)]
theorem Kk1_45_ok : KOk TX 45 Kk1_45 := kM_ok fun p hp => by
  simp only [List.mem_cons, List.mem_nil_iff, or_false] at hp
  rcases hp with rfl
  · exact ⟨(fun _ => rfl), (fun _ => rfl), Ks0⟩
noncomputable def Kk1_80 : List V → Option V := kM [(Ka14, Kv14), (Ka2, Kv2), (Ka3, Kv3), (Ka4, Kv4), (Ka5, Kv5), (Ka6, Kv6)]
theorem Kk1_80_ok : KOk TX 80 Kk1_80 := kM_ok fun p hp => by
  simp only [List.mem_cons, List.mem_nil_iff, or_false] at hp
  rcases hp with rfl | rfl | rfl | rfl | rfl | rfl
  · exact ⟨(fun _ => rfl), (fun _ => rfl), Ks14⟩
  · exact ⟨(fun _ => rfl), (fun _ => rfl), Ks2⟩
  · exact ⟨(fun _ => rfl), (fun _ => rfl), Ks3⟩
  · exact ⟨(fun _ => rfl), (fun _ => rfl), Ks4⟩
  · exact ⟨(fun _ => rfl), (fun _ => rfl), Ks5⟩
  · exact ⟨(fun _ => rfl), (fun _ => rfl), Ks6⟩
noncomputable def Kk1_145 : List V → Option V := kM [(Ka10, Kv10), (Ka24, Kv24), (Ka27, Kv27), (Ka30, Kv30)]
theorem Kk1_145_ok : KOk TX 145 Kk1_145 := kM_ok fun p hp => by
  simp only [List.mem_cons, List.mem_nil_iff, or_false] at hp
  rcases hp with rfl | rfl | rfl | rfl
  · exact ⟨(fun _ => rfl), (fun _ => rfl), Ks10⟩
  · exact ⟨(fun _ => rfl), (fun _ => rfl), Ks24⟩
  · exact ⟨(fun _ => rfl), (fun _ => rfl), Ks27⟩
  · exact ⟨(fun _ => rfl), (fun _ => rfl), Ks30⟩
noncomputable def KT1 : KT := (.node 80 Kk1_80 (.node 45 Kk1_45 .leaf .leaf) (.node 145 Kk1_145 .leaf .leaf))
theorem KT1_ok : KT1.Ok TX := ⟨Kk1_80_ok, ⟨Kk1_45_ok, trivial, trivial⟩, ⟨Kk1_145_ok, trivial, trivial⟩⟩
noncomputable def KA1 : Orc := orcL KT1 KA0
theorem KA1_ok {σ : Int → V} : OrcOk TX σ KA1 := orcL_ok KT1_ok KA0_ok
end Go.Vm
