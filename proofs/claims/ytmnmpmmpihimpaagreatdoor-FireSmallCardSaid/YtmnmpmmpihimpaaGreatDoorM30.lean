/-
  A part of a proof: the last text of the claim says what is proved, and under which conditions.
-/
import Derived.Test.YtmnmpmmpihimpaaGreatDoorM9
import Derived.Test.YtmnmpmmpihimpaaGreatDoorM4
import Derived.Test.YtmnmpmmpihimpaaGreatDoorM29
import Derived.WideKeyArgs
import Derived.Carry
set_option linter.unusedSimpArgs false
set_option linter.unusedVariables false
set_option linter.unnecessarySimpa false
/-
  FireSmall: the row and its card, from the run.
-/
namespace Go.Proofs.YtmnmpmmpihimpaaGreatDoor
open Go Go.Vm Go.ChangeShapes Go.WideShapes Go.ChangeAt Go.RowKit

theorem laidOut5 : laidOutB Tryz.prog = true := by kernel_rfl
theorem fits5_0 : fits Tryz.prog (.sl 1 (.bool)) 55 = true := by kernel_rfl
theorem rec5_0 : Tryz.prog.readableRec 55 = true := by kernel_rfl
theorem row5_0 : 55 < Tryz.prog.types.size := of_decide_eq_true (by kernel_rfl)
theorem fits5_1 : fits Tryz.prog (.int .i64) 3 = true := by kernel_rfl
theorem rec5_1 : Tryz.prog.readableRec 3 = true := by kernel_rfl
theorem row5_1 : 3 < Tryz.prog.types.size := of_decide_eq_true (by kernel_rfl)
set_option maxRecDepth 100000 in
theorem lifted5 (os : Os) (started : os.Started) (H : Type) (enc : TypeId × Value → H) :
    ReturnsInHanded {} Tryz.checked os 5 .any (fun w args => (Rows.fireSmallSpec.pre enc Tryz.prog Tryz.f5 [] false w args ∧ laidMetH Tryz.prog Rows.fireSmallRow.laid w) ∧ sizedMet enc Tryz.prog Tryz.f5 (OpenSpec.ofChange Rows.fireSmallSpec) false w args)
      (Rows.fireSmallSpec.post enc Tryz.prog Tryz.f5 false true false false) := by
  refine returnsInHanded_of_change_and (C := Tryz.checked) (X := fun w _ => laidMetH Tryz.prog Rows.fireSmallRow.laid w) (fun _ _ _ hh h => h.of_heap hh) own started (by kernel_rfl) Tryz.func5
    (ChangeSpec.witness_shaped (enc := enc) (C := Tryz.checked) (os := os) (X := fun w _ => laidMetH Tryz.prog Rows.fireSmallRow.laid w) false (World.laidAll Tryz.prog os Rows.fireSmallRow.laid) #[.slice none 0 0, .int .i64 0] 8 (World.laidAll_os _ _ _)
      (World.shaped_of_ZipB (by kernel_rfl) (by kernel_rfl)) (by kernel_rfl) (by kernel_rfl) (by kernel_rfl)
      (by rw [MakeChecks.laidMetH_plain _ _ _ (by kernel_rfl)]; exact laidMet_laidAll _ (by kernel_rfl) (by kernel_rfl))) ?_
  intro W base args ds gs before hval0 hW _ hwt _ _
  have hval : ∀ (j : Nat) t v, Tryz.f5.params[j]? = some t → args[j]? = some v → Value.okWide Tryz.prog W .any base t v := hval0
  have hW' := hW
  obtain ⟨p, q, hA0, hV, rfl, _, _⟩ := hW
  have hA : DataW.TrodAll enc Tryz.prog W 0 (fun _ => true) true Tryz.f5.params.toList args.toList ds p := hA0
  rw [Tryz.params5] at hA hval hwt
  obtain ⟨v0, v1, d0, d1, p0, p1, rfl, rfl, rfl, h0, h1⟩ := trodAll_two hA
  obtain ⟨rfl, rfl⟩ := trodVars_none hV
  obtain ⟨x0, hx0, r0⟩ := open_val fits5_0 (hval 0 55 v0 rfl rfl) h0 (weightsEach_get hwt (j := 0) rfl rfl)
  obtain ⟨x1, hx1, r1⟩ := open_val fits5_1 (hval 1 3 v1 rfl rfl) h1 (weightsEach_get hwt (j := 1) rfl rfl)
  obtain ⟨wd, hcall⟩ := small_run x0 x1 hx0 hx1
  refine (top_ok (P := Tryz.prog) (T := TX) orders funs_ok prim_ok prim_q (F := c5) rfl hcall (A := #[v0, v1]) (w := W) rfl (fun j x y hx hy => ?_)).mono fun e W' he => ?_
  · match j, hx, hy with
    | 0, hx, hy => cases hx; cases hy; exact r0
    | 1, hx, hy => cases hx; cases hy; exact r1
    | j + 2, hx, hy => simp at hx
  · cases e with
    | returned cv =>
      obtain ⟨rfl, hb⟩ := he
      have hlt := fun x hx => hW'.lt x hx
      refine ⟨_, rfl, post_of_below (pa := (p0 ++ p1)) (pv := []) hW' (fun _ _ _ => trodAll_mk1 (shut_bool Tryz.underlying4 _)) (fun sp hsp => ?_) (fun _ _ => rfl) (by simp) hb (ok_one (by kernel_rfl) rfl (okWide_bool_mk Tryz.underlying4 _))⟩
      rw [Tryz.params5]
      exact trodAll_mk2 (WideElems.Trod_stays laidOut5 rec5_0 row5_0 h0 (fun x hx => hb.same (hlt x (by simp [hx]))) (fun x hx => hsp x (by simp [hx]))) (WideElems.Trod_stays laidOut5 rec5_1 row5_1 h1 (fun x hx => hb.same (hlt x (by simp [hx]))) (fun x hx => hsp x (by simp [hx])))
    | panicked _ => cases he
    | outgrown => cases he

end Go.Proofs.YtmnmpmmpihimpaaGreatDoor
