/-
  A part of a proof: the last text of the claim says what is proved, and under which conditions.
-/
import Derived.Test.YtfdmcaddpfmchaaGreatDoorM15
import Derived.Test.YtfdmcaddpfmchaaGreatDoorM9
import Derived.Test.YtfdmcaddpfmchaaGreatDoorM18
import Derived.WideKeyArgs
import Derived.Carry
set_option linter.unusedSimpArgs false
set_option linter.unusedVariables false
set_option linter.unnecessarySimpa false
/-
  AlphaAlike: the row and its card, from the run.
-/
namespace Go.Proofs.YtfdmcaddpfmchaaGreatDoor
open Go Go.Vm Go.ChangeShapes Go.WideShapes Go.ChangeAt Go.RowKit

theorem laidOut10 : laidOutB Tryz.prog = true := by kernel_rfl
theorem fits10_0 : fits Tryz.prog (.st [.str, .sl 4 (.st [.str, .st [.int .i64, .int .i64, .str]])]) 43 = true := by kernel_rfl
theorem rec10_0 : Tryz.prog.readableRec 43 = true := by kernel_rfl
theorem row10_0 : 43 < Tryz.prog.types.size := of_decide_eq_true (by kernel_rfl)
theorem fits10_1 : fits Tryz.prog (.st [.str, .sl 4 (.st [.str, .st [.int .i64, .int .i64, .str]])]) 43 = true := by kernel_rfl
theorem rec10_1 : Tryz.prog.readableRec 43 = true := by kernel_rfl
theorem row10_1 : 43 < Tryz.prog.types.size := of_decide_eq_true (by kernel_rfl)
theorem fits10_2 : fits Tryz.prog (.st [.str, .sl 4 (.st [.str, .st [.int .i64, .int .i64, .str]])]) 43 = true := by kernel_rfl
theorem rec10_2 : Tryz.prog.readableRec 43 = true := by kernel_rfl
theorem row10_2 : 43 < Tryz.prog.types.size := of_decide_eq_true (by kernel_rfl)
theorem fits10_3 : fits Tryz.prog (.st [.str, .sl 3 (.st [.int .i64, .int .i64, .str])]) 91 = true := by kernel_rfl
theorem rec10_3 : Tryz.prog.readableRec 91 = true := by kernel_rfl
theorem row10_3 : 91 < Tryz.prog.types.size := of_decide_eq_true (by kernel_rfl)
set_option maxRecDepth 100000 in
theorem lifted10 (os : Os) (started : os.Started) (H : Type) (enc : TypeId × Value → H) :
    ReturnsInHanded {} Tryz.checked os 10 .any (fun w args => (Rows.alphaAlikeSpec.pre enc Tryz.prog Tryz.f10 [] false w args ∧ laidMetH Tryz.prog Rows.alphaAlikeRow.laid w) ∧ sizedMet enc Tryz.prog Tryz.f10 (OpenSpec.ofChange Rows.alphaAlikeSpec) false w args)
      (Rows.alphaAlikeSpec.post enc Tryz.prog Tryz.f10 false true false false) := by
  refine returnsInHanded_of_change_and (C := Tryz.checked) (X := fun w _ => laidMetH Tryz.prog Rows.alphaAlikeRow.laid w) (fun _ _ _ hh h => h.of_heap hh) own started (by kernel_rfl) Tryz.func10
    (ChangeSpec.witness_shaped (enc := enc) (C := Tryz.checked) (os := os) (X := fun w _ => laidMetH Tryz.prog Rows.alphaAlikeRow.laid w) false (World.laidAll Tryz.prog os Rows.alphaAlikeRow.laid) #[.agg #[.string ByteArray.empty, .slice none 0 0], .agg #[.string ByteArray.empty, .slice none 0 0], .agg #[.string ByteArray.empty, .slice none 0 0], .agg #[.string ByteArray.empty, .slice none 0 0]] 8 (World.laidAll_os _ _ _)
      (World.shaped_of_ZipB (by kernel_rfl) (by kernel_rfl)) (by kernel_rfl) (by kernel_rfl) (by kernel_rfl)
      (by rw [MakeChecks.laidMetH_plain _ _ _ (by kernel_rfl)]; exact laidMet_laidAll _ (by kernel_rfl) (by kernel_rfl))) ?_
  intro W base args ds gs before hval0 hW _ hwt hX _
  have hval : ∀ (j : Nat) t v, Tryz.f10.params[j]? = some t → args[j]? = some v → Value.okWide Tryz.prog W .any base t v := hval0
  have hW' := hW
  obtain ⟨p, q, hA0, hV, rfl, _, _⟩ := hW
  have hA : DataW.TrodAll enc Tryz.prog W 0 (fun _ => true) true Tryz.f10.params.toList args.toList ds p := hA0
  rw [Tryz.params10] at hA hval hwt
  obtain ⟨v0, v1, v2, v3, d0, d1, d2, d3, p0, p1, p2, p3, rfl, rfl, rfl, h0, h1, h2, h3⟩ := trodAll_four hA
  obtain ⟨rfl, rfl⟩ := trodVars_none hV
  obtain ⟨x0, hx0, r0⟩ := open_val fits10_0 (hval 0 43 v0 rfl rfl) h0 (weightsEach_get hwt (j := 0) rfl rfl)
  obtain ⟨x1, hx1, r1⟩ := open_val fits10_1 (hval 1 43 v1 rfl rfl) h1 (weightsEach_get hwt (j := 1) rfl rfl)
  obtain ⟨x2, hx2, r2⟩ := open_val fits10_2 (hval 2 43 v2 rfl rfl) h2 (weightsEach_get hwt (j := 2) rfl rfl)
  obtain ⟨x3, hx3, r3⟩ := open_val fits10_3 (hval 3 91 v3 rfl rfl) h3 (weightsEach_get hwt (j := 3) rfl rfl)
  obtain ⟨wd, hcall⟩ := alphaAlike_run x0 x1 x2 x3 hx0 hx1 hx2 hx3
  refine (top_ok (KW := KWX) (P := Tryz.prog) (T := TX) orders funs_ok prim_ok prim_q (F := c10) rfl hcall (A := #[v0, v1, v2, v3]) (w := W) (keepsX (show KWX W from trivial)) (show KWX W from trivial) rfl (fun j x y hx hy => ?_)).mono fun e W' he => ?_
  · match j, hx, hy with
    | 0, hx, hy => cases hx; cases hy; exact r0
    | 1, hx, hy => cases hx; cases hy; exact r1
    | 2, hx, hy => cases hx; cases hy; exact r2
    | 3, hx, hy => cases hx; cases hy; exact r3
    | j + 4, hx, hy => simp at hx
  · cases e with
    | returned cv =>
      obtain ⟨rfl, hb⟩ := he
      have hlt := fun x hx => hW'.lt x hx
      refine ⟨_, rfl, post_of_below (pa := (p0 ++ (p1 ++ (p2 ++ p3)))) (pv := []) hW' (fun _ _ _ => trodAll_mk1 (shut_bool Tryz.underlying4 _)) (fun sp hsp => ?_) (fun _ _ => rfl) (by simp) hb (ok_one (by kernel_rfl) rfl (okWide_bool_mk Tryz.underlying4 _))⟩
      rw [Tryz.params10]
      exact trodAll_mk4 (WideElems.Trod_stays laidOut10 rec10_0 row10_0 h0 (fun x hx => hb.same (hlt x (by simp [hx]))) (fun x hx => hsp x (by simp [hx]))) (WideElems.Trod_stays laidOut10 rec10_1 row10_1 h1 (fun x hx => hb.same (hlt x (by simp [hx]))) (fun x hx => hsp x (by simp [hx]))) (WideElems.Trod_stays laidOut10 rec10_2 row10_2 h2 (fun x hx => hb.same (hlt x (by simp [hx]))) (fun x hx => hsp x (by simp [hx]))) (WideElems.Trod_stays laidOut10 rec10_3 row10_3 h3 (fun x hx => hb.same (hlt x (by simp [hx]))) (fun x hx => hsp x (by simp [hx])))
    | panicked _ => cases he
    | outgrown => cases he

end Go.Proofs.YtfdmcaddpfmchaaGreatDoor
