/-
  Proved: for every input constablelaw16.SafePatterns returns true and leaves its arguments as they were (the tied card of its row). Conditions: none but the row's own.
-/
import Derived.Test.YtmiompjejihfbaaGreatDoorM18
import Derived.Test.YtmiompjejihfbaaGreatDoorM9
set_option linter.unusedSimpArgs false
set_option linter.unusedVariables false
set_option linter.unnecessarySimpa false
/- Printed by closed.py. -/
namespace Go.Vm
open Go
set_option maxRecDepth 1000000
theorem safePatterns_rest (n m : Int) (hm : 0 < m) : 0 ≤ (IntKind.u64.wrap n).tmod m ∧ (IntKind.u64.wrap n).tmod m < m := by
  have h : 0 ≤ IntKind.u64.wrap n := by
    show 0 ≤ n.emod _
    exact Int.emod_nonneg _ (by decide)
  exact ⟨Int.tmod_nonneg _ h, Int.tmod_lt_of_pos _ hm⟩
theorem safePatterns_all (a0 : Int) : callC C0 (orcA 1 (fun j q => bif Nat.beq j 0 && q == 10 then some ((IntKind.u64.wrap a0).tmod 10) else none) (fun _ _ => none) SA4) TX.funs TX.prim 2000 3 [.int .i16 0] [] endT = true := by
  obtain ⟨h0a, h0b⟩ := safePatterns_rest a0 10 (by decide)
  generalize (IntKind.u64.wrap a0).tmod 10 = r0 at *
  have hr0 : r0 = 0 ∨ r0 = 1 ∨ r0 = 2 ∨ r0 = 3 ∨ r0 = 4 ∨ r0 = 5 ∨ r0 = 6 ∨ r0 = 7 ∨ r0 = 8 ∨ r0 = 9 := by omega
  rcases hr0 with rfl | rfl | rfl | rfl | rfl | rfl | rfl | rfl | rfl | rfl
  · exact safePatterns_0
  · exact safePatterns_1
  · exact safePatterns_2
  · exact safePatterns_3
  · exact safePatterns_4
  · exact safePatterns_5
  · exact safePatterns_6
  · exact safePatterns_7
  · exact safePatterns_8
  · exact safePatterns_9
theorem safePatterns_run (a0 : Int) : ∃ wd, TX.call 3 [.int .i64 a0] [] = some (.bool true, [], wd) := by
  refine true_of_C (σ := sgA 1 (fun _ => a0)) (sgA_num _ _) (orcA_ok (ru := (fun j q => bif Nat.beq j 0 && q == 10 then some ((IntKind.u64.wrap a0).tmod 10) else none)) (rs := fun _ _ => none) SA4_ok ?_ (fun _ _ _ h => by cases h)) (primAll_su (sgA_num _ _) KX LX) cl_ok (safePatterns_all a0)
  intro j q z h
  cases h0 : (Nat.beq j 0 && q == 10) with
  | true =>
    rw [h0] at h
    cases h
    simp only [Bool.and_eq_true, beq_iff_eq] at h0
    obtain ⟨e1, rfl⟩ := h0
    have e1 := Nat.eq_of_beq_eq_true e1
    subst e1
    exact ⟨by decide, rfl⟩
  | false =>
  rw [h0] at h
  simp only [cond_false] at h
  cases h
end Go.Vm

/-
  SafePatterns: the row and its card, from the run.
-/
namespace Go.Proofs.YtmiompjejihfbaaGreatDoor
open Go Go.Vm Go.ChangeShapes Go.WideShapes Go.ChangeAt Go.RowKit

set_option maxRecDepth 100000 in
theorem lifted3 (os : Os) (started : os.Started) (H : Type) (enc : TypeId × Value → H) :
    ReturnsInHanded {} Tryz.checked os 3 .any (fun w args => (Rows.safePatternsSpec.pre enc Tryz.prog Tryz.f3 [] false w args ∧ laidMetH Tryz.prog Rows.safePatternsRow.laid w) ∧ sizedMet enc Tryz.prog Tryz.f3 (OpenSpec.ofChange Rows.safePatternsSpec) false w args)
      (Rows.safePatternsSpec.post enc Tryz.prog Tryz.f3 false true false false) := by
  refine returnsInHanded_of_change_and (C := Tryz.checked) (X := fun w _ => laidMetH Tryz.prog Rows.safePatternsRow.laid w) (fun _ _ _ hh h => h.of_heap hh) own started (by kernel_rfl) Tryz.func3
    (ChangeSpec.witness_shaped (enc := enc) (C := Tryz.checked) (os := os) (X := fun w _ => laidMetH Tryz.prog Rows.safePatternsRow.laid w) false (World.laidAll Tryz.prog os Rows.safePatternsRow.laid) #[.int .i64 0] 8 (World.laidAll_os _ _ _)
      (World.shaped_of_ZipB (by kernel_rfl) (by kernel_rfl)) (by kernel_rfl) (by kernel_rfl) (by kernel_rfl)
      (by rw [MakeChecks.laidMetH_plain _ _ _ (by kernel_rfl)]; exact laidMet_laidAll _ (by kernel_rfl) (by kernel_rfl))) ?_
  intro W base args ds gs before hval0 hW _ _ _ _
  have hval : ∀ (j : Nat) t v, Tryz.f3.params[j]? = some t → args[j]? = some v → Value.okWide Tryz.prog W .any base t v := hval0
  have hW' := hW
  obtain ⟨p, q, hA0, hV, rfl, _, _⟩ := hW
  have hA : DataW.TrodAll enc Tryz.prog W 0 (fun _ => true) true Tryz.f3.params.toList args.toList ds p := hA0
  rw [Tryz.params3] at hA hval
  obtain ⟨v0, d0, rfl, rfl, h0⟩ := trodAll_one hA
  obtain ⟨rfl, rfl⟩ := trodVars_none hV
  obtain ⟨a0, rfl, rfl, rfl, w0⟩ := open_int Tryz.underlying3 (hval 0 3 v0 rfl rfl) h0
  obtain ⟨wd, hcall⟩ := safePatterns_run a0
  try simp only [List.append_nil] at hW'
  refine (top_ok (P := Tryz.prog) (T := TX) orders funs_ok prim_ok prim_q (F := c3) rfl hcall (A := #[.int .i64 a0]) (w := W) rfl (fun j x y hx hy => ?_)).mono fun e W' he => ?_
  · match j, hx, hy with
    | 0, hx, hy => cases hx; cases hy; exact .int _ _
    | j + 1, hx, hy => simp at hx
  · cases e with
    | returned cv =>
      obtain ⟨rfl, hb⟩ := he
      exact ⟨_, rfl, post_of_below (pa := []) (pv := []) hW' (fun _ _ _ => trodAll_mk1 (shut_bool Tryz.underlying4 _)) (fun sp _ => trodAll_mk1 (shut_int Tryz.underlying3 w0)) (fun _ _ => rfl) rfl hb (ok_one (by kernel_rfl) rfl (okWide_bool_mk Tryz.underlying4 _))⟩
    | panicked _ => cases he
    | outgrown => cases he

theorem holds3 : Rows.SafePatternsSaid :=
  OpenClaim.holds_of_wide 3 Tryz.f3 rfl rfl rfl rfl rfl rfl rfl ⟨rfl, rfl, rfl, rfl, rfl⟩ rfl rfl rfl rfl rfl (by kernel_rfl) Tryz.func3 (by kernel_rfl)
    (of_decide_eq_true (by kernel_rfl)) (by unfold Func.isWrapper; first | (rw [if_pos (by decide +kernel)]; kernel_rfl) | (rw [if_neg (by decide +kernel)]; exact ⟨rfl, rfl⟩))
    (fun os started H enc _ => lifted3 os started H enc)
theorem safePatterns : Rows.SafePatternsCardSaid :=
  Claim7.holds_tied_plain_at .later [] [.data, .data, .data, .data, .sentinel, .sentinel, .pinned] true (true, "7f4a7c9307ab13e7b9d7b8e21a154f6f43745775e88e22088de66c556b1ae471") true holds3 (fun _ h => by cases h) (by kernel_rfl) (fun _ h => by cases h) safePatterns_row_tie rfl ⟨rfl, rfl⟩ (by kernel_rfl) rfl
    (fun f fn hf hfn => by
      obtain rfl : f = 3 := Option.some.inj ((show Tryz.prog.funcNamed "constable/constablelaw16.SafePatterns" = some 3 by kernel_rfl).symm.trans hf) |>.symm
      obtain rfl : fn = Tryz.f3 := (Option.some.inj (Tryz.func3.symm.trans hfn)).symm
      exact ⟨by kernel_rfl, fun j t ht => by
        rw [Tryz.params3] at ht
        have hm : t ∈ [3] := by simpa using Array.mem_of_getElem? ht
        have hall : ([3].all fun u => !Tryz.prog.wantsStandIn u) = true := by kernel_rfl
        exact (show Tryz.prog.wantsStandIn t = false by simpa using List.all_eq_true.1 hall t hm)⟩)
    (by kernel_rfl)
#print axioms safePatterns
end Go.Proofs.YtmiompjejihfbaaGreatDoor
