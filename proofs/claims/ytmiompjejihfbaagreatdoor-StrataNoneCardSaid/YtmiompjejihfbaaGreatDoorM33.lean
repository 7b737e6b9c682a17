/-
  Proved: for every input constablelaw17.StrataNone returns true and leaves its arguments as they were (the tied card of its row). Conditions: none but the row's own.
-/
import Derived.Test.YtmiompjejihfbaaGreatDoorM31
import Derived.Test.YtmiompjejihfbaaGreatDoorM32
import Derived.Test.YtmiompjejihfbaaGreatDoorM9
set_option linter.unusedSimpArgs false
set_option linter.unusedVariables false
set_option linter.unnecessarySimpa false
/- Printed by closed.py. -/
namespace Go.Vm
open Go
set_option maxRecDepth 1000000
theorem strataNone_rest (n m : Int) (hm : 0 < m) : 0 ≤ (IntKind.u64.wrap n).tmod m ∧ (IntKind.u64.wrap n).tmod m < m := by
  have h : 0 ≤ IntKind.u64.wrap n := by
    show 0 ≤ n.emod _
    exact Int.emod_nonneg _ (by decide)
  exact ⟨Int.tmod_nonneg _ h, Int.tmod_lt_of_pos _ hm⟩
theorem strataNone_all (a0 a1 : Int) : callC C0 (orcA 2 (fun j q => bif Nat.beq j 0 && q == 8 then some ((IntKind.u64.wrap a0).tmod 8) else bif Nat.beq j 1 && q == 3 then some ((IntKind.u64.wrap a1).tmod 3) else none) (fun _ _ => none) NA4) TX.funs TX.prim 2000 4 [.int .i16 0, .int .i16 1] [] endT = true := by
  obtain ⟨h0a, h0b⟩ := strataNone_rest a0 8 (by decide)
  generalize (IntKind.u64.wrap a0).tmod 8 = r0 at *
  have hr0 : r0 = 0 ∨ r0 = 1 ∨ r0 = 2 ∨ r0 = 3 ∨ r0 = 4 ∨ r0 = 5 ∨ r0 = 6 ∨ r0 = 7 := by omega
  obtain ⟨h1a, h1b⟩ := strataNone_rest a1 3 (by decide)
  generalize (IntKind.u64.wrap a1).tmod 3 = r1 at *
  have hr1 : r1 = 0 ∨ r1 = 1 ∨ r1 = 2 := by omega
  rcases hr0 with rfl | rfl | rfl | rfl | rfl | rfl | rfl | rfl <;> rcases hr1 with rfl | rfl | rfl
  · exact strataNone_0_0
  · exact strataNone_0_1
  · exact strataNone_0_2
  · exact strataNone_1_0
  · exact strataNone_1_1
  · exact strataNone_1_2
  · exact strataNone_2_0
  · exact strataNone_2_1
  · exact strataNone_2_2
  · exact strataNone_3_0
  · exact strataNone_3_1
  · exact strataNone_3_2
  · exact strataNone_4_0
  · exact strataNone_4_1
  · exact strataNone_4_2
  · exact strataNone_5_0
  · exact strataNone_5_1
  · exact strataNone_5_2
  · exact strataNone_6_0
  · exact strataNone_6_1
  · exact strataNone_6_2
  · exact strataNone_7_0
  · exact strataNone_7_1
  · exact strataNone_7_2
theorem strataNone_run (a0 a1 : Int) : ∃ wd, TX.call 4 [.int .i64 a0, .int .i64 a1] [] = some (.bool true, [], wd) := by
  refine true_of_C (σ := sgA 2 (fun j => if j = 0 then a0 else a1)) (sgA_num _ _) (orcA_ok (ru := (fun j q => bif Nat.beq j 0 && q == 8 then some ((IntKind.u64.wrap a0).tmod 8) else bif Nat.beq j 1 && q == 3 then some ((IntKind.u64.wrap a1).tmod 3) else none)) (rs := fun _ _ => none) NA4_ok ?_ (fun _ _ _ h => by cases h)) (primAll_su (sgA_num _ _) KX LX) cl_ok (strataNone_all a0 a1)
  intro j q z h
  cases h0 : (Nat.beq j 0 && q == 8) with
  | true =>
    rw [h0] at h
    cases h
    simp only [Bool.and_eq_true, beq_iff_eq] at h0
    obtain ⟨e1, rfl⟩ := h0
    have e1 := Nat.eq_of_beq_eq_true e1
    subst e1
    exact ⟨by decide, rfl⟩
  | false =>
  rw [h0] at h
  simp only [cond_false] at h
  cases h1 : (Nat.beq j 1 && q == 3) with
  | true =>
    rw [h1] at h
    cases h
    simp only [Bool.and_eq_true, beq_iff_eq] at h1
    obtain ⟨e1, rfl⟩ := h1
    have e1 := Nat.eq_of_beq_eq_true e1
    subst e1
    exact ⟨by decide, rfl⟩
  | false =>
  rw [h1] at h
  simp only [cond_false] at h
  cases h
end Go.Vm

/-
  StrataNone: the row and its card, from the run.
-/
namespace Go.Proofs.YtmiompjejihfbaaGreatDoor
open Go Go.Vm Go.ChangeShapes Go.WideShapes Go.ChangeAt Go.RowKit

set_option maxRecDepth 100000 in
theorem lifted4 (os : Os) (started : os.Started) (H : Type) (enc : TypeId × Value → H) :
    ReturnsInHanded {} Tryz.checked os 4 .any (fun w args => (Rows.strataNoneSpec.pre enc Tryz.prog Tryz.f4 [] false w args ∧ laidMetH Tryz.prog Rows.strataNoneRow.laid w) ∧ sizedMet enc Tryz.prog Tryz.f4 (OpenSpec.ofChange Rows.strataNoneSpec) false w args)
      (Rows.strataNoneSpec.post enc Tryz.prog Tryz.f4 false true false false) := by
  refine returnsInHanded_of_change_and (C := Tryz.checked) (X := fun w _ => laidMetH Tryz.prog Rows.strataNoneRow.laid w) (fun _ _ _ hh h => h.of_heap hh) own started (by kernel_rfl) Tryz.func4
    (ChangeSpec.witness_shaped (enc := enc) (C := Tryz.checked) (os := os) (X := fun w _ => laidMetH Tryz.prog Rows.strataNoneRow.laid w) false (World.laidAll Tryz.prog os Rows.strataNoneRow.laid) #[.int .i64 0, .int .i64 0] 8 (World.laidAll_os _ _ _)
      (World.shaped_of_ZipB (by kernel_rfl) (by kernel_rfl)) (by kernel_rfl) (by kernel_rfl) (by kernel_rfl)
      (by rw [MakeChecks.laidMetH_plain _ _ _ (by kernel_rfl)]; exact laidMet_laidAll _ (by kernel_rfl) (by kernel_rfl))) ?_
  intro W base args ds gs before hval0 hW _ _ _ _
  have hval : ∀ (j : Nat) t v, Tryz.f4.params[j]? = some t → args[j]? = some v → Value.okWide Tryz.prog W .any base t v := hval0
  have hW' := hW
  obtain ⟨p, q, hA0, hV, rfl, _, _⟩ := hW
  have hA : DataW.TrodAll enc Tryz.prog W 0 (fun _ => true) true Tryz.f4.params.toList args.toList ds p := hA0
  rw [Tryz.params4] at hA hval
  obtain ⟨v0, v1, d0, d1, p0, p1, rfl, rfl, rfl, h0, h1⟩ := trodAll_two hA
  obtain ⟨rfl, rfl⟩ := trodVars_none hV
  obtain ⟨a0, rfl, rfl, rfl, w0⟩ := open_int Tryz.underlying3 (hval 0 3 v0 rfl rfl) h0
  obtain ⟨a1, rfl, rfl, rfl, w1⟩ := open_int Tryz.underlying3 (hval 1 3 v1 rfl rfl) h1
  obtain ⟨wd, hcall⟩ := strataNone_run a0 a1
  simp only [List.append_nil] at hW'
  refine (top_ok (P := Tryz.prog) (T := TX) orders funs_ok prim_ok prim_q (F := c4) rfl hcall (A := #[.int .i64 a0, .int .i64 a1]) (w := W) rfl (fun j x y hx hy => ?_)).mono fun e W' he => ?_
  · match j, hx, hy with
    | 0, hx, hy => cases hx; cases hy; exact .int _ _
    | 1, hx, hy => cases hx; cases hy; exact .int _ _
    | j + 2, hx, hy => simp at hx
  · cases e with
    | returned cv =>
      obtain ⟨rfl, hb⟩ := he
      exact ⟨_, rfl, post_of_below (pa := []) (pv := []) hW' (fun _ _ _ => trodAll_mk1 (shut_bool Tryz.underlying4 _)) (fun sp _ => trodAll_mk2 (shut_int Tryz.underlying3 w0) (shut_int Tryz.underlying3 w1)) (fun _ _ => rfl) rfl hb (ok_one (by kernel_rfl) rfl (okWide_bool_mk Tryz.underlying4 _))⟩
    | panicked _ => cases he
    | outgrown => cases he

theorem holds4 : Rows.StrataNoneSaid :=
  OpenClaim.holds_of_wide 4 Tryz.f4 rfl rfl rfl rfl rfl rfl rfl ⟨rfl, rfl, rfl, rfl, rfl⟩ rfl rfl rfl rfl rfl (by kernel_rfl) Tryz.func4 (by kernel_rfl)
    (of_decide_eq_true (by kernel_rfl)) (by unfold Func.isWrapper; first | (rw [if_pos (by decide +kernel)]; kernel_rfl) | (rw [if_neg (by decide +kernel)]; exact ⟨rfl, rfl⟩))
    (fun os started H enc _ => lifted4 os started H enc)
theorem strataNone : Rows.StrataNoneCardSaid :=
  Claim7.holds_tied_plain_at .later [] [.data, .data, .data, .data, .sentinel, .sentinel, .pinned] true (true, "7f4a7c9307ab13e7b9d7b8e21a154f6f43745775e88e22088de66c556b1ae471") true holds4 (fun _ h => by cases h) (by kernel_rfl) (fun _ h => by cases h) strataNone_row_tie rfl ⟨rfl, rfl⟩ (by kernel_rfl) rfl
    (fun f fn hf hfn => by
      obtain rfl : f = 4 := Option.some.inj ((show Tryz.prog.funcNamed "constable/constablelaw17.StrataNone" = some 4 by kernel_rfl).symm.trans hf) |>.symm
      obtain rfl : fn = Tryz.f4 := (Option.some.inj (Tryz.func4.symm.trans hfn)).symm
      exact ⟨by kernel_rfl, fun j t ht => by
        rw [Tryz.params4] at ht
        have hm : t ∈ [3, 3] := by simpa using Array.mem_of_getElem? ht
        have hall : ([3, 3].all fun u => !Tryz.prog.wantsStandIn u) = true := by kernel_rfl
        exact (show Tryz.prog.wantsStandIn t = false by simpa using List.all_eq_true.1 hall t hm)⟩)
    (by kernel_rfl)
#print axioms strataNone
end Go.Proofs.YtmiompjejihfbaaGreatDoor
