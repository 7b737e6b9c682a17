/-
  A part of a proof: the last text of the claim says what is proved, and under which conditions.
-/
import Derived.Test.YtbhlbpeilmihcaaGreatDoorM12
import Derived.KernelRfl
set_option linter.unusedSimpArgs false
set_option linter.unusedVariables false
set_option linter.unnecessarySimpa false
/-
  Runs with numbers of which only a rest is looked at.
-/
namespace Go.Vm
open Go

/-- nothing unknown -/
noncomputable def orcQ (t : KT) : Orc := { B := fun _ _ _ => none, W := fun _ _ => none, E := fun _ _ _ => none, K := fun f => t.get f }
theorem orcQ_ok {T : Tab} {σ : Int → V} {t : KT} (h : t.Ok T) : OrcOk T σ (orcQ t) := ⟨(fun _ _ _ _ h => by cases h), (fun _ _ _ h => by cases h), (fun _ _ _ _ h => by cases h), fun f l v sg hk => KT.get_ok h f σ l v sg hk⟩

/-- numbers 0, 1: what came in; 2, 3: the same without a sign; their rests by m -/
noncomputable def remM (m : Int) (r : Nat → Int) (op : BinOp) (x y : V) : Option V := match op, x, y with
  | .rem, .int .i16 (.ofNat j), .int .u64 q => bif Nat.blt j 2 then none else bif q == m then some (.int .u64 (r (j - 2))) else none
  | _, _, _ => none
noncomputable def wrpM (k : IntKind) (x : V) : Option V := match k, x with
  | .u64, .int .i16 (.ofNat j) => bif Nat.blt j 2 then some (.int .i16 (.ofNat (j + 2))) else none
  | _, _ => none
noncomputable def orcM (t : KT) (m : Int) (r : Nat → Int) : Orc := { B := remM m r, W := wrpM, E := fun _ _ _ => none, K := fun f => t.get f }
def sgM (a : Nat → Int) : Int → V := fun z => match z with
  | .ofNat j => bif Nat.blt j 2 then .int .i64 (a j) else .int .u64 (IntKind.u64.wrap (a (j - 2)))
  | _ => .int .u64 0
theorem sgM_num (a : Nat → Int) : Num (sgM a) := by
  intro z
  unfold sgM
  split
  · rename_i j
    cases Nat.blt j 2 <;> exact ⟨_, _, rfl⟩
  · exact ⟨_, _, rfl⟩
theorem orcM_ok {T : Tab} {t : KT} (h : t.Ok T) {m : Int} {r a : Nat → Int} (hm : m ≠ 0) (hu : IntKind.u64.wrap m = m) (hr : ∀ j, (IntKind.u64.wrap (a j)).tmod m = r j) : OrcOk T (sgM a) (orcM t m r) := by
  refine ⟨fun op x y v hv => ?_, fun k x v hv => ?_, (fun _ _ _ _ h => by cases h), fun f l v sg hk => KT.get_ok h f _ l v sg hk⟩
  · replace hv : remM m r op x y = some v := hv
    unfold remM at hv
    split at hv
    · rename_i j q
      cases hj : Nat.blt j 2 with
      | true => rw [hj] at hv; cases hv
      | false =>
        rw [hj] at hv
        cases hq : q == m with
        | false => rw [hq] at hv; cases hv
        | true =>
          rw [hq] at hv
          have hq : q = m := by simpa using hq
          subst hq
          cases hv
          have e1 : su (sgM a) (.int .i16 (.ofNat j)) = .int .u64 (IntKind.u64.wrap (a (j - 2))) := by
            show sgM a (Int.ofNat j) = _
            simp only [sgM, hj, cond_false]
          rw [e1]
          show binI .rem .u64 (IntKind.u64.wrap (a (j - 2))) q = some (.int .u64 (r (j - 2)))
          have : (q == 0) = false := by simpa using hm
          simp only [binI, this, cond_false, hr]
    · cases hv
  · replace hv : wrpM k x = some v := hv
    unfold wrpM at hv
    split at hv
    · rename_i j
      cases hj : Nat.blt j 2 with
      | false => rw [hj] at hv; cases hv
      | true =>
        rw [hj] at hv
        cases hv
        refine ⟨.i64, a j, ?_, ?_⟩
        · show sgM a (Int.ofNat j) = _
          simp only [sgM, hj, cond_true]
        · show sgM a (Int.ofNat (j + 2)) = _
          have : Nat.blt (j + 2) 2 = false := by
            cases h : Nat.blt (j + 2) 2 with
            | false => rfl
            | true => exact absurd (by simpa [Nat.blt_eq] using h : j + 2 < 2) (by omega)
          simp only [sgM, this, cond_false, Nat.add_sub_cancel]
    · cases hv

set_option maxRecDepth 1000000 in
theorem ckV (p : List Fr → Bool) (sg : List Fr) : callC C0 (orcQ kQ) TX.funs TX.prim 2000 7 [] sg (fun v' sg' wd => ifK (veq v' (.bool true)) (ifK (Nat.beq wd 0) (p sg') false) false) = p sg := by kernel_rfl
theorem wakes_says : SaysT TX 7 [] (.bool true) := says_of_C (orcQ_ok kQ_ok) (primAll_su num0 KX LX) cl_ok ckV
end Go.Vm
