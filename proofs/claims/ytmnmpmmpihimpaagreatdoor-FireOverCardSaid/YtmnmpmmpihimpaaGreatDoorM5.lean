/-
  A part of a proof: the last text of the claim says what is proved, and under which conditions.
-/
import Derived.Test.YtmnmpmmpihimpaaGreatDoorM3
import Derived.Test.YtmnmpmmpihimpaaGreatDoorM4
import Derived.Shelf.Strconv.Itoa3
set_option linter.unusedSimpArgs false
set_option linter.unusedVariables false
set_option linter.unnecessarySimpa false
/-
  The machine V: the text of a number: Go's own routine (it reads a table: what is known of the world), by the library's contract.
-/
namespace Go.Vm
open Go Go.RowKit Go.Sort Go.Proofs Go.Shelf

def decF : Nat → Nat → List UInt8 → List UInt8
  | 0, _, acc => acc
  | k + 1, u, acc => bif Nat.blt u 10 then UInt8.ofNat (48 + u) :: acc else decF k (u / 10) (UInt8.ofNat (48 + u % 10) :: acc)
theorem decF_eq : ∀ (k u : Nat) (acc : List UInt8), u < 10 ^ (k + 1) → decF (k + 1) u acc = Lib.decDigits u ++ acc
  | k, u, acc, h => by
    rw [Lib.decDigits]
    unfold decF
    by_cases hu : u < 10
    · have hb : Nat.blt u 10 = true := by simpa [Nat.blt_eq] using hu
      rw [hb, dif_pos hu]; rfl
    · have hb : Nat.blt u 10 = false := by
        rw [← Bool.not_eq_true, Nat.blt_eq]; exact hu
      rw [hb, dif_neg hu]
      cases k with
      | zero => simp at h; omega
      | succ k =>
        have hd : u / 10 < 10 ^ (k + 1) := by
          rw [Nat.div_lt_iff_lt_mul (by decide)]
          rw [Nat.pow_succ] at h; omega
        simp only [cond_false]
        rw [decF_eq k (u / 10) _ hd, List.append_assoc]; rfl
def itoaF : Int → List UInt8
  | .ofNat u => decF 20 u []
  | .negSucc u => 45 :: decF 20 (u + 1) []
def i64in (n : Int) : Bool := decide (-9223372036854775808 ≤ n) && decide (n ≤ 9223372036854775807)
theorem itoaF_eq {n : Int} (h0 : -9223372036854775808 ≤ n) (h1 : n ≤ 9223372036854775807) : itoaF n = Lib.itoa n := by
  cases n with
  | ofNat u =>
    have hu : u < 10 ^ (19 + 1) := by
      have e : Int.ofNat u = (u : Int) := rfl
      rw [e] at h1; omega
    have : ¬ (Int.ofNat u < 0) := by
      have e : Int.ofNat u = (u : Int) := rfl
      rw [e]; omega
    unfold Lib.itoa
    rw [if_neg this]
    exact (decF_eq 19 u [] hu).trans (List.append_nil _)
  | negSucc u =>
    have hu : u + 1 < 10 ^ (19 + 1) := by omega
    have : Int.negSucc u < 0 := by omega
    unfold Lib.itoa
    rw [if_pos this]
    exact congrArg (45 :: ·) ((decF_eq 19 (u + 1) [] hu).trans (List.append_nil _))

/-- what is known of the world: the table of powers -/
def KWt (P : Program) : World → Prop := fun w => Lib.TabIs P w "internal/strconv.uint64pow10" .u64 Lib.pow10Tab
theorem KWt_keeps {P : Program} {w : World} (hw : KWt P w) : ∀ w1 w2 : World, Below w.heap.size w1 w2 → KWt P w1 → KWt P w2 := by
  intro w1 w2 hb h
  unfold KWt Lib.TabIs World.var? at hw h ⊢
  generalize P.globalNamed "internal/strconv.uint64pow10" = q at hw h ⊢
  cases q with
  | none => cases hw
  | some g =>
    simp only [Option.bind_some] at hw h ⊢
    have hlt : g < w.heap.size := by
      rcases Nat.lt_or_ge g w.heap.size with h' | h'
      · exact h'
      · rw [Array.getElem?_eq_none h'] at hw; cases hw
    rw [hb.block g hlt]
    exact h

/-- what the routine's number is -/
structure FmtFn (P : Program) (f : FuncId) : Prop where
  enter : ∀ (A : Array Value) (w : World), (callFunc f A).run P w = .ok (.enter f A) w
  tells : ∀ (n : Int), -9223372036854775808 ≤ n → n ≤ 9223372036854775807 → ∀ w : World, KWt P w →
    Calls P f #[.int .i64 n, .int .i64 10] w fun e w' => e = .returned (.string ⟨(Lib.itoa n).toArray⟩) ∧ ∃ k os, w' = grow (w.drewN k) os

def fmtX : List V → List Fr → Option (V × List Fr × Nat)
  | [.int .i64 n, .int .i64 (.ofNat 10)], sg => bif i64in n then some (.str (itoaF n), sg, 0) else none
  | _, _ => none
def primF (K : FuncId → Bool) (p : Call) : Call := fun f av sg => bif K f then fmtX av sg else p f av sg
theorem primF_q {K : FuncId → Bool} {p : Call} (hp : CallQ p) : CallQ (primF K p) := by
  intro f av sg v sg' wd h
  unfold primF at h
  cases hk : K f with
  | false => rw [hk] at h; exact hp f av sg v sg' wd h
  | true =>
    rw [hk] at h
    simp only [cond_true] at h
    unfold fmtX at h
    split at h
    · obtain ⟨_, h1⟩ := bif_opt' h
      cases h1
      exact ⟨rfl, fun _ _ => rfl⟩
    · cases h
theorem primF_su {σ : Int → V} (hσ : Num σ) {K : FuncId → Bool} {p : Call} (hp : CallS σ p p) : CallS σ (primF K p) (primF K p) := by
  intro f av sg v sg' wd h
  unfold primF at h ⊢
  cases hk : K f with
  | false => rw [hk] at h; exact hp f av sg v sg' wd h
  | true =>
    rw [hk] at h
    simp only [cond_true] at h ⊢
    unfold fmtX at h
    split at h
    · rename_i n
      obtain ⟨hb, h1⟩ := bif_opt' h
      cases h1
      show (bif i64in n then some (V.str (itoaF n), suG σ sg, 0) else none) = _
      rw [hb]; rfl
    · cases h
theorem mapAt_growF (w : World) (os : Array Obj) {c : Nat} (h : c < w.heap.size) : mapAt (grow w os) c = mapAt w c := by
  unfold mapAt
  rw [heap_grow_old w os h]
theorem primF_ok {P : Program} {K : FuncId → Bool} {p : Call} (hK : ∀ f, K f = true → FmtFn P f) (hp : CallOk (KWt P) P p) : CallOk (KWt P) P (primF K p) := by
  intro f av sg v sg' wd h G B w A hwr hA hR
  unfold primF at h
  cases hk : K f with
  | false => rw [hk] at h; exact hp f av sg v sg' wd h G B w A hwr hA hR
  | true =>
    rw [hk] at h
    simp only [cond_true] at h
    unfold fmtX at h
    split at h
    case h_2 => cases h
    rename_i n
    obtain ⟨hb, h1⟩ := bif_opt' h
    cases h1
    simp only [i64in, Bool.and_eq_true, decide_eq_true_eq] at hb
    obtain ⟨x, y, rfl⟩ : ∃ x y, A = #[x, y] := by
      obtain ⟨l⟩ := A
      match l, hA with
      | [x, y], _ => exact ⟨x, y, rfl⟩
    have e1 := (hR 0 _ x rfl rfl).int_inv
    have e2 := (hR 1 _ y rfl rfl).int_inv
    subst e1; subst e2
    obtain ⟨hEn, hT⟩ := hK f hk
    refine .inl ⟨hEn _ _, (hT n hb.1 hb.2 w hwr.kn).mono fun e w' he => ?_⟩
    obtain ⟨rfl, k, os, rfl⟩ := he
    have hs : (w.drewN k).heap.size = w.heap.size := by simp
    have hc : ∀ c q, c < w.heap.size → (grow (w.drewN k) os).cell? ⟨c, q, none⟩ = w.cell? ⟨c, q, none⟩ := fun c q hc => by
      rw [cell?_grow _ _ _ (by rw [hs]; exact hc)]; simp
    have hbe : Below B.n w (grow (w.drewN k) os) := by
      refine ⟨rfl, rfl, rfl, by simp, fun q hq => ?_⟩
      have hq' : q < w.heap.size := Nat.lt_of_lt_of_le hq hwr.hB
      rw [heap_grow_old _ _ (by rw [hs]; exact hq')]
      simp
    have hwr' : WR G B [] sg (grow (w.drewN k) os) := by
      refine hwr.same hbe (by simp) hc fun c q o ho => ?_
      have hq' := (hwr.ob _ _ _ ho).2
      refine ⟨?_, ?_⟩
      · rw [frozen?_grow _ _ _ (by rw [hs]; exact hq')]; simp
      · rw [mapAt_growF _ _ (by rw [hs]; exact hq')]; simp [mapAt]
    refine ⟨G, hwr', ImLe.refl _, PhLt.refl _ _, rfl, ?_, hbe⟩
    rw [itoaF_eq hb.1 hb.2]
    exact .pr _ _ (.str _ _ (by simp))

end Go.Vm
