/-
  A part of a proof: the last text of the claim says what is proved, and under which conditions.
-/
import Derived.Test.YtfdmcaddpfmchaaGreatDoorM9
import Derived.Test.YtfdmcaddpfmchaaGreatDoorM15
import Derived.Test.YtfdmcaddpfmchaaGreatDoorM16
import Derived.Test.YtfdmcaddpfmchaaGreatDoorM8
import Derived.Test.YtfdmcaddpfmchaaGreatDoorM17
set_option linter.unusedSimpArgs false
set_option linter.unusedVariables false
set_option linter.unnecessarySimpa false
/- What functions of the program answer. Printed by spec2.py. -/
namespace Go.Vm
open Go Go.Sp
set_option maxRecDepth 100000
set_option maxHeartbeats 4000000

def lawAlphaAlike (a : Sp.Atom) (b : Sp.Atom) (c : Sp.Atom) (f : Sp.Fact) : Bool:=(bif (heavyAtom a) then true else (bif (heavyAtom b) then true else (bif (heavyAtom c) then true else (bif (refAtom a) then (bif (refAtom b) then (bif (refAtom c) then (bif ((alphaAlike a b) == (alphaAlike b a)) then (bif (alphaAlike a a) then (bif (alphaAlike a b) then (bif (alphaAlike b c) then (bif (alphaAlike a c) then (bif ((matchOne a f ([] : (List Sp.Bind))).2 == (matchOne b f ([] : (List Sp.Bind))).2) then (lawWakes19) else false) else false) else (bif ((matchOne a f ([] : (List Sp.Bind))).2 == (matchOne b f ([] : (List Sp.Bind))).2) then (lawWakes19) else false)) else (lawWakes19)) else false) else false) else true) else true) else true))))
theorem lawAlphaAlike_says (a : Sp.Atom) (b : Sp.Atom) (c : Sp.Atom) (f : Sp.Fact) (ok_a : a.ok) (ok_b : b.ok) (ok_c : c.ok) (ok_f : f.ok) : SaysT TX 10 [eAtom a,eAtom b,eAtom c,eFact f] (eB (lawAlphaAlike a b c f)) :=
  sy (e:=eB) (F:=c10) rfl fun sg=>gO 12<|cl (heavyAtom_says a (by first | exact ok_a | exact ok_b | exact ok_c | exact ok_f | exact ⟨Nat.zero_le _,fun _ h=>absurd h List.not_mem_nil⟩ | exact Nat.zero_le _))<|gO 1<|dc 17 (fun h1=>gO 30<|en) (fun h1=>gO 1<|cl (heavyAtom_says b (by first | exact ok_a | exact ok_b | exact ok_c | exact ok_f | exact ⟨Nat.zero_le _,fun _ h=>absurd h List.not_mem_nil⟩ | exact Nat.zero_le _))<|gO 2<|dc 21 (fun h2=>gO 26<|en) (fun h2=>gO 1<|cl (heavyAtom_says c (by first | exact ok_a | exact ok_b | exact ok_c | exact ok_f | exact ⟨Nat.zero_le _,fun _ h=>absurd h List.not_mem_nil⟩ | exact Nat.zero_le _))<|gO 2<|dc 25 (fun h3=>gO 22<|en) (fun h3=>gO 1<|cl (refAtom_says a (by first | exact ok_a | exact ok_b | exact ok_c | exact ok_f | exact ⟨Nat.zero_le _,fun _ h=>absurd h List.not_mem_nil⟩ | exact Nat.zero_le _))<|gO 3<|dcn 30 (fun h4=>gO 1<|cl (refAtom_says b (by first | exact ok_a | exact ok_b | exact ok_c | exact ok_f | exact ⟨Nat.zero_le _,fun _ h=>absurd h List.not_mem_nil⟩ | exact Nat.zero_le _))<|gO 3<|dcn 35 (fun h5=>gO 1<|cl (refAtom_says c (by first | exact ok_a | exact ok_b | exact ok_c | exact ok_f | exact ⟨Nat.zero_le _,fun _ h=>absurd h List.not_mem_nil⟩ | exact Nat.zero_le _))<|gO 3<|dcn 39 (fun h6=>gO 6<|cl (alphaAlike_says a b (by first | exact ok_a | exact ok_b | exact ok_c | exact ok_f | exact ⟨Nat.zero_le _,fun _ h=>absurd h List.not_mem_nil⟩ | exact Nat.zero_le _) (by first | exact ok_a | exact ok_b | exact ok_c | exact ok_f | exact ⟨Nat.zero_le _,fun _ h=>absurd h List.not_mem_nil⟩ | exact Nat.zero_le _))<|gO 2<|cl (alphaAlike_says b c (by first | exact ok_a | exact ok_b | exact ok_c | exact ok_f | exact ⟨Nat.zero_le _,fun _ h=>absurd h List.not_mem_nil⟩ | exact Nat.zero_le _) (by first | exact ok_a | exact ok_b | exact ok_c | exact ok_f | exact ⟨Nat.zero_le _,fun _ h=>absurd h List.not_mem_nil⟩ | exact Nat.zero_le _))<|gO 9<|cl (alphaAlike_says b a (by first | exact ok_a | exact ok_b | exact ok_c | exact ok_f | exact ⟨Nat.zero_le _,fun _ h=>absurd h List.not_mem_nil⟩ | exact Nat.zero_le _) (by first | exact ok_a | exact ok_b | exact ok_c | exact ok_f | exact ⟨Nat.zero_le _,fun _ h=>absurd h List.not_mem_nil⟩ | exact Nat.zero_le _))<|gO 2<|dcn 51 (fun h7=>gO 2<|cl (alphaAlike_says a a (by first | exact ok_a | exact ok_b | exact ok_c | exact ok_f | exact ⟨Nat.zero_le _,fun _ h=>absurd h List.not_mem_nil⟩ | exact Nat.zero_le _) (by first | exact ok_a | exact ok_b | exact ok_c | exact ok_f | exact ⟨Nat.zero_le _,fun _ h=>absurd h List.not_mem_nil⟩ | exact Nat.zero_le _))<|gO 3<|dcn 57 (fun h8=>gO 2<|dc 59 (fun h9=>gO 3<|dc 62 (fun h10=>gO 2<|cl (alphaAlike_says a c (by first | exact ok_a | exact ok_b | exact ok_c | exact ok_f | exact ⟨Nat.zero_le _,fun _ h=>absurd h List.not_mem_nil⟩ | exact Nat.zero_le _) (by first | exact ok_a | exact ok_b | exact ok_c | exact ok_f | exact ⟨Nat.zero_le _,fun _ h=>absurd h List.not_mem_nil⟩ | exact Nat.zero_le _))<|gO 4<|dcn 68 (fun h11=>gO 6<|cl (matchOne_says a f ([] : (List Sp.Bind)) (by first | exact ok_a | exact ok_b | exact ok_c | exact ok_f | exact ⟨Nat.zero_le _,fun _ h=>absurd h List.not_mem_nil⟩ | exact Nat.zero_le _) (by first | exact ok_a | exact ok_b | exact ok_c | exact ok_f | exact ⟨Nat.zero_le _,fun _ h=>absurd h List.not_mem_nil⟩ | exact Nat.zero_le _) (by first | exact ok_a | exact ok_b | exact ok_c | exact ok_f | exact ⟨Nat.zero_le _,fun _ h=>absurd h List.not_mem_nil⟩ | exact Nat.zero_le _) (by first | exact ok_a | exact ok_b | exact ok_c | exact ok_f | exact ⟨Nat.zero_le _,fun _ h=>absurd h List.not_mem_nil⟩ | exact Nat.zero_le _))<|gO 10<|cl (matchOne_says b f ([] : (List Sp.Bind)) (by first | exact ok_a | exact ok_b | exact ok_c | exact ok_f | exact ⟨Nat.zero_le _,fun _ h=>absurd h List.not_mem_nil⟩ | exact Nat.zero_le _) (by first | exact ok_a | exact ok_b | exact ok_c | exact ok_f | exact ⟨Nat.zero_le _,fun _ h=>absurd h List.not_mem_nil⟩ | exact Nat.zero_le _) (by first | exact ok_a | exact ok_b | exact ok_c | exact ok_f | exact ⟨Nat.zero_le _,fun _ h=>absurd h List.not_mem_nil⟩ | exact Nat.zero_le _) (by first | exact ok_a | exact ok_b | exact ok_c | exact ok_f | exact ⟨Nat.zero_le _,fun _ h=>absurd h List.not_mem_nil⟩ | exact Nat.zero_le _))<|gO 11<|dk 83 (congrArg not h9)<|gO 5<|dc 88 (fun h12=>cl (lawWakes19_says )<|gO 4<|en) (fun h12=>gO 5<|en)) (fun h11=>gO 7<|en)) (fun h10=>gO 13<|cl (matchOne_says a f ([] : (List Sp.Bind)) (by first | exact ok_a | exact ok_b | exact ok_c | exact ok_f | exact ⟨Nat.zero_le _,fun _ h=>absurd h List.not_mem_nil⟩ | exact Nat.zero_le _) (by first | exact ok_a | exact ok_b | exact ok_c | exact ok_f | exact ⟨Nat.zero_le _,fun _ h=>absurd h List.not_mem_nil⟩ | exact Nat.zero_le _) (by first | exact ok_a | exact ok_b | exact ok_c | exact ok_f | exact ⟨Nat.zero_le _,fun _ h=>absurd h List.not_mem_nil⟩ | exact Nat.zero_le _) (by first | exact ok_a | exact ok_b | exact ok_c | exact ok_f | exact ⟨Nat.zero_le _,fun _ h=>absurd h List.not_mem_nil⟩ | exact Nat.zero_le _))<|gO 10<|cl (matchOne_says b f ([] : (List Sp.Bind)) (by first | exact ok_a | exact ok_b | exact ok_c | exact ok_f | exact ⟨Nat.zero_le _,fun _ h=>absurd h List.not_mem_nil⟩ | exact Nat.zero_le _) (by first | exact ok_a | exact ok_b | exact ok_c | exact ok_f | exact ⟨Nat.zero_le _,fun _ h=>absurd h List.not_mem_nil⟩ | exact Nat.zero_le _) (by first | exact ok_a | exact ok_b | exact ok_c | exact ok_f | exact ⟨Nat.zero_le _,fun _ h=>absurd h List.not_mem_nil⟩ | exact Nat.zero_le _) (by first | exact ok_a | exact ok_b | exact ok_c | exact ok_f | exact ⟨Nat.zero_le _,fun _ h=>absurd h List.not_mem_nil⟩ | exact Nat.zero_le _))<|gO 11<|dk 83 (congrArg not h9)<|gO 5<|dc 88 (fun h13=>cl (lawWakes19_says )<|gO 4<|en) (fun h13=>gO 5<|en))) (fun h9=>gO 16<|cl (matchOne_says a f ([] : (List Sp.Bind)) (by first | exact ok_a | exact ok_b | exact ok_c | exact ok_f | exact ⟨Nat.zero_le _,fun _ h=>absurd h List.not_mem_nil⟩ | exact Nat.zero_le _) (by first | exact ok_a | exact ok_b | exact ok_c | exact ok_f | exact ⟨Nat.zero_le _,fun _ h=>absurd h List.not_mem_nil⟩ | exact Nat.zero_le _) (by first | exact ok_a | exact ok_b | exact ok_c | exact ok_f | exact ⟨Nat.zero_le _,fun _ h=>absurd h List.not_mem_nil⟩ | exact Nat.zero_le _) (by first | exact ok_a | exact ok_b | exact ok_c | exact ok_f | exact ⟨Nat.zero_le _,fun _ h=>absurd h List.not_mem_nil⟩ | exact Nat.zero_le _))<|gO 10<|cl (matchOne_says b f ([] : (List Sp.Bind)) (by first | exact ok_a | exact ok_b | exact ok_c | exact ok_f | exact ⟨Nat.zero_le _,fun _ h=>absurd h List.not_mem_nil⟩ | exact Nat.zero_le _) (by first | exact ok_a | exact ok_b | exact ok_c | exact ok_f | exact ⟨Nat.zero_le _,fun _ h=>absurd h List.not_mem_nil⟩ | exact Nat.zero_le _) (by first | exact ok_a | exact ok_b | exact ok_c | exact ok_f | exact ⟨Nat.zero_le _,fun _ h=>absurd h List.not_mem_nil⟩ | exact Nat.zero_le _) (by first | exact ok_a | exact ok_b | exact ok_c | exact ok_f | exact ⟨Nat.zero_le _,fun _ h=>absurd h List.not_mem_nil⟩ | exact Nat.zero_le _))<|gO 11<|dk 83 (congrArg not h9)<|gO 5<|cl (lawWakes19_says )<|gO 4<|en)) (fun h8=>gO 19<|en)) (fun h7=>gO 25<|en)) (fun h6=>gO 7<|en)) (fun h5=>gO 12<|en)) (fun h4=>gO 17<|en))))

end Go.Vm

/-
  AlphaAlike: whatever three atoms and a fact come in.
-/
namespace Go.Vm
open Go Go.Sp

theorem indexTerm_l1_at (l : List Sp.Term) (f : Sp.Term → Bool) : ∀ (xs p : List Sp.Term), l = p ++ xs → (∀ x ∈ p, f x = false) → (indexTerm_l1 l f p.length xs () = -1 ∧ ∀ x ∈ l, f x = false) ∨ ∃ q y r, l = q ++ y :: r ∧ (∀ x ∈ q, f x = false) ∧ f y = true ∧ indexTerm_l1 l f p.length xs () = (q.length : Int)
  | [], p, h, hp => .inl ⟨rfl, fun x hx => hp x (by rw [h, List.append_nil] at hx; exact hx)⟩
  | x :: xs, p, h, hp => by
    rw [indexTerm_l1]
    cases hf : f x with
    | true => exact .inr ⟨p, x, xs, h, hp, hf, rfl⟩
    | false =>
      rw [cond_false]
      have := indexTerm_l1_at l f xs (p ++ [x]) (by rw [h]; simp) (fun y hy => (List.mem_append.1 hy).elim (hp y) (fun hy => by rw [List.mem_singleton.1 hy]; exact hf))
      rw [List.length_append, List.length_singleton] at this
      exact this
theorem first1_eq {a : Sp.Atom} {k : Nat} {x : Sp.Term} (hx : a.args[k]? = some x) (t : Sp.Term) : alphaFirst1 t a (k : Int) = (t.var == x.var) := by
  unfold alphaFirst1
  have : ((k : Nat) : Int).toNat = k := rfl
  rw [this, hx]; rfl
theorem first_at {a : Sp.Atom} {k : Nat} {x : Sp.Term} (hx : a.args[k]? = some x) : ∃ (j : Nat) (y : Sp.Term), alphaFirst a (k : Int) = (j : Int) ∧ j ≤ k ∧ a.args[j]? = some y ∧ y.var = x.var ∧ ∀ (m : Nat) (z : Sp.Term), m < j → a.args[m]? = some z → z.var ≠ x.var := by
  unfold alphaFirst
  rcases indexTerm_l1_at a.args (fun t => alphaFirst1 t a (k : Int)) a.args [] rfl (fun x hx => absurd hx List.not_mem_nil) with ⟨_, h⟩ | ⟨q, y, r, h1, h2, h3, h4⟩
  · have := h x (List.mem_of_getElem? hx)
    rw [first1_eq hx, BEq.rfl] at this; cases this
  · have hy : a.args[q.length]? = some y := by rw [h1]; exact get_app _ _ _ rfl
    have hyv : y.var = x.var := by
      rw [first1_eq hx] at h3
      simpa using h3
    have hq : ∀ (m : Nat) (z : Sp.Term), m < q.length → a.args[m]? = some z → z.var ≠ x.var := by
      intro m z hm hz
      rw [h1, List.getElem?_append_left hm] at hz
      have := h2 z (List.mem_of_getElem? hz)
      rw [first1_eq hx] at this
      simpa using this
    refine ⟨q.length, y, h4, ?_, hy, hyv, hq⟩
    rcases Nat.lt_or_ge k q.length with h | h
    · exact absurd rfl (hq k x h hx)
    · exact h
theorem first_eq_iff {a : Sp.Atom} {i j : Nat} {x y : Sp.Term} (hx : a.args[i]? = some x) (hy : a.args[j]? = some y) : alphaFirst a (i : Int) = alphaFirst a (j : Int) ↔ x.var = y.var := by
  obtain ⟨p, u, e1, _, p2, p3, p4⟩ := first_at hx
  obtain ⟨q, w, f1, _, q2, q3, q4⟩ := first_at hy
  rw [e1, f1]
  constructor
  · intro h
    have : p = q := by omega
    subst this
    rw [p2] at q2
    cases q2
    rw [← p3, q3]
  · intro h
    have h1 : ¬ p < q := fun hlt => q4 p u hlt p2 (by rw [p3, h])
    have h2 : ¬ q < p := fun hlt => p4 q w hlt q2 (by rw [q3, h])
    omega

def AtL (a b : Sp.Atom) (k : Nat) (x y : Sp.Term) : Prop := (x.var = [] ↔ y.var = []) ∧ (x.var = [] → x.val = y.val) ∧ (x.var ≠ [] → alphaFirst a (k : Int) = alphaFirst b (k : Int))
theorem alike_l1 (a b : Sp.Atom) : ∀ (xs : List Sp.Term) (i : Nat), a.args.drop i = xs → a.args.length = b.args.length → (alphaAlike_l1 a b i xs () = true ↔ ∀ (k : Nat) (x y : Sp.Term), i ≤ k → a.args[k]? = some x → b.args[k]? = some y → AtL a b k x y)
  | [], i, hd, hl => by
    rw [alphaAlike_l1]
    refine ⟨fun _ k x y hk hx _ => ?_, fun _ => rfl⟩
    have := drop_ge hd
    rw [List.getElem?_eq_none (by omega)] at hx; cases hx
  | x :: xs, i, hd, hl => by
    have hlt := drop_lt hd
    have hx := drop_get hd
    have hd' : a.args.drop (i + 1) = xs := by rw [← List.drop_drop, hd]; rfl
    obtain ⟨y, hy⟩ : ∃ y, b.args[i]? = some y := ⟨_, List.getElem?_eq_getElem (by omega)⟩
    have ih := alike_l1 a b xs (i + 1) hd' hl
    rw [alphaAlike_l1, hy]
    simp only [onS]
    rw [beqVal]
    have split : (∀ (k : Nat) (x y : Sp.Term), i ≤ k → a.args[k]? = some x → b.args[k]? = some y → AtL a b k x y) ↔ AtL a b i x y ∧ ∀ (k : Nat) (x y : Sp.Term), i + 1 ≤ k → a.args[k]? = some x → b.args[k]? = some y → AtL a b k x y := by
      constructor
      · intro h; exact ⟨h i x y (Nat.le_refl _) hx hy, fun k u w hk => h k u w (by omega)⟩
      · rintro ⟨h1, h2⟩ k u w hk hu hw
        rcases Nat.eq_or_lt_of_le hk with e | hk
        · subst e
          rw [hx] at hu; rw [hy] at hw
          cases hu; cases hw; exact h1
        · exact h2 k u w hk hu hw
    rw [split, ← ih]
    cases h1 : x.var == [] with
    | true =>
      have hv : x.var = [] := by simpa using h1
      cases h2 : y.var == [] with
      | false =>
        have hw : y.var ≠ [] := by simpa using h2
        exact ⟨fun h => (by cases h), fun h => absurd (h.1.1.1 hv) hw⟩
      | true =>
        have hw : y.var = [] := by simpa using h2
        cases h3 : x.val == y.val with
        | true =>
          have e : x.val = y.val := by simpa using h3
          exact ⟨fun h => ⟨⟨⟨fun _ => hw, fun _ => hv⟩, fun _ => e, fun h => absurd hv h⟩, h⟩, fun h => h.2⟩
        | false =>
          have e : x.val ≠ y.val := by simpa using h3
          exact ⟨fun h => (by cases h), fun h => absurd (h.1.2.1 hv) e⟩
    | false =>
      have hv : x.var ≠ [] := by simpa using h1
      cases h2 : y.var == [] with
      | true =>
        have hw : y.var = [] := by simpa using h2
        exact ⟨fun h => (by cases h), fun h => absurd (h.1.1.2 hw) hv⟩
      | false =>
        have hw : y.var ≠ [] := by simpa using h2
        cases h3 : alphaFirst a (i : Int) == alphaFirst b (i : Int) with
        | true =>
          have e : alphaFirst a (i : Int) = alphaFirst b (i : Int) := by simpa using h3
          exact ⟨fun h => ⟨⟨⟨fun h => absurd h hv, fun h => absurd h hw⟩, fun h => absurd h hv, fun _ => e⟩, h⟩, fun h => h.2⟩
        | false =>
          have e : alphaFirst a (i : Int) ≠ alphaFirst b (i : Int) := by simpa using h3
          exact ⟨fun h => (by cases h), fun h => absurd (h.1.2.2 hv) e⟩
theorem alike_iff (a b : Sp.Atom) : alphaAlike a b = true ↔ a.name = b.name ∧ a.args.length = b.args.length ∧ ∀ (k : Nat) (x y : Sp.Term), a.args[k]? = some x → b.args[k]? = some y → AtL a b k x y := by
  unfold alphaAlike
  by_cases h1 : a.name = b.name
  case neg =>
    have e : (a.name == b.name) = false := by simpa using h1
    rw [e]; exact ⟨fun h => (by cases h), fun h => absurd h.1 h1⟩
  by_cases h2 : a.args.length = b.args.length
  case neg =>
    have e : ((a.args.length : Int) == (b.args.length : Int)) = false := by
      rw [Bool.eq_false_iff]; intro h; rw [beq_iff_eq] at h; omega
    rw [h1, e, BEq.rfl]; exact ⟨fun h => (by cases h), fun h => absurd h.2.1 h2⟩
  rw [h1, h2, BEq.rfl, BEq.rfl, cond_true, cond_true, alike_l1 a b a.args 0 rfl h2]
  exact ⟨fun h => ⟨rfl, rfl, fun k x y => h k x y (Nat.zero_le _)⟩, fun h k x y _ => h.2.2 k x y⟩
theorem alike_refl (a : Sp.Atom) : alphaAlike a a = true := (alike_iff a a).2 ⟨rfl, rfl, fun k x y hx hy => by
  rw [hx] at hy; cases hy
  exact ⟨Iff.rfl, fun _ => rfl, fun _ => rfl⟩⟩
theorem alike_symm {a b : Sp.Atom} (h : alphaAlike a b = true) : alphaAlike b a = true := by
  obtain ⟨h1, h2, h3⟩ := (alike_iff a b).1 h
  refine (alike_iff b a).2 ⟨h1.symm, h2.symm, fun k x y hx hy => ?_⟩
  obtain ⟨q1, q2, q3⟩ := h3 k y x hy hx
  exact ⟨q1.symm, fun e => (q2 (q1.2 e)).symm, fun e => (q3 (fun e2 => e (q1.1 e2))).symm⟩
theorem alike_trans {a b c : Sp.Atom} (h : alphaAlike a b = true) (g : alphaAlike b c = true) : alphaAlike a c = true := by
  obtain ⟨h1, h2, h3⟩ := (alike_iff a b).1 h
  obtain ⟨g1, g2, g3⟩ := (alike_iff b c).1 g
  refine (alike_iff a c).2 ⟨h1.trans g1, h2.trans g2, fun k x z hx hz => ?_⟩
  obtain ⟨y, hy⟩ : ∃ y, b.args[k]? = some y := ⟨_, List.getElem?_eq_getElem (by have := (List.getElem?_eq_some_iff.1 hx).1; omega)⟩
  obtain ⟨q1, q2, q3⟩ := h3 k x y hx hy
  obtain ⟨r1, r2, r3⟩ := g3 k y z hy hz
  exact ⟨q1.trans r1, fun e => (q2 e).trans (r2 (q1.1 e)), fun e => (q3 e).trans (r3 (fun e2 => e (q1.2 e2)))⟩
theorem alike_comm (a b : Sp.Atom) : alphaAlike a b = alphaAlike b a := by
  rw [Bool.eq_iff_iff]; exact ⟨alike_symm, alike_symm⟩
theorem alike_match {a b : Sp.Atom} {f : Sp.Fact} (ma : matchCheck a = 0) (mb : matchCheck b = 0) (h : alphaAlike a b = true) (hm : (matchOne a f []).2 = true) : (matchOne b f []).2 = true := by
  obtain ⟨h1, h2, h3⟩ := (alike_iff a b).1 h
  obtain ⟨_, m2, m3, m4, m5, m6, m7⟩ := (one_iff (by simp)).1 hm
  refine (one_iff (by simp)).2 ⟨mb, m2, m3, h1.symm.trans m4, h2.symm.trans m5, (cstT_iff _ _).2 fun k y v hy hv e => ?_, ?_⟩
  · obtain ⟨x, hx⟩ : ∃ x, a.args[k]? = some x := ⟨_, List.getElem?_eq_getElem (by have := (List.getElem?_eq_some_iff.1 hy).1; omega)⟩
    obtain ⟨q1, q2, _⟩ := h3 k x y hx hy
    rw [← q2 (q1.2 e)]
    exact (cstT_iff _ _).1 m6 k x v hx hv (q1.2 e)
  · intro p hp q hq hpq
    rw [List.nil_append, mem_prs] at hp hq
    obtain ⟨i, y, v, i1, i2, i3, rfl⟩ := hp
    obtain ⟨j, y', v', j1, j2, j3, rfl⟩ := hq
    obtain ⟨x, hx⟩ : ∃ x, a.args[i]? = some x := ⟨_, List.getElem?_eq_getElem (by have := (List.getElem?_eq_some_iff.1 i1).1; omega)⟩
    obtain ⟨x', hx'⟩ : ∃ x, a.args[j]? = some x := ⟨_, List.getElem?_eq_getElem (by have := (List.getElem?_eq_some_iff.1 j1).1; omega)⟩
    obtain ⟨q1, _, q3⟩ := h3 i x y hx i1
    obtain ⟨r1, _, r3⟩ := h3 j x' y' hx' j1
    have hv : y.var = y'.var := hpq
    have e1 : x.var ≠ [] := fun e => i3 (q1.1 e)
    have e2 : x'.var ≠ [] := fun e => j3 (r1.1 e)
    have e3 : x.var = x'.var := (first_eq_iff hx hx').1 (by rw [q3 e1, r3 e2]; exact (first_eq_iff i1 j1).2 hv)
    have := m7 ⟨x.var, v⟩ (by rw [List.nil_append, mem_prs]; exact ⟨i, x, v, hx, i2, e1, rfl⟩) ⟨x'.var, v'⟩ (by rw [List.nil_append, mem_prs]; exact ⟨j, x', v', hx', j2, e2, rfl⟩) e3
    have hvv : v = v' := congrArg Sp.Bind.val this
    rw [hv, hvv]

theorem alphaAlike_law (a b c : Sp.Atom) (f : Sp.Fact) : lawAlphaAlike a b c f = true := by
  unfold lawAlphaAlike
  rw [refAtom_eq, refAtom_eq, refAtom_eq]
  cases heavyAtom a with
  | true => rfl
  | false =>
  cases heavyAtom b with
  | true => rfl
  | false =>
  cases heavyAtom c with
  | true => rfl
  | false =>
  cases ma : matchCheck a == 0 with
  | false => rfl
  | true =>
  cases mb : matchCheck b == 0 with
  | false => rfl
  | true =>
  cases mc : matchCheck c == 0 with
  | false => rfl
  | true =>
  have ma : matchCheck a = 0 := by simpa using ma
  have mb : matchCheck b = 0 := by simpa using mb
  rw [alike_comm b a, BEq.rfl, alike_refl]
  cases hab : alphaAlike a b with
  | false => rfl
  | true =>
    have hm : (matchOne a f []).2 = (matchOne b f []).2 := by
      rw [Bool.eq_iff_iff]
      exact ⟨alike_match ma mb hab, alike_match mb ma (alike_symm hab)⟩
    rw [hm, BEq.rfl]
    cases hbc : alphaAlike b c with
    | false => rfl
    | true => rw [alike_trans hab hbc]; rfl
theorem alphaAlike_run (x0 x1 x2 x3 : V) (h0 : HasV shAtom x0) (h1 : HasV shAtom x1) (h2 : HasV shAtom x2) (h3 : HasV shFact x3) : ∃ wd, TX.call 10 [x0, x1, x2, x3] [] = some (.bool true, [], wd) := by
  obtain ⟨a, rfl, oka⟩ := has_atom h0
  obtain ⟨b, rfl, okb⟩ := has_atom h1
  obtain ⟨c, rfl, okc⟩ := has_atom h2
  obtain ⟨f, rfl, okf⟩ := has_fact h3
  have := lawAlphaAlike_says a b c f oka okb okc okf []
  rw [alphaAlike_law a b c f] at this
  exact ⟨0, this⟩
end Go.Vm
