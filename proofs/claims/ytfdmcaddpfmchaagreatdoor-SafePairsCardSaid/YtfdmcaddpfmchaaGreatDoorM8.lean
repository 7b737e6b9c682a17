/-
  A part of a proof: the last text of the claim says what is proved, and under which conditions.
-/
import Derived.Test.YtfdmcaddpfmchaaGreatDoorM3
import Derived.ChangeArms
import Derived.ChangeShapes
import GoSem.ClaimJoined
import Derived.Test.YtfdmcaddpfmchaaGreatDoorM0
import Derived.Test.YtfdmcaddpfmchaaGreatDoorM6
import Derived.KernelRfl
set_option linter.unusedSimpArgs false
set_option linter.unusedVariables false
set_option linter.unnecessarySimpa false
/-
  The machine V: what comes in from outside. An argument that reads as data is a value of no place, of its type's shape.
-/
namespace Go.Vm
open Go Go.RowKit Go.ChangeShapes Go.WideShapes

inductive Sh where
  | int (k : IntKind)
  | bool
  | str
  | sl (z : Nat) (e : Sh)
  | st (fs : List Sh)

def lenB : Nat := 140737488351232

mutual
def Sh.n : Sh → Nat
  | .st fs => Sh.nL fs
  | .int _ | .bool | .str | .sl _ _ => 1
def Sh.nL : List Sh → Nat
  | [] => 0
  | s :: l => s.n + Sh.nL l
end

def pack : Sh → List V → V
  | .st _, cs => .agg cs
  | _, [v] => v
  | _, _ => .und

mutual
def HasC : Sh → List V → Prop
  | .int k, cs => ∃ n, cs = [.int k n] ∧ (Lit.int k n).wf = true
  | .bool, cs => ∃ b, cs = [.bool b]
  | .str, cs => ∃ s : List UInt8, cs = [.str s] ∧ s.length ≤ lenB
  | .sl z e, cs => ∃ css : List (List V), cs = [.sl .no z (css.map (pack e))] ∧ css.length ≤ lenB ∧ ∀ c ∈ css, HasC e c
  | .st fs, cs => HasL fs cs
def HasL : List Sh → List V → Prop
  | [], cs => cs = []
  | s :: l, cs => ∃ a b, cs = a ++ b ∧ HasC s a ∧ HasL l b
end

mutual
def fits (P : Program) : Sh → TypeId → Bool
  | .int k, t => match P.underlying t with
    | some (.int j) => j == k && Nat.beq (P.cellsOf t) 1
    | _ => false
  | .bool, t => match P.underlying t with
    | some .bool => Nat.beq (P.cellsOf t) 1
    | _ => false
  | .str, t => match P.underlying t with
    | some .string => Nat.beq (P.cellsOf t) 1
    | _ => false
  | .sl z e, t => match P.underlying t with
    | some (.slice u) => Nat.beq (P.cellsOf t) 1 && (Nat.beq (P.cellsOf u) z && (Nat.beq e.n z && (Nat.blt 0 (P.bytesOf u) && (Nat.blt 0 z && fits P e u))))
    | _ => false
  | .st fs, t => match P.underlying t with
    | some (.struct fds) => Nat.beq (P.cellsOf t) (Sh.nL fs) && fitsL P fs fds.toList 0
    | _ => false
def fitsL (P : Program) : List Sh → List Field → Nat → Bool
  | [], [], _ => true
  | s :: l, f :: fl, o => Nat.beq f.offset o && (fits P s f.type && fitsL P l fl (o + s.n))
  | _, _, _ => false
end

mutual
theorem HasC.len : ∀ {s : Sh} {cs : List V}, HasC s cs → cs.length = s.n
  | .int k, cs, ⟨n, h, _⟩ => by subst h; rfl
  | .bool, cs, ⟨b, h⟩ => by subst h; rfl
  | .str, cs, ⟨s, h, _⟩ => by subst h; rfl
  | .sl z e, cs, ⟨css, h, _⟩ => by subst h; rfl
  | .st fs, cs, h => HasL.len h
theorem HasL.len : ∀ {l : List Sh} {cs : List V}, HasL l cs → cs.length = Sh.nL l
  | [], cs, h => by subst h; rfl
  | s :: l, cs, ⟨a, b, h, ha, hb⟩ => by
    subst h
    rw [List.length_append, ha.len, HasL.len hb]; rfl
end

theorem fits_cells {P : Program} {s : Sh} {t : TypeId} (h : fits P s t = true) : P.cellsOf t = s.n := by
  cases s with
  | int k => unfold fits at h; split at h <;> first | cases h | (simp only [Bool.and_eq_true] at h; exact Nat.eq_of_beq_eq_true h.2)
  | bool => unfold fits at h; split at h <;> first | cases h | exact Nat.eq_of_beq_eq_true h
  | str => unfold fits at h; split at h <;> first | cases h | exact Nat.eq_of_beq_eq_true h
  | sl z e => unfold fits at h; split at h <;> first | cases h | (simp only [Bool.and_eq_true] at h; exact Nat.eq_of_beq_eq_true h.1)
  | st fs => unfold fits at h; split at h <;> first | cases h | (simp only [Bool.and_eq_true] at h; exact Nat.eq_of_beq_eq_true h.1)

def PRs (im : Nat → Nat → Option Value) (vs : List V) (cs : List Value) : Prop := ∀ (j : Nat) (x : V) (y : Value), vs[j]? = some x → cs[j]? = some y → PR im x y

theorem PRs.append {im : Nat → Nat → Option Value} {a b : List V} {c d : List Value} (hl : a.length = c.length) (h : PRs im a c) (k : PRs im b d) : PRs im (a ++ b) (c ++ d) := by
  intro j x y hx hy
  by_cases hj : j < a.length
  · rw [List.getElem?_append_left hj] at hx
    rw [List.getElem?_append_left (by omega)] at hy
    exact h j x y hx hy
  · rw [List.getElem?_append_right (by omega)] at hx
    rw [List.getElem?_append_right (by omega)] at hy
    rw [← hl] at hy
    exact k _ x y hx hy

theorem cellsOf_pack {s : Sh} {cs : List V} (h : HasC s cs) : cellsOf (pack s cs) = cs := by
  cases s with
  | st fs => rfl
  | int k => obtain ⟨n, rfl, _⟩ := h; rfl
  | bool => obtain ⟨n, rfl⟩ := h; rfl
  | str => obtain ⟨n, rfl, _⟩ := h; rfl
  | sl z e => obtain ⟨n, rfl, _⟩ := h; rfl

section
variable {H : Type} {enc : TypeId × Value → H} {P : Program} {w : World} {base : Nat} {held : Bool}

theorem all_app {a b : List Nat} {p : Nat → Bool} (h : (a ++ b).all p = true) : a.all p = true ∧ b.all p = true := by
  rw [List.all_append, Bool.and_eq_true] at h; exact h
theorem weightsAll_mem {t : TypeId} : ∀ {l : List (DataW H)} {d : DataW H}, (DataW.weightsAll P t l).all (· ≤ reachBytes) = true → d ∈ l → (d.weights P t).all (· ≤ reachBytes) = true
  | [], d, _, h => by cases h
  | x :: l, d, h, hd => by
    have := all_app (show (x.weights P t ++ DataW.weightsAll P t l).all _ = true from h)
    cases hd with
    | head => exact this.1
    | tail _ hd => exact weightsAll_mem this.2 hd
theorem weightsEach_get : ∀ {ts : List TypeId} {ds : List (DataW H)} {j : Nat} {t : TypeId} {d : DataW H}, (DataW.weightsEach P ts ds).all (· ≤ reachBytes) = true → ts[j]? = some t → ds[j]? = some d → (d.weights P t).all (· ≤ reachBytes) = true
  | [], _, j, t, d, _, ht, _ => by cases ht
  | _ :: _, [], j, t, d, _, _, hd => by cases hd
  | u :: ts, x :: ds, j, t, d, h, ht, hd => by
    have := all_app (show (x.weights P u ++ DataW.weightsEach P ts ds).all _ = true from h)
    cases j with
    | zero => cases ht; cases hd; exact this.1
    | succ j => exact weightsEach_get this.2 (by simpa using ht) (by simpa using hd)

theorem choose_list {α : Type} {p : Nat → α → Prop} : ∀ n : Nat, (∀ i, i < n → ∃ a, p i a) → ∃ l : List α, l.length = n ∧ ∀ i a, l[i]? = some a → p i a
  | 0, _ => ⟨[], rfl, fun i a h => by cases h⟩
  | n + 1, h => by
    obtain ⟨l, hl, hp⟩ := choose_list n (fun i hi => h i (by omega))
    obtain ⟨a, ha⟩ := h n (by omega)
    refine ⟨l ++ [a], by simp [hl], fun i b hb => ?_⟩
    by_cases hi : i < l.length
    · rw [List.getElem?_append_left hi] at hb; exact hp i b hb
    · have hb' := hb
      rw [List.getElem?_append_right (by omega)] at hb
      have : i - l.length = 0 := by
        rcases Nat.eq_zero_or_pos (i - l.length) with h0 | h0
        · exact h0
        · rw [List.getElem?_eq_none (by simp; omega)] at hb; cases hb
      rw [this] at hb
      cases hb
      have : i = n := by omega
      subst this
      exact ha

theorem take_drop_all {cs : List Value} {o n : Nat} (hl : cs.length = o + n) : (cs.drop o).take n = cs.drop o := List.take_of_length_le (by simp; omega)

mutual
theorem open_cells : ∀ (s : Sh) {t : TypeId} {fuel : Nat} {cs : List Value} {x : DataW H × List MemPlace}, fits P s t = true → DataW.trod enc P w base (fun _ => true) held fuel t cs = some x → (x.1.weights P t).all (· ≤ reachBytes) = true →
    ∃ vs, HasC s vs ∧ vs.length = cs.length ∧ PRs (im0 w) vs cs
  | .int k, t, fuel, cs, x, hf, hd, hw => by
    unfold fits at hf; split at hf <;> first | cases hf | skip
    rename_i j hu
    simp only [Bool.and_eq_true] at hf
    obtain ⟨n, rfl, rfl, hwf⟩ := DataW.trod_int hu hd
    have : j = k := by simpa using hf.1
    subst this
    refine ⟨[.int j n], ⟨n, rfl, hwf⟩, rfl, fun i x y hx hy => ?_⟩
    cases i with
    | zero => cases hx; cases hy; exact .int _ _
    | succ i => cases hx
  | .bool, t, fuel, cs, x, hf, hd, hw => by
    unfold fits at hf; split at hf <;> first | cases hf | skip
    rename_i hu
    obtain ⟨b, rfl, rfl⟩ := DataW.trod_bool hu hd
    refine ⟨[.bool b], ⟨b, rfl⟩, rfl, fun i x y hx hy => ?_⟩
    cases i with
    | zero => cases hx; cases hy; exact .bool _
    | succ i => cases hx
  | .str, t, fuel, cs, x, hf, hd, hw => by
    unfold fits at hf; split at hf <;> first | cases hf | skip
    rename_i hu
    obtain ⟨s, rfl, rfl, _⟩ := DataW.trod_string hu hd
    have hs : s.data.toList.length ≤ lenB := by
      have : ([s.data.toList.length].all (· ≤ reachBytes)) = true := hw
      simp only [List.all_cons, List.all_nil, Bool.and_true, decide_eq_true_eq] at this
      exact this
    refine ⟨[.str s.data.toList], ⟨_, rfl, hs⟩, rfl, fun i x y hx hy => ?_⟩
    cases i with
    | zero => cases hx; cases hy; exact .str _ _ rfl
    | succ i => cases hx
  | .sl z e, t, fuel, cs, x, hf, hd, hw => by
    unfold fits at hf; split at hf <;> first | cases hf | skip
    rename_i u hu
    simp only [Bool.and_eq_true] at hf
    obtain ⟨_, hz, hez, hby, hz0, hfe⟩ := hf
    have hz := Nat.eq_of_beq_eq_true hz
    have hez := Nat.eq_of_beq_eq_true hez
    have hz0 : 0 < z := by simpa [Nat.blt_eq] using hz0
    have hby : 0 < P.bytesOf u := by simpa [Nat.blt_eq] using hby
    rcases DataW.trod_slice hu hd with ⟨rfl, rfl⟩ | ⟨a, len, cap, elems, rest, n, rfl, rfl, rfl, hb, hlc, hcm, hel, hes, hsp, _⟩
    · refine ⟨[.sl .no z []], ⟨[], rfl, by simp [lenB], fun c h => by cases h⟩, rfl, fun i x y hx hy => ?_⟩
      cases i with
      | zero =>
        cases hx; cases hy
        exact .sl .no z [] none 0 (fun _ _ => default) (.inl rfl) (Nat.le_refl _) (fun _ => rfl) (fun _ h => by cases h) (fun _ _ _ h => by cases h) (fun _ _ h => by cases h) (fun _ _ _ _ h => by cases h)
      | succ i => cases hx
    · obtain ⟨hrl, hrs⟩ := hsp rfl
      simp only [DataW.weights, hu] at hw
      rw [List.all_cons, Bool.and_eq_true] at hw
      obtain ⟨hw0, hw1⟩ := hw
      obtain ⟨hw1, _⟩ := all_app hw1
      have hlen : len ≤ lenB := by
        have h1 : (elems.length + rest.length) * P.bytesOf u ≤ reachBytes := by simpa using hw0
        have h2 : elems.length * 1 ≤ (elems.length + rest.length) * P.bytesOf u := Nat.mul_le_mul (by omega) hby
        simp only [reachBytes] at h1
        simp only [lenB]
        omega
      have key : ∀ i, i < len → ∃ c : List V × List Value, HasC e c.1 ∧ c.1.length = c.2.length ∧ PRs (im0 w) c.1 c.2 ∧ w.cells? base (a.add (i * z)) z = some c.2 := by
        intro i hi
        have h1 := hes i hi
        have h2 : elems[i]? = some elems[i] := List.getElem?_eq_getElem (by omega)
        rw [h2] at h1
        obtain ⟨c, hc1, hc2⟩ := Option.bind_eq_some_iff.1 h1
        have hmem : elems[i].1 ∈ elems.map (·.1) := List.mem_map.2 ⟨_, List.getElem_mem _, rfl⟩
        obtain ⟨vs, k1, k2, k3⟩ := open_cells e hfe hc2 (weightsAll_mem hw1 hmem)
        rw [hz] at hc1
        exact ⟨(vs, c), k1, k2, k3, hc1⟩
      obtain ⟨l, hl, hp⟩ := choose_list len key
      have hspot : cap ≠ 0 → a.spot = none := by
        intro hc
        have : ∃ c, w.cells? base a z = some c := by
          by_cases h0 : 0 < len
          · obtain ⟨c, _, _, _, h⟩ := key 0 h0
            simp only [Nat.zero_mul, Addr.add, if_true] at h
            exact ⟨_, h⟩
          · have h1 := hrs 0 (by omega)
            have h2 : rest[0]? = some rest[0] := List.getElem?_eq_getElem (by omega)
            rw [h2] at h1
            obtain ⟨c, hc1, _⟩ := Option.bind_eq_some_iff.1 h1
            have h3 : len = 0 := by omega
            simp only [h3, Nat.zero_add, Nat.zero_mul, Addr.add, if_true, hz] at hc1
            exact ⟨c, hc1⟩
        obtain ⟨c, h⟩ := this
        obtain ⟨_, hcl, hcell⟩ := World.cells?_some h
        have h0 := hcell 0 hz0
        have h1 : c[0]? = some c[0] := List.getElem?_eq_getElem (by omega)
        rw [h1] at h0
        simp only [Addr.add, if_true] at h0
        exact World.cell?_spot h0
      have hit : ∀ (j q : Nat), j < len → q < z → ∃ v, w.cell? ⟨a.block, a.off + (j * z + q), none⟩ = some v ∧ ((l[j]?).bind fun c => c.2[q]?) = some v := by
        intro j q hj hq
        have h2 : l[j]? = some l[j] := List.getElem?_eq_getElem (by omega)
        obtain ⟨_, _, _, h⟩ := hp j _ h2
        obtain ⟨_, hcl, hcell⟩ := World.cells?_some h
        have h0 := hcell q hq
        have h1 : (l[j]).2[q]? = some (l[j]).2[q] := List.getElem?_eq_getElem (by omega)
        refine ⟨(l[j]).2[q], ?_, by rw [h2]; exact h1⟩
        rw [h1] at h0
        have hs := hspot (by omega)
        obtain ⟨ab, ao, as⟩ := a
        simp only at hs
        subst hs
        rw [addr_add, addr_add] at h0
        rw [← Nat.add_assoc]; exact h0
      refine ⟨[.sl .no z ((l.map (·.1)).map (pack e))], ⟨l.map (·.1), rfl, by simp; omega, fun c hc => ?_⟩, rfl, fun i x y hx hy => ?_⟩
      · obtain ⟨p, hp1, rfl⟩ := List.mem_map.1 hc
        obtain ⟨i, hi⟩ := List.getElem?_of_mem hp1
        exact (hp i p hi).1
      · cases i with
        | succ i => cases hx
        | zero =>
          cases hx; cases hy
          have hlen2 : ((l.map (·.1)).map (pack e)).length = len := by simp [hl]
          have := PR.sl (im := im0 w) .no z ((l.map (·.1)).map (pack e)) (some a) cap (fun j q => ((l[j]?).bind fun c => c.2[q]?).getD default) (.inl rfl) (by omega) (fun h => by cases h) (fun x hx hc => by cases hx; exact hspot hc)
            (fun x j q hx hj hq => by
              cases hx
              obtain ⟨v, hv1, hv2⟩ := hit j q (by omega) hq
              rw [hv2]
              exact hv1)
            (fun j v hv => by
              rw [List.map_map, List.getElem?_map] at hv
              obtain ⟨c, hc, rfl⟩ := Option.map_eq_some_iff.1 hv
              have := hp j c hc
              rw [Function.comp_apply, cellsOf_pack this.1, this.1.len, hez])
            (fun j v q x hv hx => by
              rw [List.map_map, List.getElem?_map] at hv
              obtain ⟨c, hc, rfl⟩ := Option.map_eq_some_iff.1 hv
              have h1 := hp j c hc
              rw [Function.comp_apply, cellsOf_pack h1.1] at hx
              have hq : q < c.2.length := by rw [← h1.2.1]; exact (List.getElem?_eq_some_iff.1 hx).1
              have h2 : c.2[q]? = some c.2[q] := List.getElem?_eq_getElem hq
              rw [hc]
              simp only [Option.bind_some, h2, Option.getD_some]
              exact h1.2.2.1 q x _ hx h2)
          rw [hlen2] at this
          exact this
  | .st fs, t, fuel, cs, x, hf, hd, hw => by
    unfold fits at hf; split at hf <;> first | cases hf | skip
    rename_i fds hu
    simp only [Bool.and_eq_true] at hf
    obtain ⟨hn, hfl⟩ := hf
    obtain ⟨xs, n, rfl, rfl, hcl, hxl, hget⟩ := DataW.trod_struct hu hd
    simp only [DataW.weights, hu] at hw
    obtain ⟨vs, h1, h2, h3⟩ := open_fields fs (fds := fds.toList) (o := 0) (n := n) (cs := cs) (xs := xs) hfl (by simpa using hxl) (fun i f hi => by
      have := hget i f (by simpa using hi)
      exact this) (by rw [hcl, Nat.eq_of_beq_eq_true hn]; omega) hw
    refine ⟨vs, h1, ?_, by simpa using h3⟩
    rw [HasL.len h1, hcl, Nat.eq_of_beq_eq_true hn]
theorem open_fields : ∀ (fs : List Sh) {fds : List Field} {o n : Nat} {cs : List Value} {xs : List (DataW H × List MemPlace)}, fitsL P fs fds o = true → xs.length = fds.length →
    (∀ (i : Nat) (f : Field), fds[i]? = some f → DataW.trod enc P w base (fun _ => true) held n f.type ((cs.drop f.offset).take (P.cellsOf f.type)) = xs[i]?) → cs.length = o + Sh.nL fs →
    (DataW.weightsEach P (fds.map (·.type)) (xs.map (·.1))).all (· ≤ reachBytes) = true → ∃ vs, HasL fs vs ∧ vs.length = (cs.drop o).length ∧ PRs (im0 w) vs (cs.drop o)
  | [], fds, o, n, cs, xs, hf, hx, hg, hc, hw => by
    simp only [Sh.nL, Nat.add_zero] at hc
    refine ⟨[], rfl, by simp [hc], fun j x y h => by cases h⟩
  | s :: fs, fds, o, n, cs, xs, hf, hx, hg, hc, hw => by
    cases fds with
    | nil => cases hf
    | cons f fl =>
      cases xs with
      | nil => cases hx
      | cons x xs =>
        unfold fitsL at hf
        simp only [Bool.and_eq_true] at hf
        obtain ⟨ho, hfs, hfl⟩ := hf
        have ho := Nat.eq_of_beq_eq_true ho
        have h0 := hg 0 f rfl
        rw [ho, fits_cells hfs] at h0
        have hw' := all_app (show ((x.1).weights P f.type ++ DataW.weightsEach P (fl.map (·.type)) (xs.map (·.1))).all _ = true from hw)
        simp only [Sh.nL] at hc
        obtain ⟨a, ha1, ha2, ha3⟩ := open_cells s hfs h0 hw'.1
        obtain ⟨b, hb1, hb2, hb3⟩ := open_fields fs (fds := fl) (o := o + s.n) (n := n) (cs := cs) (xs := xs) hfl (by simpa using hx) (fun i f' hi => by simpa using hg (i + 1) f' (by simpa using hi)) (by omega) hw'.2
        have e1 : cs.drop o = (cs.drop o).take s.n ++ cs.drop (o + s.n) := by
          rw [← List.drop_drop, List.take_append_drop]
        refine ⟨a ++ b, ⟨a, b, rfl, ha1, hb1⟩, ?_, ?_⟩
        · rw [e1, List.length_append, List.length_append, ha2, hb2]
        · rw [e1]
          exact PRs.append ha2 ha3 hb3
end

def HasV (s : Sh) (v : V) : Prop := ∃ cs, v = pack s cs ∧ HasC s cs

theorem open_val {s : Sh} {t : TypeId} {r : Reach} {b0 : Nat} {v : Value} {d : DataW H} {ps : List MemPlace} (hf : fits P s t = true) (hval : Value.okWide P w r b0 t v) (hd : DataW.Trod enc P w base (fun _ => true) held t v d ps) (hw : (d.weights P t).all (· ≤ reachBytes) = true) :
    ∃ x, HasV s x ∧ PR (im0 w) x v := by
  obtain ⟨fuel, hd⟩ := hd
  obtain ⟨vs, h1, h2, h3⟩ := open_cells s hf hd hw
  refine ⟨pack s vs, ⟨vs, rfl, h1⟩, ?_⟩
  have scalar : ∀ {x : V}, vs = [x] → (∀ cs, v ≠ .agg cs) → PR (im0 w) x v := by
    intro x hx hv
    have hc : (Value.cells v).toList = [v] := by
      cases v <;> first | rfl | exact absurd rfl (hv _)
    rw [hc] at h3
    subst hx
    exact h3 0 x v rfl rfl
  cases s with
  | st fs =>
    unfold fits at hf; split at hf <;> first | cases hf | skip
    rename_i fds hu
    unfold Value.okWide at hval
    rw [hu] at hval
    obtain ⟨cs, rfl, _⟩ := hval
    refine .agg vs cs (by simpa [Value.cells] using h2.symm) (fun j x y hx hy => h3 j x y hx ?_)
    simpa [Value.cells] using hy
  | int k =>
    unfold fits at hf; split at hf <;> first | cases hf | skip
    rename_i j hu
    obtain ⟨n, rfl⟩ := okWide_int hu hval
    obtain ⟨m, rfl, _⟩ := h1
    exact scalar rfl (fun _ h => by cases h)
  | bool =>
    obtain ⟨m, rfl⟩ := h1
    unfold fits at hf; split at hf <;> first | cases hf | skip
    rename_i hu
    refine scalar rfl (fun cs h => ?_)
    subst h
    simp [Value.okWide, Cell.okWide, Cell.ok, hu] at hval
  | str =>
    obtain ⟨m, rfl, _⟩ := h1
    unfold fits at hf; split at hf <;> first | cases hf | skip
    rename_i hu
    refine scalar rfl (fun cs h => ?_)
    subst h
    simp [Value.okWide, Cell.okWide, Cell.ok, hu] at hval
  | sl z e =>
    obtain ⟨m, rfl, _⟩ := h1
    unfold fits at hf; split at hf <;> first | cases hf | skip
    rename_i u hu
    refine scalar rfl (fun cs h => ?_)
    subst h
    simp [Value.okWide, Cell.okWide, Cell.ok, hu] at hval
end

theorem has_int {k : IntKind} {x : V} (h : HasV (.int k) x) : ∃ n, x = .int k n ∧ (Lit.int k n).wf = true := by
  obtain ⟨cs, rfl, n, rfl, hw⟩ := h
  exact ⟨n, rfl, hw⟩
theorem has_bool {x : V} (h : HasV .bool x) : ∃ b, x = .bool b := by
  obtain ⟨cs, rfl, n, rfl⟩ := h
  exact ⟨n, rfl⟩
theorem has_str {x : V} (h : HasV .str x) : ∃ s : List UInt8, x = .str s ∧ s.length ≤ lenB := by
  obtain ⟨cs, rfl, n, rfl, hw⟩ := h
  exact ⟨n, rfl, hw⟩
theorem packs {α : Type} {e : Sh} {en : α → V} {ok : α → Prop} (h : ∀ x, HasV e x → ∃ a, x = en a ∧ ok a) : ∀ css : List (List V), (∀ c ∈ css, HasC e c) → ∃ l : List α, css.map (pack e) = l.map en ∧ ∀ a ∈ l, ok a
  | [], _ => ⟨[], rfl, fun a h => by cases h⟩
  | c :: css, hc => by
    obtain ⟨a, h1, h2⟩ := h _ ⟨c, rfl, hc c (List.mem_cons_self ..)⟩
    obtain ⟨l, h3, h4⟩ := packs h css (fun c h => hc c (List.mem_cons_of_mem _ h))
    refine ⟨a :: l, by rw [List.map_cons, List.map_cons, h1, h3], fun b hb => ?_⟩
    cases hb with
    | head => exact h2
    | tail _ hb => exact h4 b hb
theorem has_list {α : Type} {e : Sh} {en : α → V} {ok : α → Prop} (h : ∀ x, HasV e x → ∃ a, x = en a ∧ ok a) {z : Nat} {x : V} (hx : HasV (.sl z e) x) : ∃ l : List α, x = .sl .no z (l.map en) ∧ l.length ≤ lenB ∧ ∀ a ∈ l, ok a := by
  obtain ⟨cs, rfl, css, rfl, hl, hc⟩ := hx
  obtain ⟨l, h1, h2⟩ := packs h css hc
  refine ⟨l, by simp only [pack, h1], ?_, h2⟩
  have := congrArg List.length h1
  simp only [List.length_map] at this
  omega
end Go.Vm

/-
  The program's data, in plain Lean; and as values of the machine V.
-/
namespace Go.Sp
open Go Go.Vm

abbrev Txt := List UInt8

structure Val where
  kind : Int
  n : Int
  s : Txt
  deriving DecidableEq, Repr, Inhabited
structure Fact where
  name : Txt
  args : List Val
  deriving DecidableEq, Repr, Inhabited
structure Term where
  var : Txt
  val : Val
  deriving DecidableEq, Repr, Inhabited
structure Atom where
  name : Txt
  args : List Term
  deriving DecidableEq, Repr, Inhabited
structure Bind where
  var : Txt
  val : Val
  deriving DecidableEq, Repr, Inhabited
structure Op where
  kind : Int
  var : Txt
  val : Val
  deriving DecidableEq, Repr, Inhabited
structure Cond where
  kind : Int
  atom : Atom
  how : Int
  left : List Op
  right : List Op
  deriving DecidableEq, Repr, Inhabited
structure Act where
  kind : Int
  name : Txt
  args : List (List Op)
  which : Int
  deriving DecidableEq, Repr, Inhabited
structure Rule where
  name : Txt
  prio : Int
  conds : List Cond
  acts : List Act
  deriving DecidableEq, Repr, Inhabited
structure Decl where
  name : Txt
  arity : Int
  kind : Int
  deriving DecidableEq, Repr, Inhabited
structure Node where
  kind : Int
  atom : Atom
  a : Int
  b : Int
  deriving DecidableEq, Repr, Inhabited
structure Pattern where
  name : Txt
  trigger : Atom
  nodes : List Node
  deriving DecidableEq, Repr, Inhabited
structure Prog where
  decls : List Decl
  rules : List Rule
  pats : List Pattern
  deriving DecidableEq, Repr, Inhabited
structure Config where
  fuel : Int
  facts : Int
  deriving DecidableEq, Repr, Inhabited
structure Inst where
  rule : Int
  facts : List Fact
  deriving DecidableEq, Repr, Inhabited


abbrev eI (n : Int) : V := .int .i64 n
abbrev b8 (c : UInt8) : V := .int .u8 (c.toNat : Int)
abbrev eB (b : Bool) : V := .bool b
abbrev eS (s : Txt) : V := .str s
abbrev eL {α : Type} (z : Nat) (e : α → V) (l : List α) : V := .sl .no z (l.map e)

def Val.cells (v : Val) : List V := [eI v.kind, eI v.n, eS v.s]
def eVal (v : Val) : V := .agg v.cells
def Fact.cells (f : Fact) : List V := [eS f.name, eL 3 eVal f.args]
def eFact (f : Fact) : V := .agg f.cells
def Term.cells (t : Term) : List V := eS t.var :: t.val.cells
def eTerm (t : Term) : V := .agg t.cells
def Atom.cells (a : Atom) : List V := [eS a.name, eL 4 eTerm a.args]
def eAtom (a : Atom) : V := .agg a.cells
def Bind.cells (b : Bind) : List V := eS b.var :: b.val.cells
def eBind (b : Bind) : V := .agg b.cells
def Op.cells (o : Op) : List V := eI o.kind :: eS o.var :: o.val.cells
def eOp (o : Op) : V := .agg o.cells
def Cond.cells (c : Cond) : List V := eI c.kind :: (c.atom.cells ++ [eI c.how, eL 5 eOp c.left, eL 5 eOp c.right])
def eCond (c : Cond) : V := .agg c.cells
def Act.cells (a : Act) : List V := [eI a.kind, eS a.name, eL 1 (eL 5 eOp) a.args, eI a.which]
def eAct (a : Act) : V := .agg a.cells
def Rule.cells (r : Rule) : List V := [eS r.name, eI r.prio, eL 6 eCond r.conds, eL 4 eAct r.acts]
def eRule (r : Rule) : V := .agg r.cells
def Decl.cells (d : Decl) : List V := [eS d.name, eI d.arity, eI d.kind]
def eDecl (d : Decl) : V := .agg d.cells
def Node.cells (n : Node) : List V := eI n.kind :: (n.atom.cells ++ [eI n.a, eI n.b])
def eNode (n : Node) : V := .agg n.cells
def Pattern.cells (p : Pattern) : List V := eS p.name :: (p.trigger.cells ++ [eL 5 eNode p.nodes])
def ePattern (p : Pattern) : V := .agg p.cells
def Prog.cells (p : Prog) : List V := [eL 3 eDecl p.decls, eL 4 eRule p.rules, eL 4 ePattern p.pats]
def eProg (p : Prog) : V := .agg p.cells
def eInst (x : Inst) : V := .agg [eI x.rule, eL 2 eFact x.facts]
structure Looker where
  l : List Node
  deriving DecidableEq, Repr, Inhabited
def Looker.cells (k : Looker) : List V := [eL 5 eNode k.l]
def eLooker (k : Looker) : V := .agg k.cells
def eP {α β : Type} (e : α → V) (f : β → V) (p : α × β) : V := .tup [e p.1, f p.2]
def eP3 {α β γ : Type} (e : α → V) (f : β → V) (g : γ → V) (p : α × β × γ) : V := .tup [e p.1, f p.2.1, g p.2.2]

end Go.Sp

/-
  The program's data: of sizes that may be.
-/
namespace Go.Sp
open Go Go.Vm

def i64ok (n : Int) : Prop := -9223372036854775808 ≤ n ∧ n ≤ 9223372036854775807
def Val.ok (v : Val) : Prop := v.s.length ≤ 140737488351232 ∧ i64ok v.n ∧ i64ok v.kind
def Term.ok (t : Term) : Prop := t.var.length ≤ 140737488351232 ∧ t.val.ok
def Atom.ok (a : Atom) : Prop := a.name.length ≤ 140737488351232 ∧ a.args.length ≤ 140737488351232 ∧ ∀ t ∈ a.args, t.ok
def Node.ok (n : Node) : Prop := n.atom.ok ∧ i64ok n.kind ∧ i64ok n.a ∧ i64ok n.b
def okL (l : List Node) : Prop := l.length ≤ 140737488351232 ∧ ∀ n ∈ l, n.ok
theorem Val.ok.s {v : Val} (h : v.ok) : v.s.length ≤ 140737488351232 := h.1
theorem Term.ok.var {t : Term} (h : t.ok) : t.var.length ≤ 140737488351232 := h.1
theorem Term.ok.val {t : Term} (h : t.ok) : t.val.ok := h.2
theorem Atom.ok.name {a : Atom} (h : a.ok) : a.name.length ≤ 140737488351232 := h.1
theorem Atom.ok.args {a : Atom} (h : a.ok) : a.args.length ≤ 140737488351232 := h.2.1
theorem Atom.ok.arg {a : Atom} (h : a.ok) {i : Nat} {t : Term} (ht : a.args[i]? = some t) : t.ok := h.2.2 t (List.mem_of_getElem? ht)
theorem Atom.ok.mem {a : Atom} (h : a.ok) {t : Term} (ht : t ∈ a.args) : t.ok := h.2.2 t ht
theorem Node.ok.atom {n : Node} (h : n.ok) : n.atom.ok := h.1
theorem okL.len {l : List Node} (h : okL l) : l.length ≤ 140737488351232 := h.1
theorem okL.get {l : List Node} (h : okL l) {i : Nat} {n : Node} (hn : l[i]? = some n) : n.ok := h.2 n (List.mem_of_getElem? hn)
theorem okL.mem {l : List Node} (h : okL l) {n : Node} (hn : n ∈ l) : n.ok := h.2 n hn
theorem okL.b {l : List Node} (h : okL l) {i : Nat} {n : Node} (hn : l[i]? = some n) : (-9223372036854775808 ≤ n.kind ∧ n.kind ≤ 9223372036854775807) ∧ (-9223372036854775808 ≤ n.a ∧ n.a ≤ 9223372036854775807) ∧ (-9223372036854775808 ≤ n.b ∧ n.b ≤ 9223372036854775807) := (okL.get h hn).2
attribute [grind →] Val.ok.s Term.ok.var Term.ok.val Atom.ok.name Atom.ok.args Atom.ok.arg Atom.ok.mem Node.ok.atom okL.len okL.get okL.mem
theorem all_snoc {α : Type} {P : Nat → α → Prop} {l : List α} {z : α} (h : ∀ j y, l[j]? = some y → P j y) (hz : P l.length z) : ∀ j y, (l ++ [z])[j]? = some y → P j y := by
  intro j y hy
  by_cases hj : j < l.length
  · rw [List.getElem?_append_left hj] at hy; exact h j y hy
  · rw [List.getElem?_append_right (by omega)] at hy
    have : j - l.length = 0 := by
      rcases Nat.eq_zero_or_pos (j - l.length) with h0 | h0
      · exact h0
      · rw [List.getElem?_eq_none (by simp; omega)] at hy; cases hy
    rw [this] at hy
    cases hy
    rw [show j = l.length by omega]; exact hz
end Go.Sp

/-
  The machine V, for the kernel: calls whose answers are known.
-/
namespace Go.Vm
open Go

theorem veqL_sound (a b : List V) (h : veqL a b = true) : a = b := by
  have := veq_sound (.tup a) (.tup b) h
  simpa using this
theorem suB0 (b : Blk) : suB sg0 b = b := by
  cases b with
  | box l => simp only [suB, suL0]
  | arr v z l => simp only [suB, suL0, su0]
  | tok v => simp only [suB]
  | map es => simp only [suB, su0, List.map_id']
  | dead => simp only [suB]
theorem suG0 (sg : List Fr) : suG sg0 sg = sg := by
  have h1 : suB sg0 = id := funext suB0
  have h2 : suF sg0 = id := funext fun f => by simp only [suF, h1, List.map_id, id]
  simp only [suG, h2, List.map_id]

class Cl {α : Type} (e : α → V) where
  cl : ∀ (σ : Int → V) x, su σ (e x) = e x
class Cd {α : Type} (e : α → V) extends Cl e where
  dec : V → Option α
  ok : ∀ v x, dec v = some x → v = e x

def KOk (T : Tab) (f : FuncId) (k : List V → Option V) : Prop := ∀ (σ : Int → V) (l : List V) v sg, k l = some v → T.call f (suL σ l) sg = some (su σ v, sg, 0)

inductive KT where
  | leaf
  | node (f : Nat) (k : List V → Option V) (l r : KT)
noncomputable def KT.get (t : KT) (f : FuncId) : List V → Option V :=
  @KT.rec (fun _ => List V → Option V) (fun _ => none) (fun g k _ _ l r => @Bool.rec (fun _ => List V → Option V) (@Bool.rec (fun _ => List V → Option V) r l (Nat.blt f g)) k (Nat.beq f g)) t
def KT.Ok (T : Tab) : KT → Prop
  | .leaf => True
  | .node f k l r => KOk T f k ∧ l.Ok T ∧ r.Ok T
theorem KT.get_ok {T : Tab} : ∀ {t : KT}, t.Ok T → ∀ f, KOk T f (t.get f)
  | .leaf, _, f => fun _ _ _ _ h => by cases h
  | .node g k l r, h, f => by
    obtain ⟨h1, h2, h3⟩ := h
    have e : (KT.node g k l r).get f = @Bool.rec (fun _ => List V → Option V) (@Bool.rec (fun _ => List V → Option V) (r.get f) (l.get f) (Nat.blt f g)) k (Nat.beq f g) := rfl
    rw [e]
    cases hb : Nat.beq f g with
    | true => rw [Nat.eq_of_beq_eq_true hb]; exact h1
    | false =>
      cases Nat.blt f g with
      | true => exact KT.get_ok h2 f
      | false => exact KT.get_ok h3 f

noncomputable def allB {α : Type} (p : α → Bool) (l : List α) : Bool := @List.rec α (fun _ => Bool) true (fun x _ ih => ifK (p x) ih false) l
theorem allB_mem {α : Type} {p : α → Bool} : ∀ {l : List α}, allB p l = true → ∀ x ∈ l, p x = true
  | [], _, x, hx => by cases hx
  | y :: l, h, x, hx => by
    have h : ifK (p y) (allB p l) false = true := h
    rw [ifK_eq] at h
    cases hy : p y with
    | false => rw [hy] at h; cases h
    | true =>
      rw [hy] at h
      cases hx with
      | head => exact hy
      | tail _ hx => exact allB_mem h x hx
theorem and_of {a b : Bool} (h : (a && b) = true) : a = true ∧ b = true := by simpa using h
noncomputable def k1 {α β : Type} (e : α → V) [Cd e] (e' : β → V) (c : α → Bool) (g : α → β) : List V → Option V := fun l => match l with
  | [a] => match Cd.dec e a with
    | some x => bif c x then some (e' (g x)) else none
    | none => none
  | _ => none
theorem k1_ok {T : Tab} {f : FuncId} {α β : Type} {e : α → V} [Cd e] {e' : β → V} [Cl e'] {c : α → Bool} {g : α → β} (h : ∀ x, c x = true → SaysT T f [e x] (e' (g x))) : KOk T f (k1 e e' c g) := by
  intro σ l v sg hk
  unfold k1 at hk
  split at hk
  · rename_i a
    split at hk
    · rename_i x hx
      cases hc : c x with
      | false => rw [hc] at hk; cases hk
      | true =>
        rw [hc] at hk
        cases hk
        rw [Cd.ok a x hx]
        simp only [suL, Cl.cl]
        exact h x hc sg
    · cases hk
  · cases hk

noncomputable def k2 {α γ β : Type} (e : α → V) [Cd e] (e2 : γ → V) [Cd e2] (e' : β → V) (c : α → γ → Bool) (g : α → γ → β) : List V → Option V := fun l => match l with
  | [a, b] => match Cd.dec e a with
    | some x => match Cd.dec e2 b with
      | some y => bif c x y then some (e' (g x y)) else none
      | none => none
    | none => none
  | _ => none
theorem k2_ok {T : Tab} {f : FuncId} {α γ β : Type} {e : α → V} [Cd e] {e2 : γ → V} [Cd e2] {e' : β → V} [Cl e'] {c : α → γ → Bool} {g : α → γ → β} (h : ∀ x y, c x y = true → SaysT T f [e x, e2 y] (e' (g x y))) : KOk T f (k2 e e2 e' c g) := by
  intro σ l v sg hk
  unfold k2 at hk
  split at hk
  · rename_i a b
    split at hk
    · rename_i x hx
      split at hk
      · rename_i y hy
        cases hc : c x y with
        | false => rw [hc] at hk; cases hk
        | true =>
          rw [hc] at hk
          cases hk
          rw [Cd.ok a x hx, Cd.ok b y hy]
          simp only [suL, Cl.cl]
          exact h x y hc sg
      · cases hk
    · cases hk
  · cases hk

noncomputable def kM (m : List (List V × V)) : List V → Option V := fun l =>
  @List.rec (List V × V) (fun _ => Option V) none (fun p _ ih => @Bool.rec (fun _ => Option V) ih (some p.2) (veqL l p.1)) m
theorem kM_ok {T : Tab} {f : FuncId} : ∀ {m : List (List V × V)}, (∀ p ∈ m, (∀ σ, suL σ p.1 = p.1) ∧ (∀ σ, su σ p.2 = p.2) ∧ SaysT T f p.1 p.2) → KOk T f (kM m)
  | [], _ => fun _ _ _ _ h => by cases h
  | p :: m, h => by
    intro σ l v sg hk
    have e : kM (p :: m) l = @Bool.rec (fun _ => Option V) (kM m l) (some p.2) (veqL l p.1) := rfl
    rw [e] at hk
    cases hv : veqL l p.1 with
    | false =>
      rw [hv] at hk
      exact kM_ok (fun q hq => h q (List.mem_cons_of_mem _ hq)) σ l v sg hk
    | true =>
      rw [hv] at hk
      cases hk
      obtain ⟨h1, h2, h3⟩ := h p (List.mem_cons_self ..)
      rw [veqL_sound _ _ hv, h1, h2]
      exact h3 sg

theorem says_of_C {T : Tab} {A : Orc} (hA : OrcOk T sg0 A) (hp : CallS sg0 T.prim T.prim) (hl : ∀ f F, T.funs f = some F → clC F.code = true) {n : Nat} {f : FuncId} {l : List V} {v : V}
    (h : ∀ (p : List Fr → Bool) sg, callC T.C A T.funs T.prim n f l sg (fun v' sg' wd => ifK (veq v' v) (ifK (Nat.beq wd 0) (p sg') false) false) = p sg) : SaysT T f l v := by
  classical
  intro sg
  have h1 := h (fun x => decide (x = sg)) sg
  simp only [decide_true] at h1
  obtain ⟨v', sg', wd, h2, h3⟩ := callC_s num0 hA hp hl n f l sg _ h1
  rw [suL0, suG0] at h2
  rw [h2]
  cases hv : veq v' v with
  | false => rw [hv] at h3; cases h3
  | true =>
    rw [hv] at h3
    cases hw : Nat.beq wd 0 with
    | false => rw [hw] at h3; cases h3
    | true =>
      rw [hw] at h3
      have h3 : decide (sg' = sg) = true := h3
      rw [su0, suG0, veq_sound _ _ hv, of_decide_eq_true h3, Nat.eq_of_beq_eq_true hw]
end Go.Vm

/-
  The machine V, for the kernel: tables of known calls, one behind the other; numbers of which only rests are looked at.
-/
namespace Go.Vm
open Go

noncomputable def orcN : Orc := { B := fun _ _ _ => none, W := fun _ _ => none, E := fun _ _ _ => none, K := fun _ _ => none }
theorem orcN_ok {T : Tab} {σ : Int → V} : OrcOk T σ orcN := ⟨(fun _ _ _ _ h => by cases h), (fun _ _ _ h => by cases h), (fun _ _ _ _ h => by cases h), (fun _ _ _ _ h => by cases h)⟩
noncomputable def orcL (t : KT) (A : Orc) : Orc := { B := A.B, W := A.W, E := A.E, K := fun f l => match t.get f l with
  | some v => some v
  | none => A.K f l }
theorem orcL_ok {T : Tab} {σ : Int → V} {t : KT} {A : Orc} (h : t.Ok T) (hA : OrcOk T σ A) : OrcOk T σ (orcL t A) := by
  refine ⟨hA.B, hA.W, hA.E, fun f l v sg hk => ?_⟩
  replace hk : (match t.get f l with | some v => some v | none => A.K f l) = some v := hk
  split at hk
  · rename_i u hu
    cases hk
    exact KT.get_ok h f σ l v sg hu
  · exact hA.K f l v sg hk

noncomputable def remA (n : Nat) (ru rs : Nat → Int → Option Int) (op : BinOp) (x y : V) : Option V := match op, x, y with
  | .rem, .int .i16 (.ofNat j), .int .u64 q => bif Nat.blt j n then none else (ru (j - n) q).map (.int .u64)
  | .rem, .int .i16 (.ofNat j), .int .i64 q => bif Nat.blt j n then (rs j q).map (.int .i64) else none
  | _, _, _ => none
noncomputable def wrpA (n : Nat) (k : IntKind) (x : V) : Option V := match k, x with
  | .u64, .int .i16 (.ofNat j) => bif Nat.blt j n then some (.int .i16 (.ofNat (j + n))) else none
  | _, _ => none
noncomputable def orcA (n : Nat) (ru rs : Nat → Int → Option Int) (A : Orc) : Orc := { B := remA n ru rs, W := wrpA n, E := A.E, K := A.K }
def sgA (n : Nat) (a : Nat → Int) : Int → V := fun z => match z with
  | .ofNat j => bif Nat.blt j n then .int .i64 (a j) else .int .u64 (IntKind.u64.wrap (a (j - n)))
  | _ => .int .u64 0
theorem sgA_num (n : Nat) (a : Nat → Int) : Num (sgA n a) := by
  intro z
  unfold sgA
  split
  · rename_i j
    cases Nat.blt j n <;> exact ⟨_, _, rfl⟩
  · exact ⟨_, _, rfl⟩
theorem blt_add (j n : Nat) : Nat.blt (j + n) n = false := by
  cases h : Nat.blt (j + n) n with
  | false => rfl
  | true => exact absurd (by simpa [Nat.blt_eq] using h : j + n < n) (by omega)
theorem orcA_ok {T : Tab} {n : Nat} {a : Nat → Int} {ru rs : Nat → Int → Option Int} {A : Orc} (hA : OrcOk T (sgA n a) A)
    (hu : ∀ j q z, ru j q = some z → q ≠ 0 ∧ (IntKind.u64.wrap (a j)).tmod q = z) (hs : ∀ j q z, rs j q = some z → q ≠ 0 ∧ (a j).tmod q = z) : OrcOk T (sgA n a) (orcA n ru rs A) := by
  refine ⟨fun op x y v hv => ?_, fun k x v hv => ?_, hA.E, hA.K⟩
  · replace hv : remA n ru rs op x y = some v := hv
    unfold remA at hv
    split at hv
    · rename_i j q
      cases hj : Nat.blt j n with
      | true => rw [hj] at hv; cases hv
      | false =>
        rw [hj] at hv
        obtain ⟨z, hz, rfl⟩ := Option.map_eq_some_iff.1 hv
        obtain ⟨h0, h1⟩ := hu _ _ _ hz
        have e1 : su (sgA n a) (.int .i16 (.ofNat j)) = .int .u64 (IntKind.u64.wrap (a (j - n))) := by
          show sgA n a (Int.ofNat j) = _
          simp only [sgA, hj, cond_false]
        rw [e1]
        show binI .rem .u64 (IntKind.u64.wrap (a (j - n))) q = some (.int .u64 z)
        have : (q == 0) = false := by simpa using h0
        simp only [binI, this, cond_false, h1]
    · rename_i j q
      cases hj : Nat.blt j n with
      | false => rw [hj] at hv; cases hv
      | true =>
        rw [hj] at hv
        obtain ⟨z, hz, rfl⟩ := Option.map_eq_some_iff.1 hv
        obtain ⟨h0, h1⟩ := hs _ _ _ hz
        have e1 : su (sgA n a) (.int .i16 (.ofNat j)) = .int .i64 (a j) := by
          show sgA n a (Int.ofNat j) = _
          simp only [sgA, hj, cond_true]
        rw [e1]
        show binI .rem .i64 (a j) q = some (.int .i64 z)
        have : (q == 0) = false := by simpa using h0
        simp only [binI, this, cond_false, h1]
    · cases hv
  · replace hv : wrpA n k x = some v := hv
    unfold wrpA at hv
    split at hv
    · rename_i j
      cases hj : Nat.blt j n with
      | false => rw [hj] at hv; cases hv
      | true =>
        rw [hj] at hv
        cases hv
        refine ⟨.i64, a j, ?_, ?_⟩
        · show sgA n a (Int.ofNat j) = _
          simp only [sgA, hj, cond_true]
        · show sgA n a (Int.ofNat (j + n)) = _
          simp only [sgA, blt_add, cond_false, Nat.add_sub_cancel]
    · cases hv
end Go.Vm

/-
  The program's data as what comes in from outside: shapes, and the data of a value of such a shape.
-/
namespace Go.Sp
open Go Go.Vm

abbrev shVal : Sh := .st [.int .i64, .int .i64, .str]
abbrev shTerm : Sh := .st [.str, shVal]
abbrev shAtom : Sh := .st [.str, .sl 4 shTerm]
abbrev shNode : Sh := .st [.int .i64, shAtom, .int .i64, .int .i64]

theorem wf_i64 {n : Int} (h : (Lit.int .i64 n).wf = true) : i64ok n := by
  simp only [Lit.wf, Bool.and_eq_true, decide_eq_true_eq] at h
  exact h
theorem lenB_le {n : Nat} (h : n ≤ lenB) : n ≤ 140737488351232 := h
theorem hasC_val {cs : List V} (h : HasC shVal cs) : ∃ v : Val, cs = v.cells ∧ v.ok := by
  obtain ⟨a1, b1, rfl, ⟨n1, rfl, w1⟩, a2, b2, rfl, ⟨n2, rfl, w2⟩, a3, b3, rfl, ⟨s, rfl, w3⟩, rfl⟩ := h
  exact ⟨⟨n1, n2, s⟩, rfl, lenB_le w3, wf_i64 w2, wf_i64 w1⟩
theorem hasC_term {cs : List V} (h : HasC shTerm cs) : ∃ v : Term, cs = v.cells ∧ v.ok := by
  obtain ⟨a1, b1, rfl, ⟨s, rfl, w1⟩, a2, b2, rfl, h2, rfl⟩ := h
  obtain ⟨v, rfl, h3⟩ := hasC_val h2
  exact ⟨⟨s, v⟩, rfl, lenB_le w1, h3⟩
theorem has_term {x : V} (h : HasV shTerm x) : ∃ v : Term, x = eTerm v ∧ v.ok := by
  obtain ⟨cs, rfl, h⟩ := h
  obtain ⟨v, rfl, h3⟩ := hasC_term h
  exact ⟨v, rfl, h3⟩
theorem hasC_atom {cs : List V} (h : HasC shAtom cs) : ∃ v : Atom, cs = v.cells ∧ v.ok := by
  obtain ⟨a1, b1, rfl, ⟨s, rfl, w1⟩, a2, b2, rfl, h2, rfl⟩ := h
  obtain ⟨l, h3, h4, h5⟩ := has_list (en := eTerm) (ok := Term.ok) (fun x h => has_term h) (x := pack (.sl 4 shTerm) a2) ⟨a2, rfl, h2⟩
  obtain ⟨css, rfl, _⟩ := h2
  refine ⟨⟨s, l⟩, ?_, lenB_le w1, lenB_le h4, h5⟩
  show [V.str s] ++ ([_] ++ []) = [V.str s, _]
  have h3 : V.sl .no 4 _ = V.sl .no 4 (l.map eTerm) := h3
  rw [h3]
  rfl
theorem has_atom {x : V} (h : HasV shAtom x) : ∃ v : Atom, x = eAtom v ∧ v.ok := by
  obtain ⟨cs, rfl, h⟩ := h
  obtain ⟨v, rfl, h3⟩ := hasC_atom h
  exact ⟨v, rfl, h3⟩
theorem hasC_node {cs : List V} (h : HasC shNode cs) : ∃ v : Node, cs = v.cells ∧ v.ok := by
  obtain ⟨a1, b1, rfl, ⟨k, rfl, w1⟩, a2, b2, rfl, h2, a3, b3, rfl, ⟨a, rfl, w3⟩, a4, b4, rfl, ⟨b, rfl, w4⟩, rfl⟩ := h
  obtain ⟨v, rfl, h3⟩ := hasC_atom h2
  exact ⟨⟨k, v, a, b⟩, rfl, h3, wf_i64 w1, wf_i64 w3, wf_i64 w4⟩
theorem has_node {x : V} (h : HasV shNode x) : ∃ v : Node, x = eNode v ∧ v.ok := by
  obtain ⟨cs, rfl, h⟩ := h
  obtain ⟨v, rfl, h3⟩ := hasC_node h
  exact ⟨v, rfl, h3⟩
theorem has_nodes {x : V} (h : HasV (.sl 5 shNode) x) : ∃ l : List Node, x = eL 5 eNode l ∧ okL l := by
  obtain ⟨l, h1, h2, h3⟩ := has_list (en := eNode) (ok := Node.ok) (fun x h => has_node h) h
  exact ⟨l, h1, lenB_le h2, h3⟩
end Go.Sp
