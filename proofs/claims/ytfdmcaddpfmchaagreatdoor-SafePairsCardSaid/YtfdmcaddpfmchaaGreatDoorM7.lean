/-
  A part of a proof: the last text of the claim says what is proved, and under which conditions.
-/
import Derived.Test.YtfdmcaddpfmchaaGreatDoorM5
import Derived.Test.YtfdmcaddpfmchaaGreatDoorM6
set_option linter.unusedSimpArgs false
set_option linter.unusedVariables false
set_option linter.unnecessarySimpa false
/-
  The machine V: rows of texts, sorted, or each run of the same made one, among its routines; and words for printed proofs.
-/
namespace Go.Vm
open Go

def primR (K : FuncId → Option Bool) (p : Call) : Call := fun f av sg => match K f with
  | some _ => rowX K f av sg
  | none => p f av sg
theorem primR_q {K : FuncId → Option Bool} {p : Call} (hp : CallQ p) : CallQ (primR K p) := by
  intro f av sg v sg' wd h
  unfold primR at h
  split at h
  · exact rowX_q K f av sg v sg' wd h
  · exact hp f av sg v sg' wd h
theorem primR_ok {KW : World → Prop} {P : Program} {K : FuncId → Option Bool} {p : Call} (hK : ∀ f k, K f = some k → RowFn P k f) (hp : CallOk KW P p) : CallOk KW P (primR K p) := by
  intro f av sg v sg' wd h G B w A hwr hA hR
  unfold primR at h
  split at h
  · exact rowX_ok hK f av sg v sg' wd h G B w A hwr hA hR
  · exact hp f av sg v sg' wd h G B w A hwr hA hR

theorem txtsR_su {σ : Int → V} : ∀ ss : List (List UInt8), suL σ (ss.map V.str) = ss.map V.str
  | [] => rfl
  | s :: ss => by simp only [List.map_cons, suL, su, txtsR_su ss]
theorem suL_app {σ : Int → V} (l m : List V) : suL σ (l ++ m) = suL σ l ++ suL σ m := by simp only [suL_map, List.map_append]
theorem suG_set {σ : Int → V} (sg : List Fr) (d i : Nat) (b : Blk) : suG σ (sg.modify d (·.set i b)) = (suG σ sg).modify d (·.set i (suB σ b)) := by
  apply List.ext_getElem?
  intro j
  simp only [suG, suF, List.getElem?_map, List.getElem?_modify]
  cases sg[j]? with
  | none => rfl
  | some f =>
    by_cases e : d = j
    · simp only [e, if_true, Option.map_some]; exact congrArg some (show (f.set i b).map (suB σ) = (f.map (suB σ)).set i (suB σ b) from List.map_set ..)
    · simp [e]
theorem primR_su {σ : Int → V} {K : FuncId → Option Bool} {p : Call} (hp : CallS σ p p) : CallS σ (primR K p) (primR K p) := by
  intro f av sg v sg' wd h
  unfold primR at h ⊢
  split at h
  case h_2 => exact hp f av sg v sg' wd h
  rename_i k hk
  show rowX K f (suL σ av) (suG σ sg) = _
  unfold rowX at h
  rw [hk] at h
  split at h
  case h_2 => cases h
  rename_i x1 x2 k' d i ver o len e1
  cases e1
  split at h
  case h_2 => cases h
  rename_i ver' z es hg
  obtain ⟨hb, h1⟩ := bif_opt' h
  have hg' : getB [] (suG σ sg) (d + 1) i = some (.arr ver' z (suL σ es)) := by
    simp only [getB, suG, List.getElem?_map] at hg ⊢
    cases h1 : sg[d]? with
    | none => rw [h1] at hg; cases hg
    | some fr =>
      rw [h1] at hg
      simp only [Option.bind_some, Option.map_some, suF, List.getElem?_map] at hg ⊢
      rw [hg]; rfl
  have hr : su σ (rowV k d i ver o 0) = rowV k d i ver o 0 := by cases k <;> rfl
  have hr' : ∀ n, su σ (rowV k d i ver o n) = rowV k d i ver o n := by intro n; cases k <;> rfl
  show rowX K f [.bs (d + 1) i ver o len] (suG σ sg) = _
  unfold rowX
  rw [hk]
  simp only [hg', suL_len, hb, cond_true]
  cases h0 : Nat.beq len 0 with
  | true =>
    rw [h0] at h1
    cases h1
    rw [hr]; rfl
  | false =>
    rw [h0] at h1
    obtain ⟨ss, h2, h3⟩ := Option.map_eq_some_iff.1 h1
    cases h3
    have h4 : strsOf (((suL σ es).drop o).take len) = some ss := by
      have := strsOf_inv h2
      rw [← suL_drop, ← suL_take, this, txtsR_su, strsOf_map]
    simp only [cond_false, h4, Option.map_some, hr']
    show some (_, (suG σ sg).modify d (·.set i _), d + 1) = some (_, suG σ (sg.modify d (·.set i _)), d + 1)
    rw [suG_set]
    show _ = some (_, (suG σ sg).modify d (·.set i (.arr ver z (suL σ _))), d + 1)
    rw [suL_app, suL_app, suL_take, suL_drop, txtsR_su]

section
variable {T : Tab} {F : VF} {α : Type} {e : α → V × List Fr × Nat} {r : α} {c : Cf}

theorem clr {f : FuncId} {l : List V} {v : V} {fr : Fr} (hs : ∃ wd, wd ≤ 1 ∧ T.call f l (c.s.fr :: c.s.sg) = some (v, fr :: c.s.sg, wd)) (h : Ans T F e r (setF c v { c.s with fr := fr })) (hc : callA T.C c = some (f, l) := by kernel_rfl) (hr : inReg c = true := by kernel_rfl) : Ans T F e r c := by
  obtain ⟨wd, h1, h2⟩ := hs
  refine clw h2 ?_ hc hr
  have : behind c.s fr c.s.sg wd = { c.s with fr := fr } := by
    unfold behind
    rw [show wd - 1 = 0 by omega, Nat.max_zero]
  rw [this]; exact h

def compP (l : List (List UInt8)) : List (List UInt8) := rowT true l
theorem row_call {K : FuncId → Option Bool} {f : FuncId} {k : Bool} {fr : Fr} {sg : List Fr} {i ver : Nat} {L : List (List UInt8)} {n : Nat} (hn : n = L.length) (hf : T.funs f = none) (hp : T.prim f = rowX K f) (hk : K f = some k) (hg : fr[i]? = some (.arr ver 1 (L.map V.str)))
    (hl : L.length < 4611686018427387904) : ∃ wd, wd ≤ 1 ∧ T.call f [.bs 1 i ver 0 n] (fr :: sg) = some (rowV k 0 i ver 0 (rowN k L), fr.set i (.arr ver 1 ((rowT k L).map V.str)) :: sg, wd) := by
  subst hn
  suffices h : ∃ wd, wd ≤ 1 ∧ rowX K f [.bs 1 i ver 0 L.length] (fr :: sg) = some (rowV k 0 i ver 0 (rowN k L), fr.set i (.arr ver 1 ((rowT k L).map V.str)) :: sg, wd) by
    obtain ⟨wd, h1, h2⟩ := h
    exact ⟨wd, h1, call_prim hf (by rw [hp]; exact h2)⟩
  unfold rowX
  have hg' : getB [] (fr :: sg) (0 + 1) i = some (.arr ver 1 (L.map V.str)) := hg
  have h1 : (Nat.beq 1 1 && (Nat.beq ver ver && (Nat.ble (0 + L.length) (L.map V.str).length && Nat.blt L.length 4611686018427387904))) = true := by
    simp only [Nat.beq_refl, Bool.true_and, List.length_map, Nat.zero_add, Bool.and_eq_true]
    exact ⟨Nat.ble_eq_true_of_le (Nat.le_refl _), by simpa [Nat.blt_eq] using hl⟩
  simp only [hk, hg', h1, cond_true]
  cases h0 : Nat.beq L.length 0 with
  | true =>
    have : L = [] := List.eq_nil_of_length_eq_zero (Nat.eq_of_beq_eq_true h0)
    subst this
    refine ⟨0, Nat.zero_le _, ?_⟩
    have e1 : fr.set i (Blk.arr ver 1 (([] : List (List UInt8)).map V.str)) = fr := by
      apply List.ext_getElem?
      intro j
      by_cases e : i = j
      · subst e; rw [List.getElem?_set_self (List.getElem?_eq_some_iff.1 hg).1, hg]
      · rw [List.getElem?_set_ne e]
    cases k
    · have : rowT false [] = [] := rfl
      rw [this, e1]; rfl
    · have : rowT true [] = [] := rfl
      rw [this, e1]; rfl
  | false =>
    refine ⟨1, Nat.le_refl _, ?_⟩
    have h2 : ((L.map V.str).drop 0).take L.length = L.map V.str := by rw [List.drop_zero, List.take_of_length_le (by simp)]
    simp only [cond_false, h2, strsOf_map, Option.map_some, List.take_zero, List.nil_append, Nat.zero_add]
    have h3 : (L.map V.str).drop L.length = [] := by simp
    rw [h3, List.append_nil]
    rfl

def mmA (c : Cf) : Option (Bool × List V × Nat × Nat × Nat × List Nat × List DOp × List DOp × Option Nat) := match mopA c with
  | some (dd, .mk 0 ag z n k, re, all, l) => match nat? (rd c.s.tm n), nat? (rd c.s.tm k) with
    | some n, some k => some (ag, z, n, k, c.s.fr.length, re, all, l, dd)
    | _, _ => none
  | _ => none
def mmD (c : Cf) : List DOp × List DOp × Option Nat := match mmA c with
  | some (_, _, _, _, _, _, x) => x
  | none => ([], [], none)
def mmS {β : Type} (c : Cf) (en : β → V) (zl n i : Nat) (x0 : β) : St := put { c.s with fr := c.s.fr ++ [.arr 1 zl ((List.replicate n x0).map en)] } (mmD c).2.2 (.bs 0 i 1 0 n)
theorem mkm {β : Type} {en : β → V} {ag : Bool} {z : List V} {n i zl : Nat} {r : α} (x0 : β) (hx : mkEl ag z = en x0) (hz : z.length = zl) (hn : n ≤ lim) (h : Ans T F e r (setD c (mmD c).1 (mmD c).2.1 (mmS c en zl n i x0)))
    (hc : mmA c = some (ag, z, n, n, i, [], (mmD c).1, (mmD c).2.1, (mmD c).2.2) := by kernel_rfl) : Ans T F e r c := by
  unfold mmS at h
  revert hc h
  generalize mmD c = D
  intro h hc
  obtain ⟨D1, D2, D3⟩ := D
  unfold mmA at hc
  split at hc
  · rename_i dd ag' z' n' k' re all l hm
    split at hc
    · rename_i n'' k'' h1 h2
      simp only [Option.some.injEq, Prod.mk.injEq] at hc
      obtain ⟨rfl, rfl, rfl, rfl, rfl, rfl, rfl, rfl, rfl⟩ := hc
      refine opD_s hm ?_ trivial h
      show ((nat? (rd c.s.tm n')).bind fun n => (nat? (rd c.s.tm k')).bind fun c' => _) = _
      rw [h1, h2]
      simp only [Option.bind_some]
      have e1 : ∀ q : Nat, Nat.beq q q = true := fun q => Nat.beq_refl q
      rw [e1, bT' hn]
      simp only [Bool.and_self, cond_true, List.map_replicate, hx, hz]
    · cases hc
  · cases hc

def saM (c : Cf) : Option (Bool × Nat × Nat × Nat × Nat × Nat × Nat × Nat × Nat × List V × V × List Nat × List DOp × List DOp × Option Nat) := match mopA c with
  | some (dd, .st ag sz x v, re, all, l) => match rd c.s.tm x with
    | .ap d i ver j o => match c.s.get d i with
      | some (.arr ver' z es) => some (ag, sz, d, i, ver, ver', z, j, o, es, rd c.s.tm v, re, all, l, dd)
      | _ => none
    | _ => none
  | _ => none
def smD (c : Cf) : List DOp × List DOp × Option Nat := match saM c with
  | some (_, _, _, _, _, _, _, _, _, _, _, _, x) => x
  | none => ([], [], none)
theorem stm {β : Type} {en : β → V} {L : List β} {ag : Bool} {sz i ver z j o : Nat} {y y' : β} {v : V} {cs : List V} {r : α} (hy : L[j]? = some y) (hs : stC ag sz (cellsOf (en y)) o (dt2 v) = some cs) (he : reEl (en y) cs = en y') (hp : pu2 (en y') = true)
    (h : Ans T F e r (setD c (smD c).1 (smD c).2.1 (put (c.s.set 0 i (.arr ver z ((L.set j y').map en))) (smD c).2.2 .und))) (hc : saM c = some (ag, sz, 0, i, ver, ver, z, j, o, L.map en, v, [], (smD c).1, (smD c).2.1, (smD c).2.2) := by kernel_rfl) : Ans T F e r c := by
  revert hc h
  generalize smD c = D
  intro h hc
  obtain ⟨D1, D2, D3⟩ := D
  unfold saM at hc
  split at hc
  · rename_i d0 ag' sz' x v' re all l hm
    split at hc
    · rename_i d' i' ver' j' o' hx
      split at hc
      · rename_i ver'' z' es' hg
        simp only [Option.some.injEq, Prod.mk.injEq] at hc
        obtain ⟨rfl, rfl, rfl, rfl, rfl, rfl, rfl, rfl, rfl, rfl, rfl, rfl, rfl, rfl, rfl⟩ := hc
        refine opD_s hm ?_ trivial h
        show (stV ag' sz' (rd c.s.tm x) (rd c.s.tm v') c.s).map (V.und, ·) = _
        rw [hx]
        simp only [stV, hg]
        have h2 : Nat.beq ver'' ver'' = true := Nat.beq_refl _
        rw [h2, get_map en hy]
        simp only [cond_true, Option.bind_some, hs, he, hp, Option.map_some]
        rw [List.map_set]
      · cases hc
    · cases hc
  · cases hc

def rwV (C : Cfg) (c : Cf) : Nat := match callA C c with
  | some (_, [.bs _ _ ver _ _]) => ver
  | _ => 0
theorem rwc {K : FuncId → Option Bool} {f : FuncId} {k : Bool} {i n : Nat} {L : List (List UInt8)} {r : α} (hn : n = L.length) (hf : T.funs f = none) (hp : T.prim f = rowX K f) (hk : K f = some k) (hl : L.length < 4611686018427387904)
    (h : Ans T F e r (setF c (rowV k 0 i (rwV T.C c) 0 (rowN k L)) { c.s with fr := c.s.fr.set i (.arr (rwV T.C c) 1 ((rowT k L).map V.str)) }))
    (hg : c.s.fr[i]? = some (.arr (rwV T.C c) 1 (L.map V.str)) := by kernel_rfl) (hc : callA T.C c = some (f, [.bs 1 i (rwV T.C c) 0 n]) := by kernel_rfl) (hr : inReg c = true := by kernel_rfl) : Ans T F e r c :=
  clr (row_call hn hf hp hk hg hl) h hc hr
end
end Go.Vm
