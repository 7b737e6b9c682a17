/-
  A part of a proof: the last text of the claim says what is proved, and under which conditions.
-/
import Derived.Test.YtfdmcaddpfmchaaGreatDoorM3
import Derived.Lib.RowBridge
set_option linter.unusedSimpArgs false
set_option linter.unusedVariables false
set_option linter.unnecessarySimpa false
/-
  The machine V: slices.Sorted(slices.Values(l)) at texts, as a routine.
-/
namespace Go.Vm
open Go Go.RowKit Go.Sort Go.Proofs

def insT (x : List UInt8) : List (List UInt8) → List (List UInt8)
  | [] => [x]
  | y :: ys => bif decide (x ≤ y) then x :: y :: ys else y :: insT x ys
def sortT : List (List UInt8) → List (List UInt8)
  | [] => []
  | x :: xs => insT x (sortT xs)
theorem insT_perm (x : List UInt8) : ∀ l, (insT x l).Perm (x :: l)
  | [] => .refl _
  | y :: ys => by
    unfold insT
    cases decide (x ≤ y) with
    | true => exact .refl _
    | false => exact ((insT_perm x ys).cons y).trans (.swap x y ys)
theorem sortT_perm : ∀ l, (sortT l).Perm l
  | [] => .refl _
  | x :: xs => (insT_perm x _).trans ((sortT_perm xs).cons x)
theorem insT_sorted (x : List UInt8) : ∀ l : List (List UInt8), l.Pairwise (fun a b => a ≤ b) → (insT x l).Pairwise (fun a b => a ≤ b)
  | [], _ => by simp [insT]
  | y :: ys, h => by
    obtain ⟨h1, h2⟩ := List.pairwise_cons.1 h
    unfold insT
    by_cases hxy : x ≤ y
    · rw [decide_eq_true hxy]
      refine List.pairwise_cons.2 ⟨fun z hz => ?_, h⟩
      rcases List.mem_cons.1 hz with rfl | hz
      · exact hxy
      · exact List.le_trans hxy (h1 z hz)
    · rw [decide_eq_false hxy]
      have hyx : y ≤ x := (List.le_total x y).resolve_left hxy
      refine List.pairwise_cons.2 ⟨fun z hz => ?_, insT_sorted x ys h2⟩
      rcases List.mem_cons.1 ((insT_perm x ys).mem_iff.1 hz) with rfl | hz
      · exact hyx
      · exact h1 z hz
theorem sortT_sorted : ∀ l, (sortT l).Pairwise (fun a b => a ≤ b)
  | [] => .nil
  | x :: xs => insT_sorted x _ (sortT_sorted xs)
theorem sortT_eq (l : List (List UInt8)) : sortT l = l.mergeSort fun x y => decide (x ≤ y) := by
  refine List.Perm.eq_of_pairwise (le := fun a b : List UInt8 => a ≤ b) (fun a b _ _ h1 h2 => List.le_antisymm h1 h2) (sortT_sorted l) ?_ ((sortT_perm l).trans (List.mergeSort_perm l _).symm)
  have := List.pairwise_mergeSort (le := fun x y : List UInt8 => decide (x ≤ y)) (fun a b c h1 h2 => by simp only [decide_eq_true_eq] at *; exact List.le_trans h1 h2) (fun a b => by simp only [Bool.or_eq_true, decide_eq_true_eq]; exact List.le_total a b) l
  exact this.imp fun h => by simpa using h

def txtsOf : List V → Option (List (List UInt8))
  | [] => some []
  | .str s :: vs => (txtsOf vs).map (s :: ·)
  | _ => none
theorem txtsOf_inv : ∀ {vs : List V} {ss : List (List UInt8)}, txtsOf vs = some ss → vs = ss.map V.str
  | [], ss, h => by cases h; rfl
  | v :: vs, ss, h => by
    cases v <;> first | cases h | skip
    rename_i s
    obtain ⟨r, h1, rfl⟩ := Option.map_eq_some_iff.1 (show (txtsOf vs).map (s :: ·) = some ss from h)
    rw [txtsOf_inv h1]; rfl

structure SrtFn (P : Program) (f g : FuncId) : Prop where
  enter : ∀ (A : Array Value) (w : World), (callFunc f A).run P w = .ok (.enter f A) w
  tells : ∀ (Bs Bo : Nat) (sv : Value) (zs : List (List UInt8)) (w : World), zs.length ≤ lim → Bs < w.heap.size → w.cell? ⟨Bs, Bo, none⟩ = some sv →
    ((∃ a cap, sv = .slice a 0 cap ∧ zs = []) ∨ ∃ b off cap, sv = .slice (some ⟨b, off, none⟩) zs.length cap ∧ b < w.heap.size ∧ ∀ j, j < zs.length → w.cell? ⟨b, off + j, none⟩ = some (encStr (zs[j]?.getD []))) →
    Calls P f #[.func (.func g) #[] #[.pointer (some ⟨Bs, Bo, none⟩)]] w fun e w' => ∃ v, e = .returned v ∧ Below w.heap.size w w' ∧
      ((v = .slice none 0 0 ∧ zs = []) ∨ ∃ gb cap, v = .slice (some ⟨gb, 0, none⟩) zs.length cap ∧ w.heap.size ≤ gb ∧ zs.length ≤ cap ∧ ∀ j, j < zs.length → w'.cell? ⟨gb, j, none⟩ = some (encStr ((sortT zs)[j]?.getD [])))

def srtX (g : FuncId) : List V → List Fr → Option (V × List Fr × Nat)
  | [.fn g' [] [.bp (d + 1) i o]], sg => match getB [] sg (d + 1) i with
    | some (.box cs) => match cs[o]? with
      | some (.sl _ z es) => bif Nat.beq g g' && (Nat.beq z 1 && Nat.ble es.length lim) then (txtsOf es).map fun ss => (.sl .no 1 ((sortT ss).map V.str), sg, 0) else none
      | _ => none
    | _ => none
  | _, _ => none
def primI (K : FuncId → Option FuncId) (p : Call) : Call := fun f av sg => match K f with
  | some g => srtX g av sg
  | none => p f av sg
theorem srtX_inv {g : FuncId} {av : List V} {sg sg' : List Fr} {v : V} {wd : Nat} (h : srtX g av sg = some (v, sg', wd)) : ∃ d i o cs t es ss, av = [.fn g [] [.bp (d + 1) i o]] ∧ getB [] sg (d + 1) i = some (.box cs) ∧ cs[o]? = some (.sl t 1 es) ∧ es.length ≤ lim ∧
    es = ss.map V.str ∧ v = .sl .no 1 ((sortT ss).map V.str) ∧ sg' = sg ∧ wd = 0 := by
  unfold srtX at h
  split at h
  · rename_i g' d i o
    split at h
    · rename_i cs hg
      split at h
      · rename_i t z es hc
        obtain ⟨hb, h1⟩ := bif_opt' h
        simp only [Bool.and_eq_true] at hb
        obtain ⟨h2, h3, h4⟩ := hb
        have h2 := Nat.eq_of_beq_eq_true h2
        have h3 := Nat.eq_of_beq_eq_true h3
        have h4 := Nat.le_of_ble_eq_true h4
        subst h2; subst h3
        obtain ⟨ss, h5, h6⟩ := Option.map_eq_some_iff.1 h1
        cases h6
        exact ⟨d, i, o, cs, t, es, ss, rfl, hg, hc, h4, txtsOf_inv h5, rfl, rfl, rfl⟩
      · cases h
    · cases h
  · cases h
theorem primI_q {K : FuncId → Option FuncId} {p : Call} (hp : CallQ p) : CallQ (primI K p) := by
  intro f av sg v sg' wd h
  unfold primI at h
  split at h
  · obtain ⟨_, _, _, _, _, _, _, _, _, _, _, _, _, rfl, rfl⟩ := srtX_inv h
    exact ⟨rfl, fun _ _ => rfl⟩
  · exact hp f av sg v sg' wd h

theorem txts_su {σ : Int → V} : ∀ ss : List (List UInt8), suL σ (ss.map V.str) = ss.map V.str
  | [] => rfl
  | s :: ss => by simp only [List.map_cons, suL, su, txts_su ss]
theorem txtsOf_map : ∀ ss : List (List UInt8), txtsOf (ss.map V.str) = some ss
  | [] => rfl
  | s :: ss => by simp only [List.map_cons, txtsOf, txtsOf_map ss, Option.map_some]

theorem primI_su {σ : Int → V} {K : FuncId → Option FuncId} {p : Call} (hp : CallS σ p p) : CallS σ (primI K p) (primI K p) := by
  intro f av sg v sg' wd h
  unfold primI at h ⊢
  split at h
  · rename_i g _
    obtain ⟨d, i, o, cs, t, es, ss, rfl, hg, hc, hl, rfl, rfl, rfl, rfl⟩ := srtX_inv h
    have hg' : getB [] (suG σ sg') (d + 1) i = some (.box (suL σ cs)) := by
      simp only [getB, suG, List.getElem?_map] at hg ⊢
      cases h1 : sg'[d]? with
      | none => rw [h1] at hg; cases hg
      | some fr =>
        rw [h1] at hg
        simp only [Option.bind_some, Option.map_some, suF, List.getElem?_map] at hg ⊢
        rw [hg]; rfl
    have hc' : (suL σ cs)[o]? = some (.sl t 1 (ss.map V.str)) := by
      rw [suL_get, hc]
      show some (V.sl t 1 (suL σ (ss.map V.str))) = _
      rw [txts_su]
    have hr : su σ (.sl .no 1 ((sortT ss).map V.str)) = .sl .no 1 ((sortT ss).map V.str) := by
      show V.sl .no 1 (suL σ ((sortT ss).map V.str)) = _
      rw [txts_su]
    rw [hr]
    show srtX g [.fn g [] [.bp (d + 1) i o]] (suG σ sg') = _
    unfold srtX
    simp only [hg', hc', Nat.beq_refl, Bool.true_and, txtsOf_map, Option.map_some]
    have hb : (ss.map V.str).length.ble lim = true := Nat.ble_eq_true_of_le hl
    rw [hb]; rfl
  · exact hp f av sg v sg' wd h

theorem WR.know {G : Gh} {KW : World → Prop} {B : Bd KW} {fr : Fr} {sg : List Fr} {w : World} (h : WR G B fr sg w) {c : Nat} (hf : (∀ k, G.im c k = none) ∧ ∀ k, G.ow c k = none) (f : Nat → Option Value) (hc : ∀ k x, f k = some x → w.cell? ⟨c, k, none⟩ = some x) :
    WR { G with im := fun c' k => if c' = c then f k else G.im c' k } B fr sg w ∧ ImLe G.im (fun c' k => if c' = c then f k else G.im c' k) := by
  have him : ImLe G.im (fun c' k => if c' = c then f k else G.im c' k) := by
    intro c' k x hx
    by_cases e : c' = c
    · subst e; rw [hf.1 k] at hx; cases hx
    · show (if c' = c then f k else G.im c' k) = some x
      rw [if_neg e]; exact hx
  refine ⟨⟨fun c' k x hx => ?_, fun c' k x hx => ?_, h.ob, fun d i b loc hd hg hl => ?_, h.dm, h.hB, h.kn⟩, him⟩
  · by_cases e : c' = c
    · subst e
      have hx' : f k = some x := by simpa using hx
      exact hc k x hx'
    · have hx' : G.im c' k = some x := by simpa [e] using hx
      exact h.im c' k x hx'
  · by_cases e : c' = c
    · subst e; exact hf.2 k
    · have hx' : G.im c' k = some x := by simpa [e] using hx
      exact h.io c' k x hx'
  · exact (h.bl d i b loc hd hg hl).keep him (PhLe.refl _ _) fun c k ho => ⟨ho, rfl, Fz.refl _ _ _⟩

theorem encT_eq (s : ByteArray) : encStr s.data.toList = .string s := by
  obtain ⟨a⟩ := s
  simp [encStr]

theorem primI_ok {KW : World → Prop} {P : Program} {K : FuncId → Option FuncId} {p : Call} (hK : ∀ f g, K f = some g → SrtFn P f g) (hp : CallOk KW P p) : CallOk KW P (primI K p) := by
  intro f av sg v sg' wd h G B w A hwr hA hR
  unfold primI at h
  split at h
  case h_2 => exact hp f av sg v sg' wd h G B w A hwr hA hR
  rename_i g hk
  obtain ⟨d, i, o, cs, t, es, ss, rfl, hg, hc, hl, rfl, rfl, rfl, rfl⟩ := srtX_inv h
  obtain ⟨x, rfl⟩ : ∃ x, A = #[x] := by
    obtain ⟨l⟩ := A
    match l, hA with
    | [x], _ => exact ⟨x, rfl⟩
  obtain ⟨A1, A2, rfl, ha, hb, _, rb⟩ := (hR 0 _ x rfl rfl).fn_inv
  obtain ⟨y, rfl⟩ : ∃ y, A2 = #[y] := by
    obtain ⟨l⟩ := A2
    match l, hb with
    | [y], _ => exact ⟨y, rfl⟩
  obtain rfl : A1 = #[] := by simpa using ha
  obtain ⟨c, o0, hd, hph, rfl⟩ := (rb 0 _ y rfl rfl).bp_inv
  have hbr := hwr.bl (d + 1) i _ _ hd hg hph
  obtain ⟨_, _, cv, hcv, hv⟩ := hbr o _ hc
  obtain ⟨a, cap, fv, rfl, _, hcap, han, hsp, him, _, hr⟩ := hv.sl_inv.sl_inv
  obtain ⟨hEn, hT⟩ := hK f g hk
  have hBs := World.block_lt_of_cell? w _ hcv
  have hin : (∃ a' cap', Value.slice a (ss.map V.str).length cap = .slice a' 0 cap' ∧ ss = []) ∨ ∃ b off cap', Value.slice a (ss.map V.str).length cap = .slice (some ⟨b, off, none⟩) ss.length cap' ∧ b < w.heap.size ∧ ∀ j, j < ss.length → w.cell? ⟨b, off + j, none⟩ = some (encStr (ss[j]?.getD [])) := by
    cases ss with
    | nil => exact .inl ⟨a, cap, rfl, rfl⟩
    | cons s0 ss0 =>
      cases a with
      | none => have := han rfl; simp at hcap; omega
      | some ad =>
        have hs := hsp ad rfl (by simp at hcap; omega)
        obtain ⟨b, off, sp⟩ := ad
        simp only at hs
        subst hs
        have hcell : ∀ j, j < (s0 :: ss0).length → w.cell? ⟨b, off + j, none⟩ = some (encStr ((s0 :: ss0)[j]?.getD [])) := by
          intro j hj
          have e1 := hwr.im _ _ _ (him ⟨b, off, none⟩ j 0 rfl (by simpa using hj) (by decide))
          have e2 := hr j (.str ((s0 :: ss0)[j])) 0 (.str ((s0 :: ss0)[j])) (by rw [List.getElem?_map, List.getElem?_eq_getElem hj]; rfl) rfl
          simp only [Nat.mul_one, Nat.add_zero] at e1
          rw [e1, List.getElem?_eq_getElem hj]
          generalize fv j 0 = q at e2
          cases e2 with
          | str s l h => rw [Option.getD_some, h, encT_eq]
        exact .inr ⟨b, off, cap, by simp, World.block_lt_of_cell? w _ (hcell 0 (by simp)), hcell⟩
  refine .inl ⟨hEn _ _, (hT c (o0 + o) _ ss w (by simpa using hl) hBs hcv hin).mono fun e w' he => ?_⟩
  obtain ⟨cv', rfl, hbe, hres⟩ := he
  have hbB : Below B.n w w' := hbe.mono hwr.hB
  have hwr' : WR G B [] sg' w' := by
    refine hwr.same hbB hbe.size (fun c k hc => ?_) (fun c k o ho => ?_)
    · exact hbe.cell (p := ⟨c, k, none⟩) hc
    · have hq := (hwr.ob _ _ _ ho).2
      have hbl := hbe.block c hq
      exact ⟨by simp [World.frozen?, hbl], by unfold mapAt; rw [hbl]⟩
  have hlen : (sortT ss).length = ss.length := (sortT_perm ss).length_eq
  rcases hres with ⟨rfl, rfl⟩ | ⟨gb, cap', rfl, hgb, hcp, hcs⟩
  · refine ⟨G, hwr', ImLe.refl _, PhLt.refl _ _, rfl, ?_, hbB⟩
    exact .pr _ _ (.sl .no 1 [] none 0 (fun _ _ => default) (.inl rfl) (Nat.le_refl _) (fun _ => rfl) (fun _ h => by cases h) (fun _ _ _ h => by cases h) (fun _ _ h => by simp at h) (fun _ _ _ _ h => by simp at h))
  · have hfr := hwr.fresh gb hgb
    obtain ⟨h2, hle⟩ := hwr'.know hfr (fun k => if k < ss.length then some (encStr ((sortT ss)[k]?.getD [])) else none) (fun k x hx => by
      by_cases hk : k < ss.length
      · rw [if_pos hk] at hx; cases hx; exact hcs k hk
      · rw [if_neg hk] at hx; cases hx)
    refine ⟨{ G with im := fun c' k => if c' = gb then (fun k => if k < ss.length then some (encStr ((sortT ss)[k]?.getD [])) else none) k else G.im c' k }, h2, hle, PhLt.refl _ _, rfl, .pr _ _ ?_, hbB⟩
    have e : ss.length = ((sortT ss).map V.str).length := by simp [hlen]
    rw [e]
    refine .sl .no 1 _ (some ⟨gb, 0, none⟩) cap' (fun j _ => encStr ((sortT ss)[j]?.getD [])) (.inl rfl) (by rw [← e]; exact hcp) (fun h => by cases h) (fun x h _ => by cases h; rfl) (fun x j q hx hj hq => ?_) (fun j e he => ?_) (fun j e q x he hx => ?_)
    · cases hx
      have hq0 : q = 0 := by omega
      subst hq0
      show (if gb = gb then (if 0 + (j * 1 + 0) < ((sortT ss).map V.str).length then some (encStr ((sortT ss)[0 + (j * 1 + 0)]?.getD [])) else none) else G.im gb (0 + (j * 1 + 0))) = _
      have e3 : 0 + (j * 1 + 0) = j := by omega
      rw [if_pos rfl, e3, if_pos hj]
    · rw [List.getElem?_map] at he
      obtain ⟨s, _, rfl⟩ := Option.map_eq_some_iff.1 he
      rfl
    · rw [List.getElem?_map] at he
      obtain ⟨s, hs, rfl⟩ := Option.map_eq_some_iff.1 he
      have hq0 : q = 0 := by
        cases q with
        | zero => rfl
        | succ q => simp [cellsOf] at hx
      subst hq0
      obtain rfl : V.str s = x := by simpa [cellsOf] using hx
      rw [hs]
      exact .str _ _ (by simp)

end Go.Vm
