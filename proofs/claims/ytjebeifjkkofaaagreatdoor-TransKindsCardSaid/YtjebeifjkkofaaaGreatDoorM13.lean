/-
  A part of a proof: the last text of the claim says what is proved, and under which conditions.
-/
import Derived.Test.YtjebeifjkkofaaaGreatDoorM12
import Derived.RangeFuncWrites
import Derived.Maps.AppendAt
import Derived.Maps.RangeWalk
import Derived.Shelf.Sort.Plain
import Derived.Test.YtjebeifjkkofaaaGreatDoorProg
import Derived.Shelf.Slices.In.SortNone
import Derived.Test.YtjebeifjkkofaaaGreatDoorM5
import Derived.Test.YtjebeifjkkofaaaGreatDoorM11
import Derived.Test.YtjebeifjkkofaaaGreatDoorM4
import Derived.KernelRfl
import Derived.Test.YtjebeifjkkofaaaGreatDoorTie
import Derived.Test.YtjebeifjkkofaaaGreatDoorCards
import Derived.ProofKit
import Derived.Below
import Derived.ChangeSame
import Derived.LaidMore
import Derived.OpenShut
import Derived.Lay
import Derived.SevenTiedAt
import Derived.Stop.Joined
set_option linter.unusedSimpArgs false
set_option linter.unusedVariables false
set_option linter.unnecessarySimpa false
/-
  slices.AppendSeq(nil, slices.Values(..)) at strings.
-/
namespace Go.Proofs
open Go.RowKit Go.Shelf Go.Sort

attribute [local go_sem] Oper.semAt_some

theorem Srt.not_box {W : World} {base : Nat} {e : TypeId} {v : Value} {k : Nat} {xs : List Value} {size j : Nat} {o : Obj} (h : W.ownsRow base e size v k xs) (hj : W.heap[j]? = some o) (hno : ∀ cur, o ≠ .cells cur e (0, 0)) :
    v.ownBlock = none ∨ v.ownBlock ≠ some j := by
  rcases h.2 with ⟨rfl, _⟩ | ⟨g, cap, cur, rfl, _, hg, _⟩
  · exact .inl rfl
  · refine .inr fun e' => ?_
    have e2 : g = j := by simpa [Value.ownBlock] using e'
    subst e2; rw [hg] at hj; cases hj; exact hno cur rfl

theorem Srt.kept {B0 base : Nat} {pre : List (List UInt8)} {A B : World} {row : Option Nat}
    (hs : ∃ v, A.heap[B0]? = some (.cells #[v] 23 (0, 0)) ∧ A.ownsRow base 9 1 v pre.length (pre.map encStr) ∧ (v = .slice none 0 0 ↔ pre = []))
    (hg : A.grownBy B row) (hr : ∀ r, row = some r → ∃ o : Obj, A.heap[r]? = some o ∧ o.isCells = false) :
    ∃ v, B.heap[B0]? = some (.cells #[v] 23 (0, 0)) ∧ B.ownsRow base 9 1 v pre.length (pre.map encStr) ∧ (v = .slice none 0 0 ↔ pre = []) := by
  obtain ⟨v, hv, hrow, hn⟩ := hs
  refine ⟨v, (hg.block B0 (Array.getElem?_eq_some_iff.1 hv).1 (fun e => ?_)).trans hv, hrow.kept hg ?_, hn⟩
  · obtain ⟨o, ho, hno⟩ := hr B0 e.symm
    rw [hv] at ho; cases ho; cases hno
  · cases row with
    | none => cases h : v.ownBlock with
      | none => exact .inl rfl
      | some j => exact .inr (by simp)
    | some r =>
      obtain ⟨o, ho, hno⟩ := hr r rfl
      exact Srt.not_box hrow ho (fun cur e => by subst e; cases hno)
theorem Srt.box_cell {W : World} {B : Nat} {v : Value} {t : TypeId} (h : W.heap[B]? = some (.cells #[v] t (0, 0))) : W.cell? ⟨B, 0, none⟩ = some v ∧ W.frozen? ⟨B, 0, none⟩ = false := by
  constructor <;> simp [World.cell?, World.frozen?, h]
theorem Srt.box_set {W : World} {B : Nat} {v : Value} {t : TypeId} (v' : Value) (h : W.heap[B]? = some (.cells #[v] t (0, 0))) : (W.setCell ⟨B, 0, none⟩ v').heap[B]? = some (.cells #[v'] t (0, 0)) := by
  obtain ⟨hlt, hk⟩ := Array.getElem?_eq_some_iff.1 h
  show (W.heap.modify B _)[B]? = _
  rw [Array.getElem?_eq_getElem (by rw [Array.size_modify]; exact hlt), Array.getElem_modify_self, hk]
  rfl

theorem Srt.setg (W : World) (b : Nat) (v : Value) : W.grownBy (W.setCell ⟨b, 0, none⟩ v) (some b) :=
  ⟨rfl, rfl, rfl, (KeepsWalks.setCell W _ v).size, fun k _ hk => Below.heap_setCell _ _ _ k (fun e => hk (by rw [e]))⟩

theorem Srt.info9 : ∃ i, Tryz.prog.info? 9 = some i ∧ i.zero = some (.string { data := #[] }) ∧ i.size = 1 ∧ i.bytes = 16 := by
  have h : (Tryz.prog.info? 9).map (fun i => (i.zero, i.size, i.bytes)) = some (some (Value.string { data := #[] }), 1, 16) := by kernel_rfl
  obtain ⟨i, h1, h2⟩ := Option.map_eq_some_iff.1 h
  simp only [Prod.mk.injEq] at h2
  exact ⟨i, h1, h2.1, h2.2.1, h2.2.2⟩

set_option maxRecDepth 100000 in
set_option maxHeartbeats 2000000 in
theorem Srt.appendSeq_in (F : Fence) (n : Nat) (hf : F.fn 230) (h7 : F.fn 173) (hro : F.round = none) (hn : 3 ≤ n) (Bs Bo : Nat) (sv : Value) (zs : List (List UInt8)) (hreach : zs.length * 16 ≤ 140737488351232) (w : World) (hBs : Bs < w.heap.size)
    (hc : w.cell? ⟨Bs, Bo, none⟩ = some sv) (hI : Srt.Strs w.heap.size w sv zs) :
    CallsIn F n Tryz.prog 230 #[.slice none 0 0, .func (.func 173) #[] #[.pointer (some ⟨Bs, Bo, none⟩)]] w fun e w' =>
      ∃ v, e = .returned v ∧ w'.ownsRow w.heap.size 9 1 v zs.length (zs.map encStr) ∧ (v = .slice none 0 0 ↔ zs = []) ∧ Below w.heap.size w w' := by
  have h1 : 1 ≤ n := by omega
  obtain ⟨i0, hi, hz0, hz1, hz2⟩ := Srt.info9
  refine callsIn_of_wp_marks Tryz.func230 rfl hf ?_ hro
  simp only [Tryz.ntmps230, List.size_toArray, List.length_cons, List.length_nil, Nat.reduceAdd, Nat.reduceSub, Array.replicate_succ, Array.replicate_zero, List.push_toArray, List.append_toArray, List.nil_append, List.cons_append]
  gi_wp2
  have hB0 : Below w.heap.size w (w.alloc (.cells #[.slice none 0 0] 23)) := (Below.refl _ w).alloc (Nat.le_refl _) _
  refine wpIn_rangeFunc_ownG hro h1 (gf := 173) (lb := #[.pointer (some ⟨Bs, Bo, none⟩)]) rfl h7 (enters_of Tryz.func173 (by kernel_rfl) rfl)
    (Srt.values_stops F (n - 1) h7 hro (by omega) Bs Bo w.heap.size _ zs hreach _ (by simp; omega) (by simp) ((hB0.cell (p := ⟨Bs, Bo, none⟩) hBs).trans hc) (hI.below hB0)) belowK_t (belowK_b (by simp)) (Below.refl _ _) (fun _ => rfl)
    (fun pre W => (∃ v, W.heap[w.heap.size]? = some (.cells #[v] 23 (0, 0)) ∧ W.ownsRow w.heap.size 9 1 v pre.length (pre.map encStr) ∧ (v = .slice none 0 0 ↔ pre = [])) ∧ Below w.heap.size w W)
    (fun _ _ _ => False)
    (OwnFrom.and (Own.from (fun s A B row hs hg hr => Srt.kept (B0 := w.heap.size) (base := w.heap.size) (pre := s) hs hg hr) _) (ownFrom_below (Nat.le_refl _) (by simp)))
    (fun _ _ _ _ _ hs _ _ => hs)
    ⟨⟨_, World.alloc_heap_new w _, ⟨rfl, .inl ⟨rfl, rfl⟩⟩, by simp⟩, hB0⟩
    (fun x => { tmps := #[.slice none 0 0, .func (.func 173) #[] #[.pointer (some ⟨Bs, Bo, none⟩)], .pointer (some ⟨w.heap.size, 0, none⟩), undef, .slice none 0 0, encStr x, .func (.func 173) #[] #[.pointer (some ⟨Bs, Bo, none⟩)], encStr x, undef, undef, undef, undef, undef], defers := [] }) ?assign ?body ?done ?stop
  case assign =>
    intro l x W K hK
    gi_wp2
    exact hK
  case body =>
    rintro l pre x W ⟨⟨v, hv, hrow, hnil⟩, hB⟩ hlen
    obtain ⟨hc2, hf2⟩ := Srt.box_cell hv
    have hBlt := (Array.getElem?_eq_some_iff.1 hv).1
    have hmx : zs.length ≤ maxLen := by unfold maxLen; omega
    have u23 : Tryz.prog.underlying 23 = some (.slice 9) := by kernel_rfl
    have hne : some w.heap.size ≠ v.ownBlock := fun e => by
      rcases Srt.not_box hrow hv (fun cur e => by cases e) with h | h
      · rw [h] at e; cases e
      · exact h e.symm
    gi_wp2_with (first
      | (gi_at_builtin; refine wpListIn_append_own _ rfl _ _ 23 rfl w.heap.size 9 i0 (.string ⟨#[]⟩) 1 16 u23 hi hz0 hz1 hz2 rfl (by decide) _ _ _ rfl (hrow.alloc _) ⟨W.heap.size, 0, none⟩ 1 1 [encStr x] rfl rfl (cell_one_new _ _ _) (by simp [Value.oneCell', encStr]) (by omega) (by omega) (by have := hB.size; simp; omega) ?_; intro v' w3 hown' hg3 hnil3
         have hv3 : w3.heap[w.heap.size]? = some (.cells #[v] 23 (0, 0)) := (hg3.block _ (by simp; omega) hne).trans ((Below.heap_alloc _ _ _ hBlt).trans hv)
         obtain ⟨hc3, hf3⟩ := Srt.box_cell hv3
         obtain ⟨g', cap', cur', rfl, hbase', hgb', hr1, hr2, hr3, hr4⟩ : ∃ g' cap' cur', v' = .slice (some ⟨g', 0, none⟩) (pre.length + 1) cap' ∧ w.heap.size ≤ g' ∧ w3.heap[g']? = some (.cells cur' 9 (0, 0)) ∧ pre.length + 1 ≤ cap' ∧ cap' ≤ maxLen ∧ cur'.size = cap' * 1 ∧ cur'.toList.take ((pre.length + 1) * 1) = pre.map encStr ++ [encStr x] := by
           rcases hown'.2 with ⟨_, h0⟩ | h'
           · exact absurd h0 (by omega)
           · exact h'
         go_frame)
      | (rw [Oper.semAt_eq _ _ _ (fun c h => by cases h)]; go_simp; try go_bits))
    have hra := hrow.alloc (.cells #[encStr x] 9)
    have hcells : ∀ (j : Nat) (o : Obj), v.ownBlock = some j → (W.alloc (.cells #[encStr x] 9)).heap[j]? = some o → o.isCells = true := by
      intro j o hj ho
      rcases hra.2 with ⟨rfl, _⟩ | ⟨g, cap, cur, rfl, _, hg, _⟩
      · simp [Value.ownBlock] at hj
      · have e2 : g = j := by simpa [Value.ownBlock] using hj
        subst e2; rw [hg] at ho; cases ho; rfl
    have hb3 : Below w.heap.size W w3 := ((Below.refl w.heap.size W).alloc hB.size _).grown hg3 (by have := hB.size; simp; omega) (fun k e => (hrow.lt k e).1)
    have hb4 := hb3.setCell (p := ⟨w.heap.size, 0, none⟩) (Nat.le_refl _) (.slice (some ⟨g', 0, none⟩) (pre.length + 1) cap')
    have hrow4 := hown'.kept (Srt.setg w3 w.heap.size (.slice (some ⟨g', 0, none⟩) (pre.length + 1) cap')) (Srt.not_box hown' hv3 (fun cur e => by cases e))
    refine ⟨(((KeepsOthers.alloc W _).trans (KeepsOthers.of_grownBy hg3 hcells)).trans (KeepsOthers.setCell _ _ _)).from _, hb4, ⟨_, Srt.box_set _ hv3, ?_, by simp⟩, hB.trans hb4⟩
    simpa using hrow4
  case done =>
    rintro D ys W hD rfl ⟨⟨v, hv, hrow, hnil⟩, hB⟩ hK
    obtain ⟨hc3, hf3⟩ := Srt.box_cell hv
    gi_wp2
    refine ⟨by simp, .inl ⟨_, _, rfl, run_takeDeferred hK, ?_⟩⟩
    have hD' : w.heap.size + 1 ≤ D := by simpa using hD
    exact ⟨_, results_tmp rfl _ _ _, v, rfl, hrow.kept (grownBy_putObj' _ _ _) (Srt.not_box hrow hK (fun cur e => by cases e)), hnil, hB.grown (grownBy_putObj' _ _ _) hB.size (fun k e => by cases e; omega)⟩
  case stop =>
    rintro D c pre W _ _ h _
    exact h.elim
end Go.Proofs

/-
  DERIVED: THE SHELF's CONTRACTS AT THIS DUMP, IN PLAIN WORDS (tools/lay-plain.mjs out of 'YtjebeifjkkofaaaGreatDoorLyS.lean', which tools/lay-shelf.mjs wrote): THE SAME DECLARATIONS UNDER THE SAME NAMES: 'import', 'namespace', 'open', 'def', 'theorem' AND NOTHING ELSE: no command of the shelf's: FOR A HAND-IN. Each laying: the table of numbers ('.._ren') and one theorem, a field a fact of the dump's own or the kernel's comparison; each contract: ONE APPLICATION.
-/
namespace Go.Proofs
open Go.Shelf
def Tryz.lays190_ren : Go.Shelf.Ren := ⟨fun | 190 => 149 | 125 => 211 | 258 => 210 | 128 => 258 | 129 => 259 | 302 => 249 | 303 => 250 | 304 => 251 | 305 => 252 | 306 => 253 | 307 => 254 | 308 => 255 | 309 => 256 | 310 => 257 | 333 => 285 | 329 => 286 | 330 => 287 | 334 => 288 | 335 => 289 | 336 => 290 | 344 => 310 | n => n, fun | 31 => 23 | 9 => 9 | 3 => 3 | 46 => 22 | 0 => 0 | 51 => 352 | 53 => 354 | 4 => 4 | 183 => 346 | 182 => 345 | 131 => 253 | 5 => 5 | 218 => 379 | 222 => 383 | 228 => 408 | 229 => 409 | n => n, fun | n => n⟩
theorem Tryz.lays190 : Go.Proofs.Lays.n190 Tryz.prog Tryz.lays190_ren := {
  mixed := by kernel_rfl
  f125 := Tryz.func211.trans (congrArg some (by kernel_rfl))
  f128 := Tryz.func258.trans (congrArg some (by kernel_rfl))
  f129 := Tryz.func259.trans (congrArg some (by kernel_rfl))
  f190 := Tryz.func149.trans (congrArg some (by kernel_rfl))
  f258 := Tryz.func210.trans (congrArg some (by kernel_rfl))
  f302 := Tryz.func249.trans (congrArg some (by kernel_rfl))
  f303 := Tryz.func250.trans (congrArg some (by kernel_rfl))
  f304 := Tryz.func251.trans (congrArg some (by kernel_rfl))
  f305 := Tryz.func252.trans (congrArg some (by kernel_rfl))
  f306 := Tryz.func253.trans (congrArg some (by kernel_rfl))
  f307 := Tryz.func254.trans (congrArg some (by kernel_rfl))
  f308 := Tryz.func255.trans (congrArg some (by kernel_rfl))
  f309 := Tryz.func256.trans (congrArg some (by kernel_rfl))
  f310 := Tryz.func257.trans (congrArg some (by kernel_rfl))
  f329 := Tryz.func286.trans (congrArg some (by kernel_rfl))
  f330 := Tryz.func287.trans (congrArg some (by kernel_rfl))
  f333 := Tryz.func285.trans (congrArg some (by kernel_rfl))
  f334 := Tryz.func288.trans (congrArg some (by kernel_rfl))
  f335 := Tryz.func289.trans (congrArg some (by kernel_rfl))
  f336 := Tryz.func290.trans (congrArg some (by kernel_rfl))
  f344 := Tryz.func310.trans (congrArg some (by kernel_rfl))
  t0 := Tryz.underlying0
  a0 := Tryz.isAgg0
  z0 := Tryz.sizeOf0
  v0 := Tryz.zeroValue0
  t3 := Tryz.underlying3
  a3 := Tryz.isAgg3
  z3 := Tryz.sizeOf3
  v3 := Tryz.zeroValue3
  t4 := Tryz.underlying4
  a4 := Tryz.isAgg4
  z4 := Tryz.sizeOf4
  v4 := Tryz.zeroValue4
  t5 := Tryz.underlying5
  a5 := Tryz.isAgg5
  z5 := Tryz.sizeOf5
  v5 := Tryz.zeroValue5
  t9 := Tryz.underlying9
  a9 := Tryz.isAgg9
  z9 := Tryz.sizeOf9
  v9 := Tryz.zeroValue9
  t31 := Tryz.underlying23
  a31 := Tryz.isAgg23
  z31 := Tryz.sizeOf23
  v31 := Tryz.zeroValue23
  t46 := Tryz.underlying22
  a46 := Tryz.isAgg22
  z46 := Tryz.sizeOf22
  v46 := Tryz.zeroValue22
  t51 := Tryz.underlying352
  a51 := Tryz.isAgg352
  z51 := Tryz.sizeOf352
  v51 := Tryz.zeroValue352
  t53 := Tryz.underlying354
  a53 := Tryz.isAgg354
  z53 := Tryz.sizeOf354
  v53 := Tryz.zeroValue354
  t131 := Tryz.underlying253
  a131 := Tryz.isAgg253
  z131 := Tryz.sizeOf253
  v131 := Tryz.zeroValue253
  t182 := Tryz.underlying345
  a182 := Tryz.isAgg345
  z182 := Tryz.sizeOf345
  v182 := Tryz.zeroValue345
  t183 := Tryz.underlying346
  a183 := Tryz.isAgg346
  z183 := Tryz.sizeOf346
  v183 := Tryz.zeroValue346
  t218 := Tryz.underlying379
  a218 := Tryz.isAgg379
  z218 := Tryz.sizeOf379
  v218 := Tryz.zeroValue379
  t222 := Tryz.underlying383
  a222 := Tryz.isAgg383
  z222 := Tryz.sizeOf383
  v222 := Tryz.zeroValue383
  t228 := Tryz.underlying408
  a228 := Tryz.isAgg408
  z228 := Tryz.sizeOf408
  v228 := Tryz.zeroValue408
  t229 := Tryz.underlying409
  a229 := Tryz.isAgg409
  z229 := Tryz.sizeOf409
  v229 := Tryz.zeroValue409 }
end Go.Proofs

/-
  slices.Sorted(slices.Values(..)) at strings.
-/
namespace Go.Proofs
open Go.RowKit Go.Shelf Go.Sort

attribute [local go_sem] Oper.semAt_some

set_option maxRecDepth 100000 in
set_option maxHeartbeats 1000000 in
theorem Srt.collect_in (F : Fence) (n : Nat) (hg : F.fn 172) (hf : F.fn 230) (h7 : F.fn 173) (hro : F.round = none) (hn : 4 ≤ n) (Bs Bo : Nat) (sv : Value) (zs : List (List UInt8)) (hreach : zs.length * 16 ≤ 140737488351232) (w : World) (hBs : Bs < w.heap.size)
    (hc : w.cell? ⟨Bs, Bo, none⟩ = some sv) (hI : Srt.Strs w.heap.size w sv zs) :
    CallsIn F n Tryz.prog 172 #[.func (.func 173) #[] #[.pointer (some ⟨Bs, Bo, none⟩)]] w fun e w' =>
      ∃ v, e = .returned v ∧ w'.ownsRow w.heap.size 9 1 v zs.length (zs.map encStr) ∧ (v = .slice none 0 0 ↔ zs = []) ∧ Below w.heap.size w w' := by
  have h1 : 1 ≤ n := by omega
  refine callsIn_of_wp Tryz.func172 rfl hg ?_ hro
  simp only [Tryz.ntmps172, List.size_toArray, List.length_cons, List.length_nil, Nat.reduceAdd, Nat.reduceSub, Array.replicate_succ, Array.replicate_zero, List.push_toArray, List.append_toArray, List.nil_append, List.cons_append]
  gi_wp2_with (gi_at_call 230; refine (Srt.appendSeq_in F (n - 1) hf h7 hro (by omega) Bs Bo sv zs hreach _ hBs hc hI).mono ?_; rintro e w' ⟨v, rfl, hrow, hnil, hb⟩)
  go_ret
  exact ⟨v, rfl, hrow, hnil, hb⟩

set_option maxRecDepth 100000 in
set_option maxHeartbeats 2000000 in
theorem Srt.sorted (Bs Bo : Nat) (sv : Value) (zs : List (List UInt8)) (hreach : zs.length * 16 ≤ 140737488351232) (w : World) (hBs : Bs < w.heap.size)
    (hc : w.cell? ⟨Bs, Bo, none⟩ = some sv) (hI : Srt.Strs w.heap.size w sv zs) :
    Calls Tryz.prog 107 #[.func (.func 173) #[] #[.pointer (some ⟨Bs, Bo, none⟩)]] w fun e w' =>
      ∃ v, e = .returned v ∧ w'.ownsRow w.heap.size 9 1 v zs.length ((zs.mergeSort fun x y => decide (x ≤ y)).map encStr) ∧ (v = .slice none 0 0 ↔ zs = []) ∧ Below w.heap.size w w' := by
  refine (callsIn_wide (n := 6)).1 ?_
  have hf : Fence.wide.fn 172 := trivial
  have hs : Fence.wide.fn 149 := trivial
  refine callsIn_of_wp Tryz.func107 rfl trivial ?_ rfl
  simp only [Tryz.ntmps107, List.size_toArray, List.length_cons, List.length_nil, Nat.reduceAdd, Nat.reduceSub, Array.replicate_succ, Array.replicate_zero, List.push_toArray, List.append_toArray, List.nil_append, List.cons_append]
  gi_wp2_with (gi_at_call 172; refine (Srt.collect_in Fence.wide 5 trivial trivial trivial rfl (by omega) Bs Bo sv zs hreach _ hBs hc hI).mono ?_; rintro e W ⟨v, rfl, hrow, hnil, hb⟩)
  rcases hrow.2 with ⟨rfl, hz⟩ | ⟨gb, cap, cur, rfl, hbase, hgb, r1, r2, r3, r4⟩
  · have hss : zs = [] := List.eq_nil_of_length_eq_zero hz
    subst hss
    gi_wp2_with (gi_at_call 149; refine (callsIn_wide.2 (Any.slices_Sort_string_none Tryz.lays190 none 0 W)).mono ?_; rintro e w' ⟨rfl, rfl⟩)
    go_ret
    exact ⟨.slice none 0 0, rfl, by simpa using hrow, by simp, hb⟩
  · have hH : Holds encStr W gb 0 zs.toArray := holds_of_block hgb (by simpa using r4)
    have hgl : gb < W.heap.size := (Array.getElem?_eq_some_iff.1 hgb).1
    have hsz : zs.length < 4611686018427387904 := by omega
    have cS := callsIn_wide (n := 5).2 (Any.slices_Sort_string Tryz.lays190 gb 0 cap zs W hH hgl hsz)
    gi_wp2_with (gi_at_call 149; refine cS.mono ?_; rintro e w' ⟨rfl, nn, os, rfl⟩)
    go_ret
    exact ⟨_, rfl, ownsRow_sorted (by simp) hbase hgb r1 r2 r3, hnil, hb.grown (grownBy_sorted _) hb.size (fun j hj => by cases hj; exact hbase)⟩

end Go.Proofs

/-
  slices.Sorted(slices.Values(..)) at strings is what the machine V's routine says.
-/
namespace Go.Proofs
open Go.RowKit Go.Shelf Go.Sort Go.Vm

theorem Srt.fn_ok : SrtFn Tryz.prog 107 173 := by
  refine ⟨fun A w => enters_of Tryz.func107 (by kernel_rfl) rfl A w, fun Bs Bo sv zs w hl hB hc hI => ?_⟩
  refine (Srt.sorted Bs Bo sv zs (by unfold lim at hl; omega) w hB hc hI).mono ?_
  rintro e w' ⟨v, rfl, hrow, hnil, hb⟩
  refine ⟨v, rfl, hb, ?_⟩
  rcases hrow.2 with ⟨rfl, hz⟩ | ⟨gb, cap, cur, rfl, hbase, hgb, r1, _, r3, r4⟩
  · exact .inl ⟨rfl, List.eq_nil_of_length_eq_zero hz⟩
  · refine .inr ⟨gb, cap, rfl, hbase, r1, fun j hj => ?_⟩
    have h1 : cur[j]? = some (encStr ((sortT zs)[j]?.getD [])) := by
      have h2 : (cur.toList.take (zs.length * 1))[j]? = some (encStr ((sortT zs)[j]?.getD [])) := by
        have hj' : j < (sortT zs).length := by rw [(sortT_perm zs).length_eq]; exact hj
        rw [r4, ← sortT_eq, List.getElem?_map, List.getElem?_eq_getElem hj']; rfl
      rw [List.getElem?_take, if_pos (by omega)] at h2
      simpa using h2
    simp [World.cell?, hgb, h1]

end Go.Proofs

/- The functions of the translation as programs of the machine V. Written by gen.py out of the loaded functions. -/
namespace Go.Vm
set_option maxRecDepth 100000
open Go Go.RowKit
def KX : FuncId → Option Nat := fun f => bif Nat.beq f 311 then some 0 else bif Nat.beq f 174 then some 1 else none
def LX : FuncId → Option (Nat × Bool) := fun f => bif Nat.beq f 14 then some (3, true) else bif Nat.beq f 41 then some (4, false) else bif Nat.beq f 42 then some (5, false) else bif Nat.beq f 169 then some (3, false) else bif Nat.beq f 205 then some (6, true) else bif Nat.beq f 331 then some (4, false) else none
def C0 : Cfg := { keepA := fun f => Nat.beq f 142 || Nat.beq f 215 || Nat.beq f 216 || Nat.beq f 267 || Nat.beq f 345 }
def IX : FuncId → Option FuncId := fun f => bif Nat.beq f 107 then some 173 else none
def TX : Tab := { C := C0, funs := ftab.get, prim := primI IX (primAll KX LX) }
theorem KX_ok : Prims Go.Proofs.Tryz.prog KX := by
  intro f
  unfold KX
  cases h311 : Nat.beq f 311 with
  | true =>
    have := Nat.eq_of_beq_eq_true h311; subst this
    exact ⟨fun _ => ⟨_, Go.Proofs.Tryz.func311, by kernel_rfl, by kernel_rfl, by kernel_rfl, by kernel_rfl⟩, (fun h => by cases h)⟩
  | false =>
    cases h174 : Nat.beq f 174 with
    | true =>
      have := Nat.eq_of_beq_eq_true h174; subst this
      exact ⟨(fun h => by cases h), fun _ => ⟨_, Go.Proofs.Tryz.func174, by kernel_rfl, by kernel_rfl, by kernel_rfl, by kernel_rfl⟩⟩
    | false =>
      exact ⟨(fun h => by cases h), (fun h => by cases h)⟩
theorem LX_ok : ∀ f z m, LX f = some (z, m) → ∃ fn, Go.Proofs.Tryz.prog.funcs[f]? = some fn ∧ CloneFn Go.Proofs.Tryz.prog z m fn := by
  intro f z m h
  unfold LX at h
  cases h14 : Nat.beq f 14 with
  | true =>
    have := Nat.eq_of_beq_eq_true h14; subst this
    rw [h14] at h
    simp only [cond_true, Option.some.injEq, Prod.mk.injEq] at h
    obtain ⟨rfl, rfl⟩ := h
    exact ⟨_, Go.Proofs.Tryz.func14, by kernel_rfl, ⟨_, _, _, _, _, _, _, _, _, 73, rfl, by kernel_rfl, by kernel_rfl, rfl, rfl, rfl, by decide +kernel, by kernel_rfl, by kernel_rfl, by kernel_rfl⟩, by kernel_rfl⟩
  | false =>
    rw [h14] at h
    simp only [cond_false] at h
    cases h41 : Nat.beq f 41 with
    | true =>
      have := Nat.eq_of_beq_eq_true h41; subst this
      rw [h41] at h
      simp only [cond_true, Option.some.injEq, Prod.mk.injEq] at h
      obtain ⟨rfl, rfl⟩ := h
      exact ⟨_, Go.Proofs.Tryz.func41, by kernel_rfl, ⟨_, _, _, _, _, _, _, _, _, 129, rfl, by kernel_rfl, by kernel_rfl, rfl, rfl, rfl, by decide +kernel, by kernel_rfl, by kernel_rfl, by kernel_rfl⟩, by kernel_rfl⟩
    | false =>
      rw [h41] at h
      simp only [cond_false] at h
      cases h42 : Nat.beq f 42 with
      | true =>
        have := Nat.eq_of_beq_eq_true h42; subst this
        rw [h42] at h
        simp only [cond_true, Option.some.injEq, Prod.mk.injEq] at h
        obtain ⟨rfl, rfl⟩ := h
        exact ⟨_, Go.Proofs.Tryz.func42, by kernel_rfl, ⟨_, _, _, _, _, _, _, _, _, 132, rfl, by kernel_rfl, by kernel_rfl, rfl, rfl, rfl, by decide +kernel, by kernel_rfl, by kernel_rfl, by kernel_rfl⟩, by kernel_rfl⟩
      | false =>
        rw [h42] at h
        simp only [cond_false] at h
        cases h169 : Nat.beq f 169 with
        | true =>
          have := Nat.eq_of_beq_eq_true h169; subst this
          rw [h169] at h
          simp only [cond_true, Option.some.injEq, Prod.mk.injEq] at h
          obtain ⟨rfl, rfl⟩ := h
          exact ⟨_, Go.Proofs.Tryz.func169, by kernel_rfl, ⟨_, _, _, _, _, _, _, _, _, 41, rfl, by kernel_rfl, by kernel_rfl, rfl, rfl, rfl, by decide +kernel, by kernel_rfl, by kernel_rfl, by kernel_rfl⟩, by kernel_rfl⟩
        | false =>
          rw [h169] at h
          simp only [cond_false] at h
          cases h205 : Nat.beq f 205 with
          | true =>
            have := Nat.eq_of_beq_eq_true h205; subst this
            rw [h205] at h
            simp only [cond_true, Option.some.injEq, Prod.mk.injEq] at h
            obtain ⟨rfl, rfl⟩ := h
            exact ⟨_, Go.Proofs.Tryz.func205, by kernel_rfl, ⟨_, _, _, _, _, _, _, _, _, 127, rfl, by kernel_rfl, by kernel_rfl, rfl, rfl, rfl, by decide +kernel, by kernel_rfl, by kernel_rfl, by kernel_rfl⟩, by kernel_rfl⟩
          | false =>
            rw [h205] at h
            simp only [cond_false] at h
            cases h331 : Nat.beq f 331 with
            | true =>
              have := Nat.eq_of_beq_eq_true h331; subst this
              rw [h331] at h
              simp only [cond_true, Option.some.injEq, Prod.mk.injEq] at h
              obtain ⟨rfl, rfl⟩ := h
              exact ⟨_, Go.Proofs.Tryz.func331, by kernel_rfl, ⟨_, _, _, _, _, _, _, _, _, 100, rfl, by kernel_rfl, by kernel_rfl, rfl, rfl, rfl, by decide +kernel, by kernel_rfl, by kernel_rfl, by kernel_rfl⟩, by kernel_rfl⟩
            | false =>
              rw [h331] at h
              simp only [cond_false] at h
              cases h
theorem funs_ok : Funs Go.Proofs.Tryz.prog TX.funs := funs_of ftab_ok
theorem IX_ok : ∀ f g, IX f = some g → SrtFn Go.Proofs.Tryz.prog f g := by
  intro f g h
  unfold IX at h
  cases h1 : Nat.beq f 107 with
  | true =>
    have := Nat.eq_of_beq_eq_true h1; subst this
    rw [h1] at h; cases h; exact Go.Proofs.Srt.fn_ok
  | false => rw [h1] at h; cases h
abbrev KWX : World → Prop := KW0
theorem keepsX {w : World} (hw : KWX w) : ∀ w1 w2 : World, Below w.heap.size w1 w2 → KWX w1 → KWX w2 := fun _ _ _ h => h
theorem prim_ok : CallOk KWX Go.Proofs.Tryz.prog TX.prim := primI_ok IX_ok (primAll_ok (by kernel_rfl) KX_ok LX_ok)
theorem prim_q : CallQ TX.prim := primI_q (primAll_q KX LX)
theorem prim_su {σ : Int → V} (hσ : Num σ) : CallS σ TX.prim TX.prim := primI_su (primAll_su hσ KX LX)
def clT : FT → Bool
  | .leaf => true
  | .node _ F l r => clC F.code && (clT l && clT r)
theorem clT_s : ∀ {t : FT}, clT t = true → t.All fun _ F => clC F.code = true
  | .leaf, _ => trivial
  | .node _ F l r, h => by
    simp only [clT, Bool.and_eq_true] at h
    exact ⟨h.1, clT_s h.2.1, clT_s h.2.2⟩
theorem cl_ok : ∀ f F, TX.funs f = some F → clC F.code = true := fun _ _ h => FT.get_all (clT_s (t := ftab) (by decide +kernel)) h
end Go.Vm

/-
  From runs to rows and cards.
-/
namespace Go.Proofs.YtjebeifjkkofaaaGreatDoor
open Go Go.Vm Go.ChangeShapes Go.WideShapes Go.ChangeAt Go.RowKit

section
variable {H : Type} {enc : TypeId × Value → H} {P : Program}
theorem post_of_below {f : Func} {s : ChangeSpec} {apart fresh handsOn again : Bool} {W W' : World} {args : Array Value} {v : Value} {ds gs : List (DataW H)} {before pa pv : List MemPlace}
    (hW : DataW.Whole enc P f.params.toList s.vars apart W args.toList ds gs before)
    (hres : ∀ (b : Nat) (sp : Nat → Bool) (hd : Bool), DataW.TrodAll enc P W' b sp hd f.resultTypes.toList (v.resultList f.resultTypes.size) (s.fn H (ds ++ gs)).results [])
    (hargs : ∀ sp : Nat → Bool, (∀ p ∈ before, sp p.block = true) → DataW.TrodAll enc P W' 0 sp true f.params.toList args.toList (s.fn H (ds ++ gs)).args pa)
    (hvars : ∀ sp : Nat → Bool, (∀ p ∈ before, sp p.block = true) → DataW.TrodVars enc P W' sp s.vars (s.fn H (ds ++ gs)).vars pv)
    (hps : before = pa ++ pv) (hb : Below W.heap.size W W')
    (hok : ∀ (j : Nat) (t : TypeId) (r : Value), f.resultTypes[j]? = some t → (v.resultList f.resultTypes.size)[j]? = some r → Value.okWide P W' .any 0 t r) :
    s.post enc P f apart fresh handsOn again W args v W' := by
  have hlt : ∀ p ∈ before, p.block < W.heap.size := fun p hp => hW.lt p hp
  have hold : ∀ p ∈ before, (fun b => decide (b < W.heap.size)) p.block = true := fun p hp => by simpa using hlt p hp
  refine ⟨ds, gs, before, [], pa, pv, hW, hres _ _ _, hargs _ hold, hvars _ hold, World.keptBut_mono (fun p hp => ⟨hp, ?_⟩) (hb.frame (· ∈ before)), fun _ => ?_⟩
  · rw [hps, List.mem_append] at hp
    exact Or.inr hp
  · obtain ⟨_, _, _, _, _, hz, hn⟩ := hW
    refine ⟨hok, _, _, ([] ++ pa) ++ pv, ⟨[] ++ pa, pv, trodAll_append (hargs _ (fun _ _ => rfl)) (hres _ _ _), hvars _ (fun _ _ => rfl), rfl, ?_, ?_⟩, ?_⟩
    · intro b off hp
      have hin : MemPlace.cell b off ∈ before := by rw [hps]; simpa using hp
      rw [hb.frozen (hlt _ hin)]
      exact hz b off hin
    · intro ha
      have := hn ha
      rw [hps] at this
      simpa using this
    · intro p hp _
      rw [hps]
      simpa using hp
end

theorem own : ownKnob Tryz.prog.godebug = none := by kernel_rfl
theorem orders : Tryz.prog.follows .mixedOrders = true := by kernel_rfl

end Go.Proofs.YtjebeifjkkofaaaGreatDoor
