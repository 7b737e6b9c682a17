/-
  A part of a proof: the last text of the claim says what is proved, and under which conditions.
-/
import Derived.Test.YtbhlbpeilmihcaaGreatDoorM9
import Derived.Test.YtbhlbpeilmihcaaGreatDoorM4
set_option linter.unusedSimpArgs false
set_option linter.unusedVariables false
set_option linter.unnecessarySimpa false
/-
  What Go's routines without a body answer.
-/
namespace Go.Vm
open Go Go.Sp

def cmpBytes (a b : Txt) : Int := Lib.compareBytes a b
theorem cmpBytes_says (a b : Txt) : SaysT TX 143 [eS a, eS b] (eI (cmpBytes a b)) := fun sg => call_prim rfl rfl
def indexByte (a : Txt) (c : UInt8) : Int := Lib.indexByte a c
theorem indexByte_says (a : Txt) (c : UInt8) : SaysT TX 121 [eS a, b8 c] (eI (indexByte a c)) := fun sg => call_prim rfl (by
  show some (V.int .i64 (Lib.indexByte a (c.toNat : Int).toNat.toUInt8), sg, 0) = _
  simp [indexByte])
end Go.Vm

/- What functions of the program answer. Printed by spec.py. -/
namespace Go.Vm
open Go Go.Sp

def valSmall (c : UInt8) : Bool := (bif (decide ((c.toNat : Int) ≥ 97)) then (decide ((c.toNat : Int) ≤ 122)) else false)
theorem valSmall_says (c : UInt8)  : SaysT TX 160 [b8 c] (eB (valSmall c)) := by
  refine says (F := c160) rfl fun sg => ?_
  refine W_seq ?_
  refine W_seg 1 (by kernel_rfl) ?_
  refine W_end ?_
  refine W_seq ?_
  refine W_seg 3 (by kernel_rfl) ?_
  refine W_dec 5 (decide ((c.toNat : Int) ≥ 97)) (by kernel_rfl) (fun h1 => ?_) (fun h1 => ?_)
  · refine W_seg 4 (by kernel_rfl) ?_
    refine W_end ?_
    refine W_ret ?_
    refine leaf_r ?_
    rw [show valSmall c = (decide ((c.toNat : Int) ≤ 122)) from by simp only [valSmall, h1, cond_true, cond_false]]
    kernel_rfl
  · refine W_seg 4 (by kernel_rfl) ?_
    refine W_end ?_
    refine W_ret ?_
    refine leaf_r ?_
    rw [show valSmall c = false from by simp only [valSmall, h1, cond_true, cond_false]]
    kernel_rfl

def valLarge (c : UInt8) : Bool := (bif (decide ((c.toNat : Int) ≥ 65)) then (decide ((c.toNat : Int) ≤ 90)) else false)
theorem valLarge_says (c : UInt8)  : SaysT TX 161 [b8 c] (eB (valLarge c)) := by
  refine says (F := c161) rfl fun sg => ?_
  refine W_seq ?_
  refine W_seg 1 (by kernel_rfl) ?_
  refine W_end ?_
  refine W_seq ?_
  refine W_seg 3 (by kernel_rfl) ?_
  refine W_dec 5 (decide ((c.toNat : Int) ≥ 65)) (by kernel_rfl) (fun h1 => ?_) (fun h1 => ?_)
  · refine W_seg 4 (by kernel_rfl) ?_
    refine W_end ?_
    refine W_ret ?_
    refine leaf_r ?_
    rw [show valLarge c = (decide ((c.toNat : Int) ≤ 90)) from by simp only [valLarge, h1, cond_true, cond_false]]
    kernel_rfl
  · refine W_seg 4 (by kernel_rfl) ?_
    refine W_end ?_
    refine W_ret ?_
    refine leaf_r ?_
    rw [show valLarge c = false from by simp only [valLarge, h1, cond_true, cond_false]]
    kernel_rfl

def valDigit (c : UInt8) : Bool := (bif (decide ((c.toNat : Int) ≥ 48)) then (decide ((c.toNat : Int) ≤ 57)) else false)
theorem valDigit_says (c : UInt8)  : SaysT TX 87 [b8 c] (eB (valDigit c)) := by
  refine says (F := c87) rfl fun sg => ?_
  refine W_seq ?_
  refine W_seg 1 (by kernel_rfl) ?_
  refine W_end ?_
  refine W_seq ?_
  refine W_seg 3 (by kernel_rfl) ?_
  refine W_dec 5 (decide ((c.toNat : Int) ≥ 48)) (by kernel_rfl) (fun h1 => ?_) (fun h1 => ?_)
  · refine W_seg 4 (by kernel_rfl) ?_
    refine W_end ?_
    refine W_ret ?_
    refine leaf_r ?_
    rw [show valDigit c = (decide ((c.toNat : Int) ≤ 57)) from by simp only [valDigit, h1, cond_true, cond_false]]
    kernel_rfl
  · refine W_seg 4 (by kernel_rfl) ?_
    refine W_end ?_
    refine W_ret ?_
    refine leaf_r ?_
    rw [show valDigit c = false from by simp only [valDigit, h1, cond_true, cond_false]]
    kernel_rfl

def substLetter (c : UInt8) : Bool := (bif (decide ((c.toNat : Int) ≥ 97)) then (bif (decide ((c.toNat : Int) ≤ 122)) then true else (bif (decide ((c.toNat : Int) ≥ 65)) then (bif (decide ((c.toNat : Int) ≤ 90)) then true else (bif (decide ((c.toNat : Int) ≥ 48)) then (bif (decide ((c.toNat : Int) ≤ 57)) then true else ((c.toNat : Int) == 95)) else ((c.toNat : Int) == 95))) else (bif (decide ((c.toNat : Int) ≥ 48)) then (bif (decide ((c.toNat : Int) ≤ 57)) then true else ((c.toNat : Int) == 95)) else ((c.toNat : Int) == 95)))) else (bif (decide ((c.toNat : Int) ≥ 65)) then (bif (decide ((c.toNat : Int) ≤ 90)) then true else (bif (decide ((c.toNat : Int) ≥ 48)) then (bif (decide ((c.toNat : Int) ≤ 57)) then true else ((c.toNat : Int) == 95)) else ((c.toNat : Int) == 95))) else (bif (decide ((c.toNat : Int) ≥ 48)) then (bif (decide ((c.toNat : Int) ≤ 57)) then true else ((c.toNat : Int) == 95)) else ((c.toNat : Int) == 95))))
theorem substLetter_says (c : UInt8)  : SaysT TX 177 [b8 c] (eB (substLetter c)) := by
  refine says (F := c177) rfl fun sg => ?_
  refine W_seq ?_
  refine W_seg 1 (by kernel_rfl) ?_
  refine W_end ?_
  refine W_seq ?_
  refine W_seg 3 (by kernel_rfl) ?_
  refine W_dec 5 (decide ((c.toNat : Int) ≥ 97)) (by kernel_rfl) (fun h1 => ?_) (fun h1 => ?_)
  · refine W_seg 4 (by kernel_rfl) ?_
    refine W_dec 9 (decide ((c.toNat : Int) ≤ 122)) (by kernel_rfl) (fun h2 => ?_) (fun h2 => ?_)
    · refine W_seg 20 (by kernel_rfl) ?_
      refine W_end ?_
      refine W_ret ?_
      refine leaf_r ?_
      rw [show substLetter c = true from by simp only [substLetter, h1, h2, cond_true, cond_false]]
      kernel_rfl
    · refine W_seg 3 (by kernel_rfl) ?_
      refine W_dec 12 (decide ((c.toNat : Int) ≥ 65)) (by kernel_rfl) (fun h3 => ?_) (fun h3 => ?_)
      · refine W_seg 5 (by kernel_rfl) ?_
        refine W_dec 17 (decide ((c.toNat : Int) ≤ 90)) (by kernel_rfl) (fun h4 => ?_) (fun h4 => ?_)
        · refine W_seg 12 (by kernel_rfl) ?_
          refine W_end ?_
          refine W_ret ?_
          refine leaf_r ?_
          rw [show substLetter c = true from by simp only [substLetter, h1, h2, h3, h4, cond_true, cond_false]]
          kernel_rfl
        · refine W_seg 3 (by kernel_rfl) ?_
          refine W_dec 20 (decide ((c.toNat : Int) ≥ 48)) (by kernel_rfl) (fun h5 => ?_) (fun h5 => ?_)
          · refine W_seg 5 (by kernel_rfl) ?_
            refine W_dec 25 (decide ((c.toNat : Int) ≤ 57)) (by kernel_rfl) (fun h6 => ?_) (fun h6 => ?_)
            · refine W_seg 4 (by kernel_rfl) ?_
              refine W_end ?_
              refine W_ret ?_
              refine leaf_r ?_
              rw [show substLetter c = true from by simp only [substLetter, h1, h2, h3, h4, h5, h6, cond_true, cond_false]]
              kernel_rfl
            · refine W_seg 4 (by kernel_rfl) ?_
              refine W_end ?_
              refine W_ret ?_
              refine leaf_r ?_
              rw [show substLetter c = ((c.toNat : Int) == 95) from by simp only [substLetter, h1, h2, h3, h4, h5, h6, cond_true, cond_false]]
              kernel_rfl
          · refine W_seg 9 (by kernel_rfl) ?_
            refine W_end ?_
            refine W_ret ?_
            refine leaf_r ?_
            rw [show substLetter c = ((c.toNat : Int) == 95) from by simp only [substLetter, h1, h2, h3, h4, h5, cond_true, cond_false]]
            kernel_rfl
      · refine W_seg 8 (by kernel_rfl) ?_
        refine W_dec 20 (decide ((c.toNat : Int) ≥ 48)) (by kernel_rfl) (fun h7 => ?_) (fun h7 => ?_)
        · refine W_seg 5 (by kernel_rfl) ?_
          refine W_dec 25 (decide ((c.toNat : Int) ≤ 57)) (by kernel_rfl) (fun h8 => ?_) (fun h8 => ?_)
          · refine W_seg 4 (by kernel_rfl) ?_
            refine W_end ?_
            refine W_ret ?_
            refine leaf_r ?_
            rw [show substLetter c = true from by simp only [substLetter, h1, h2, h3, h7, h8, cond_true, cond_false]]
            kernel_rfl
          · refine W_seg 4 (by kernel_rfl) ?_
            refine W_end ?_
            refine W_ret ?_
            refine leaf_r ?_
            rw [show substLetter c = ((c.toNat : Int) == 95) from by simp only [substLetter, h1, h2, h3, h7, h8, cond_true, cond_false]]
            kernel_rfl
        · refine W_seg 9 (by kernel_rfl) ?_
          refine W_end ?_
          refine W_ret ?_
          refine leaf_r ?_
          rw [show substLetter c = ((c.toNat : Int) == 95) from by simp only [substLetter, h1, h2, h3, h7, cond_true, cond_false]]
          kernel_rfl
  · refine W_seg 7 (by kernel_rfl) ?_
    refine W_dec 12 (decide ((c.toNat : Int) ≥ 65)) (by kernel_rfl) (fun h9 => ?_) (fun h9 => ?_)
    · refine W_seg 5 (by kernel_rfl) ?_
      refine W_dec 17 (decide ((c.toNat : Int) ≤ 90)) (by kernel_rfl) (fun h10 => ?_) (fun h10 => ?_)
      · refine W_seg 12 (by kernel_rfl) ?_
        refine W_end ?_
        refine W_ret ?_
        refine leaf_r ?_
        rw [show substLetter c = true from by simp only [substLetter, h1, h9, h10, cond_true, cond_false]]
        kernel_rfl
      · refine W_seg 3 (by kernel_rfl) ?_
        refine W_dec 20 (decide ((c.toNat : Int) ≥ 48)) (by kernel_rfl) (fun h11 => ?_) (fun h11 => ?_)
        · refine W_seg 5 (by kernel_rfl) ?_
          refine W_dec 25 (decide ((c.toNat : Int) ≤ 57)) (by kernel_rfl) (fun h12 => ?_) (fun h12 => ?_)
          · refine W_seg 4 (by kernel_rfl) ?_
            refine W_end ?_
            refine W_ret ?_
            refine leaf_r ?_
            rw [show substLetter c = true from by simp only [substLetter, h1, h9, h10, h11, h12, cond_true, cond_false]]
            kernel_rfl
          · refine W_seg 4 (by kernel_rfl) ?_
            refine W_end ?_
            refine W_ret ?_
            refine leaf_r ?_
            rw [show substLetter c = ((c.toNat : Int) == 95) from by simp only [substLetter, h1, h9, h10, h11, h12, cond_true, cond_false]]
            kernel_rfl
        · refine W_seg 9 (by kernel_rfl) ?_
          refine W_end ?_
          refine W_ret ?_
          refine leaf_r ?_
          rw [show substLetter c = ((c.toNat : Int) == 95) from by simp only [substLetter, h1, h9, h10, h11, cond_true, cond_false]]
          kernel_rfl
    · refine W_seg 8 (by kernel_rfl) ?_
      refine W_dec 20 (decide ((c.toNat : Int) ≥ 48)) (by kernel_rfl) (fun h13 => ?_) (fun h13 => ?_)
      · refine W_seg 5 (by kernel_rfl) ?_
        refine W_dec 25 (decide ((c.toNat : Int) ≤ 57)) (by kernel_rfl) (fun h14 => ?_) (fun h14 => ?_)
        · refine W_seg 4 (by kernel_rfl) ?_
          refine W_end ?_
          refine W_ret ?_
          refine leaf_r ?_
          rw [show substLetter c = true from by simp only [substLetter, h1, h9, h13, h14, cond_true, cond_false]]
          kernel_rfl
        · refine W_seg 4 (by kernel_rfl) ?_
          refine W_end ?_
          refine W_ret ?_
          refine leaf_r ?_
          rw [show substLetter c = ((c.toNat : Int) == 95) from by simp only [substLetter, h1, h9, h13, h14, cond_true, cond_false]]
          kernel_rfl
      · refine W_seg 9 (by kernel_rfl) ?_
        refine W_end ?_
        refine W_ret ?_
        refine leaf_r ?_
        rw [show substLetter c = ((c.toNat : Int) == 95) from by simp only [substLetter, h1, h9, h13, cond_true, cond_false]]
        kernel_rfl

def valSymbol_l1 (b : Txt) (y1 : UInt8) : Nat → List UInt8 → Unit → Bool
  | i2, [], _ => true
  | i2, x3 :: xs4, _ => (bif (!(valSmall x3)) then (bif (!(valLarge x3)) then (bif (!(valDigit x3)) then (bif ((x3.toNat : Int) != 95) then false else valSymbol_l1 b y1 (i2 + 1) xs4 ()) else valSymbol_l1 b y1 (i2 + 1) xs4 ()) else valSymbol_l1 b y1 (i2 + 1) xs4 ()) else valSymbol_l1 b y1 (i2 + 1) xs4 ())
def valSymbol (b : Txt) : Bool := (bif (decide ((b.length : Int) < 1)) then false else (bif (decide ((b.length : Int) > 24)) then false else (match b[0]? with | some y1 => (bif (!(valSmall y1)) then false else valSymbol_l1 b y1 0 b ()) | none => default)))
theorem valSymbol_says (b : Txt)  : SaysT TX 135 [eS b] (eB (valSymbol b)) := by
  refine says (F := c135) rfl fun sg => ?_
  refine W_seq ?_
  refine W_seg 1 (by kernel_rfl) ?_
  refine W_end ?_
  refine W_seq ?_
  refine W_seq ?_
  refine W_seg 4 (by kernel_rfl) ?_
  refine W_dec 7 (decide ((b.length : Int) < 1)) (by kernel_rfl) (fun h1 => ?_) (fun h1 => ?_)
  · refine W_seg 10 (by kernel_rfl) ?_
    refine W_end ?_
    refine W_ct (by kernel_rfl) ?_
    refine W_seq ?_
    refine W_seg 1 (by kernel_rfl) ?_
    refine W_end ?_
    refine W_ret ?_
    refine leaf_r ?_
    rw [show valSymbol b = false from by simp only [valSymbol, h1, cond_true, cond_false]]
    kernel_rfl
  · refine W_seg 5 (by kernel_rfl) ?_
    refine W_dec 12 (decide ((b.length : Int) > 24)) (by kernel_rfl) (fun h2 => ?_) (fun h2 => ?_)
    · refine W_seg 5 (by kernel_rfl) ?_
      refine W_end ?_
      refine W_ct (by kernel_rfl) ?_
      refine W_seq ?_
      refine W_seg 1 (by kernel_rfl) ?_
      refine W_end ?_
      refine W_ret ?_
      refine leaf_r ?_
      rw [show valSymbol b = false from by simp only [valSymbol, h1, h2, cond_true, cond_false]]
      kernel_rfl
    · refine W_seg 1 (by kernel_rfl) ?_
      rcases h3 : b[0]? with _ | y1
      · exfalso; have hq := List.getElem?_eq_none_iff.1 h3; have k0 := h1;  have k1 := h2; simp only [decide_eq_true_eq, decide_eq_false_iff_not, bne_eq_false_iff_eq, beq_iff_eq, bne_iff_ne, beq_eq_false_iff_ne, ne_eq] at k0 k1; omega
      refine W_ix h3 (by kernel_rfl) (by kernel_rfl) (by kernel_rfl) ?_
      refine W_call (valSmall_says y1) (by kernel_rfl) (by kernel_rfl) ?_
      refine W_seg 2 (by kernel_rfl) ?_
      refine W_end ?_
      refine W_dec 17 (!(valSmall y1)) (by kernel_rfl) (fun h4 => ?_) (fun h4 => ?_)
      · refine W_ct (by kernel_rfl) ?_
        refine W_seq ?_
        refine W_seg 1 (by kernel_rfl) ?_
        refine W_end ?_
        refine W_ret ?_
        refine leaf_r ?_
        rw [show valSymbol b = false from by simp only [valSymbol, h1, h2, h4, h3, cond_true, cond_false]]
        kernel_rfl
      · refine W_cf (by kernel_rfl) ?_
        refine W_skip ?_
        refine W_seq ?_
        refine W_seq ?_
        refine W_seg 3 (by kernel_rfl) ?_
        refine W_end ?_
        refine W_blk ?_
        refine W_range (α := UInt8) (A := Unit) (fun i2 _ => { vals := [(.str b), (.int .i64 (b.length : Int)), (.int .i64 (i2 : Int))], fr := [], sg := sg, wd := 0 }) b (fun ii ll aa => valSymbol_l1 b y1 ii ll aa = valSymbol b) () (by kernel_rfl) (by simp only [valSymbol, h1, h2, h4, h3, cond_true, cond_false]) (fun i2 x3 xs4 _ hd hp1 ih => ?_) (fun i2 _ hd hp1 => ?_)
        · have hlt1 := drop_lt hd
          have hx1 := drop_get hd
          refine W_seq ?_
          refine W_seg 1 (by kernel_rfl) ?_
          refine W_end ?_
          refine W_seq ?_
          refine W_know 21 (.bool true) (Eq.trans (show _ = V.bool (decide ((i2 : Int) < (b.length : Int))) from by kernel_rfl) (congrArg V.bool (lt_true hlt1))) ?_
          refine W_ct (by kernel_rfl) ?_
          refine W_skip ?_
          refine W_seq ?_
          refine W_blk ?_
          refine W_seq ?_
          refine W_seg 2 (by kernel_rfl) ?_
          refine W_end ?_
          refine W_seq ?_
          refine W_seg 2 (by kernel_rfl) ?_
          refine W_ix hx1 (by kernel_rfl) (by kernel_rfl) (by kernel_rfl) ?_
          refine W_call (valSmall_says x3) (by kernel_rfl) (by kernel_rfl) ?_
          refine W_seg 2 (by kernel_rfl) ?_
          refine W_dec 28 (!(valSmall x3)) (by kernel_rfl) (fun h5 => ?_) (fun h5 => ?_)
          · refine W_seg 2 (by kernel_rfl) ?_
            refine W_ix hx1 (by kernel_rfl) (by kernel_rfl) (by kernel_rfl) ?_
            refine W_call (valLarge_says x3) (by kernel_rfl) (by kernel_rfl) ?_
            refine W_seg 3 (by kernel_rfl) ?_
            refine W_dec 35 (!(valLarge x3)) (by kernel_rfl) (fun h6 => ?_) (fun h6 => ?_)
            · refine W_seg 2 (by kernel_rfl) ?_
              refine W_ix hx1 (by kernel_rfl) (by kernel_rfl) (by kernel_rfl) ?_
              refine W_call (valDigit_says x3) (by kernel_rfl) (by kernel_rfl) ?_
              refine W_seg 3 (by kernel_rfl) ?_
              refine W_dec 42 (!(valDigit x3)) (by kernel_rfl) (fun h7 => ?_) (fun h7 => ?_)
              · refine W_seg 2 (by kernel_rfl) ?_
                refine W_ix hx1 (by kernel_rfl) (by kernel_rfl) (by kernel_rfl) ?_
                refine W_seg 2 (by kernel_rfl) ?_
                refine W_end ?_
                refine W_dec 47 ((x3.toNat : Int) != 95) (by kernel_rfl) (fun h8 => ?_) (fun h8 => ?_)
                · refine W_ct (by kernel_rfl) ?_
                  refine W_seq ?_
                  refine W_seg 1 (by kernel_rfl) ?_
                  refine W_end ?_
                  refine W_ret ?_
                  refine leaf_r ?_
                  rw [show valSymbol b = false from by rw [← hp1]; simp only [valSymbol_l1, h5, h6, h7, h8, cond_true, cond_false]]
                  kernel_rfl
                · refine W_cf (by kernel_rfl) ?_
                  refine W_skip ?_
                  refine W_seg 1 (by kernel_rfl) ?_
                  refine W_know 48 (.int .i64 ((i2 + 1 : Nat) : Int)) (Eq.trans (show _ = V.int .i64 (IntKind.i64.wrap ((i2 : Int) + 1)) from by kernel_rfl) (congrArg (V.int .i64) (wrap_succ hlt1 (by first | assumption | (unfold big; omega) | (simp only [List.length_cons, List.length_nil]; unfold big; omega) | (have k0 := h1; have k1 := h2; simp only [decide_eq_true_eq, decide_eq_false_iff_not, Bool.not_eq_true', Bool.not_eq_false'] at k0 k1; unfold big; omega))))) ?_
                  refine W_seg 1 (by kernel_rfl) ?_
                  refine W_end ?_
                  refine W_next (l := { vals := [(.str b), (.int .i64 (b.length : Int)), (.int .i64 ((i2 + 1 : Nat) : Int))], fr := [], sg := sg, wd := 0 }) (by kernel_rfl) ?_
                  exact ih () (by rw [← hp1]; simp only [valSymbol_l1, h5, h6, h7, h8, cond_true, cond_false])
              · refine W_seg 5 (by kernel_rfl) ?_
                refine W_end ?_
                refine W_cf (by kernel_rfl) ?_
                refine W_skip ?_
                refine W_seg 1 (by kernel_rfl) ?_
                refine W_know 48 (.int .i64 ((i2 + 1 : Nat) : Int)) (Eq.trans (show _ = V.int .i64 (IntKind.i64.wrap ((i2 : Int) + 1)) from by kernel_rfl) (congrArg (V.int .i64) (wrap_succ hlt1 (by first | assumption | (unfold big; omega) | (simp only [List.length_cons, List.length_nil]; unfold big; omega) | (have k0 := h1; have k1 := h2; simp only [decide_eq_true_eq, decide_eq_false_iff_not, Bool.not_eq_true', Bool.not_eq_false'] at k0 k1; unfold big; omega))))) ?_
                refine W_seg 1 (by kernel_rfl) ?_
                refine W_end ?_
                refine W_next (l := { vals := [(.str b), (.int .i64 (b.length : Int)), (.int .i64 ((i2 + 1 : Nat) : Int))], fr := [], sg := sg, wd := 0 }) (by kernel_rfl) ?_
                exact ih () (by rw [← hp1]; simp only [valSymbol_l1, h5, h6, h7, cond_true, cond_false])
            · refine W_seg 12 (by kernel_rfl) ?_
              refine W_end ?_
              refine W_cf (by kernel_rfl) ?_
              refine W_skip ?_
              refine W_seg 1 (by kernel_rfl) ?_
              refine W_know 48 (.int .i64 ((i2 + 1 : Nat) : Int)) (Eq.trans (show _ = V.int .i64 (IntKind.i64.wrap ((i2 : Int) + 1)) from by kernel_rfl) (congrArg (V.int .i64) (wrap_succ hlt1 (by first | assumption | (unfold big; omega) | (simp only [List.length_cons, List.length_nil]; unfold big; omega) | (have k0 := h1; have k1 := h2; simp only [decide_eq_true_eq, decide_eq_false_iff_not, Bool.not_eq_true', Bool.not_eq_false'] at k0 k1; unfold big; omega))))) ?_
              refine W_seg 1 (by kernel_rfl) ?_
              refine W_end ?_
              refine W_next (l := { vals := [(.str b), (.int .i64 (b.length : Int)), (.int .i64 ((i2 + 1 : Nat) : Int))], fr := [], sg := sg, wd := 0 }) (by kernel_rfl) ?_
              exact ih () (by rw [← hp1]; simp only [valSymbol_l1, h5, h6, cond_true, cond_false])
          · refine W_seg 19 (by kernel_rfl) ?_
            refine W_end ?_
            refine W_cf (by kernel_rfl) ?_
            refine W_skip ?_
            refine W_seg 1 (by kernel_rfl) ?_
            refine W_know 48 (.int .i64 ((i2 + 1 : Nat) : Int)) (Eq.trans (show _ = V.int .i64 (IntKind.i64.wrap ((i2 : Int) + 1)) from by kernel_rfl) (congrArg (V.int .i64) (wrap_succ hlt1 (by first | assumption | (unfold big; omega) | (simp only [List.length_cons, List.length_nil]; unfold big; omega) | (have k0 := h1; have k1 := h2; simp only [decide_eq_true_eq, decide_eq_false_iff_not, Bool.not_eq_true', Bool.not_eq_false'] at k0 k1; unfold big; omega))))) ?_
            refine W_seg 1 (by kernel_rfl) ?_
            refine W_end ?_
            refine W_next (l := { vals := [(.str b), (.int .i64 (b.length : Int)), (.int .i64 ((i2 + 1 : Nat) : Int))], fr := [], sg := sg, wd := 0 }) (by kernel_rfl) ?_
            exact ih () (by rw [← hp1]; simp only [valSymbol_l1, h5, cond_true, cond_false])
        · have hge1 := drop_ge hd
          refine W_seq ?_
          refine W_seg 1 (by kernel_rfl) ?_
          refine W_end ?_
          refine W_seq ?_
          refine W_know 21 (.bool false) (Eq.trans (show _ = V.bool (decide ((i2 : Int) < (b.length : Int))) from by kernel_rfl) (congrArg V.bool (lt_false hge1))) ?_
          refine W_cf (by kernel_rfl) ?_
          refine W_exit ?_
          refine W_seq ?_
          refine W_seg 1 (by kernel_rfl) ?_
          refine W_end ?_
          refine W_ret ?_
          refine leaf_r ?_
          rw [show valSymbol b = true from by rw [← hp1]; simp only [valSymbol_l1, cond_true, cond_false]]
          kernel_rfl

def valPlain_l1 (b : Txt) : Nat → List UInt8 → Unit → Bool
  | i1, [], _ => (decide ((b.length : Int) ≤ 60))
  | i1, x2 :: xs3, _ => (bif (decide ((x2.toNat : Int) < 32)) then false else (bif (decide ((x2.toNat : Int) > 126)) then false else valPlain_l1 b (i1 + 1) xs3 ()))
def valPlain (b : Txt) : Bool := valPlain_l1 b 0 b ()
theorem valPlain_says (b : Txt) (hb : b.length ≤ big) : SaysT TX 136 [eS b] (eB (valPlain b)) := by
  refine says (F := c136) rfl fun sg => ?_
  refine W_seq ?_
  refine W_seg 1 (by kernel_rfl) ?_
  refine W_end ?_
  refine W_seq ?_
  refine W_seq ?_
  refine W_seg 3 (by kernel_rfl) ?_
  refine W_end ?_
  refine W_blk ?_
  refine W_range (α := UInt8) (A := Unit) (fun i1 _ => { vals := [(.str b), (.int .i64 (b.length : Int)), (.int .i64 (i1 : Int))], fr := [], sg := sg, wd := 0 }) b (fun ii ll aa => valPlain_l1 b ii ll aa = valPlain b) () (by kernel_rfl) (by simp only [valPlain, cond_true, cond_false]) (fun i1 x2 xs3 _ hd hp1 ih => ?_) (fun i1 _ hd hp1 => ?_)
  · have hlt1 := drop_lt hd
    have hx1 := drop_get hd
    refine W_seq ?_
    refine W_seg 1 (by kernel_rfl) ?_
    refine W_end ?_
    refine W_seq ?_
    refine W_know 7 (.bool true) (Eq.trans (show _ = V.bool (decide ((i1 : Int) < (b.length : Int))) from by kernel_rfl) (congrArg V.bool (lt_true hlt1))) ?_
    refine W_ct (by kernel_rfl) ?_
    refine W_skip ?_
    refine W_seq ?_
    refine W_blk ?_
    refine W_seq ?_
    refine W_seg 2 (by kernel_rfl) ?_
    refine W_end ?_
    refine W_seq ?_
    refine W_seg 2 (by kernel_rfl) ?_
    refine W_ix hx1 (by kernel_rfl) (by kernel_rfl) (by kernel_rfl) ?_
    refine W_seg 2 (by kernel_rfl) ?_
    refine W_dec 13 (decide ((x2.toNat : Int) < 32)) (by kernel_rfl) (fun h1 => ?_) (fun h1 => ?_)
    · refine W_seg 5 (by kernel_rfl) ?_
      refine W_end ?_
      refine W_ct (by kernel_rfl) ?_
      refine W_seq ?_
      refine W_seg 1 (by kernel_rfl) ?_
      refine W_end ?_
      refine W_ret ?_
      refine leaf_r ?_
      rw [show valPlain b = false from by rw [← hp1]; simp only [valPlain_l1, h1, cond_true, cond_false]]
      kernel_rfl
    · refine W_seg 2 (by kernel_rfl) ?_
      refine W_ix hx1 (by kernel_rfl) (by kernel_rfl) (by kernel_rfl) ?_
      refine W_seg 2 (by kernel_rfl) ?_
      refine W_end ?_
      refine W_dec 18 (decide ((x2.toNat : Int) > 126)) (by kernel_rfl) (fun h2 => ?_) (fun h2 => ?_)
      · refine W_ct (by kernel_rfl) ?_
        refine W_seq ?_
        refine W_seg 1 (by kernel_rfl) ?_
        refine W_end ?_
        refine W_ret ?_
        refine leaf_r ?_
        rw [show valPlain b = false from by rw [← hp1]; simp only [valPlain_l1, h1, h2, cond_true, cond_false]]
        kernel_rfl
      · refine W_cf (by kernel_rfl) ?_
        refine W_skip ?_
        refine W_seg 1 (by kernel_rfl) ?_
        refine W_know 19 (.int .i64 ((i1 + 1 : Nat) : Int)) (Eq.trans (show _ = V.int .i64 (IntKind.i64.wrap ((i1 : Int) + 1)) from by kernel_rfl) (congrArg (V.int .i64) (wrap_succ hlt1 (by first | assumption | (unfold big; omega) | (simp only [List.length_cons, List.length_nil]; unfold big; omega) | exact hb _ (List.mem_of_getElem? hx1) | (have k0 := h1; have k1 := h2; simp only [decide_eq_true_eq, decide_eq_false_iff_not, Bool.not_eq_true', Bool.not_eq_false'] at k0 k1; unfold big; omega))))) ?_
        refine W_seg 1 (by kernel_rfl) ?_
        refine W_end ?_
        refine W_next (l := { vals := [(.str b), (.int .i64 (b.length : Int)), (.int .i64 ((i1 + 1 : Nat) : Int))], fr := [], sg := sg, wd := 0 }) (by kernel_rfl) ?_
        exact ih () (by rw [← hp1]; simp only [valPlain_l1, h1, h2, cond_true, cond_false])
  · have hge1 := drop_ge hd
    refine W_seq ?_
    refine W_seg 1 (by kernel_rfl) ?_
    refine W_end ?_
    refine W_seq ?_
    refine W_know 7 (.bool false) (Eq.trans (show _ = V.bool (decide ((i1 : Int) < (b.length : Int))) from by kernel_rfl) (congrArg V.bool (lt_false hge1))) ?_
    refine W_cf (by kernel_rfl) ?_
    refine W_exit ?_
    refine W_seq ?_
    refine W_seg 4 (by kernel_rfl) ?_
    refine W_end ?_
    refine W_ret ?_
    refine leaf_r ?_
    rw [show valPlain b = (decide ((b.length : Int) ≤ 60)) from by rw [← hp1]; simp only [valPlain_l1, cond_true, cond_false]]
    kernel_rfl

def valCheck (v : Sp.Val) : Int := (bif (v.kind == 1) then (bif (decide (v.n ≥ (-4611686018427387904))) then (bif (decide (v.n ≤ 4611686018427387904)) then (bif (!(v.s == ([] : Txt))) then 1 else 0) else 1) else 1) else (bif (v.kind == 2) then (bif (v.n == 0) then (bif (!(valSymbol v.s)) then 1 else 0) else 1) else (bif (v.kind == 3) then (bif (v.n == 0) then (bif (!(valPlain v.s)) then 1 else 0) else 1) else 1)))
theorem valCheck_says (v : Sp.Val) (hb : v.s.length ≤ big) : SaysT TX 97 [eVal v] (eI (valCheck v)) := by
  refine says (F := c97) rfl fun sg => ?_
  refine W_seq ?_
  refine W_seg 2 (by kernel_rfl) ?_
  refine W_end ?_
  refine W_seq ?_
  refine W_seg 1 (by kernel_rfl) ?_
  refine W_end ?_
  refine W_seq ?_
  refine W_seq ?_
  refine W_seg 2 (by kernel_rfl) ?_
  refine W_end ?_
  refine W_blk ?_
  refine W_seq ?_
  refine W_seg 2 (by kernel_rfl) ?_
  refine W_end ?_
  refine W_dec 6 (v.kind == 1) (by kernel_rfl) (fun h1 => ?_) (fun h1 => ?_)
  · refine W_ct (by kernel_rfl) ?_
    refine W_seg 4 (by kernel_rfl) ?_
    refine W_dec 11 (decide (v.n ≥ (-4611686018427387904))) (by kernel_rfl) (fun h2 => ?_) (fun h2 => ?_)
    · refine W_seg 5 (by kernel_rfl) ?_
      refine W_dec 16 (decide (v.n ≤ 4611686018427387904)) (by kernel_rfl) (fun h3 => ?_) (fun h3 => ?_)
      · refine W_seg 5 (by kernel_rfl) ?_
        refine W_end ?_
        refine W_seq ?_
        refine W_seq ?_
        refine W_seg 2 (by kernel_rfl) ?_
        refine W_end ?_
        refine W_dec 42 (!(v.s == ([] : Txt))) (by kernel_rfl) (fun h4 => ?_) (fun h4 => ?_)
        · refine W_ct (by kernel_rfl) ?_
          refine W_seq ?_
          refine W_seg 1 (by kernel_rfl) ?_
          refine W_end ?_
          refine W_ret ?_
          refine leaf_r ?_
          rw [show valCheck v = 1 from by simp only [valCheck, h1, h2, h3, h4, cond_true, cond_false]]
          kernel_rfl
        · refine W_cf (by kernel_rfl) ?_
          refine W_skip ?_
          refine W_seq ?_
          refine W_seg 1 (by kernel_rfl) ?_
          refine W_end ?_
          refine W_ret ?_
          refine leaf_r ?_
          rw [show valCheck v = 0 from by simp only [valCheck, h1, h2, h3, h4, cond_true, cond_false]]
          kernel_rfl
      · refine W_seg 5 (by kernel_rfl) ?_
        refine W_end ?_
        refine W_seq ?_
        refine W_seq ?_
        refine W_seg 2 (by kernel_rfl) ?_
        refine W_end ?_
        refine W_ct (by kernel_rfl) ?_
        refine W_seq ?_
        refine W_seg 1 (by kernel_rfl) ?_
        refine W_end ?_
        refine W_ret ?_
        refine leaf_r ?_
        rw [show valCheck v = 1 from by simp only [valCheck, h1, h2, h3, cond_true, cond_false]]
        kernel_rfl
    · refine W_seg 10 (by kernel_rfl) ?_
      refine W_end ?_
      refine W_seq ?_
      refine W_seq ?_
      refine W_seg 2 (by kernel_rfl) ?_
      refine W_end ?_
      refine W_ct (by kernel_rfl) ?_
      refine W_seq ?_
      refine W_seg 1 (by kernel_rfl) ?_
      refine W_end ?_
      refine W_ret ?_
      refine leaf_r ?_
      rw [show valCheck v = 1 from by simp only [valCheck, h1, h2, cond_true, cond_false]]
      kernel_rfl
  · refine W_cf (by kernel_rfl) ?_
    refine W_seq ?_
    refine W_seg 2 (by kernel_rfl) ?_
    refine W_end ?_
    refine W_dec 21 (v.kind == 2) (by kernel_rfl) (fun h5 => ?_) (fun h5 => ?_)
    · refine W_ct (by kernel_rfl) ?_
      refine W_seg 4 (by kernel_rfl) ?_
      refine W_dec 26 (v.n == 0) (by kernel_rfl) (fun h6 => ?_) (fun h6 => ?_)
      · refine W_seg 2 (by kernel_rfl) ?_
        refine W_call (valSymbol_says v.s) (by kernel_rfl) (by kernel_rfl) ?_
        refine W_seg 2 (by kernel_rfl) ?_
        refine W_end ?_
        refine W_seq ?_
        refine W_seq ?_
        refine W_seg 2 (by kernel_rfl) ?_
        refine W_end ?_
        refine W_dec 42 (!(valSymbol v.s)) (by kernel_rfl) (fun h7 => ?_) (fun h7 => ?_)
        · refine W_ct (by kernel_rfl) ?_
          refine W_seq ?_
          refine W_seg 1 (by kernel_rfl) ?_
          refine W_end ?_
          refine W_ret ?_
          refine leaf_r ?_
          rw [show valCheck v = 1 from by simp only [valCheck, h1, h5, h6, h7, cond_true, cond_false]]
          kernel_rfl
        · refine W_cf (by kernel_rfl) ?_
          refine W_skip ?_
          refine W_seq ?_
          refine W_seg 1 (by kernel_rfl) ?_
          refine W_end ?_
          refine W_ret ?_
          refine leaf_r ?_
          rw [show valCheck v = 0 from by simp only [valCheck, h1, h5, h6, h7, cond_true, cond_false]]
          kernel_rfl
      · refine W_seg 5 (by kernel_rfl) ?_
        refine W_end ?_
        refine W_seq ?_
        refine W_seq ?_
        refine W_seg 2 (by kernel_rfl) ?_
        refine W_end ?_
        refine W_ct (by kernel_rfl) ?_
        refine W_seq ?_
        refine W_seg 1 (by kernel_rfl) ?_
        refine W_end ?_
        refine W_ret ?_
        refine leaf_r ?_
        rw [show valCheck v = 1 from by simp only [valCheck, h1, h5, h6, cond_true, cond_false]]
        kernel_rfl
    · refine W_cf (by kernel_rfl) ?_
      refine W_seq ?_
      refine W_seg 2 (by kernel_rfl) ?_
      refine W_end ?_
      refine W_dec 31 (v.kind == 3) (by kernel_rfl) (fun h8 => ?_) (fun h8 => ?_)
      · refine W_ct (by kernel_rfl) ?_
        refine W_seg 4 (by kernel_rfl) ?_
        refine W_dec 36 (v.n == 0) (by kernel_rfl) (fun h9 => ?_) (fun h9 => ?_)
        · refine W_seg 2 (by kernel_rfl) ?_
          refine W_call (valPlain_says v.s (by first | assumption | (unfold big; omega) | (simp only [List.length_cons, List.length_nil]; unfold big; omega))) (by kernel_rfl) (by kernel_rfl) ?_
          refine W_seg 2 (by kernel_rfl) ?_
          refine W_end ?_
          refine W_seq ?_
          refine W_seq ?_
          refine W_seg 2 (by kernel_rfl) ?_
          refine W_end ?_
          refine W_dec 42 (!(valPlain v.s)) (by kernel_rfl) (fun h10 => ?_) (fun h10 => ?_)
          · refine W_ct (by kernel_rfl) ?_
            refine W_seq ?_
            refine W_seg 1 (by kernel_rfl) ?_
            refine W_end ?_
            refine W_ret ?_
            refine leaf_r ?_
            rw [show valCheck v = 1 from by simp only [valCheck, h1, h5, h8, h9, h10, cond_true, cond_false]]
            kernel_rfl
          · refine W_cf (by kernel_rfl) ?_
            refine W_skip ?_
            refine W_seq ?_
            refine W_seg 1 (by kernel_rfl) ?_
            refine W_end ?_
            refine W_ret ?_
            refine leaf_r ?_
            rw [show valCheck v = 0 from by simp only [valCheck, h1, h5, h8, h9, h10, cond_true, cond_false]]
            kernel_rfl
        · refine W_seg 5 (by kernel_rfl) ?_
          refine W_end ?_
          refine W_seq ?_
          refine W_seq ?_
          refine W_seg 2 (by kernel_rfl) ?_
          refine W_end ?_
          refine W_ct (by kernel_rfl) ?_
          refine W_seq ?_
          refine W_seg 1 (by kernel_rfl) ?_
          refine W_end ?_
          refine W_ret ?_
          refine leaf_r ?_
          rw [show valCheck v = 1 from by simp only [valCheck, h1, h5, h8, h9, cond_true, cond_false]]
          kernel_rfl
      · refine W_cf (by kernel_rfl) ?_
        refine W_skip ?_
        refine W_seq ?_
        refine W_seq ?_
        refine W_seg 2 (by kernel_rfl) ?_
        refine W_end ?_
        refine W_ct (by kernel_rfl) ?_
        refine W_seq ?_
        refine W_seg 1 (by kernel_rfl) ?_
        refine W_end ?_
        refine W_ret ?_
        refine leaf_r ?_
        rw [show valCheck v = 1 from by simp only [valCheck, h1, h5, h8, cond_true, cond_false]]
        kernel_rfl

def substVar_l1 (b : Txt) (y1 : UInt8) : Nat → List UInt8 → Unit → Bool
  | i2, [], _ => true
  | i2, x3 :: xs4, _ => (bif (!(substLetter x3)) then false else substVar_l1 b y1 (i2 + 1) xs4 ())
def substVar (b : Txt) : Bool := (bif (decide ((b.length : Int) < 1)) then false else (bif (decide ((b.length : Int) > 24)) then false else (match b[0]? with | some y1 => (bif (decide ((y1.toNat : Int) < 65)) then false else (bif (decide ((y1.toNat : Int) > 90)) then false else substVar_l1 b y1 0 b ())) | none => default)))
theorem substVar_says (b : Txt)  : SaysT TX 163 [eS b] (eB (substVar b)) := by
  refine says (F := c163) rfl fun sg => ?_
  refine W_seq ?_
  refine W_seg 1 (by kernel_rfl) ?_
  refine W_end ?_
  refine W_seq ?_
  refine W_seq ?_
  refine W_seg 4 (by kernel_rfl) ?_
  refine W_dec 7 (decide ((b.length : Int) < 1)) (by kernel_rfl) (fun h1 => ?_) (fun h1 => ?_)
  · refine W_seg 14 (by kernel_rfl) ?_
    refine W_end ?_
    refine W_ct (by kernel_rfl) ?_
    refine W_seq ?_
    refine W_seg 1 (by kernel_rfl) ?_
    refine W_end ?_
    refine W_ret ?_
    refine leaf_r ?_
    rw [show substVar b = false from by simp only [substVar, h1, cond_true, cond_false]]
    kernel_rfl
  · refine W_seg 5 (by kernel_rfl) ?_
    refine W_dec 12 (decide ((b.length : Int) > 24)) (by kernel_rfl) (fun h2 => ?_) (fun h2 => ?_)
    · refine W_seg 9 (by kernel_rfl) ?_
      refine W_end ?_
      refine W_ct (by kernel_rfl) ?_
      refine W_seq ?_
      refine W_seg 1 (by kernel_rfl) ?_
      refine W_end ?_
      refine W_ret ?_
      refine leaf_r ?_
      rw [show substVar b = false from by simp only [substVar, h1, h2, cond_true, cond_false]]
      kernel_rfl
    · refine W_seg 1 (by kernel_rfl) ?_
      rcases h3 : b[0]? with _ | y1
      · exfalso; have hq := List.getElem?_eq_none_iff.1 h3; have k0 := h1;  have k1 := h2; simp only [decide_eq_true_eq, decide_eq_false_iff_not, bne_eq_false_iff_eq, beq_iff_eq, bne_iff_ne, beq_eq_false_iff_ne, ne_eq] at k0 k1; omega
      refine W_ix h3 (by kernel_rfl) (by kernel_rfl) (by kernel_rfl) ?_
      refine W_seg 3 (by kernel_rfl) ?_
      refine W_dec 17 (decide ((y1.toNat : Int) < 65)) (by kernel_rfl) (fun h4 => ?_) (fun h4 => ?_)
      · refine W_seg 4 (by kernel_rfl) ?_
        refine W_end ?_
        refine W_ct (by kernel_rfl) ?_
        refine W_seq ?_
        refine W_seg 1 (by kernel_rfl) ?_
        refine W_end ?_
        refine W_ret ?_
        refine leaf_r ?_
        rw [show substVar b = false from by simp only [substVar, h1, h2, h4, h3, cond_true, cond_false]]
        kernel_rfl
      · refine W_seg 1 (by kernel_rfl) ?_
        refine W_ix h3 (by kernel_rfl) (by kernel_rfl) (by kernel_rfl) ?_
        refine W_seg 2 (by kernel_rfl) ?_
        refine W_end ?_
        refine W_dec 21 (decide ((y1.toNat : Int) > 90)) (by kernel_rfl) (fun h5 => ?_) (fun h5 => ?_)
        · refine W_ct (by kernel_rfl) ?_
          refine W_seq ?_
          refine W_seg 1 (by kernel_rfl) ?_
          refine W_end ?_
          refine W_ret ?_
          refine leaf_r ?_
          rw [show substVar b = false from by simp only [substVar, h1, h2, h4, h5, h3, cond_true, cond_false]]
          kernel_rfl
        · refine W_cf (by kernel_rfl) ?_
          refine W_skip ?_
          refine W_seq ?_
          refine W_seq ?_
          refine W_seg 3 (by kernel_rfl) ?_
          refine W_end ?_
          refine W_blk ?_
          refine W_range (α := UInt8) (A := Unit) (fun i2 _ => { vals := [(.str b), (.int .i64 (b.length : Int)), (.int .i64 (i2 : Int))], fr := [], sg := sg, wd := 0 }) b (fun ii ll aa => substVar_l1 b y1 ii ll aa = substVar b) () (by kernel_rfl) (by simp only [substVar, h1, h2, h4, h5, h3, cond_true, cond_false]) (fun i2 x3 xs4 _ hd hp1 ih => ?_) (fun i2 _ hd hp1 => ?_)
          · have hlt1 := drop_lt hd
            have hx1 := drop_get hd
            refine W_seq ?_
            refine W_seg 1 (by kernel_rfl) ?_
            refine W_end ?_
            refine W_seq ?_
            refine W_know 25 (.bool true) (Eq.trans (show _ = V.bool (decide ((i2 : Int) < (b.length : Int))) from by kernel_rfl) (congrArg V.bool (lt_true hlt1))) ?_
            refine W_ct (by kernel_rfl) ?_
            refine W_skip ?_
            refine W_seq ?_
            refine W_blk ?_
            refine W_seq ?_
            refine W_seg 2 (by kernel_rfl) ?_
            refine W_end ?_
            refine W_seq ?_
            refine W_seg 2 (by kernel_rfl) ?_
            refine W_ix hx1 (by kernel_rfl) (by kernel_rfl) (by kernel_rfl) ?_
            refine W_call (substLetter_says x3) (by kernel_rfl) (by kernel_rfl) ?_
            refine W_seg 1 (by kernel_rfl) ?_
            refine W_end ?_
            refine W_dec 31 (!(substLetter x3)) (by kernel_rfl) (fun h6 => ?_) (fun h6 => ?_)
            · refine W_ct (by kernel_rfl) ?_
              refine W_seq ?_
              refine W_seg 1 (by kernel_rfl) ?_
              refine W_end ?_
              refine W_ret ?_
              refine leaf_r ?_
              rw [show substVar b = false from by rw [← hp1]; simp only [substVar_l1, h6, cond_true, cond_false]]
              kernel_rfl
            · refine W_cf (by kernel_rfl) ?_
              refine W_skip ?_
              refine W_seg 1 (by kernel_rfl) ?_
              refine W_know 32 (.int .i64 ((i2 + 1 : Nat) : Int)) (Eq.trans (show _ = V.int .i64 (IntKind.i64.wrap ((i2 : Int) + 1)) from by kernel_rfl) (congrArg (V.int .i64) (wrap_succ hlt1 (by first | assumption | (unfold big; omega) | (simp only [List.length_cons, List.length_nil]; unfold big; omega) | (have k0 := h1; have k1 := h2; have k2 := h4; have k3 := h5; simp only [decide_eq_true_eq, decide_eq_false_iff_not, Bool.not_eq_true', Bool.not_eq_false'] at k0 k1 k2 k3; unfold big; omega))))) ?_
              refine W_seg 1 (by kernel_rfl) ?_
              refine W_end ?_
              refine W_next (l := { vals := [(.str b), (.int .i64 (b.length : Int)), (.int .i64 ((i2 + 1 : Nat) : Int))], fr := [], sg := sg, wd := 0 }) (by kernel_rfl) ?_
              exact ih () (by rw [← hp1]; simp only [substVar_l1, h6, cond_true, cond_false])
          · have hge1 := drop_ge hd
            refine W_seq ?_
            refine W_seg 1 (by kernel_rfl) ?_
            refine W_end ?_
            refine W_seq ?_
            refine W_know 25 (.bool false) (Eq.trans (show _ = V.bool (decide ((i2 : Int) < (b.length : Int))) from by kernel_rfl) (congrArg V.bool (lt_false hge1))) ?_
            refine W_cf (by kernel_rfl) ?_
            refine W_exit ?_
            refine W_seq ?_
            refine W_seg 1 (by kernel_rfl) ?_
            refine W_end ?_
            refine W_ret ?_
            refine leaf_r ?_
            rw [show substVar b = true from by rw [← hp1]; simp only [substVar_l1, cond_true, cond_false]]
            kernel_rfl

def substRight (x : Sp.Bind) : Bool := (bif (substVar x.var) then ((valCheck x.val) == 0) else false)
theorem substRight_says (x : Sp.Bind) (hb : x.val.s.length ≤ big) : SaysT TX 145 [eBind x] (eB (substRight x)) := by
  refine says (F := c145) rfl fun sg => ?_
  refine W_seq ?_
  refine W_seg 2 (by kernel_rfl) ?_
  refine W_end ?_
  refine W_seq ?_
  refine W_seg 2 (by kernel_rfl) ?_
  refine W_call (substVar_says x.var) (by kernel_rfl) (by kernel_rfl) ?_
  refine W_seg 1 (by kernel_rfl) ?_
  refine W_dec 6 (substVar x.var) (by kernel_rfl) (fun h1 => ?_) (fun h1 => ?_)
  · refine W_seg 2 (by kernel_rfl) ?_
    refine W_call (valCheck_says x.val (by first | assumption | (unfold big; omega) | (simp only [List.length_cons, List.length_nil]; unfold big; omega))) (by kernel_rfl) (by kernel_rfl) ?_
    refine W_seg 3 (by kernel_rfl) ?_
    refine W_end ?_
    refine W_ret ?_
    refine leaf_r ?_
    rw [show substRight x = ((valCheck x.val) == 0) from by simp only [substRight, h1, cond_true, cond_false]]
    kernel_rfl
  · refine W_seg 6 (by kernel_rfl) ?_
    refine W_end ?_
    refine W_ret ?_
    refine leaf_r ?_
    rw [show substRight x = false from by simp only [substRight, h1, cond_true, cond_false]]
    kernel_rfl

def substCheck_l1 (l : (List Sp.Bind)) : Nat → List Sp.Bind → Unit → Int
  | i1, [], _ => 0
  | i1, x2 :: xs3, _ => (bif (!(substRight x2)) then 1 else (bif (decide ((i1 : Int) > 0)) then (match l[i1 - 1]? with | some y4 => (bif (!(bLess y4.var x2.var)) then 1 else substCheck_l1 l (i1 + 1) xs3 ()) | none => default) else substCheck_l1 l (i1 + 1) xs3 ()))
def substCheck (l : (List Sp.Bind)) : Int := (bif (decide ((l.length : Int) > 100)) then 1 else substCheck_l1 l 0 l ())
theorem substCheck_says (l : (List Sp.Bind)) (hb : ∀ x ∈ l, x.val.s.length ≤ big) : SaysT TX 114 [(eL 4 eBind) l] (eI (substCheck l)) := by
  refine says (F := c114) rfl fun sg => ?_
  refine W_seq ?_
  refine W_seg 1 (by kernel_rfl) ?_
  refine W_end ?_
  refine W_seq ?_
  refine W_seq ?_
  refine W_seg 2 (by kernel_rfl) ?_
  refine W_know 6 (.int .i64 (l.length : Int)) (Eq.trans (show _ = V.int .i64 (((l.map eBind).length : Nat) : Int) from by kernel_rfl) (len_map _ _)) ?_
  refine W_seg 1 (by kernel_rfl) ?_
  refine W_end ?_
  refine W_dec 7 (decide ((l.length : Int) > 100)) (by kernel_rfl) (fun h1 => ?_) (fun h1 => ?_)
  · refine W_ct (by kernel_rfl) ?_
    refine W_seq ?_
    refine W_seg 1 (by kernel_rfl) ?_
    refine W_end ?_
    refine W_ret ?_
    refine leaf_r ?_
    rw [show substCheck l = 1 from by simp only [substCheck, h1, cond_true, cond_false]]
    kernel_rfl
  · refine W_cf (by kernel_rfl) ?_
    refine W_skip ?_
    refine W_seq ?_
    refine W_seq ?_
    refine W_seg 2 (by kernel_rfl) ?_
    refine W_know 9 (.int .i64 (l.length : Int)) (Eq.trans (show _ = V.int .i64 (((l.map eBind).length : Nat) : Int) from by kernel_rfl) (len_map _ _)) ?_
    refine W_seg 1 (by kernel_rfl) ?_
    refine W_end ?_
    refine W_blk ?_
    refine W_range (α := Sp.Bind) (A := Unit) (fun i1 _ => { vals := [(.sl .no 4 (l.map eBind)), (.sl .no 4 (l.map eBind)), (.int .i64 (l.length : Int)), (.int .i64 (i1 : Int))], fr := [], sg := sg, wd := 0 }) l (fun ii ll aa => substCheck_l1 l ii ll aa = substCheck l) () (by kernel_rfl) (by simp only [substCheck, h1, cond_true, cond_false]) (fun i1 x2 xs3 _ hd hp1 ih => ?_) (fun i1 _ hd hp1 => ?_)
    · have hlt1 := drop_lt hd
      have hx1 := drop_get hd
      refine W_seq ?_
      refine W_seg 1 (by kernel_rfl) ?_
      refine W_end ?_
      refine W_seq ?_
      refine W_know 11 (.bool true) (Eq.trans (show _ = V.bool (decide ((i1 : Int) < (l.length : Int))) from by kernel_rfl) (congrArg V.bool (lt_true hlt1))) ?_
      refine W_ct (by kernel_rfl) ?_
      refine W_skip ?_
      refine W_seq ?_
      refine W_blk ?_
      refine W_seq ?_
      refine W_seg 1 (by kernel_rfl) ?_
      refine W_ia (t := .no) (get_map eBind hx1) (by kernel_rfl) (by kernel_rfl) (by kernel_rfl) ?_
      refine W_seg 4 (by kernel_rfl) ?_
      refine W_end ?_
      refine W_seq ?_
      refine W_d ?_
      refine W_dseg 1 (by kernel_rfl) ?_
      refine W_dcall (substRight_says x2 (by first | assumption | (unfold big; omega) | (simp only [List.length_cons, List.length_nil]; unfold big; omega) | exact hb _ (List.mem_of_getElem? hx1) | (have k0 := h1; simp only [decide_eq_true_eq, decide_eq_false_iff_not, Bool.not_eq_true', Bool.not_eq_false'] at k0; unfold big; omega))) (by kernel_rfl) (by kernel_rfl) ?_
      refine W_dseg 2 (by kernel_rfl) ?_
      refine W_ddec 18 (!(substRight x2)) (by kernel_rfl) (fun h2 => ?_) (fun h2 => ?_)
      · refine W_dseg 14 (by kernel_rfl) ?_
        refine W_dend ?_
        refine W_ct (by kernel_rfl) ?_
        refine W_seq ?_
        refine W_seg 1 (by kernel_rfl) ?_
        refine W_end ?_
        refine W_ret ?_
        refine leaf_r ?_
        rw [show substCheck l = 1 from by rw [← hp1]; simp only [substCheck_l1, h2, cond_true, cond_false]]
        kernel_rfl
      · refine W_dseg 3 (by kernel_rfl) ?_
        refine W_ddec 21 (decide ((i1 : Int) > 0)) (by kernel_rfl) (fun h3 => ?_) (fun h3 => ?_)
        · refine W_dseg 3 (by kernel_rfl) ?_
          refine W_dknow 24 (.int .i64 ((i1 - 1 : Nat) : Int)) (Eq.trans (show _ = V.int .i64 (IntKind.i64.wrap ((i1 : Int) - 1)) from by kernel_rfl) (congrArg (V.int .i64) (wrap_pred hlt1 (by first | assumption | (unfold big; omega) | (simp only [List.length_cons, List.length_nil]; unfold big; omega) | exact hb _ (List.mem_of_getElem? hx1) | (have k0 := h1; have k1 := h3; simp only [decide_eq_true_eq, decide_eq_false_iff_not, Bool.not_eq_true', Bool.not_eq_false'] at k0 k1; unfold big; omega)) (by have := h3; simp only [decide_eq_true_eq] at this; omega)))) ?_
          rcases h4 : l[i1 - 1]? with _ | y4
          · exfalso; have hq := List.getElem?_eq_none_iff.1 h4; have k0 := h1;  have k1 := h3; simp only [decide_eq_true_eq, decide_eq_false_iff_not, bne_eq_false_iff_eq, beq_iff_eq, bne_iff_ne, beq_eq_false_iff_ne, ne_eq] at k0 k1; have hz := drop_lt hd; omega
          refine W_dia (t := .no) (get_map eBind h4) (by kernel_rfl) (by kernel_rfl) (by kernel_rfl) ?_
          refine W_dseg 7 (by kernel_rfl) ?_
          refine W_dend ?_
          refine W_dec 32 (!(bLess y4.var x2.var)) (by kernel_rfl) (fun h5 => ?_) (fun h5 => ?_)
          · refine W_ct (by kernel_rfl) ?_
            refine W_seq ?_
            refine W_seg 1 (by kernel_rfl) ?_
            refine W_end ?_
            refine W_ret ?_
            refine leaf_r ?_
            rw [show substCheck l = 1 from by rw [← hp1]; simp only [substCheck_l1, h2, h3, h5, h4, cond_true, cond_false]]
            kernel_rfl
          · refine W_cf (by kernel_rfl) ?_
            refine W_skip ?_
            refine W_seg 1 (by kernel_rfl) ?_
            refine W_know 33 (.int .i64 ((i1 + 1 : Nat) : Int)) (Eq.trans (show _ = V.int .i64 (IntKind.i64.wrap ((i1 : Int) + 1)) from by kernel_rfl) (congrArg (V.int .i64) (wrap_succ hlt1 (by first | assumption | (unfold big; omega) | (simp only [List.length_cons, List.length_nil]; unfold big; omega) | exact hb _ (List.mem_of_getElem? hx1) | exact hb _ (List.mem_of_getElem? h4) | (have k0 := h1; have k1 := h3; simp only [decide_eq_true_eq, decide_eq_false_iff_not, Bool.not_eq_true', Bool.not_eq_false'] at k0 k1; unfold big; omega))))) ?_
            refine W_seg 1 (by kernel_rfl) ?_
            refine W_end ?_
            refine W_next (l := { vals := [(.sl .no 4 (l.map eBind)), (.sl .no 4 (l.map eBind)), (.int .i64 (l.length : Int)), (.int .i64 ((i1 + 1 : Nat) : Int))], fr := [], sg := sg, wd := 0 }) (by kernel_rfl) ?_
            exact ih () (by rw [← hp1]; simp only [substCheck_l1, h2, h3, h5, h4, cond_true, cond_false])
        · refine W_dseg 11 (by kernel_rfl) ?_
          refine W_dend ?_
          refine W_cf (by kernel_rfl) ?_
          refine W_skip ?_
          refine W_seg 1 (by kernel_rfl) ?_
          refine W_know 33 (.int .i64 ((i1 + 1 : Nat) : Int)) (Eq.trans (show _ = V.int .i64 (IntKind.i64.wrap ((i1 : Int) + 1)) from by kernel_rfl) (congrArg (V.int .i64) (wrap_succ hlt1 (by first | assumption | (unfold big; omega) | (simp only [List.length_cons, List.length_nil]; unfold big; omega) | exact hb _ (List.mem_of_getElem? hx1) | (have k0 := h1; have k1 := h3; simp only [decide_eq_true_eq, decide_eq_false_iff_not, Bool.not_eq_true', Bool.not_eq_false'] at k0 k1; unfold big; omega))))) ?_
          refine W_seg 1 (by kernel_rfl) ?_
          refine W_end ?_
          refine W_next (l := { vals := [(.sl .no 4 (l.map eBind)), (.sl .no 4 (l.map eBind)), (.int .i64 (l.length : Int)), (.int .i64 ((i1 + 1 : Nat) : Int))], fr := [], sg := sg, wd := 0 }) (by kernel_rfl) ?_
          exact ih () (by rw [← hp1]; simp only [substCheck_l1, h2, h3, cond_true, cond_false])
    · have hge1 := drop_ge hd
      refine W_seq ?_
      refine W_seg 1 (by kernel_rfl) ?_
      refine W_end ?_
      refine W_seq ?_
      refine W_know 11 (.bool false) (Eq.trans (show _ = V.bool (decide ((i1 : Int) < (l.length : Int))) from by kernel_rfl) (congrArg V.bool (lt_false hge1))) ?_
      refine W_cf (by kernel_rfl) ?_
      refine W_exit ?_
      refine W_seq ?_
      refine W_seg 1 (by kernel_rfl) ?_
      refine W_end ?_
      refine W_ret ?_
      refine leaf_r ?_
      rw [show substCheck l = 0 from by rw [← hp1]; simp only [substCheck_l1, cond_true, cond_false]]
      kernel_rfl

def substGet_l1 (l : (List Sp.Bind)) (name : Txt) : Nat → List Sp.Bind → Unit → Sp.Val × Bool
  | i1, [], _ => ((⟨0, 0, ([] : Txt)⟩ : Sp.Val), false)
  | i1, x2 :: xs3, _ => (bif (x2.var == name) then (x2.val, true) else substGet_l1 l name (i1 + 1) xs3 ())
def substGet (l : (List Sp.Bind)) (name : Txt) : Sp.Val × Bool := substGet_l1 l name 0 l ()
theorem substGet_says (l : (List Sp.Bind)) (name : Txt) (hb : l.length ≤ big) : SaysT TX 146 [(eL 4 eBind) l, eS name] (.tup [eVal (substGet l name).1, eB (substGet l name).2]) := by
  refine says (F := c146) rfl fun sg => ?_
  refine W_seq ?_
  refine W_seg 2 (by kernel_rfl) ?_
  refine W_end ?_
  refine W_seq ?_
  refine W_seq ?_
  refine W_seg 2 (by kernel_rfl) ?_
  refine W_know 9 (.int .i64 (l.length : Int)) (Eq.trans (show _ = V.int .i64 (((l.map eBind).length : Nat) : Int) from by kernel_rfl) (len_map _ _)) ?_
  refine W_seg 1 (by kernel_rfl) ?_
  refine W_end ?_
  refine W_blk ?_
  refine W_range (α := Sp.Bind) (A := Unit) (fun i1 _ => { vals := [(.str name), (.bp 0 0 0), (.sl .no 4 (l.map eBind)), (.int .i64 (l.length : Int)), (.int .i64 (i1 : Int))], fr := [.box [(.int .i64 0), (.int .i64 0), (.str ([] : Txt))]], sg := sg, wd := 0 }) l (fun ii ll aa => substGet_l1 l name ii ll aa = substGet l name) () (by kernel_rfl) (by simp only [substGet, cond_true, cond_false]) (fun i1 x2 xs3 _ hd hp1 ih => ?_) (fun i1 _ hd hp1 => ?_)
  · have hlt1 := drop_lt hd
    have hx1 := drop_get hd
    refine W_seq ?_
    refine W_seg 1 (by kernel_rfl) ?_
    refine W_end ?_
    refine W_seq ?_
    refine W_know 11 (.bool true) (Eq.trans (show _ = V.bool (decide ((i1 : Int) < (l.length : Int))) from by kernel_rfl) (congrArg V.bool (lt_true hlt1))) ?_
    refine W_ct (by kernel_rfl) ?_
    refine W_skip ?_
    refine W_seq ?_
    refine W_blk ?_
    refine W_seq ?_
    refine W_ia (t := .no) (get_map eBind hx1) (by kernel_rfl) (by kernel_rfl) (by kernel_rfl) ?_
    refine W_seg 3 (by kernel_rfl) ?_
    refine W_end ?_
    refine W_seq ?_
    refine W_seg 4 (by kernel_rfl) ?_
    refine W_end ?_
    refine W_dec 17 (x2.var == name) (by kernel_rfl) (fun h1 => ?_) (fun h1 => ?_)
    · refine W_ct (by kernel_rfl) ?_
      refine W_seq ?_
      refine W_seg 4 (by kernel_rfl) ?_
      refine W_end ?_
      refine W_ret ?_
      refine leaf_r ?_
      rw [show substGet l name = (x2.val, true) from by rw [← hp1]; simp only [substGet_l1, h1, cond_true, cond_false]]
      kernel_rfl
    · refine W_cf (by kernel_rfl) ?_
      refine W_skip ?_
      refine W_seg 1 (by kernel_rfl) ?_
      refine W_know 20 (.int .i64 ((i1 + 1 : Nat) : Int)) (Eq.trans (show _ = V.int .i64 (IntKind.i64.wrap ((i1 : Int) + 1)) from by kernel_rfl) (congrArg (V.int .i64) (wrap_succ hlt1 (by first | assumption | (unfold big; omega) | (simp only [List.length_cons, List.length_nil]; unfold big; omega) | exact hb _ (List.mem_of_getElem? hx1))))) ?_
      refine W_seg 1 (by kernel_rfl) ?_
      refine W_end ?_
      refine W_next (l := { vals := [(.str name), (.bp 0 0 0), (.sl .no 4 (l.map eBind)), (.int .i64 (l.length : Int)), (.int .i64 ((i1 + 1 : Nat) : Int))], fr := [.box [(.int .i64 0), (.int .i64 0), (.str ([] : Txt))]], sg := sg, wd := 0 }) (by kernel_rfl) ?_
      exact ih () (by rw [← hp1]; simp only [substGet_l1, h1, cond_true, cond_false])
  · have hge1 := drop_ge hd
    refine W_seq ?_
    refine W_seg 1 (by kernel_rfl) ?_
    refine W_end ?_
    refine W_seq ?_
    refine W_know 11 (.bool false) (Eq.trans (show _ = V.bool (decide ((i1 : Int) < (l.length : Int))) from by kernel_rfl) (congrArg V.bool (lt_false hge1))) ?_
    refine W_cf (by kernel_rfl) ?_
    refine W_exit ?_
    refine W_seq ?_
    refine W_seg 3 (by kernel_rfl) ?_
    refine W_end ?_
    refine W_ret ?_
    refine leaf_r ?_
    rw [show substGet l name = ((⟨0, 0, ([] : Txt)⟩ : Sp.Val), false) from by rw [← hp1]; simp only [substGet_l1, cond_true, cond_false]]
    kernel_rfl

def matchTerm (t : Sp.Term) : Bool := (bif (t.var == ([] : Txt)) then ((valCheck t.val) == 0) else (bif (substVar t.var) then ((t.val.kind == 0) && ((t.val.n == 0) && ((t.val.s == ([] : Txt)) && true))) else false))
theorem matchTerm_says (t : Sp.Term) (hb : t.val.s.length ≤ big) : SaysT TX 140 [eTerm t] (eB (matchTerm t)) := by
  refine says (F := c140) rfl fun sg => ?_
  refine W_seq ?_
  refine W_seg 2 (by kernel_rfl) ?_
  refine W_end ?_
  refine W_seq ?_
  refine W_seq ?_
  refine W_seg 3 (by kernel_rfl) ?_
  refine W_end ?_
  refine W_dec 5 (t.var == ([] : Txt)) (by kernel_rfl) (fun h1 => ?_) (fun h1 => ?_)
  · refine W_ct (by kernel_rfl) ?_
    refine W_seq ?_
    refine W_seg 2 (by kernel_rfl) ?_
    refine W_call (valCheck_says t.val (by first | assumption | (unfold big; omega) | (simp only [List.length_cons, List.length_nil]; unfold big; omega))) (by kernel_rfl) (by kernel_rfl) ?_
    refine W_seg 2 (by kernel_rfl) ?_
    refine W_end ?_
    refine W_ret ?_
    refine leaf_r ?_
    rw [show matchTerm t = ((valCheck t.val) == 0) from by simp only [matchTerm, h1, cond_true, cond_false]]
    kernel_rfl
  · refine W_cf (by kernel_rfl) ?_
    refine W_skip ?_
    refine W_seq ?_
    refine W_seg 2 (by kernel_rfl) ?_
    refine W_call (substVar_says t.var) (by kernel_rfl) (by kernel_rfl) ?_
    refine W_seg 1 (by kernel_rfl) ?_
    refine W_dec 13 (substVar t.var) (by kernel_rfl) (fun h2 => ?_) (fun h2 => ?_)
    · refine W_seg 6 (by kernel_rfl) ?_
      refine W_end ?_
      refine W_ret ?_
      refine leaf_r ?_
      rw [show matchTerm t = ((t.val.kind == 0) && ((t.val.n == 0) && ((t.val.s == ([] : Txt)) && true))) from by simp only [matchTerm, h1, h2, cond_true, cond_false]]
      kernel_rfl
    · refine W_seg 6 (by kernel_rfl) ?_
      refine W_end ?_
      refine W_ret ?_
      refine leaf_r ?_
      rw [show matchTerm t = false from by simp only [matchTerm, h1, h2, cond_true, cond_false]]
      kernel_rfl

def exprPushes (k : Int) : Bool := (bif (k == 1) then true else (k == 2))
theorem exprPushes_says (k : Int)  : SaysT TX 115 [eI k] (eB (exprPushes k)) := by
  refine says (F := c115) rfl fun sg => ?_
  refine W_seq ?_
  refine W_seg 1 (by kernel_rfl) ?_
  refine W_end ?_
  refine W_seq ?_
  refine W_seg 3 (by kernel_rfl) ?_
  refine W_dec 5 (k == 1) (by kernel_rfl) (fun h1 => ?_) (fun h1 => ?_)
  · refine W_seg 4 (by kernel_rfl) ?_
    refine W_end ?_
    refine W_ret ?_
    refine leaf_r ?_
    rw [show exprPushes k = true from by simp only [exprPushes, h1, cond_true, cond_false]]
    kernel_rfl
  · refine W_seg 4 (by kernel_rfl) ?_
    refine W_end ?_
    refine W_ret ?_
    refine leaf_r ?_
    rw [show exprPushes k = (k == 2) from by simp only [exprPushes, h1, cond_true, cond_false]]
    kernel_rfl

def exprRight (o : Sp.Op) : Bool := (bif (o.kind == 1) then (bif (substVar o.var) then ((o.val.kind == 0) && ((o.val.n == 0) && ((o.val.s == ([] : Txt)) && true))) else false) else (bif (o.kind == 2) then (bif (o.var == ([] : Txt)) then ((valCheck o.val) == 0) else false) else (bif (o.kind == 3) then (bif (o.var == ([] : Txt)) then ((o.val.kind == 0) && ((o.val.n == 0) && ((o.val.s == ([] : Txt)) && true))) else false) else (bif (o.kind == 4) then (bif (o.var == ([] : Txt)) then ((o.val.kind == 0) && ((o.val.n == 0) && ((o.val.s == ([] : Txt)) && true))) else false) else (bif (o.kind == 5) then (bif (o.var == ([] : Txt)) then ((o.val.kind == 0) && ((o.val.n == 0) && ((o.val.s == ([] : Txt)) && true))) else false) else false)))))
theorem exprRight_says (o : Sp.Op) (hb : o.val.s.length ≤ big) : SaysT TX 141 [eOp o] (eB (exprRight o)) := by
  refine says (F := c141) rfl fun sg => ?_
  refine W_seq ?_
  refine W_seg 2 (by kernel_rfl) ?_
  refine W_end ?_
  refine W_seq ?_
  refine W_seq ?_
  refine W_seg 2 (by kernel_rfl) ?_
  refine W_end ?_
  refine W_blk ?_
  refine W_seq ?_
  refine W_seg 2 (by kernel_rfl) ?_
  refine W_end ?_
  refine W_dec 5 (o.kind == 1) (by kernel_rfl) (fun h1 => ?_) (fun h1 => ?_)
  · refine W_ct (by kernel_rfl) ?_
    refine W_seq ?_
    refine W_seg 2 (by kernel_rfl) ?_
    refine W_call (substVar_says o.var) (by kernel_rfl) (by kernel_rfl) ?_
    refine W_seg 1 (by kernel_rfl) ?_
    refine W_dec 10 (substVar o.var) (by kernel_rfl) (fun h2 => ?_) (fun h2 => ?_)
    · refine W_seg 6 (by kernel_rfl) ?_
      refine W_end ?_
      refine W_ret ?_
      refine leaf_r ?_
      rw [show exprRight o = ((o.val.kind == 0) && ((o.val.n == 0) && ((o.val.s == ([] : Txt)) && true))) from by simp only [exprRight, h1, h2, cond_true, cond_false]]
      kernel_rfl
    · refine W_seg 6 (by kernel_rfl) ?_
      refine W_end ?_
      refine W_ret ?_
      refine leaf_r ?_
      rw [show exprRight o = false from by simp only [exprRight, h1, h2, cond_true, cond_false]]
      kernel_rfl
  · refine W_cf (by kernel_rfl) ?_
    refine W_seq ?_
    refine W_seg 2 (by kernel_rfl) ?_
    refine W_end ?_
    refine W_dec 16 (o.kind == 2) (by kernel_rfl) (fun h3 => ?_) (fun h3 => ?_)
    · refine W_ct (by kernel_rfl) ?_
      refine W_seq ?_
      refine W_seg 4 (by kernel_rfl) ?_
      refine W_dec 21 (o.var == ([] : Txt)) (by kernel_rfl) (fun h4 => ?_) (fun h4 => ?_)
      · refine W_seg 2 (by kernel_rfl) ?_
        refine W_call (valCheck_says o.val (by first | assumption | (unfold big; omega) | (simp only [List.length_cons, List.length_nil]; unfold big; omega))) (by kernel_rfl) (by kernel_rfl) ?_
        refine W_seg 3 (by kernel_rfl) ?_
        refine W_end ?_
        refine W_ret ?_
        refine leaf_r ?_
        rw [show exprRight o = ((valCheck o.val) == 0) from by simp only [exprRight, h1, h3, h4, cond_true, cond_false]]
        kernel_rfl
      · refine W_seg 6 (by kernel_rfl) ?_
        refine W_end ?_
        refine W_ret ?_
        refine leaf_r ?_
        rw [show exprRight o = false from by simp only [exprRight, h1, h3, h4, cond_true, cond_false]]
        kernel_rfl
    · refine W_cf (by kernel_rfl) ?_
      refine W_seq ?_
      refine W_seq ?_
      refine W_seg 2 (by kernel_rfl) ?_
      refine W_end ?_
      refine W_dec 27 (o.kind == 3) (by kernel_rfl) (fun h5 => ?_) (fun h5 => ?_)
      · refine W_ct (by kernel_rfl) ?_
        refine W_skip ?_
        refine W_ct (by kernel_rfl) ?_
        refine W_seq ?_
        refine W_seg 4 (by kernel_rfl) ?_
        refine W_dec 34 (o.var == ([] : Txt)) (by kernel_rfl) (fun h6 => ?_) (fun h6 => ?_)
        · refine W_seg 6 (by kernel_rfl) ?_
          refine W_end ?_
          refine W_ret ?_
          refine leaf_r ?_
          rw [show exprRight o = ((o.val.kind == 0) && ((o.val.n == 0) && ((o.val.s == ([] : Txt)) && true))) from by simp only [exprRight, h1, h3, h5, h6, cond_true, cond_false]]
          kernel_rfl
        · refine W_seg 6 (by kernel_rfl) ?_
          refine W_end ?_
          refine W_ret ?_
          refine leaf_r ?_
          rw [show exprRight o = false from by simp only [exprRight, h1, h3, h5, h6, cond_true, cond_false]]
          kernel_rfl
      · refine W_cf (by kernel_rfl) ?_
        refine W_seq ?_
        refine W_seg 2 (by kernel_rfl) ?_
        refine W_end ?_
        refine W_dec 27 (o.kind == 4) (by kernel_rfl) (fun h7 => ?_) (fun h7 => ?_)
        · refine W_ct (by kernel_rfl) ?_
          refine W_skip ?_
          refine W_ct (by kernel_rfl) ?_
          refine W_seq ?_
          refine W_seg 4 (by kernel_rfl) ?_
          refine W_dec 34 (o.var == ([] : Txt)) (by kernel_rfl) (fun h8 => ?_) (fun h8 => ?_)
          · refine W_seg 6 (by kernel_rfl) ?_
            refine W_end ?_
            refine W_ret ?_
            refine leaf_r ?_
            rw [show exprRight o = ((o.val.kind == 0) && ((o.val.n == 0) && ((o.val.s == ([] : Txt)) && true))) from by simp only [exprRight, h1, h3, h5, h7, h8, cond_true, cond_false]]
            kernel_rfl
          · refine W_seg 6 (by kernel_rfl) ?_
            refine W_end ?_
            refine W_ret ?_
            refine leaf_r ?_
            rw [show exprRight o = false from by simp only [exprRight, h1, h3, h5, h7, h8, cond_true, cond_false]]
            kernel_rfl
        · refine W_cf (by kernel_rfl) ?_
          refine W_seg 2 (by kernel_rfl) ?_
          refine W_end ?_
          refine W_dec 27 (o.kind == 5) (by kernel_rfl) (fun h9 => ?_) (fun h9 => ?_)
          · refine W_ct (by kernel_rfl) ?_
            refine W_seq ?_
            refine W_seg 4 (by kernel_rfl) ?_
            refine W_dec 34 (o.var == ([] : Txt)) (by kernel_rfl) (fun h10 => ?_) (fun h10 => ?_)
            · refine W_seg 6 (by kernel_rfl) ?_
              refine W_end ?_
              refine W_ret ?_
              refine leaf_r ?_
              rw [show exprRight o = ((o.val.kind == 0) && ((o.val.n == 0) && ((o.val.s == ([] : Txt)) && true))) from by simp only [exprRight, h1, h3, h5, h7, h9, h10, cond_true, cond_false]]
              kernel_rfl
            · refine W_seg 6 (by kernel_rfl) ?_
              refine W_end ?_
              refine W_ret ?_
              refine leaf_r ?_
              rw [show exprRight o = false from by simp only [exprRight, h1, h3, h5, h7, h9, h10, cond_true, cond_false]]
              kernel_rfl
          · refine W_cf (by kernel_rfl) ?_
            refine W_skip ?_
            refine W_seq ?_
            refine W_seg 1 (by kernel_rfl) ?_
            refine W_end ?_
            refine W_ret ?_
            refine leaf_r ?_
            rw [show exprRight o = false from by simp only [exprRight, h1, h3, h5, h7, h9, cond_true, cond_false]]
            kernel_rfl

def exprCheck_l1 (l : (List Sp.Op)) : Nat → List Sp.Op → Int → Int
  | i1, [], a1_0 => (bif (a1_0 != 1) then 1 else 0)
  | i1, x2 :: xs3, a1_0 => (bif (!(exprRight x2)) then 1 else (bif (!(exprPushes x2.kind)) then (bif (decide (a1_0 < 2)) then 1 else exprCheck_l1 l (i1 + 1) xs3 (IntKind.i64.wrap (a1_0 - 1))) else exprCheck_l1 l (i1 + 1) xs3 (IntKind.i64.wrap (a1_0 + 1))))
def exprCheck (l : (List Sp.Op)) : Int := (bif (decide ((l.length : Int) < 1)) then 1 else (bif (decide ((l.length : Int) > 15)) then 1 else exprCheck_l1 l 0 l 0))
theorem exprCheck_says (l : (List Sp.Op)) (hb : ∀ x ∈ l, x.val.s.length ≤ big) : SaysT TX 103 [(eL 5 eOp) l] (eI (exprCheck l)) := by
  refine says (F := c103) rfl fun sg => ?_
  refine W_seq ?_
  refine W_seg 1 (by kernel_rfl) ?_
  refine W_end ?_
  refine W_seq ?_
  refine W_seq ?_
  refine W_seg 2 (by kernel_rfl) ?_
  refine W_know 7 (.int .i64 (l.length : Int)) (Eq.trans (show _ = V.int .i64 (((l.map eOp).length : Nat) : Int) from by kernel_rfl) (len_map _ _)) ?_
  refine W_seg 2 (by kernel_rfl) ?_
  refine W_dec 9 (decide ((l.length : Int) < 1)) (by kernel_rfl) (fun h1 => ?_) (fun h1 => ?_)
  · refine W_seg 4 (by kernel_rfl) ?_
    refine W_end ?_
    refine W_ct (by kernel_rfl) ?_
    refine W_seq ?_
    refine W_seg 1 (by kernel_rfl) ?_
    refine W_end ?_
    refine W_ret ?_
    refine leaf_r ?_
    rw [show exprCheck l = 1 from by simp only [exprCheck, h1, cond_true, cond_false]]
    kernel_rfl
  · refine W_seg 2 (by kernel_rfl) ?_
    refine W_know 11 (.int .i64 (l.length : Int)) (Eq.trans (show _ = V.int .i64 (((l.map eOp).length : Nat) : Int) from by kernel_rfl) (len_map _ _)) ?_
    refine W_seg 2 (by kernel_rfl) ?_
    refine W_end ?_
    refine W_dec 13 (decide ((l.length : Int) > 15)) (by kernel_rfl) (fun h2 => ?_) (fun h2 => ?_)
    · refine W_ct (by kernel_rfl) ?_
      refine W_seq ?_
      refine W_seg 1 (by kernel_rfl) ?_
      refine W_end ?_
      refine W_ret ?_
      refine leaf_r ?_
      rw [show exprCheck l = 1 from by simp only [exprCheck, h1, h2, cond_true, cond_false]]
      kernel_rfl
    · refine W_cf (by kernel_rfl) ?_
      refine W_skip ?_
      refine W_seq ?_
      refine W_seg 1 (by kernel_rfl) ?_
      refine W_end ?_
      refine W_seq ?_
      refine W_seq ?_
      refine W_seg 2 (by kernel_rfl) ?_
      refine W_know 15 (.int .i64 (l.length : Int)) (Eq.trans (show _ = V.int .i64 (((l.map eOp).length : Nat) : Int) from by kernel_rfl) (len_map _ _)) ?_
      refine W_seg 1 (by kernel_rfl) ?_
      refine W_end ?_
      refine W_blk ?_
      refine W_range (α := Sp.Op) (A := Int) (fun i1 a1_0 => { vals := [(.int .i64 a1_0), (.sl .no 5 (l.map eOp)), (.int .i64 (l.length : Int)), (.int .i64 (i1 : Int))], fr := [], sg := sg, wd := 0 }) l (fun ii ll aa => exprCheck_l1 l ii ll aa = exprCheck l) 0 (by kernel_rfl) (by simp only [exprCheck, h1, h2, cond_true, cond_false]) (fun i1 x2 xs3 a1_0 hd hp1 ih => ?_) (fun i1 a1_0 hd hp1 => ?_)
      · have hlt1 := drop_lt hd
        have hx1 := drop_get hd
        refine W_seq ?_
        refine W_seg 1 (by kernel_rfl) ?_
        refine W_end ?_
        refine W_seq ?_
        refine W_know 17 (.bool true) (Eq.trans (show _ = V.bool (decide ((i1 : Int) < (l.length : Int))) from by kernel_rfl) (congrArg V.bool (lt_true hlt1))) ?_
        refine W_ct (by kernel_rfl) ?_
        refine W_skip ?_
        refine W_seq ?_
        refine W_blk ?_
        refine W_seq ?_
        refine W_ia (t := .no) (get_map eOp hx1) (by kernel_rfl) (by kernel_rfl) (by kernel_rfl) ?_
        refine W_seg 3 (by kernel_rfl) ?_
        refine W_end ?_
        refine W_seq ?_
        refine W_seq ?_
        refine W_seg 1 (by kernel_rfl) ?_
        refine W_call (exprRight_says x2 (by first | assumption | (unfold big; omega) | (simp only [List.length_cons, List.length_nil]; unfold big; omega) | exact hb _ (List.mem_of_getElem? hx1) | (have k0 := h1; have k1 := h2; simp only [decide_eq_true_eq, decide_eq_false_iff_not, Bool.not_eq_true', Bool.not_eq_false'] at k0 k1; unfold big; omega))) (by kernel_rfl) (by kernel_rfl) ?_
        refine W_seg 2 (by kernel_rfl) ?_
        refine W_dec 23 (!(exprRight x2)) (by kernel_rfl) (fun h3 => ?_) (fun h3 => ?_)
        · refine W_seg 9 (by kernel_rfl) ?_
          refine W_end ?_
          refine W_ct (by kernel_rfl) ?_
          refine W_seq ?_
          refine W_seg 1 (by kernel_rfl) ?_
          refine W_end ?_
          refine W_ret ?_
          refine leaf_r ?_
          rw [show exprCheck l = 1 from by rw [← hp1]; simp only [exprCheck_l1, h3, cond_true, cond_false]]
          kernel_rfl
        · refine W_seg 2 (by kernel_rfl) ?_
          refine W_call (exprPushes_says x2.kind) (by kernel_rfl) (by kernel_rfl) ?_
          refine W_seg 2 (by kernel_rfl) ?_
          refine W_dec 28 (!(exprPushes x2.kind)) (by kernel_rfl) (fun h4 => ?_) (fun h4 => ?_)
          · refine W_seg 4 (by kernel_rfl) ?_
            refine W_end ?_
            refine W_dec 32 (decide (a1_0 < 2)) (by kernel_rfl) (fun h5 => ?_) (fun h5 => ?_)
            · refine W_ct (by kernel_rfl) ?_
              refine W_seq ?_
              refine W_seg 1 (by kernel_rfl) ?_
              refine W_end ?_
              refine W_ret ?_
              refine leaf_r ?_
              rw [show exprCheck l = 1 from by rw [← hp1]; simp only [exprCheck_l1, h3, h4, h5, cond_true, cond_false]]
              kernel_rfl
            · refine W_cf (by kernel_rfl) ?_
              refine W_skip ?_
              refine W_seq ?_
              refine W_seg 2 (by kernel_rfl) ?_
              refine W_call (exprPushes_says x2.kind) (by kernel_rfl) (by kernel_rfl) ?_
              refine W_end ?_
              refine W_know 35 (.bool false) (Eq.trans (show _ = V.bool (exprPushes x2.kind) from by kernel_rfl) (congrArg V.bool (not_t h4))) ?_
              refine W_cf (by kernel_rfl) ?_
              refine W_seg 3 (by kernel_rfl) ?_
              refine W_end ?_
              refine W_seg 1 (by kernel_rfl) ?_
              refine W_know 40 (.int .i64 ((i1 + 1 : Nat) : Int)) (Eq.trans (show _ = V.int .i64 (IntKind.i64.wrap ((i1 : Int) + 1)) from by kernel_rfl) (congrArg (V.int .i64) (wrap_succ hlt1 (by first | assumption | (unfold big; omega) | (simp only [List.length_cons, List.length_nil]; unfold big; omega) | exact hb _ (List.mem_of_getElem? hx1) | (have k0 := h1; have k1 := h2; simp only [decide_eq_true_eq, decide_eq_false_iff_not, Bool.not_eq_true', Bool.not_eq_false'] at k0 k1; unfold big; omega))))) ?_
              refine W_seg 1 (by kernel_rfl) ?_
              refine W_end ?_
              refine W_next (l := { vals := [(.int .i64 (IntKind.i64.wrap (a1_0 - 1))), (.sl .no 5 (l.map eOp)), (.int .i64 (l.length : Int)), (.int .i64 ((i1 + 1 : Nat) : Int))], fr := [], sg := sg, wd := 0 }) (by kernel_rfl) ?_
              exact ih (IntKind.i64.wrap (a1_0 - 1)) (by rw [← hp1]; simp only [exprCheck_l1, h3, h4, h5, cond_true, cond_false])
          · refine W_seg 4 (by kernel_rfl) ?_
            refine W_end ?_
            refine W_cf (by kernel_rfl) ?_
            refine W_skip ?_
            refine W_seq ?_
            refine W_seg 2 (by kernel_rfl) ?_
            refine W_call (exprPushes_says x2.kind) (by kernel_rfl) (by kernel_rfl) ?_
            refine W_end ?_
            refine W_know 35 (.bool true) (Eq.trans (show _ = V.bool (exprPushes x2.kind) from by kernel_rfl) (congrArg V.bool (not_f h4))) ?_
            refine W_ct (by kernel_rfl) ?_
            refine W_seg 3 (by kernel_rfl) ?_
            refine W_end ?_
            refine W_seg 1 (by kernel_rfl) ?_
            refine W_know 40 (.int .i64 ((i1 + 1 : Nat) : Int)) (Eq.trans (show _ = V.int .i64 (IntKind.i64.wrap ((i1 : Int) + 1)) from by kernel_rfl) (congrArg (V.int .i64) (wrap_succ hlt1 (by first | assumption | (unfold big; omega) | (simp only [List.length_cons, List.length_nil]; unfold big; omega) | exact hb _ (List.mem_of_getElem? hx1) | (have k0 := h1; have k1 := h2; simp only [decide_eq_true_eq, decide_eq_false_iff_not, Bool.not_eq_true', Bool.not_eq_false'] at k0 k1; unfold big; omega))))) ?_
            refine W_seg 1 (by kernel_rfl) ?_
            refine W_end ?_
            refine W_next (l := { vals := [(.int .i64 (IntKind.i64.wrap (a1_0 + 1))), (.sl .no 5 (l.map eOp)), (.int .i64 (l.length : Int)), (.int .i64 ((i1 + 1 : Nat) : Int))], fr := [], sg := sg, wd := 0 }) (by kernel_rfl) ?_
            exact ih (IntKind.i64.wrap (a1_0 + 1)) (by rw [← hp1]; simp only [exprCheck_l1, h3, h4, cond_true, cond_false])
      · have hge1 := drop_ge hd
        refine W_seq ?_
        refine W_seg 1 (by kernel_rfl) ?_
        refine W_end ?_
        refine W_seq ?_
        refine W_know 17 (.bool false) (Eq.trans (show _ = V.bool (decide ((i1 : Int) < (l.length : Int))) from by kernel_rfl) (congrArg V.bool (lt_false hge1))) ?_
        refine W_cf (by kernel_rfl) ?_
        refine W_exit ?_
        refine W_seq ?_
        refine W_seq ?_
        refine W_seg 2 (by kernel_rfl) ?_
        refine W_end ?_
        refine W_dec 42 (a1_0 != 1) (by kernel_rfl) (fun h6 => ?_) (fun h6 => ?_)
        · refine W_ct (by kernel_rfl) ?_
          refine W_seq ?_
          refine W_seg 1 (by kernel_rfl) ?_
          refine W_end ?_
          refine W_ret ?_
          refine leaf_r ?_
          rw [show exprCheck l = 1 from by rw [← hp1]; simp only [exprCheck_l1, h6, cond_true, cond_false]]
          kernel_rfl
        · refine W_cf (by kernel_rfl) ?_
          refine W_skip ?_
          refine W_seq ?_
          refine W_seg 1 (by kernel_rfl) ?_
          refine W_end ?_
          refine W_ret ?_
          refine leaf_r ?_
          rw [show exprCheck l = 0 from by rw [← hp1]; simp only [exprCheck_l1, h6, cond_true, cond_false]]
          kernel_rfl

def numIn (n : Int) : Bool := (bif (decide (n ≥ (-4611686018427387904))) then (decide (n ≤ 4611686018427387904)) else false)
theorem numIn_says (n : Int)  : SaysT TX 164 [eI n] (eB (numIn n)) := by
  refine says (F := c164) rfl fun sg => ?_
  refine W_seq ?_
  refine W_seg 1 (by kernel_rfl) ?_
  refine W_end ?_
  refine W_seq ?_
  refine W_seg 3 (by kernel_rfl) ?_
  refine W_dec 5 (decide (n ≥ (-4611686018427387904))) (by kernel_rfl) (fun h1 => ?_) (fun h1 => ?_)
  · refine W_seg 4 (by kernel_rfl) ?_
    refine W_end ?_
    refine W_ret ?_
    refine leaf_r ?_
    rw [show numIn n = (decide (n ≤ 4611686018427387904)) from by simp only [numIn, h1, cond_true, cond_false]]
    kernel_rfl
  · refine W_seg 4 (by kernel_rfl) ?_
    refine W_end ?_
    refine W_ret ?_
    refine leaf_r ?_
    rw [show numIn n = false from by simp only [numIn, h1, cond_true, cond_false]]
    kernel_rfl

def numAdd (a : Int) (b : Int) : Int × Bool := (bif (decide (b > 0)) then (bif (decide (a > (IntKind.i64.wrap (4611686018427387904 - b)))) then (0, false) else (bif (decide (b < 0)) then (bif (decide (a < (IntKind.i64.wrap ((-4611686018427387904) - b)))) then (0, false) else ((IntKind.i64.wrap (a + b)), true)) else ((IntKind.i64.wrap (a + b)), true))) else (bif (decide (b < 0)) then (bif (decide (a < (IntKind.i64.wrap ((-4611686018427387904) - b)))) then (0, false) else ((IntKind.i64.wrap (a + b)), true)) else ((IntKind.i64.wrap (a + b)), true)))
theorem numAdd_says (a : Int) (b : Int)  : SaysT TX 165 [eI a, eI b] (.tup [eI (numAdd a b).1, eB (numAdd a b).2]) := by
  refine says (F := c165) rfl fun sg => ?_
  refine W_seq ?_
  refine W_seg 2 (by kernel_rfl) ?_
  refine W_end ?_
  refine W_seq ?_
  refine W_seq ?_
  refine W_seg 3 (by kernel_rfl) ?_
  refine W_dec 8 (decide (b > 0)) (by kernel_rfl) (fun h1 => ?_) (fun h1 => ?_)
  · refine W_seg 6 (by kernel_rfl) ?_
    refine W_dec 14 (decide (a > (IntKind.i64.wrap (4611686018427387904 - b)))) (by kernel_rfl) (fun h2 => ?_) (fun h2 => ?_)
    · refine W_seg 9 (by kernel_rfl) ?_
      refine W_end ?_
      refine W_ct (by kernel_rfl) ?_
      refine W_seq ?_
      refine W_seg 2 (by kernel_rfl) ?_
      refine W_end ?_
      refine W_ret ?_
      refine leaf_r ?_
      rw [show numAdd a b = (0, false) from by simp only [numAdd, h1, h2, cond_true, cond_false]]
      kernel_rfl
    · refine W_seg 3 (by kernel_rfl) ?_
      refine W_dec 17 (decide (b < 0)) (by kernel_rfl) (fun h3 => ?_) (fun h3 => ?_)
      · refine W_seg 6 (by kernel_rfl) ?_
        refine W_end ?_
        refine W_dec 23 (decide (a < (IntKind.i64.wrap ((-4611686018427387904) - b)))) (by kernel_rfl) (fun h4 => ?_) (fun h4 => ?_)
        · refine W_ct (by kernel_rfl) ?_
          refine W_seq ?_
          refine W_seg 2 (by kernel_rfl) ?_
          refine W_end ?_
          refine W_ret ?_
          refine leaf_r ?_
          rw [show numAdd a b = (0, false) from by simp only [numAdd, h1, h2, h3, h4, cond_true, cond_false]]
          kernel_rfl
        · refine W_cf (by kernel_rfl) ?_
          refine W_skip ?_
          refine W_seq ?_
          refine W_seg 5 (by kernel_rfl) ?_
          refine W_end ?_
          refine W_ret ?_
          refine leaf_r ?_
          rw [show numAdd a b = ((IntKind.i64.wrap (a + b)), true) from by simp only [numAdd, h1, h2, h3, h4, cond_true, cond_false]]
          kernel_rfl
      · refine W_seg 6 (by kernel_rfl) ?_
        refine W_end ?_
        refine W_cf (by kernel_rfl) ?_
        refine W_skip ?_
        refine W_seq ?_
        refine W_seg 5 (by kernel_rfl) ?_
        refine W_end ?_
        refine W_ret ?_
        refine leaf_r ?_
        rw [show numAdd a b = ((IntKind.i64.wrap (a + b)), true) from by simp only [numAdd, h1, h2, h3, cond_true, cond_false]]
        kernel_rfl
  · refine W_seg 9 (by kernel_rfl) ?_
    refine W_dec 17 (decide (b < 0)) (by kernel_rfl) (fun h5 => ?_) (fun h5 => ?_)
    · refine W_seg 6 (by kernel_rfl) ?_
      refine W_end ?_
      refine W_dec 23 (decide (a < (IntKind.i64.wrap ((-4611686018427387904) - b)))) (by kernel_rfl) (fun h6 => ?_) (fun h6 => ?_)
      · refine W_ct (by kernel_rfl) ?_
        refine W_seq ?_
        refine W_seg 2 (by kernel_rfl) ?_
        refine W_end ?_
        refine W_ret ?_
        refine leaf_r ?_
        rw [show numAdd a b = (0, false) from by simp only [numAdd, h1, h5, h6, cond_true, cond_false]]
        kernel_rfl
      · refine W_cf (by kernel_rfl) ?_
        refine W_skip ?_
        refine W_seq ?_
        refine W_seg 5 (by kernel_rfl) ?_
        refine W_end ?_
        refine W_ret ?_
        refine leaf_r ?_
        rw [show numAdd a b = ((IntKind.i64.wrap (a + b)), true) from by simp only [numAdd, h1, h5, h6, cond_true, cond_false]]
        kernel_rfl
    · refine W_seg 6 (by kernel_rfl) ?_
      refine W_end ?_
      refine W_cf (by kernel_rfl) ?_
      refine W_skip ?_
      refine W_seq ?_
      refine W_seg 5 (by kernel_rfl) ?_
      refine W_end ?_
      refine W_ret ?_
      refine leaf_r ?_
      rw [show numAdd a b = ((IntKind.i64.wrap (a + b)), true) from by simp only [numAdd, h1, h5, cond_true, cond_false]]
      kernel_rfl

def numSize (n : Int) : Int := (bif (decide (n < 0)) then (IntKind.u64.wrap (IntKind.i64.wrap (0 - n))) else (IntKind.u64.wrap n))
theorem numSize_says (n : Int)  : SaysT TX 179 [eI n] ((V.int .u64) (numSize n)) := by
  refine says (F := c179) rfl fun sg => ?_
  refine W_seq ?_
  refine W_seg 1 (by kernel_rfl) ?_
  refine W_end ?_
  refine W_seq ?_
  refine W_seq ?_
  refine W_seg 2 (by kernel_rfl) ?_
  refine W_end ?_
  refine W_dec 4 (decide (n < 0)) (by kernel_rfl) (fun h1 => ?_) (fun h1 => ?_)
  · refine W_ct (by kernel_rfl) ?_
    refine W_seq ?_
    refine W_seg 4 (by kernel_rfl) ?_
    refine W_end ?_
    refine W_ret ?_
    refine leaf_r ?_
    rw [show numSize n = (IntKind.u64.wrap (IntKind.i64.wrap (0 - n))) from by simp only [numSize, h1, cond_true, cond_false]]
    kernel_rfl
  · refine W_cf (by kernel_rfl) ?_
    refine W_skip ?_
    refine W_seq ?_
    refine W_seg 3 (by kernel_rfl) ?_
    refine W_end ?_
    refine W_ret ?_
    refine leaf_r ?_
    rw [show numSize n = (IntKind.u64.wrap n) from by simp only [numSize, h1, cond_true, cond_false]]
    kernel_rfl

def guardRight (n : Int) : Bool := (bif (decide (n ≥ 1)) then (decide (n ≤ 4)) else false)
theorem guardRight_says (n : Int)  : SaysT TX 137 [eI n] (eB (guardRight n)) := by
  refine says (F := c137) rfl fun sg => ?_
  refine W_seq ?_
  refine W_seg 1 (by kernel_rfl) ?_
  refine W_end ?_
  refine W_seq ?_
  refine W_seg 3 (by kernel_rfl) ?_
  refine W_dec 5 (decide (n ≥ 1)) (by kernel_rfl) (fun h1 => ?_) (fun h1 => ?_)
  · refine W_seg 4 (by kernel_rfl) ?_
    refine W_end ?_
    refine W_ret ?_
    refine leaf_r ?_
    rw [show guardRight n = (decide (n ≤ 4)) from by simp only [guardRight, h1, cond_true, cond_false]]
    kernel_rfl
  · refine W_seg 4 (by kernel_rfl) ?_
    refine W_end ?_
    refine W_ret ?_
    refine leaf_r ?_
    rw [show guardRight n = false from by simp only [guardRight, h1, cond_true, cond_false]]
    kernel_rfl

def cmpIsNaN (n : Int) : Bool := (n != n)
theorem cmpIsNaN_says (n : Int)  : SaysT TX 109 [eI n] (eB (cmpIsNaN n)) := by
  refine says (F := c109) rfl fun sg => ?_
  refine W_seq ?_
  refine W_seg 1 (by kernel_rfl) ?_
  refine W_end ?_
  refine W_seq ?_
  refine W_seg 4 (by kernel_rfl) ?_
  refine W_end ?_
  refine W_ret ?_
  refine leaf_r ?_
  rw [show cmpIsNaN n = (n != n) from by simp only [cmpIsNaN, cond_true, cond_false]]
  kernel_rfl

def cmpCompare (a : Int) (b : Int) : Int := (bif (cmpIsNaN a) then (bif (cmpIsNaN b) then 0 else (-1)) else (bif (cmpIsNaN b) then 1 else (bif (decide (a < b)) then (-1) else (bif (decide (a > b)) then 1 else 0))))
theorem cmpCompare_says (a : Int) (b : Int)  : SaysT TX 71 [eI a, eI b] (eI (cmpCompare a b)) := by
  refine says (F := c71) rfl fun sg => ?_
  refine W_seq ?_
  refine W_seg 1 (by kernel_rfl) ?_
  refine W_end ?_
  refine W_seq ?_
  refine W_seg 1 (by kernel_rfl) ?_
  refine W_call (cmpIsNaN_says a) (by kernel_rfl) (by kernel_rfl) ?_
  refine W_seg 1 (by kernel_rfl) ?_
  refine W_end ?_
  refine W_seq ?_
  refine W_seg 1 (by kernel_rfl) ?_
  refine W_call (cmpIsNaN_says b) (by kernel_rfl) (by kernel_rfl) ?_
  refine W_seg 1 (by kernel_rfl) ?_
  refine W_end ?_
  refine W_seq ?_
  refine W_seq ?_
  refine W_seg 1 (by kernel_rfl) ?_
  refine W_end ?_
  refine W_dec 11 (cmpIsNaN a) (by kernel_rfl) (fun h1 => ?_) (fun h1 => ?_)
  · refine W_ct (by kernel_rfl) ?_
    refine W_seq ?_
    refine W_seq ?_
    refine W_seg 1 (by kernel_rfl) ?_
    refine W_end ?_
    refine W_dec 12 (cmpIsNaN b) (by kernel_rfl) (fun h2 => ?_) (fun h2 => ?_)
    · refine W_ct (by kernel_rfl) ?_
      refine W_seq ?_
      refine W_seg 1 (by kernel_rfl) ?_
      refine W_end ?_
      refine W_ret ?_
      refine leaf_r ?_
      rw [show cmpCompare a b = 0 from by simp only [cmpCompare, h1, h2, cond_true, cond_false]]
      kernel_rfl
    · refine W_cf (by kernel_rfl) ?_
      refine W_skip ?_
      refine W_seq ?_
      refine W_seg 1 (by kernel_rfl) ?_
      refine W_end ?_
      refine W_ret ?_
      refine leaf_r ?_
      rw [show cmpCompare a b = (-1) from by simp only [cmpCompare, h1, h2, cond_true, cond_false]]
      kernel_rfl
  · refine W_cf (by kernel_rfl) ?_
    refine W_skip ?_
    refine W_seq ?_
    refine W_seq ?_
    refine W_seg 1 (by kernel_rfl) ?_
    refine W_end ?_
    refine W_dec 13 (cmpIsNaN b) (by kernel_rfl) (fun h3 => ?_) (fun h3 => ?_)
    · refine W_ct (by kernel_rfl) ?_
      refine W_seq ?_
      refine W_seg 1 (by kernel_rfl) ?_
      refine W_end ?_
      refine W_ret ?_
      refine leaf_r ?_
      rw [show cmpCompare a b = 1 from by simp only [cmpCompare, h1, h3, cond_true, cond_false]]
      kernel_rfl
    · refine W_cf (by kernel_rfl) ?_
      refine W_skip ?_
      refine W_seq ?_
      refine W_seq ?_
      refine W_seg 3 (by kernel_rfl) ?_
      refine W_end ?_
      refine W_dec 16 (decide (a < b)) (by kernel_rfl) (fun h4 => ?_) (fun h4 => ?_)
      · refine W_ct (by kernel_rfl) ?_
        refine W_seq ?_
        refine W_seg 1 (by kernel_rfl) ?_
        refine W_end ?_
        refine W_ret ?_
        refine leaf_r ?_
        rw [show cmpCompare a b = (-1) from by simp only [cmpCompare, h1, h3, h4, cond_true, cond_false]]
        kernel_rfl
      · refine W_cf (by kernel_rfl) ?_
        refine W_skip ?_
        refine W_seq ?_
        refine W_seq ?_
        refine W_seg 3 (by kernel_rfl) ?_
        refine W_end ?_
        refine W_dec 19 (decide (a > b)) (by kernel_rfl) (fun h5 => ?_) (fun h5 => ?_)
        · refine W_ct (by kernel_rfl) ?_
          refine W_seq ?_
          refine W_seg 1 (by kernel_rfl) ?_
          refine W_end ?_
          refine W_ret ?_
          refine leaf_r ?_
          rw [show cmpCompare a b = 1 from by simp only [cmpCompare, h1, h3, h4, h5, cond_true, cond_false]]
          kernel_rfl
        · refine W_cf (by kernel_rfl) ?_
          refine W_skip ?_
          refine W_seq ?_
          refine W_seg 1 (by kernel_rfl) ?_
          refine W_end ?_
          refine W_ret ?_
          refine leaf_r ?_
          rw [show cmpCompare a b = 0 from by simp only [cmpCompare, h1, h3, h4, h5, cond_true, cond_false]]
          kernel_rfl

def cmpOr_l1 (l : (List Int)) : Nat → List Int → Unit → Int
  | i1, [], _ => 0
  | i1, x2 :: xs3, _ => (bif (x2 != 0) then x2 else cmpOr_l1 l (i1 + 1) xs3 ())
def cmpOr (l : (List Int)) : Int := cmpOr_l1 l 0 l ()
theorem cmpOr_says (l : (List Int)) (hb : l.length ≤ big) : SaysT TX 69 [(eL 1 eI) l] (eI (cmpOr l)) := by
  refine says (F := c69) rfl fun sg => ?_
  refine W_seq ?_
  refine W_seg 1 (by kernel_rfl) ?_
  refine W_end ?_
  refine W_seq ?_
  refine W_seg 1 (by kernel_rfl) ?_
  refine W_end ?_
  refine W_seq ?_
  refine W_seq ?_
  refine W_seg 2 (by kernel_rfl) ?_
  refine W_know 7 (.int .i64 (l.length : Int)) (Eq.trans (show _ = V.int .i64 (((l.map eI).length : Nat) : Int) from by kernel_rfl) (len_map _ _)) ?_
  refine W_seg 1 (by kernel_rfl) ?_
  refine W_end ?_
  refine W_blk ?_
  refine W_range (α := Int) (A := Unit) (fun i1 _ => { vals := [(.int .i64 0), (.sl .no 1 (l.map eI)), (.int .i64 (l.length : Int)), (.int .i64 (i1 : Int))], fr := [], sg := sg, wd := 0 }) l (fun ii ll aa => cmpOr_l1 l ii ll aa = cmpOr l) () (by kernel_rfl) (by simp only [cmpOr, cond_true, cond_false]) (fun i1 x2 xs3 _ hd hp1 ih => ?_) (fun i1 _ hd hp1 => ?_)
  · have hlt1 := drop_lt hd
    have hx1 := drop_get hd
    refine W_seq ?_
    refine W_seg 1 (by kernel_rfl) ?_
    refine W_end ?_
    refine W_seq ?_
    refine W_know 9 (.bool true) (Eq.trans (show _ = V.bool (decide ((i1 : Int) < (l.length : Int))) from by kernel_rfl) (congrArg V.bool (lt_true hlt1))) ?_
    refine W_ct (by kernel_rfl) ?_
    refine W_skip ?_
    refine W_seq ?_
    refine W_blk ?_
    refine W_seq ?_
    refine W_ia (t := .no) (get_map eI hx1) (by kernel_rfl) (by kernel_rfl) (by kernel_rfl) ?_
    refine W_seg 2 (by kernel_rfl) ?_
    refine W_end ?_
    refine W_seq ?_
    refine W_seg 3 (by kernel_rfl) ?_
    refine W_end ?_
    refine W_dec 14 (x2 != 0) (by kernel_rfl) (fun h1 => ?_) (fun h1 => ?_)
    · refine W_ct (by kernel_rfl) ?_
      refine W_seq ?_
      refine W_seg 2 (by kernel_rfl) ?_
      refine W_end ?_
      refine W_ret ?_
      refine leaf_r ?_
      rw [show cmpOr l = x2 from by rw [← hp1]; simp only [cmpOr_l1, h1, cond_true, cond_false]]
      kernel_rfl
    · refine W_cf (by kernel_rfl) ?_
      refine W_skip ?_
      refine W_seg 1 (by kernel_rfl) ?_
      refine W_know 16 (.int .i64 ((i1 + 1 : Nat) : Int)) (Eq.trans (show _ = V.int .i64 (IntKind.i64.wrap ((i1 : Int) + 1)) from by kernel_rfl) (congrArg (V.int .i64) (wrap_succ hlt1 (by first | assumption | (unfold big; omega) | (simp only [List.length_cons, List.length_nil]; unfold big; omega) | exact hb _ (List.mem_of_getElem? hx1))))) ?_
      refine W_seg 1 (by kernel_rfl) ?_
      refine W_end ?_
      refine W_next (l := { vals := [(.int .i64 0), (.sl .no 1 (l.map eI)), (.int .i64 (l.length : Int)), (.int .i64 ((i1 + 1 : Nat) : Int))], fr := [], sg := sg, wd := 0 }) (by kernel_rfl) ?_
      exact ih () (by rw [← hp1]; simp only [cmpOr_l1, h1, cond_true, cond_false])
  · have hge1 := drop_ge hd
    refine W_seq ?_
    refine W_seg 1 (by kernel_rfl) ?_
    refine W_end ?_
    refine W_seq ?_
    refine W_know 9 (.bool false) (Eq.trans (show _ = V.bool (decide ((i1 : Int) < (l.length : Int))) from by kernel_rfl) (congrArg V.bool (lt_false hge1))) ?_
    refine W_cf (by kernel_rfl) ?_
    refine W_exit ?_
    refine W_seq ?_
    refine W_seg 2 (by kernel_rfl) ?_
    refine W_end ?_
    refine W_ret ?_
    refine leaf_r ?_
    rw [show cmpOr l = 0 from by rw [← hp1]; simp only [cmpOr_l1, cond_true, cond_false]]
    kernel_rfl

def compareString (a : Txt) (b : Txt) : Int := (cmpBytes a b)
theorem compareString_says (a : Txt) (b : Txt)  : SaysT TX 108 [eS a, eS b] (eI (compareString a b)) := by
  refine says (F := c108) rfl fun sg => ?_
  refine W_seq ?_
  refine W_seg 1 (by kernel_rfl) ?_
  refine W_end ?_
  refine W_seq ?_
  refine W_seg 2 (by kernel_rfl) ?_
  refine W_call (cmpBytes_says a b) (by kernel_rfl) (by kernel_rfl) ?_
  refine W_seg 1 (by kernel_rfl) ?_
  refine W_end ?_
  refine W_ret ?_
  refine leaf_r ?_
  rw [show compareString a b = (cmpBytes a b) from by simp only [compareString, cond_true, cond_false]]
  kernel_rfl

def stringsCompare (a : Txt) (b : Txt) : Int := (compareString a b)
theorem stringsCompare_says (a : Txt) (b : Txt)  : SaysT TX 70 [eS a, eS b] (eI (stringsCompare a b)) := by
  refine says (F := c70) rfl fun sg => ?_
  refine W_seq ?_
  refine W_seg 1 (by kernel_rfl) ?_
  refine W_end ?_
  refine W_seq ?_
  refine W_seg 2 (by kernel_rfl) ?_
  refine W_call (compareString_says a b) (by kernel_rfl) (by kernel_rfl) ?_
  refine W_seg 1 (by kernel_rfl) ?_
  refine W_end ?_
  refine W_ret ?_
  refine leaf_r ?_
  rw [show stringsCompare a b = (compareString a b) from by simp only [stringsCompare, cond_true, cond_false]]
  kernel_rfl

def valCompare (a : Sp.Val) (b : Sp.Val) : Int := (cmpOr ([(cmpCompare a.kind b.kind), (cmpCompare a.n b.n), (stringsCompare a.s b.s)] : (List Int)))
theorem valCompare_says (a : Sp.Val) (b : Sp.Val)  : SaysT TX 73 [eVal a, eVal b] (eI (valCompare a b)) := by
  refine says (F := c73) rfl fun sg => ?_
  refine W_seq ?_
  refine W_seg 3 (by kernel_rfl) ?_
  refine W_end ?_
  refine W_seq ?_
  refine W_d ?_
  refine W_dseg 4 (by kernel_rfl) ?_
  refine W_dcall (cmpCompare_says a.kind b.kind) (by kernel_rfl) (by kernel_rfl) ?_
  refine W_dseg 4 (by kernel_rfl) ?_
  refine W_dcall (cmpCompare_says a.n b.n) (by kernel_rfl) (by kernel_rfl) ?_
  refine W_dseg 4 (by kernel_rfl) ?_
  refine W_dcall (stringsCompare_says a.s b.s) (by kernel_rfl) (by kernel_rfl) ?_
  refine W_dseg 1 (by kernel_rfl) ?_
  refine W_dcall (cmpOr_says ([(cmpCompare a.kind b.kind), (cmpCompare a.n b.n), (stringsCompare a.s b.s)] : (List Int)) (by first | assumption | (unfold big; omega) | (simp only [List.length_cons, List.length_nil]; unfold big; omega))) (by kernel_rfl) (by kernel_rfl) ?_
  refine W_dseg 1 (by kernel_rfl) ?_
  refine W_dend ?_
  refine W_ret ?_
  refine leaf_r ?_
  rw [show valCompare a b = (cmpOr ([(cmpCompare a.kind b.kind), (cmpCompare a.n b.n), (stringsCompare a.s b.s)] : (List Int))) from by simp only [valCompare, cond_true, cond_false]]
  kernel_rfl

def indexTxt_l1 (l : (List Txt)) (v : Txt) : Nat → List Txt → Unit → Int
  | i1, [], _ => (-1)
  | i1, x2 :: xs3, _ => (bif (v == x2) then (i1 : Int) else indexTxt_l1 l v (i1 + 1) xs3 ())
def indexTxt (l : (List Txt)) (v : Txt) : Int := indexTxt_l1 l v 0 l ()
theorem indexTxt_says (l : (List Txt)) (v : Txt) (hb : l.length ≤ big) : SaysT TX 104 [(eL 1 eS) l, eS v] (eI (indexTxt l v)) := by
  refine says (F := c104) rfl fun sg => ?_
  refine W_seq ?_
  refine W_seg 1 (by kernel_rfl) ?_
  refine W_end ?_
  refine W_seq ?_
  refine W_seq ?_
  refine W_seg 2 (by kernel_rfl) ?_
  refine W_know 7 (.int .i64 (l.length : Int)) (Eq.trans (show _ = V.int .i64 (((l.map eS).length : Nat) : Int) from by kernel_rfl) (len_map _ _)) ?_
  refine W_seg 1 (by kernel_rfl) ?_
  refine W_end ?_
  refine W_blk ?_
  refine W_range (α := Txt) (A := Unit) (fun i1 _ => { vals := [(.sl .no 1 (l.map eS)), (.str v), (.int .i64 (l.length : Int)), (.int .i64 (i1 : Int))], fr := [], sg := sg, wd := 0 }) l (fun ii ll aa => indexTxt_l1 l v ii ll aa = indexTxt l v) () (by kernel_rfl) (by simp only [indexTxt, cond_true, cond_false]) (fun i1 x2 xs3 _ hd hp1 ih => ?_) (fun i1 _ hd hp1 => ?_)
  · have hlt1 := drop_lt hd
    have hx1 := drop_get hd
    refine W_seq ?_
    refine W_seg 1 (by kernel_rfl) ?_
    refine W_end ?_
    refine W_seq ?_
    refine W_know 9 (.bool true) (Eq.trans (show _ = V.bool (decide ((i1 : Int) < (l.length : Int))) from by kernel_rfl) (congrArg V.bool (lt_true hlt1))) ?_
    refine W_ct (by kernel_rfl) ?_
    refine W_skip ?_
    refine W_seq ?_
    refine W_blk ?_
    refine W_seq ?_
    refine W_seg 2 (by kernel_rfl) ?_
    refine W_end ?_
    refine W_seq ?_
    refine W_seg 3 (by kernel_rfl) ?_
    refine W_ia (t := .no) (get_map eS hx1) (by kernel_rfl) (by kernel_rfl) (by kernel_rfl) ?_
    refine W_seg 2 (by kernel_rfl) ?_
    refine W_end ?_
    refine W_dec 16 (v == x2) (by kernel_rfl) (fun h1 => ?_) (fun h1 => ?_)
    · refine W_ct (by kernel_rfl) ?_
      refine W_seq ?_
      refine W_seg 2 (by kernel_rfl) ?_
      refine W_end ?_
      refine W_ret ?_
      refine leaf_r ?_
      rw [show indexTxt l v = (i1 : Int) from by rw [← hp1]; simp only [indexTxt_l1, h1, cond_true, cond_false]]
      kernel_rfl
    · refine W_cf (by kernel_rfl) ?_
      refine W_skip ?_
      refine W_seg 1 (by kernel_rfl) ?_
      refine W_know 18 (.int .i64 ((i1 + 1 : Nat) : Int)) (Eq.trans (show _ = V.int .i64 (IntKind.i64.wrap ((i1 : Int) + 1)) from by kernel_rfl) (congrArg (V.int .i64) (wrap_succ hlt1 (by first | assumption | (unfold big; omega) | (simp only [List.length_cons, List.length_nil]; unfold big; omega) | exact hb _ (List.mem_of_getElem? hx1))))) ?_
      refine W_seg 1 (by kernel_rfl) ?_
      refine W_end ?_
      refine W_next (l := { vals := [(.sl .no 1 (l.map eS)), (.str v), (.int .i64 (l.length : Int)), (.int .i64 ((i1 + 1 : Nat) : Int))], fr := [], sg := sg, wd := 0 }) (by kernel_rfl) ?_
      exact ih () (by rw [← hp1]; simp only [indexTxt_l1, h1, cond_true, cond_false])
  · have hge1 := drop_ge hd
    refine W_seq ?_
    refine W_seg 1 (by kernel_rfl) ?_
    refine W_end ?_
    refine W_seq ?_
    refine W_know 9 (.bool false) (Eq.trans (show _ = V.bool (decide ((i1 : Int) < (l.length : Int))) from by kernel_rfl) (congrArg V.bool (lt_false hge1))) ?_
    refine W_cf (by kernel_rfl) ?_
    refine W_exit ?_
    refine W_seq ?_
    refine W_seg 1 (by kernel_rfl) ?_
    refine W_end ?_
    refine W_ret ?_
    refine leaf_r ?_
    rw [show indexTxt l v = (-1) from by rw [← hp1]; simp only [indexTxt_l1, cond_true, cond_false]]
    kernel_rfl

def containsTxt (l : (List Txt)) (v : Txt) : Bool := (decide ((indexTxt l v) ≥ 0))
theorem containsTxt_says (l : (List Txt)) (v : Txt) (hb : l.length ≤ big) : SaysT TX 63 [(eL 1 eS) l, eS v] (eB (containsTxt l v)) := by
  refine says (F := c63) rfl fun sg => ?_
  refine W_seq ?_
  refine W_seg 1 (by kernel_rfl) ?_
  refine W_end ?_
  refine W_seq ?_
  refine W_seg 2 (by kernel_rfl) ?_
  refine W_call (indexTxt_says l v (by first | assumption | (unfold big; omega) | (simp only [List.length_cons, List.length_nil]; unfold big; omega))) (by kernel_rfl) (by kernel_rfl) ?_
  refine W_seg 2 (by kernel_rfl) ?_
  refine W_end ?_
  refine W_ret ?_
  refine leaf_r ?_
  rw [show containsTxt l v = (decide ((indexTxt l v) ≥ 0)) from by simp only [containsTxt, cond_true, cond_false]]
  kernel_rfl

def factWord (b : Txt) : Bool := (containsTxt ([([102, 97, 99, 116] : Txt), ([114, 117, 108, 101] : Txt), ([112, 97, 116, 116, 101, 114, 110] : Txt), ([110, 111, 116] : Txt), ([97, 110, 100] : Txt), ([111, 114] : Txt), ([98, 101, 102, 111, 114, 101] : Txt), ([111, 110, 99, 101] : Txt), ([97, 108, 119, 97, 121, 115] : Txt), ([115, 105, 110, 99, 101] : Txt), ([100, 114, 111, 112] : Txt)] : (List Txt)) b)
theorem factWord_says (b : Txt)  : SaysT TX 98 [eS b] (eB (factWord b)) := by
  refine says (F := c98) rfl fun sg => ?_
  refine W_seq ?_
  refine W_seg 1 (by kernel_rfl) ?_
  refine W_end ?_
  refine W_seq ?_
  refine W_seg 2 (by kernel_rfl) ?_
  refine W_call (containsTxt_says ([([102, 97, 99, 116] : Txt), ([114, 117, 108, 101] : Txt), ([112, 97, 116, 116, 101, 114, 110] : Txt), ([110, 111, 116] : Txt), ([97, 110, 100] : Txt), ([111, 114] : Txt), ([98, 101, 102, 111, 114, 101] : Txt), ([111, 110, 99, 101] : Txt), ([97, 108, 119, 97, 121, 115] : Txt), ([115, 105, 110, 99, 101] : Txt), ([100, 114, 111, 112] : Txt)] : (List Txt)) b (by first | assumption | (unfold big; omega) | (simp only [List.length_cons, List.length_nil]; unfold big; omega))) (by kernel_rfl) (by kernel_rfl) ?_
  refine W_seg 1 (by kernel_rfl) ?_
  refine W_end ?_
  refine W_ret ?_
  refine leaf_r ?_
  rw [show factWord b = (containsTxt ([([102, 97, 99, 116] : Txt), ([114, 117, 108, 101] : Txt), ([112, 97, 116, 116, 101, 114, 110] : Txt), ([110, 111, 116] : Txt), ([97, 110, 100] : Txt), ([111, 114] : Txt), ([98, 101, 102, 111, 114, 101] : Txt), ([111, 110, 99, 101] : Txt), ([97, 108, 119, 97, 121, 115] : Txt), ([115, 105, 110, 99, 101] : Txt), ([100, 114, 111, 112] : Txt)] : (List Txt)) b) from by simp only [factWord, cond_true, cond_false]]
  kernel_rfl

def factName (b : Txt) : Bool := (bif ((valCheck (⟨2, 0, b⟩ : Sp.Val)) == 0) then (!(factWord b)) else false)
theorem factName_says (b : Txt) (hb : b.length ≤ big) : SaysT TX 58 [eS b] (eB (factName b)) := by
  refine says (F := c58) rfl fun sg => ?_
  refine W_seq ?_
  refine W_seg 1 (by kernel_rfl) ?_
  refine W_end ?_
  refine W_seq ?_
  refine W_seg 2 (by kernel_rfl) ?_
  refine W_call (valCheck_says (⟨2, 0, b⟩ : Sp.Val) (by first | assumption | (unfold big; omega) | (simp only [List.length_cons, List.length_nil]; unfold big; omega))) (by kernel_rfl) (by kernel_rfl) ?_
  refine W_seg 2 (by kernel_rfl) ?_
  refine W_dec 7 ((valCheck (⟨2, 0, b⟩ : Sp.Val)) == 0) (by kernel_rfl) (fun h1 => ?_) (fun h1 => ?_)
  · refine W_seg 1 (by kernel_rfl) ?_
    refine W_call (factWord_says b) (by kernel_rfl) (by kernel_rfl) ?_
    refine W_seg 3 (by kernel_rfl) ?_
    refine W_end ?_
    refine W_ret ?_
    refine leaf_r ?_
    rw [show factName b = (!(factWord b)) from by simp only [factName, h1, cond_true, cond_false]]
    kernel_rfl
  · refine W_seg 5 (by kernel_rfl) ?_
    refine W_end ?_
    refine W_ret ?_
    refine leaf_r ?_
    rw [show factName b = false from by simp only [factName, h1, cond_true, cond_false]]
    kernel_rfl

def exprPush (o : Sp.Op) (b : (List Sp.Bind)) : Sp.Val × Int := (bif (o.kind == 2) then (o.val, 0) else (bif (!(substGet b o.var).2) then ((⟨0, 0, ([] : Txt)⟩ : Sp.Val), 5) else (((substGet b o.var).1), 0)))
theorem exprPush_says (o : Sp.Op) (b : (List Sp.Bind)) (hb : b.length ≤ big) : SaysT TX 116 [eOp o, (eL 4 eBind) b] (.tup [eVal (exprPush o b).1, eI (exprPush o b).2]) := by
  refine says (F := c116) rfl fun sg => ?_
  refine W_seq ?_
  refine W_seg 3 (by kernel_rfl) ?_
  refine W_end ?_
  refine W_seq ?_
  refine W_seq ?_
  refine W_seg 3 (by kernel_rfl) ?_
  refine W_end ?_
  refine W_dec 10 (o.kind == 2) (by kernel_rfl) (fun h1 => ?_) (fun h1 => ?_)
  · refine W_ct (by kernel_rfl) ?_
    refine W_seq ?_
    refine W_seg 4 (by kernel_rfl) ?_
    refine W_end ?_
    refine W_ret ?_
    refine leaf_r ?_
    rw [show exprPush o b = (o.val, 0) from by simp only [exprPush, h1, cond_true, cond_false]]
    kernel_rfl
  · refine W_cf (by kernel_rfl) ?_
    refine W_skip ?_
    refine W_seq ?_
    refine W_seg 3 (by kernel_rfl) ?_
    refine W_call (substGet_says b o.var (by first | assumption | (unfold big; omega) | (simp only [List.length_cons, List.length_nil]; unfold big; omega))) (by kernel_rfl) (by kernel_rfl) ?_
    refine W_seg 6 (by kernel_rfl) ?_
    refine W_end ?_
    refine W_seq ?_
    refine W_seq ?_
    refine W_seg 2 (by kernel_rfl) ?_
    refine W_end ?_
    refine W_dec 21 (!(substGet b o.var).2) (by kernel_rfl) (fun h2 => ?_) (fun h2 => ?_)
    · refine W_ct (by kernel_rfl) ?_
      refine W_seq ?_
      refine W_seg 3 (by kernel_rfl) ?_
      refine W_end ?_
      refine W_ret ?_
      refine leaf_r ?_
      rw [show exprPush o b = ((⟨0, 0, ([] : Txt)⟩ : Sp.Val), 5) from by simp only [exprPush, h1, h2, cond_true, cond_false]]
      kernel_rfl
    · refine W_cf (by kernel_rfl) ?_
      refine W_skip ?_
      refine W_seq ?_
      refine W_seg 3 (by kernel_rfl) ?_
      refine W_end ?_
      refine W_ret ?_
      refine leaf_r ?_
      rw [show exprPush o b = (((substGet b o.var).1), 0) from by simp only [exprPush, h1, h2, cond_true, cond_false]]
      kernel_rfl

def keepFact_l1 (a : Sp.Fact) (b : Sp.Fact) : Nat → List Sp.Val → Unit → Bool
  | i1, [], _ => true
  | i1, x2 :: xs3, _ => (match b.args[i1]? with | some y4 => (bif (!((x2.kind == y4.kind) && ((x2.n == y4.n) && ((x2.s == y4.s) && true)))) then false else keepFact_l1 a b (i1 + 1) xs3 ()) | none => default)
def keepFact (a : Sp.Fact) (b : Sp.Fact) : Bool := (bif (!(a.name == b.name)) then false else (bif ((a.args.length : Int) != (b.args.length : Int)) then false else keepFact_l1 a b 0 a.args ()))
theorem keepFact_says (a : Sp.Fact) (b : Sp.Fact) (hb : a.args.length ≤ big) : SaysT TX 39 [eFact a, eFact b] (eB (keepFact a b)) := by
  refine says (F := c39) rfl fun sg => ?_
  refine W_seq ?_
  refine W_seg 3 (by kernel_rfl) ?_
  refine W_end ?_
  refine W_seq ?_
  refine W_seq ?_
  refine W_seg 6 (by kernel_rfl) ?_
  refine W_dec 11 (!(a.name == b.name)) (by kernel_rfl) (fun h1 => ?_) (fun h1 => ?_)
  · refine W_seg 8 (by kernel_rfl) ?_
    refine W_end ?_
    refine W_ct (by kernel_rfl) ?_
    refine W_seq ?_
    refine W_seg 1 (by kernel_rfl) ?_
    refine W_end ?_
    refine W_ret ?_
    refine leaf_r ?_
    rw [show keepFact a b = false from by simp only [keepFact, h1, cond_true, cond_false]]
    kernel_rfl
  · refine W_seg 3 (by kernel_rfl) ?_
    refine W_know 14 (.int .i64 (a.args.length : Int)) (Eq.trans (show _ = V.int .i64 (((a.args.map eVal).length : Nat) : Int) from by kernel_rfl) (len_map _ _)) ?_
    refine W_seg 3 (by kernel_rfl) ?_
    refine W_know 17 (.int .i64 (b.args.length : Int)) (Eq.trans (show _ = V.int .i64 (((b.args.map eVal).length : Nat) : Int) from by kernel_rfl) (len_map _ _)) ?_
    refine W_seg 2 (by kernel_rfl) ?_
    refine W_end ?_
    refine W_dec 19 ((a.args.length : Int) != (b.args.length : Int)) (by kernel_rfl) (fun h2 => ?_) (fun h2 => ?_)
    · refine W_ct (by kernel_rfl) ?_
      refine W_seq ?_
      refine W_seg 1 (by kernel_rfl) ?_
      refine W_end ?_
      refine W_ret ?_
      refine leaf_r ?_
      rw [show keepFact a b = false from by simp only [keepFact, h1, h2, cond_true, cond_false]]
      kernel_rfl
    · refine W_cf (by kernel_rfl) ?_
      refine W_skip ?_
      refine W_seq ?_
      refine W_seq ?_
      refine W_seg 1 (by kernel_rfl) ?_
      refine W_end ?_
      refine W_blk ?_
      refine W_range (α := Sp.Val) (A := Unit) (fun i1 _ => { vals := [(.bp 0 0 0), (.bp 0 1 0), (.int .i64 (i1 : Int))], fr := [.box [(.str a.name), (.sl .no 3 (a.args.map eVal))], .box [(.str b.name), (.sl .no 3 (b.args.map eVal))]], sg := sg, wd := 0 }) a.args (fun ii ll aa => keepFact_l1 a b ii ll aa = keepFact a b) () (by kernel_rfl) (by simp only [keepFact, h1, h2, cond_true, cond_false]) (fun i1 x2 xs3 _ hd hp1 ih => ?_) (fun i1 _ hd hp1 => ?_)
      · have hlt1 := drop_lt hd
        have hx1 := drop_get hd
        refine W_seq ?_
        refine W_seq ?_
        refine W_seg 4 (by kernel_rfl) ?_
        refine W_know 23 (.int .i64 (a.args.length : Int)) (Eq.trans (show _ = V.int .i64 (((a.args.map eVal).length : Nat) : Int) from by kernel_rfl) (len_map _ _)) ?_
        refine W_seg 1 (by kernel_rfl) ?_
        refine W_end ?_
        refine W_know 24 (.bool true) (Eq.trans (show _ = V.bool (decide ((i1 : Int) < (a.args.length : Int))) from by kernel_rfl) (congrArg V.bool (lt_true hlt1))) ?_
        refine W_ct (by kernel_rfl) ?_
        refine W_skip ?_
        refine W_seq ?_
        refine W_blk ?_
        refine W_seq ?_
        refine W_d ?_
        refine W_dseg 3 (by kernel_rfl) ?_
        refine W_dia (t := .no) (get_map eVal hx1) (by kernel_rfl) (by kernel_rfl) (by kernel_rfl) ?_
        refine W_dseg 4 (by kernel_rfl) ?_
        rcases h3 : b.args[i1]? with _ | y4
        · exfalso; have hq := List.getElem?_eq_none_iff.1 h3; have k0 := h2; simp only [decide_eq_true_eq, decide_eq_false_iff_not, bne_eq_false_iff_eq, beq_iff_eq, bne_iff_ne, beq_eq_false_iff_ne, ne_eq] at k0; have hz := drop_lt hd; omega
        refine W_dia (t := .no) (get_map eVal h3) (by kernel_rfl) (by kernel_rfl) (by kernel_rfl) ?_
        refine W_dseg 2 (by kernel_rfl) ?_
        refine W_dend ?_
        refine W_dec 37 (!((x2.kind == y4.kind) && ((x2.n == y4.n) && ((x2.s == y4.s) && true)))) (by kernel_rfl) (fun h4 => ?_) (fun h4 => ?_)
        · refine W_ct (by kernel_rfl) ?_
          refine W_seq ?_
          refine W_seg 1 (by kernel_rfl) ?_
          refine W_end ?_
          refine W_ret ?_
          refine leaf_r ?_
          rw [show keepFact a b = false from by rw [← hp1]; simp only [keepFact_l1, h4, h3, cond_true, cond_false]]
          kernel_rfl
        · refine W_cf (by kernel_rfl) ?_
          refine W_skip ?_
          refine W_seg 2 (by kernel_rfl) ?_
          refine W_know 26 (.int .i64 ((i1 + 1 : Nat) : Int)) (Eq.trans (show _ = V.int .i64 (IntKind.i64.wrap ((i1 : Int) + 1)) from by kernel_rfl) (congrArg (V.int .i64) (wrap_succ hlt1 (by first | assumption | (unfold big; omega) | (simp only [List.length_cons, List.length_nil]; unfold big; omega) | exact hb _ (List.mem_of_getElem? hx1) | exact hb _ (List.mem_of_getElem? h3))))) ?_
          refine W_seg 1 (by kernel_rfl) ?_
          refine W_end ?_
          refine W_next (l := { vals := [(.bp 0 0 0), (.bp 0 1 0), (.int .i64 ((i1 + 1 : Nat) : Int))], fr := [.box [(.str a.name), (.sl .no 3 (a.args.map eVal))], .box [(.str b.name), (.sl .no 3 (b.args.map eVal))]], sg := sg, wd := 0 }) (by kernel_rfl) ?_
          exact ih () (by rw [← hp1]; simp only [keepFact_l1, h4, h3, cond_true, cond_false])
      · have hge1 := drop_ge hd
        refine W_seq ?_
        refine W_seq ?_
        refine W_seg 4 (by kernel_rfl) ?_
        refine W_know 23 (.int .i64 (a.args.length : Int)) (Eq.trans (show _ = V.int .i64 (((a.args.map eVal).length : Nat) : Int) from by kernel_rfl) (len_map _ _)) ?_
        refine W_seg 1 (by kernel_rfl) ?_
        refine W_end ?_
        refine W_know 24 (.bool false) (Eq.trans (show _ = V.bool (decide ((i1 : Int) < (a.args.length : Int))) from by kernel_rfl) (congrArg V.bool (lt_false hge1))) ?_
        refine W_cf (by kernel_rfl) ?_
        refine W_exit ?_
        refine W_seq ?_
        refine W_seg 1 (by kernel_rfl) ?_
        refine W_end ?_
        refine W_ret ?_
        refine leaf_r ?_
        rw [show keepFact a b = true from by rw [← hp1]; simp only [keepFact_l1, cond_true, cond_false]]
        kernel_rfl

def lexBlank (c : UInt8) : Bool := (bif ((c.toNat : Int) == 32) then true else (bif ((c.toNat : Int) == 9) then true else (bif ((c.toNat : Int) == 13) then true else ((c.toNat : Int) == 10))))
theorem lexBlank_says (c : UInt8)  : SaysT TX 41 [b8 c] (eB (lexBlank c)) := by
  refine says (F := c41) rfl fun sg => ?_
  refine W_seq ?_
  refine W_seg 1 (by kernel_rfl) ?_
  refine W_end ?_
  refine W_seq ?_
  refine W_seg 3 (by kernel_rfl) ?_
  refine W_dec 5 ((c.toNat : Int) == 32) (by kernel_rfl) (fun h1 => ?_) (fun h1 => ?_)
  · refine W_seg 12 (by kernel_rfl) ?_
    refine W_end ?_
    refine W_ret ?_
    refine leaf_r ?_
    rw [show lexBlank c = true from by simp only [lexBlank, h1, cond_true, cond_false]]
    kernel_rfl
  · refine W_seg 4 (by kernel_rfl) ?_
    refine W_dec 9 ((c.toNat : Int) == 9) (by kernel_rfl) (fun h2 => ?_) (fun h2 => ?_)
    · refine W_seg 8 (by kernel_rfl) ?_
      refine W_end ?_
      refine W_ret ?_
      refine leaf_r ?_
      rw [show lexBlank c = true from by simp only [lexBlank, h1, h2, cond_true, cond_false]]
      kernel_rfl
    · refine W_seg 4 (by kernel_rfl) ?_
      refine W_dec 13 ((c.toNat : Int) == 13) (by kernel_rfl) (fun h3 => ?_) (fun h3 => ?_)
      · refine W_seg 4 (by kernel_rfl) ?_
        refine W_end ?_
        refine W_ret ?_
        refine leaf_r ?_
        rw [show lexBlank c = true from by simp only [lexBlank, h1, h2, h3, cond_true, cond_false]]
        kernel_rfl
      · refine W_seg 4 (by kernel_rfl) ?_
        refine W_end ?_
        refine W_ret ?_
        refine leaf_r ?_
        rw [show lexBlank c = ((c.toNat : Int) == 10) from by simp only [lexBlank, h1, h2, h3, cond_true, cond_false]]
        kernel_rfl

end Go.Vm

/- Known calls. Printed by known.py. -/
namespace Go.Vm
open Go Go.Sp

theorem known160 : KOk TX 160 (k1 (b8) (eB) (fun (c : UInt8) => true) valSmall) := k1_ok fun c hh => valSmall_says c
theorem known161 : KOk TX 161 (k1 (b8) (eB) (fun (c : UInt8) => true) valLarge) := k1_ok fun c hh => valLarge_says c
theorem known87 : KOk TX 87 (k1 (b8) (eB) (fun (c : UInt8) => true) valDigit) := k1_ok fun c hh => valDigit_says c
theorem known177 : KOk TX 177 (k1 (b8) (eB) (fun (c : UInt8) => true) substLetter) := k1_ok fun c hh => substLetter_says c
theorem known135 : KOk TX 135 (k1 (eS) (eB) (fun (b : Txt) => true) valSymbol) := k1_ok fun b hh => valSymbol_says b
theorem known136 : KOk TX 136 (k1 (eS) (eB) (fun (b : Txt) => Nat.ble b.length big) valPlain) := k1_ok fun b hh => have hb := hh; valPlain_says b (Nat.le_of_ble_eq_true hb)
theorem known97 : KOk TX 97 (k1 (eVal) (eI) (fun (v : Sp.Val) => Nat.ble v.s.length big) valCheck) := k1_ok fun v hh => have hb := hh; valCheck_says v (Nat.le_of_ble_eq_true hb)
theorem known163 : KOk TX 163 (k1 (eS) (eB) (fun (b : Txt) => true) substVar) := k1_ok fun b hh => substVar_says b
theorem known145 : KOk TX 145 (k1 (eBind) (eB) (fun (x : Sp.Bind) => Nat.ble x.val.s.length big) substRight) := k1_ok fun x hh => have hb := hh; substRight_says x (Nat.le_of_ble_eq_true hb)
theorem known114 : KOk TX 114 (k1 ((eL 4 eBind)) (eI) (fun (l : (List Sp.Bind)) => allB (fun x => Nat.ble x.val.s.length big) l) substCheck) := k1_ok fun l hh => have hb := hh; substCheck_says l (fun x hx => Nat.le_of_ble_eq_true (allB_mem hb x hx))
theorem known146 : KOk TX 146 (k2 ((eL 4 eBind)) (eS) (eP eVal eB) (fun (l : (List Sp.Bind)) (name : Txt) => Nat.ble l.length big) substGet) := k2_ok fun l name hh => have hb := hh; substGet_says l name (Nat.le_of_ble_eq_true hb)
theorem known140 : KOk TX 140 (k1 (eTerm) (eB) (fun (t : Sp.Term) => Nat.ble t.val.s.length big) matchTerm) := k1_ok fun t hh => have hb := hh; matchTerm_says t (Nat.le_of_ble_eq_true hb)
theorem known115 : KOk TX 115 (k1 (eI) (eB) (fun (k : Int) => true) exprPushes) := k1_ok fun k hh => exprPushes_says k
theorem known141 : KOk TX 141 (k1 (eOp) (eB) (fun (o : Sp.Op) => Nat.ble o.val.s.length big) exprRight) := k1_ok fun o hh => have hb := hh; exprRight_says o (Nat.le_of_ble_eq_true hb)
theorem known103 : KOk TX 103 (k1 ((eL 5 eOp)) (eI) (fun (l : (List Sp.Op)) => allB (fun x => Nat.ble x.val.s.length big) l) exprCheck) := k1_ok fun l hh => have hb := hh; exprCheck_says l (fun x hx => Nat.le_of_ble_eq_true (allB_mem hb x hx))
theorem known164 : KOk TX 164 (k1 (eI) (eB) (fun (n : Int) => true) numIn) := k1_ok fun n hh => numIn_says n
theorem known165 : KOk TX 165 (k2 (eI) (eI) (eP eI eB) (fun (a : Int) (b : Int) => true) numAdd) := k2_ok fun a b hh => numAdd_says a b
theorem known179 : KOk TX 179 (k1 (eI) ((V.int .u64)) (fun (n : Int) => true) numSize) := k1_ok fun n hh => numSize_says n
theorem known137 : KOk TX 137 (k1 (eI) (eB) (fun (n : Int) => true) guardRight) := k1_ok fun n hh => guardRight_says n
theorem known109 : KOk TX 109 (k1 (eI) (eB) (fun (n : Int) => true) cmpIsNaN) := k1_ok fun n hh => cmpIsNaN_says n
theorem known71 : KOk TX 71 (k2 (eI) (eI) (eI) (fun (a : Int) (b : Int) => true) cmpCompare) := k2_ok fun a b hh => cmpCompare_says a b
theorem known69 : KOk TX 69 (k1 ((eL 1 eI)) (eI) (fun (l : (List Int)) => Nat.ble l.length big) cmpOr) := k1_ok fun l hh => have hb := hh; cmpOr_says l (Nat.le_of_ble_eq_true hb)
theorem known108 : KOk TX 108 (k2 (eS) (eS) (eI) (fun (a : Txt) (b : Txt) => true) compareString) := k2_ok fun a b hh => compareString_says a b
theorem known70 : KOk TX 70 (k2 (eS) (eS) (eI) (fun (a : Txt) (b : Txt) => true) stringsCompare) := k2_ok fun a b hh => stringsCompare_says a b
theorem known73 : KOk TX 73 (k2 (eVal) (eVal) (eI) (fun (a : Sp.Val) (b : Sp.Val) => true) valCompare) := k2_ok fun a b hh => valCompare_says a b
theorem known104 : KOk TX 104 (k2 ((eL 1 eS)) (eS) (eI) (fun (l : (List Txt)) (v : Txt) => Nat.ble l.length big) indexTxt) := k2_ok fun l v hh => have hb := hh; indexTxt_says l v (Nat.le_of_ble_eq_true hb)
theorem known63 : KOk TX 63 (k2 ((eL 1 eS)) (eS) (eB) (fun (l : (List Txt)) (v : Txt) => Nat.ble l.length big) containsTxt) := k2_ok fun l v hh => have hb := hh; containsTxt_says l v (Nat.le_of_ble_eq_true hb)
theorem known98 : KOk TX 98 (k1 (eS) (eB) (fun (b : Txt) => true) factWord) := k1_ok fun b hh => factWord_says b
theorem known58 : KOk TX 58 (k1 (eS) (eB) (fun (b : Txt) => Nat.ble b.length big) factName) := k1_ok fun b hh => have hb := hh; factName_says b (Nat.le_of_ble_eq_true hb)
theorem known116 : KOk TX 116 (k2 (eOp) ((eL 4 eBind)) (eP eVal eI) (fun (o : Sp.Op) (b : (List Sp.Bind)) => Nat.ble b.length big) exprPush) := k2_ok fun o b hh => have hb := hh; exprPush_says o b (Nat.le_of_ble_eq_true hb)
theorem known39 : KOk TX 39 (k2 (eFact) (eFact) (eB) (fun (a : Sp.Fact) (b : Sp.Fact) => Nat.ble a.args.length big) keepFact) := k2_ok fun a b hh => have hb := hh; keepFact_says a b (Nat.le_of_ble_eq_true hb)
theorem known41 : KOk TX 41 (k1 (b8) (eB) (fun (c : UInt8) => true) lexBlank) := k1_ok fun c hh => lexBlank_says c
noncomputable def kx39 : List V → Option V := (k2 (eFact) (eFact) (eB) (fun (a : Sp.Fact) (b : Sp.Fact) => Nat.ble a.args.length big) keepFact)
noncomputable def kx41 : List V → Option V := (k1 (b8) (eB) (fun (c : UInt8) => true) lexBlank)
noncomputable def kx58 : List V → Option V := (k1 (eS) (eB) (fun (b : Txt) => Nat.ble b.length big) factName)
noncomputable def kx63 : List V → Option V := (k2 ((eL 1 eS)) (eS) (eB) (fun (l : (List Txt)) (v : Txt) => Nat.ble l.length big) containsTxt)
noncomputable def kx69 : List V → Option V := (k1 ((eL 1 eI)) (eI) (fun (l : (List Int)) => Nat.ble l.length big) cmpOr)
noncomputable def kx70 : List V → Option V := (k2 (eS) (eS) (eI) (fun (a : Txt) (b : Txt) => true) stringsCompare)
noncomputable def kx71 : List V → Option V := (k2 (eI) (eI) (eI) (fun (a : Int) (b : Int) => true) cmpCompare)
noncomputable def kx73 : List V → Option V := (k2 (eVal) (eVal) (eI) (fun (a : Sp.Val) (b : Sp.Val) => true) valCompare)
noncomputable def kx87 : List V → Option V := (k1 (b8) (eB) (fun (c : UInt8) => true) valDigit)
noncomputable def kx97 : List V → Option V := (k1 (eVal) (eI) (fun (v : Sp.Val) => Nat.ble v.s.length big) valCheck)
noncomputable def kx98 : List V → Option V := (k1 (eS) (eB) (fun (b : Txt) => true) factWord)
noncomputable def kx103 : List V → Option V := (k1 ((eL 5 eOp)) (eI) (fun (l : (List Sp.Op)) => allB (fun x => Nat.ble x.val.s.length big) l) exprCheck)
noncomputable def kx104 : List V → Option V := (k2 ((eL 1 eS)) (eS) (eI) (fun (l : (List Txt)) (v : Txt) => Nat.ble l.length big) indexTxt)
noncomputable def kx108 : List V → Option V := (k2 (eS) (eS) (eI) (fun (a : Txt) (b : Txt) => true) compareString)
noncomputable def kx109 : List V → Option V := (k1 (eI) (eB) (fun (n : Int) => true) cmpIsNaN)
noncomputable def kx114 : List V → Option V := (k1 ((eL 4 eBind)) (eI) (fun (l : (List Sp.Bind)) => allB (fun x => Nat.ble x.val.s.length big) l) substCheck)
noncomputable def kx115 : List V → Option V := (k1 (eI) (eB) (fun (k : Int) => true) exprPushes)
noncomputable def kx116 : List V → Option V := (k2 (eOp) ((eL 4 eBind)) (eP eVal eI) (fun (o : Sp.Op) (b : (List Sp.Bind)) => Nat.ble b.length big) exprPush)
noncomputable def kx135 : List V → Option V := (k1 (eS) (eB) (fun (b : Txt) => true) valSymbol)
noncomputable def kx136 : List V → Option V := (k1 (eS) (eB) (fun (b : Txt) => Nat.ble b.length big) valPlain)
noncomputable def kx137 : List V → Option V := (k1 (eI) (eB) (fun (n : Int) => true) guardRight)
noncomputable def kx140 : List V → Option V := (k1 (eTerm) (eB) (fun (t : Sp.Term) => Nat.ble t.val.s.length big) matchTerm)
noncomputable def kx141 : List V → Option V := (k1 (eOp) (eB) (fun (o : Sp.Op) => Nat.ble o.val.s.length big) exprRight)
noncomputable def kx145 : List V → Option V := (k1 (eBind) (eB) (fun (x : Sp.Bind) => Nat.ble x.val.s.length big) substRight)
noncomputable def kx146 : List V → Option V := (k2 ((eL 4 eBind)) (eS) (eP eVal eB) (fun (l : (List Sp.Bind)) (name : Txt) => Nat.ble l.length big) substGet)
noncomputable def kx160 : List V → Option V := (k1 (b8) (eB) (fun (c : UInt8) => true) valSmall)
noncomputable def kx161 : List V → Option V := (k1 (b8) (eB) (fun (c : UInt8) => true) valLarge)
noncomputable def kx163 : List V → Option V := (k1 (eS) (eB) (fun (b : Txt) => true) substVar)
noncomputable def kx164 : List V → Option V := (k1 (eI) (eB) (fun (n : Int) => true) numIn)
noncomputable def kx165 : List V → Option V := (k2 (eI) (eI) (eP eI eB) (fun (a : Int) (b : Int) => true) numAdd)
noncomputable def kx177 : List V → Option V := (k1 (b8) (eB) (fun (c : UInt8) => true) substLetter)
noncomputable def kx179 : List V → Option V := (k1 (eI) ((V.int .u64)) (fun (n : Int) => true) numSize)
noncomputable def kQ : KT := (.node 115 kx115 (.node 87 kx87 (.node 69 kx69 (.node 58 kx58 (.node 41 kx41 (.node 39 kx39 .leaf .leaf) .leaf) (.node 63 kx63 .leaf .leaf)) (.node 71 kx71 (.node 70 kx70 .leaf .leaf) (.node 73 kx73 .leaf .leaf))) (.node 104 kx104 (.node 98 kx98 (.node 97 kx97 .leaf .leaf) (.node 103 kx103 .leaf .leaf)) (.node 109 kx109 (.node 108 kx108 .leaf .leaf) (.node 114 kx114 .leaf .leaf)))) (.node 146 kx146 (.node 137 kx137 (.node 135 kx135 (.node 116 kx116 .leaf .leaf) (.node 136 kx136 .leaf .leaf)) (.node 141 kx141 (.node 140 kx140 .leaf .leaf) (.node 145 kx145 .leaf .leaf))) (.node 164 kx164 (.node 161 kx161 (.node 160 kx160 .leaf .leaf) (.node 163 kx163 .leaf .leaf)) (.node 177 kx177 (.node 165 kx165 .leaf .leaf) (.node 179 kx179 .leaf .leaf)))))
theorem kQ_ok : kQ.Ok TX := ⟨known115, ⟨known87, ⟨known69, ⟨known58, ⟨known41, ⟨known39, trivial, trivial⟩, trivial⟩, ⟨known63, trivial, trivial⟩⟩, ⟨known71, ⟨known70, trivial, trivial⟩, ⟨known73, trivial, trivial⟩⟩⟩, ⟨known104, ⟨known98, ⟨known97, trivial, trivial⟩, ⟨known103, trivial, trivial⟩⟩, ⟨known109, ⟨known108, trivial, trivial⟩, ⟨known114, trivial, trivial⟩⟩⟩⟩, ⟨known146, ⟨known137, ⟨known135, ⟨known116, trivial, trivial⟩, ⟨known136, trivial, trivial⟩⟩, ⟨known141, ⟨known140, trivial, trivial⟩, ⟨known145, trivial, trivial⟩⟩⟩, ⟨known164, ⟨known161, ⟨known160, trivial, trivial⟩, ⟨known163, trivial, trivial⟩⟩, ⟨known177, ⟨known165, trivial, trivial⟩, ⟨known179, trivial, trivial⟩⟩⟩⟩⟩
end Go.Vm
