/-
  A part of a proof: the last text of the claim says what is proved, and under which conditions.
-/
import Derived.Test.YtjebeifjkkofaaaGreatDoorM4
import Derived.KernelRfl
set_option linter.unusedSimpArgs false
set_option linter.unusedVariables false
set_option linter.unnecessarySimpa false
/-
  The machine V: going through a code, the kernel reckoning between the points where something is to be said.
-/
namespace Go.Vm
open Go

def noC : Call := fun _ _ _ => none
def getS (s : St) (r : Option St) : St := match r with | some s => s | none => s
def know (s : St) (t : Nat) (v : V) : St := { s with tm := upd s.tm t v }

section
variable {T : Tab} {Q : Ex → St → Prop} {s : St}

theorem noC_le (c : Call) : CallLe noC c := fun _ _ _ _ h => by cases h
theorem noC_lim : Limit (fun _ => noC) noC := ⟨fun _ _ _ => CallLe.refl _, fun f as sg r h => by cases h⟩
theorem runL_noC {ops : List VOp} {s1 : St} (h : runL T.C noC ops s = some s1) : runL T.C T.call ops s = some s1 :=
  (good_runL (C := T.C) noC_lim ops s).1 _ _ (noC_le _) _ h
theorem drwV_noC {all l : List DOp} {s1 : St} (h : drwV T.C noC all l s = some s1) : drwV T.C T.call all l s = some s1 :=
  (good_drwV (C := T.C) noC_lim all l s).1 _ _ (noC_le _) _ h

theorem getS_some {s : St} {r : Option St} (h : r.isSome = true) : r = some (getS s r) := by
  cases r with
  | none => cases h
  | some s => rfl

/-- some operations that need nothing said -/
theorem W_seg {ops : List VOp} (n : Nat) (h : (runL T.C noC (ops.take n) s).isSome = true) (k : Wp T (.reg (ops.drop n)) (getS s (runL T.C noC (ops.take n) s)) Q) : Wp T (.reg ops) s Q := by
  have h1 := runL_noC (getS_some (s := s) h)
  rw [Wp_reg] at k ⊢
  obtain ⟨s', h2, h3⟩ := k
  refine ⟨s', ?_, h3⟩
  have : ∀ (a b : List VOp) (s1 s2 : St), runL T.C T.call a s1 = some s2 → runL T.C T.call (a ++ b) s1 = runL T.C T.call b s2 := by
    intro a
    induction a with
    | nil => intro b s1 s2 h; simp only [runL, Option.some.injEq] at h; subst h; rfl
    | cons o a ih =>
      intro b s1 s2 h
      simp only [runL] at h
      obtain ⟨s3, h4, h5⟩ := Option.bind_eq_some_iff.1 h
      simp only [List.cons_append, runL, h4, Option.bind_some]
      exact ih b s3 s2 h5
  rw [← List.take_append_drop n ops, this _ _ _ _ h1]
  exact h2
theorem W_dseg {all l : List DOp} (n : Nat) (h : (drwV T.C noC all (l.take n) s).isSome = true) (k : WpD T all (l.drop n) (getS s (drwV T.C noC all (l.take n) s)) Q) : WpD T all l s Q := by
  have h1 := drwV_noC (getS_some (s := s) h)
  obtain ⟨s', h2, h3⟩ := k
  refine ⟨s', ?_, h3⟩
  rw [← List.take_append_drop n l, drwV_append, h1]
  exact h2

/-- a truth, by cases -/
theorem know_same {t : Nat} {v : V} (h : s.tm t = v) : know s t v = s := by
  unfold know
  have : upd s.tm t v = s.tm := by
    funext u
    rw [upd_at]
    split
    · rename_i e; rw [e, h]
    · rfl
  rw [this]
theorem W_dec {c : VC} (t : Nat) (e : Bool) (hv : s.tm t = .bool e) (ht : e = true → Wp T c (know s t (.bool true)) Q) (hf : e = false → Wp T c (know s t (.bool false)) Q) : Wp T c s Q := by
  cases h : e with
  | true => have := ht h; rwa [know_same (hv.trans (by rw [h]))] at this
  | false => have := hf h; rwa [know_same (hv.trans (by rw [h]))] at this
theorem W_ddec {all l : List DOp} (t : Nat) (e : Bool) (hv : s.tm t = .bool e) (ht : e = true → WpD T all l (know s t (.bool true)) Q) (hf : e = false → WpD T all l (know s t (.bool false)) Q) : WpD T all l s Q := by
  cases h : e with
  | true => have := ht h; rwa [know_same (hv.trans (by rw [h]))] at this
  | false => have := hf h; rwa [know_same (hv.trans (by rw [h]))] at this
/-- a temporary, as it is -/
theorem W_know {c : VC} (t : Nat) (v : V) (hv : s.tm t = v) (k : Wp T c (know s t v) Q) : Wp T c s Q := by rwa [know_same hv] at k

theorem W_end (k : Q .normal s) : Wp T (.reg []) s Q := W_nil.2 k
theorem W_dend {all : List DOp} (k : Q .normal s) : WpD T all [] s Q := WD_nil.2 k
theorem W_ct {c : O} {a b : VC} (h : rd s.tm c = .bool true) (k : Wp T a s Q) : Wp T (.cond c a b) s Q := (Wp_cond h).2 k
theorem W_cf {c : O} {a b : VC} (h : rd s.tm c = .bool false) (k : Wp T b s Q) : Wp T (.cond c a b) s Q := (Wp_cond h).2 k
theorem W_seq {a b : VC} (k : Wp T a s (Then T b Q)) : Wp T (.seq a b) s Q := Wp_seq.2 k
theorem W_blk {i : Nat} {b : VC} (k : Wp T b s (Behind i Q)) : Wp T (.block i b) s Q := Wp_block.2 k
theorem W_d {ops : List DOp} (k : WpD T ops ops s Q) : Wp T (.drw ops) s Q := W_drw.2 k
theorem W_ret (k : Q .ret s) : Wp T .ret s Q := Wp_ret.2 k
theorem W_exit {i : Nat} (k : Q (.exit i) s) : Wp T (.exit i) s Q := Wp_exit.2 k
theorem W_skip (k : Q .normal s) : Wp T .skip s Q := Wp_skip.2 k

/-- what a call answers that leaves no trace -/
def SaysT (T : Tab) (f : FuncId) (l : List V) (v : V) : Prop := ∀ sg, T.call f l sg = some (v, sg, 0)
theorem doCall_says {f : FuncId} {l bs : List V} {v : V} (h : SaysT T f bs v) (e : l.map (argV (T.C.keepA f)) = bs) : doCall T.C T.call f l s = some (v, s) := by
  unfold doCall
  rw [e, h]
  simp
theorem callP_says {f : FuncId} {l bs : List V} {v : V} (h : SaysT T f bs v) (e : l.map (argV (T.C.keepA f)) = bs) : callP T.C T.call f l s = some v := by
  unfold callP
  rw [e, h]
  rfl

theorem W_op {d : Option Nat} {o : VO} {g : Option (Nat × Bool)} {os : List VOp} {v : V} (hg : want s g = some true) (ho : opV T.C T.call o s = some (v, s)) (k : Wp T (.reg os) (put s d v) Q) : Wp T (.reg (⟨d, o, g⟩ :: os)) s Q := by
  rw [W_step, hg, ho]; exact k
theorem W_dop {all l : List DOp} {i : Nat} {bf re : List Nat} {d : Option Nat} {o : VO} {g : Option (Nat × Bool)} {v : V} (hg : want s g = some true) (ho : opP T.C T.call o s = some v) (k : WpD T all l (put s d v) Q) : WpD T all (⟨i, bf, ⟨d, o, g⟩, false, re⟩ :: l) s Q := by
  rw [WD_pure, hg, ho]; exact k

theorem W_call {d : Option Nat} {g : Option (Nat × Bool)} {os : List VOp} {f : FuncId} {xs : List O} {l : List V} {v : V} (hs : SaysT T f l v) (hg : want s g = some true) (ha : (xs.map (rd s.tm)).map (argV (T.C.keepA f)) = l) (k : Wp T (.reg os) (put s d v) Q) :
    Wp T (.reg (⟨d, .call f xs, g⟩ :: os)) s Q := W_op hg (doCall_says hs ha) k
theorem W_dcall {all l : List DOp} {i : Nat} {bf re : List Nat} {d : Option Nat} {g : Option (Nat × Bool)} {f : FuncId} {xs : List O} {as : List V} {v : V} (hs : SaysT T f as v) (hg : want s g = some true) (ha : (xs.map (rd s.tm)).map (argV (T.C.keepA f)) = as) (k : WpD T all l (put s d v) Q) :
    WpD T all (⟨i, bf, ⟨d, .call f xs, g⟩, false, re⟩ :: l) s Q := W_dop hg (callP_says hs ha) k
theorem ix_some {x i : O} {b : List UInt8} {n : Nat} {c : UInt8} (hx : rd s.tm x = .str b) (hi : nat? (rd s.tm i) = some n) (hc : b[n]? = some c) : opV T.C T.call (.ix x i) s = some (.int .u8 c.toNat, s) := by
  simp only [opV, hi, Option.bind_some, hx, hc, Option.map_some]
theorem W_ix {d : Option Nat} {g : Option (Nat × Bool)} {os : List VOp} {x i : O} {b : List UInt8} {n : Nat} {c : UInt8} (hc : b[n]? = some c) (hg : want s g = some true) (hx : rd s.tm x = .str b) (hi : nat? (rd s.tm i) = some n) (k : Wp T (.reg os) (put s d (.int .u8 c.toNat)) Q) :
    Wp T (.reg (⟨d, .ix x i, g⟩ :: os)) s Q := W_op hg (ix_some hx hi hc) k
theorem W_dix {all l : List DOp} {j : Nat} {bf re : List Nat} {d : Option Nat} {g : Option (Nat × Bool)} {x i : O} {b : List UInt8} {n : Nat} {c : UInt8} (hc : b[n]? = some c) (hg : want s g = some true) (hx : rd s.tm x = .str b) (hi : nat? (rd s.tm i) = some n) (k : WpD T all l (put s d (.int .u8 c.toNat)) Q) :
    WpD T all (⟨j, bf, ⟨d, .ix x i, g⟩, false, re⟩ :: l) s Q := W_dop hg (by show (bif pureO (.ix x i) then (opV T.C T.call (.ix x i) s).map (·.1) else none) = _; rw [ix_some hx hi hc]; rfl) k
theorem ia_some {sz : Nat} {x i : O} {t : Tok} {es : List V} {n : Nat} {e : V} (hx : rd s.tm x = .sl t sz es) (hi : nat? (rd s.tm i) = some n) (hc : es[n]? = some e) : opV T.C T.call (.ia none sz x i) s = some (.ep (cellsOf e) 0, s) := by
  simp only [opV, hi, Option.bind_some, hx, hc, Option.map_some]
  have : Nat.beq sz sz = true := by simp
  rw [this]; rfl
theorem W_ia {d : Option Nat} {g : Option (Nat × Bool)} {os : List VOp} {sz : Nat} {x i : O} {t : Tok} {es : List V} {n : Nat} {e : V} (hc : es[n]? = some e) (hg : want s g = some true) (hx : rd s.tm x = .sl t sz es) (hi : nat? (rd s.tm i) = some n) (k : Wp T (.reg os) (put s d (.ep (cellsOf e) 0)) Q) :
    Wp T (.reg (⟨d, .ia none sz x i, g⟩ :: os)) s Q := W_op hg (ia_some hx hi hc) k
theorem W_dia {all l : List DOp} {j : Nat} {bf re : List Nat} {d : Option Nat} {g : Option (Nat × Bool)} {sz : Nat} {x i : O} {t : Tok} {es : List V} {n : Nat} {e : V} (hc : es[n]? = some e) (hg : want s g = some true) (hx : rd s.tm x = .sl t sz es) (hi : nat? (rd s.tm i) = some n) (k : WpD T all l (put s d (.ep (cellsOf e) 0)) Q) :
    WpD T all (⟨j, bf, ⟨d, .ia none sz x i, g⟩, false, re⟩ :: l) s Q := W_dop hg (by show (bif pureO (.ia none sz x i) then (opV T.C T.call (.ia none sz x i) s).map (·.1) else none) = _; rw [ia_some hx hi hc]; rfl) k

theorem says {f : FuncId} {F : VF} {l : List V} {v : V} (hF : T.funs f = some F) (h : ∀ sg, Wp T F.code { tm := env l, fr := [], sg, wd := 0 } (Out F (v, sg, 0))) : SaysT T f l v := fun sg => call_fun hF (h sg)
end
end Go.Vm

/-
  The machine V, for the kernel: calls whose answers are known.
-/
namespace Go.Vm
open Go

theorem veqL_sound (a b : List V) (h : veqL a b = true) : a = b := by
  have := veq_sound (.tup a) (.tup b) h
  simpa using this
theorem suB0 (b : Blk) : suB sg0 b = b := by
  cases b with
  | box l => simp only [suB, suL0]
  | arr v z l => simp only [suB, suL0, su0]
  | tok v => simp only [suB]
  | map es => simp only [suB, su0, List.map_id']
  | dead => simp only [suB]
theorem suG0 (sg : List Fr) : suG sg0 sg = sg := by
  have h1 : suB sg0 = id := funext suB0
  have h2 : suF sg0 = id := funext fun f => by simp only [suF, h1, List.map_id, id]
  simp only [suG, h2, List.map_id]

/-- no unknown number in what it prints -/
class Cl {α : Type} (e : α → V) where
  cl : ∀ (σ : Int → V) x, su σ (e x) = e x
/-- read back -/
class Cd {α : Type} (e : α → V) extends Cl e where
  dec : V → Option α
  ok : ∀ v x, dec v = some x → v = e x

/-- known: what a routine answers to these -/
def KOk (T : Tab) (f : FuncId) (k : List V → Option V) : Prop := ∀ (σ : Int → V) (l : List V) v sg, k l = some v → T.call f (suL σ l) sg = some (su σ v, sg, 0)

inductive KT where
  | leaf
  | node (f : Nat) (k : List V → Option V) (l r : KT)
noncomputable def KT.get (t : KT) (f : FuncId) : List V → Option V :=
  @KT.rec (fun _ => List V → Option V) (fun _ => none) (fun g k _ _ l r => @Bool.rec (fun _ => List V → Option V) (@Bool.rec (fun _ => List V → Option V) r l (Nat.blt f g)) k (Nat.beq f g)) t
def KT.Ok (T : Tab) : KT → Prop
  | .leaf => True
  | .node f k l r => KOk T f k ∧ l.Ok T ∧ r.Ok T
theorem KT.get_ok {T : Tab} : ∀ {t : KT}, t.Ok T → ∀ f, KOk T f (t.get f)
  | .leaf, _, f => fun _ _ _ _ h => by cases h
  | .node g k l r, h, f => by
    obtain ⟨h1, h2, h3⟩ := h
    have e : (KT.node g k l r).get f = @Bool.rec (fun _ => List V → Option V) (@Bool.rec (fun _ => List V → Option V) (r.get f) (l.get f) (Nat.blt f g)) k (Nat.beq f g) := rfl
    rw [e]
    cases hb : Nat.beq f g with
    | true => rw [Nat.eq_of_beq_eq_true hb]; exact h1
    | false =>
      cases Nat.blt f g with
      | true => exact KT.get_ok h2 f
      | false => exact KT.get_ok h3 f

noncomputable def allB {α : Type} (p : α → Bool) (l : List α) : Bool := @List.rec α (fun _ => Bool) true (fun x _ ih => ifK (p x) ih false) l
theorem allB_mem {α : Type} {p : α → Bool} : ∀ {l : List α}, allB p l = true → ∀ x ∈ l, p x = true
  | [], _, x, hx => by cases hx
  | y :: l, h, x, hx => by
    have h : ifK (p y) (allB p l) false = true := h
    rw [ifK_eq] at h
    cases hy : p y with
    | false => rw [hy] at h; cases h
    | true =>
      rw [hy] at h
      cases hx with
      | head => exact hy
      | tail _ hx => exact allB_mem h x hx
theorem and_of {a b : Bool} (h : (a && b) = true) : a = true ∧ b = true := by simpa using h
noncomputable def k1 {α β : Type} (e : α → V) [Cd e] (e' : β → V) (c : α → Bool) (g : α → β) : List V → Option V := fun l => match l with
  | [a] => match Cd.dec e a with
    | some x => bif c x then some (e' (g x)) else none
    | none => none
  | _ => none
theorem k1_ok {T : Tab} {f : FuncId} {α β : Type} {e : α → V} [Cd e] {e' : β → V} [Cl e'] {c : α → Bool} {g : α → β} (h : ∀ x, c x = true → SaysT T f [e x] (e' (g x))) : KOk T f (k1 e e' c g) := by
  intro σ l v sg hk
  unfold k1 at hk
  split at hk
  · rename_i a
    split at hk
    · rename_i x hx
      cases hc : c x with
      | false => rw [hc] at hk; cases hk
      | true =>
        rw [hc] at hk
        cases hk
        rw [Cd.ok a x hx]
        simp only [suL, Cl.cl]
        exact h x hc sg
    · cases hk
  · cases hk

noncomputable def k2 {α γ β : Type} (e : α → V) [Cd e] (e2 : γ → V) [Cd e2] (e' : β → V) (c : α → γ → Bool) (g : α → γ → β) : List V → Option V := fun l => match l with
  | [a, b] => match Cd.dec e a with
    | some x => match Cd.dec e2 b with
      | some y => bif c x y then some (e' (g x y)) else none
      | none => none
    | none => none
  | _ => none
theorem k2_ok {T : Tab} {f : FuncId} {α γ β : Type} {e : α → V} [Cd e] {e2 : γ → V} [Cd e2] {e' : β → V} [Cl e'] {c : α → γ → Bool} {g : α → γ → β} (h : ∀ x y, c x y = true → SaysT T f [e x, e2 y] (e' (g x y))) : KOk T f (k2 e e2 e' c g) := by
  intro σ l v sg hk
  unfold k2 at hk
  split at hk
  · rename_i a b
    split at hk
    · rename_i x hx
      split at hk
      · rename_i y hy
        cases hc : c x y with
        | false => rw [hc] at hk; cases hk
        | true =>
          rw [hc] at hk
          cases hk
          rw [Cd.ok a x hx, Cd.ok b y hy]
          simp only [suL, Cl.cl]
          exact h x y hc sg
      · cases hk
    · cases hk
  · cases hk

/-- single answers, told one by one -/
noncomputable def kM (m : List (List V × V)) : List V → Option V := fun l =>
  @List.rec (List V × V) (fun _ => Option V) none (fun p _ ih => @Bool.rec (fun _ => Option V) ih (some p.2) (veqL l p.1)) m
theorem kM_ok {T : Tab} {f : FuncId} : ∀ {m : List (List V × V)}, (∀ p ∈ m, (∀ σ, suL σ p.1 = p.1) ∧ (∀ σ, su σ p.2 = p.2) ∧ SaysT T f p.1 p.2) → KOk T f (kM m)
  | [], _ => fun _ _ _ _ h => by cases h
  | p :: m, h => by
    intro σ l v sg hk
    have e : kM (p :: m) l = @Bool.rec (fun _ => Option V) (kM m l) (some p.2) (veqL l p.1) := rfl
    rw [e] at hk
    cases hv : veqL l p.1 with
    | false =>
      rw [hv] at hk
      exact kM_ok (fun q hq => h q (List.mem_cons_of_mem _ hq)) σ l v sg hk
    | true =>
      rw [hv] at hk
      cases hk
      obtain ⟨h1, h2, h3⟩ := h p (List.mem_cons_self ..)
      rw [veqL_sound _ _ hv, h1, h2]
      exact h3 sg

/-- a run that was seen, over any frames -/
theorem says_of_C {T : Tab} {A : Orc} (hA : OrcOk T sg0 A) (hp : CallS sg0 T.prim T.prim) (hl : ∀ f F, T.funs f = some F → clC F.code = true) {n : Nat} {f : FuncId} {l : List V} {v : V}
    (h : ∀ (p : List Fr → Bool) sg, callC T.C A T.funs T.prim n f l sg (fun v' sg' wd => ifK (veq v' v) (ifK (Nat.beq wd 0) (p sg') false) false) = p sg) : SaysT T f l v := by
  classical
  intro sg
  have h1 := h (fun x => decide (x = sg)) sg
  simp only [decide_true] at h1
  obtain ⟨v', sg', wd, h2, h3⟩ := callC_s num0 hA hp hl n f l sg _ h1
  rw [suL0, suG0] at h2
  rw [h2]
  cases hv : veq v' v with
  | false => rw [hv] at h3; cases h3
  | true =>
    rw [hv] at h3
    cases hw : Nat.beq wd 0 with
    | false => rw [hw] at h3; cases h3
    | true =>
      rw [hw] at h3
      have h3 : decide (sg' = sg) = true := h3
      rw [su0, suG0, veq_sound _ _ hv, of_decide_eq_true h3, Nat.eq_of_beq_eq_true hw]
end Go.Vm

/-
  The machine V, for the kernel: tables of known calls, one behind the other; numbers of which only rests are looked at.
-/
namespace Go.Vm
open Go

/-- nothing known, nothing unknown -/
noncomputable def orcN : Orc := { B := fun _ _ _ => none, W := fun _ _ => none, E := fun _ _ _ => none, K := fun _ _ => none }
theorem orcN_ok {T : Tab} {σ : Int → V} : OrcOk T σ orcN := ⟨(fun _ _ _ _ h => by cases h), (fun _ _ _ h => by cases h), (fun _ _ _ _ h => by cases h), (fun _ _ _ _ h => by cases h)⟩
/-- more known calls -/
noncomputable def orcL (t : KT) (A : Orc) : Orc := { B := A.B, W := A.W, E := A.E, K := fun f l => match t.get f l with
  | some v => some v
  | none => A.K f l }
theorem orcL_ok {T : Tab} {σ : Int → V} {t : KT} {A : Orc} (h : t.Ok T) (hA : OrcOk T σ A) : OrcOk T σ (orcL t A) := by
  refine ⟨hA.B, hA.W, hA.E, fun f l v sg hk => ?_⟩
  replace hk : (match t.get f l with | some v => some v | none => A.K f l) = some v := hk
  split at hk
  · rename_i u hu
    cases hk
    exact KT.get_ok h f σ l v sg hu
  · exact hA.K f l v sg hk

/-- symbols 0 .. n-1: what came in; n ..: the same without a sign; rests of these -/
noncomputable def remA (n : Nat) (ru rs : Nat → Int → Option Int) (op : BinOp) (x y : V) : Option V := match op, x, y with
  | .rem, .int .i16 (.ofNat j), .int .u64 q => bif Nat.blt j n then none else (ru (j - n) q).map (.int .u64)
  | .rem, .int .i16 (.ofNat j), .int .i64 q => bif Nat.blt j n then (rs j q).map (.int .i64) else none
  | _, _, _ => none
noncomputable def wrpA (n : Nat) (k : IntKind) (x : V) : Option V := match k, x with
  | .u64, .int .i16 (.ofNat j) => bif Nat.blt j n then some (.int .i16 (.ofNat (j + n))) else none
  | _, _ => none
noncomputable def orcA (n : Nat) (ru rs : Nat → Int → Option Int) (A : Orc) : Orc := { B := remA n ru rs, W := wrpA n, E := A.E, K := A.K }
def sgA (n : Nat) (a : Nat → Int) : Int → V := fun z => match z with
  | .ofNat j => bif Nat.blt j n then .int .i64 (a j) else .int .u64 (IntKind.u64.wrap (a (j - n)))
  | _ => .int .u64 0
theorem sgA_num (n : Nat) (a : Nat → Int) : Num (sgA n a) := by
  intro z
  unfold sgA
  split
  · rename_i j
    cases Nat.blt j n <;> exact ⟨_, _, rfl⟩
  · exact ⟨_, _, rfl⟩
theorem blt_add (j n : Nat) : Nat.blt (j + n) n = false := by
  cases h : Nat.blt (j + n) n with
  | false => rfl
  | true => exact absurd (by simpa [Nat.blt_eq] using h : j + n < n) (by omega)
theorem orcA_ok {T : Tab} {n : Nat} {a : Nat → Int} {ru rs : Nat → Int → Option Int} {A : Orc} (hA : OrcOk T (sgA n a) A)
    (hu : ∀ j q z, ru j q = some z → q ≠ 0 ∧ (IntKind.u64.wrap (a j)).tmod q = z) (hs : ∀ j q z, rs j q = some z → q ≠ 0 ∧ (a j).tmod q = z) : OrcOk T (sgA n a) (orcA n ru rs A) := by
  refine ⟨fun op x y v hv => ?_, fun k x v hv => ?_, hA.E, hA.K⟩
  · replace hv : remA n ru rs op x y = some v := hv
    unfold remA at hv
    split at hv
    · rename_i j q
      cases hj : Nat.blt j n with
      | true => rw [hj] at hv; cases hv
      | false =>
        rw [hj] at hv
        obtain ⟨z, hz, rfl⟩ := Option.map_eq_some_iff.1 hv
        obtain ⟨h0, h1⟩ := hu _ _ _ hz
        have e1 : su (sgA n a) (.int .i16 (.ofNat j)) = .int .u64 (IntKind.u64.wrap (a (j - n))) := by
          show sgA n a (Int.ofNat j) = _
          simp only [sgA, hj, cond_false]
        rw [e1]
        show binI .rem .u64 (IntKind.u64.wrap (a (j - n))) q = some (.int .u64 z)
        have : (q == 0) = false := by simpa using h0
        simp only [binI, this, cond_false, h1]
    · rename_i j q
      cases hj : Nat.blt j n with
      | false => rw [hj] at hv; cases hv
      | true =>
        rw [hj] at hv
        obtain ⟨z, hz, rfl⟩ := Option.map_eq_some_iff.1 hv
        obtain ⟨h0, h1⟩ := hs _ _ _ hz
        have e1 : su (sgA n a) (.int .i16 (.ofNat j)) = .int .i64 (a j) := by
          show sgA n a (Int.ofNat j) = _
          simp only [sgA, hj, cond_true]
        rw [e1]
        show binI .rem .i64 (a j) q = some (.int .i64 z)
        have : (q == 0) = false := by simpa using h0
        simp only [binI, this, cond_false, h1]
    · cases hv
  · replace hv : wrpA n k x = some v := hv
    unfold wrpA at hv
    split at hv
    · rename_i j
      cases hj : Nat.blt j n with
      | false => rw [hj] at hv; cases hv
      | true =>
        rw [hj] at hv
        cases hv
        refine ⟨.i64, a j, ?_, ?_⟩
        · show sgA n a (Int.ofNat j) = _
          simp only [sgA, hj, cond_true]
        · show sgA n a (Int.ofNat (j + n)) = _
          simp only [sgA, blt_add, cond_false, Nat.add_sub_cancel]
    · cases hv
end Go.Vm

/-
  The machine V, for the kernel: runs with numbers that are not known; what was seen once is told of all of them.
-/
namespace Go.Vm
open Go

/-- symbols stand for the numbers of a list; all other symbols stay -/
def sgT (a : List (IntKind × Int)) : Int → V := fun z => match z with
  | .ofNat j => match a[j]? with
    | some (k, n) => .int k n
    | none => .int .i16 (Int.ofNat (j - a.length))
  | .negSucc j => .int .i16 (.negSucc j)
theorem sgT_num (a : List (IntKind × Int)) : Num (sgT a) := by
  intro z
  unfold sgT
  split
  · split <;> exact ⟨_, _, rfl⟩
  · exact ⟨_, _, rfl⟩
theorem sgT_onto (a : List (IntKind × Int)) (n : Int) : ∃ z, sgT a z = .int .i16 n := by
  cases n with
  | ofNat m =>
    refine ⟨Int.ofNat (m + a.length), ?_⟩
    have h : a[m + a.length]? = none := List.getElem?_eq_none (by omega)
    simp only [sgT, h, Nat.add_sub_cancel]
  | negSucc m => exact ⟨.negSucc m, rfl⟩

theorem map_onto {α : Type} {f : α → α} (h : ∀ y, ∃ x, f x = y) : ∀ l : List α, ∃ w : List α, w.map f = l
  | [] => ⟨[], rfl⟩
  | y :: l => by obtain ⟨x, hx⟩ := h y; obtain ⟨w, hw⟩ := map_onto h l; exact ⟨x :: w, by simp only [List.map_cons, hx, hw]⟩
section
variable {σ : Int → V}
mutual
theorem su_onto (hs : ∀ n, ∃ z, σ z = .int .i16 n) : ∀ v : V, ∃ w, su σ w = v
  | .int k n => by
    cases h : k == IntKind.i16 with
    | false => exact ⟨.int k n, by simp only [su, h, cond_false]⟩
    | true =>
      obtain ⟨z, hz⟩ := hs n
      refine ⟨.int .i16 z, ?_⟩
      rw [show k = .i16 by simpa using h]
      exact hz
  | .ep cs o => by obtain ⟨w, h⟩ := suL_onto hs cs; exact ⟨.ep w o, by simp only [su, h]⟩
  | .sl t z es => by obtain ⟨w, h⟩ := suL_onto hs es; exact ⟨.sl t z w, by simp only [su, h]⟩
  | .fn f a b => by obtain ⟨w, h⟩ := suL_onto hs a; obtain ⟨w', h'⟩ := suL_onto hs b; exact ⟨.fn f w w', by simp only [su, h, h']⟩
  | .iface t v => by obtain ⟨w, h⟩ := su_onto hs v; exact ⟨.iface t w, by simp only [su, h]⟩
  | .agg cs => by obtain ⟨w, h⟩ := suL_onto hs cs; exact ⟨.agg w, by simp only [su, h]⟩
  | .tup cs => by obtain ⟨w, h⟩ := suL_onto hs cs; exact ⟨.tup w, by simp only [su, h]⟩
  | .und => ⟨.und, by simp [su]⟩
  | .bool b => ⟨.bool b, by simp [su]⟩
  | .str s => ⟨.str s, by simp [su]⟩
  | .nilp => ⟨.nilp, by simp [su]⟩
  | .bp d i o => ⟨.bp d i o, by simp [su]⟩
  | .ap d i v j o => ⟨.ap d i v j o, by simp [su]⟩
  | .bs d i v o l => ⟨.bs d i v o l, by simp [su]⟩
  | .nilm => ⟨.nilm, by simp [su]⟩
  | .mp d i => ⟨.mp d i, by simp [su]⟩
  | .nilf => ⟨.nilf, by simp [su]⟩
  | .nili => ⟨.nili, by simp [su]⟩
theorem suL_onto (hs : ∀ n, ∃ z, σ z = .int .i16 n) : ∀ l : List V, ∃ w, suL σ w = l
  | [] => ⟨[], by simp [suL]⟩
  | v :: vs => by obtain ⟨w, h⟩ := su_onto hs v; obtain ⟨w', h'⟩ := suL_onto hs vs; exact ⟨w :: w', by simp only [suL, h, h']⟩
end
theorem suB_onto (hs : ∀ n, ∃ z, σ z = .int .i16 n) (b : Blk) : ∃ w, suB σ w = b := by
  cases b with
  | box cs => obtain ⟨w, h⟩ := suL_onto hs cs; exact ⟨.box w, by simp only [suB, h]⟩
  | arr v z es => obtain ⟨w, h⟩ := suL_onto hs es; exact ⟨.arr v z w, by simp only [suB, h]⟩
  | tok v => exact ⟨.tok v, by simp only [suB]⟩
  | map es =>
    have : ∀ y : V × V, ∃ x : V × V, (fun (p : V × V) => (su σ p.1, su σ p.2)) x = y := by
      intro ⟨a, b⟩
      obtain ⟨x, hx⟩ := su_onto hs a
      obtain ⟨y, hy⟩ := su_onto hs b
      exact ⟨(x, y), by simp only [hx, hy]⟩
    obtain ⟨w, h⟩ := map_onto this es
    exact ⟨.map w, by simp only [suB]; rw [← h]⟩
  | dead => exact ⟨.dead, by simp only [suB]⟩
theorem suG_onto (hs : ∀ n, ∃ z, σ z = .int .i16 n) (sg : List Fr) : ∃ w, suG σ w = sg := map_onto (fun fr => map_onto (suB_onto hs) fr) sg
end

/-- what a call answers, whatever frames there are, for these numbers -/
def SaysS (T : Tab) (σ : Int → V) (f : FuncId) (l : List V) (v : V) : Prop := ∀ sg, T.call f (suL σ l) sg = some (su σ v, sg, 0)
def KOkS (T : Tab) (σ : Int → V) (f : FuncId) (k : List V → Option V) : Prop := ∀ (l : List V) v, k l = some v → SaysS T σ f l v
theorem KOk.s {T : Tab} {σ : Int → V} {f : FuncId} {k : List V → Option V} (h : KOk T f k) : KOkS T σ f k := fun l v hk sg => h σ l v sg hk
def KT.OkS (T : Tab) (σ : Int → V) : KT → Prop
  | .leaf => True
  | .node f k l r => KOkS T σ f k ∧ l.OkS T σ ∧ r.OkS T σ
theorem KT.get_okS {T : Tab} {σ : Int → V} : ∀ {t : KT}, t.OkS T σ → ∀ f, KOkS T σ f (t.get f)
  | .leaf, _, f => fun _ _ h => by cases h
  | .node g k l r, h, f => by
    obtain ⟨h1, h2, h3⟩ := h
    have e : (KT.node g k l r).get f = @Bool.rec (fun _ => List V → Option V) (@Bool.rec (fun _ => List V → Option V) (r.get f) (l.get f) (Nat.blt f g)) k (Nat.beq f g) := rfl
    rw [e]
    cases hb : Nat.beq f g with
    | true => rw [Nat.eq_of_beq_eq_true hb]; exact h1
    | false =>
      cases Nat.blt f g with
      | true => exact KT.get_okS h2 f
      | false => exact KT.get_okS h3 f
theorem kM_okS {T : Tab} {σ : Int → V} {f : FuncId} : ∀ {m : List (List V × V)}, (∀ p ∈ m, SaysS T σ f p.1 p.2) → KOkS T σ f (kM m)
  | [], _ => fun _ _ h => by cases h
  | p :: m, h => by
    intro l v hk
    have e : kM (p :: m) l = @Bool.rec (fun _ => Option V) (kM m l) (some p.2) (veqL l p.1) := rfl
    rw [e] at hk
    cases hv : veqL l p.1 with
    | false =>
      rw [hv] at hk
      exact kM_okS (fun q hq => h q (List.mem_cons_of_mem _ hq)) l v hk
    | true =>
      rw [hv] at hk
      cases hk
      rw [veqL_sound _ _ hv]
      exact h p (List.mem_cons_self ..)
theorem SaysT.s {T : Tab} {σ : Int → V} {f : FuncId} {l : List V} {v : V} (h : SaysT T f l v) (hl : suL σ l = l) (hv : su σ v = v) : SaysS T σ f l v := by
  intro sg; rw [hl, hv]; exact h sg
theorem orcL_okS {T : Tab} {σ : Int → V} {t : KT} {A : Orc} (h : t.OkS T σ) (hA : OrcOk T σ A) : OrcOk T σ (orcL t A) := by
  refine ⟨hA.B, hA.W, hA.E, fun f l v sg hk => ?_⟩
  replace hk : (match t.get f l with | some v => some v | none => A.K f l) = some v := hk
  split at hk
  · rename_i u hu
    cases hk
    exact KT.get_okS h f l v hu sg
  · exact hA.K f l v sg hk

/-- a run that was seen, over any frames, with symbols -/
theorem saysS_of_C {T : Tab} {σ : Int → V} {A : Orc} (hσ : Num σ) (hs : ∀ n, ∃ z, σ z = .int .i16 n) (hA : OrcOk T σ A) (hp : CallS σ T.prim T.prim) (hl : ∀ f F, T.funs f = some F → clC F.code = true) {n : Nat} {f : FuncId} {l : List V} {v : V}
    (h : ∀ (p : List Fr → Bool) sg, callC T.C A T.funs T.prim n f l sg (fun v' sg' wd => ifK (veq v' v) (ifK (Nat.beq wd 0) (p sg') false) false) = p sg) : SaysS T σ f l v := by
  classical
  intro sg
  obtain ⟨s0, rfl⟩ := suG_onto hs sg
  have h1 := h (fun x => decide (x = s0)) s0
  simp only [decide_true] at h1
  obtain ⟨v', sg', wd, h2, h3⟩ := callC_s hσ hA hp hl n f l s0 _ h1
  rw [h2]
  cases hv : veq v' v with
  | false => rw [hv] at h3; cases h3
  | true =>
    rw [hv] at h3
    cases hw : Nat.beq wd 0 with
    | false => rw [hw] at h3; cases h3
    | true =>
      rw [hw] at h3
      have h3 : decide (sg' = s0) = true := h3
      rw [veq_sound _ _ hv, of_decide_eq_true h3, Nat.eq_of_beq_eq_true hw]

/-- what is known of symbols, one by one -/
def opI : BinOp → Nat
  | .add => 0 | .sub => 1 | .mul => 2 | .quo => 3 | .rem => 4 | .and => 5 | .or => 6 | .xor => 7 | .shl => 8 | .shr => 9 | .andNot => 10
  | .eql => 11 | .neq => 12 | .lss => 13 | .leq => 14 | .gtr => 15 | .geq => 16
theorem opI_inj {a b : BinOp} (h : Nat.beq (opI a) (opI b) = true) : a = b := by cases a <;> cases b <;> first | rfl | cases h
def ikI : IntKind → Nat
  | .i8 => 0 | .i16 => 1 | .i32 => 2 | .i64 => 3 | .u8 => 4 | .u16 => 5 | .u32 => 6 | .u64 => 7
theorem ikI_inj {a b : IntKind} (h : Nat.beq (ikI a) (ikI b) = true) : a = b := by cases a <;> cases b <;> first | rfl | cases h
noncomputable def entB (m : List (BinOp × V × V × V)) (op : BinOp) (x y : V) : Option V :=
  @List.rec (BinOp × V × V × V) (fun _ => Option V) none (fun p _ ih => @Bool.rec (fun _ => Option V) ih (some p.2.2.2) (ifK (Nat.beq (opI op) (opI p.1)) (ifK (veq x p.2.1) (veq y p.2.2.1) false) false)) m
noncomputable def entW (m : List (IntKind × V × V)) (k : IntKind) (x : V) : Option V :=
  @List.rec (IntKind × V × V) (fun _ => Option V) none (fun p _ ih => @Bool.rec (fun _ => Option V) ih (some p.2.2) (ifK (Nat.beq (ikI k) (ikI p.1)) (veq x p.2.1) false)) m
noncomputable def entE (m : List (List Nat × V × V × Bool)) (ks : List Nat) (x y : V) : Option Bool :=
  @List.rec (List Nat × V × V × Bool) (fun _ => Option Bool) none (fun p _ ih => @Bool.rec (fun _ => Option Bool) ih (some p.2.2.2) (ifK (decide (ks = p.1)) (ifK (veq x p.2.1) (veq y p.2.2.1) false) false)) m
theorem ifK_t {a b : Bool} (h : ifK a b false = true) : a = true ∧ b = true := by cases a <;> cases b <;> first | exact ⟨rfl, rfl⟩ | cases h
theorem entB_ok {σ : Int → V} : ∀ {m : List (BinOp × V × V × V)}, (∀ p ∈ m, binV p.1 (su σ p.2.1) (su σ p.2.2.1) = some (su σ p.2.2.2)) → ∀ op x y v, entB m op x y = some v → binV op (su σ x) (su σ y) = some (su σ v)
  | [], _, _, _, _, _, h => by cases h
  | p :: m, hm, op, x, y, v, h => by
    have h : @Bool.rec (fun _ => Option V) (entB m op x y) (some p.2.2.2) (ifK (Nat.beq (opI op) (opI p.1)) (ifK (veq x p.2.1) (veq y p.2.2.1) false) false) = some v := h
    cases hc : ifK (Nat.beq (opI op) (opI p.1)) (ifK (veq x p.2.1) (veq y p.2.2.1) false) false with
    | false => rw [hc] at h; exact entB_ok (fun q hq => hm q (List.mem_cons_of_mem _ hq)) op x y v h
    | true =>
      rw [hc] at h
      cases h
      obtain ⟨h1, h2⟩ := ifK_t hc
      obtain ⟨h2, h3⟩ := ifK_t h2
      rw [opI_inj h1, veq_sound _ _ h2, veq_sound _ _ h3]
      exact hm p (List.mem_cons_self ..)
theorem entW_ok {σ : Int → V} : ∀ {m : List (IntKind × V × V)}, (∀ p ∈ m, ∃ j n, su σ p.2.1 = .int j n ∧ su σ p.2.2 = .int p.1 (p.1.wrap n)) → ∀ k x v, entW m k x = some v → ∃ j n, su σ x = .int j n ∧ su σ v = .int k (k.wrap n)
  | [], _, _, _, _, h => by cases h
  | p :: m, hm, k, x, v, h => by
    have h : @Bool.rec (fun _ => Option V) (entW m k x) (some p.2.2) (ifK (Nat.beq (ikI k) (ikI p.1)) (veq x p.2.1) false) = some v := h
    cases hc : ifK (Nat.beq (ikI k) (ikI p.1)) (veq x p.2.1) false with
    | false => rw [hc] at h; exact entW_ok (fun q hq => hm q (List.mem_cons_of_mem _ hq)) k x v h
    | true =>
      rw [hc] at h
      cases h
      obtain ⟨h1, h2⟩ := ifK_t hc
      rw [ikI_inj h1, veq_sound _ _ h2]
      exact hm p (List.mem_cons_self ..)
theorem entE_ok {σ : Int → V} : ∀ {m : List (List Nat × V × V × Bool)}, (∀ p ∈ m, ∃ a b, su σ p.2.1 = .agg a ∧ su σ p.2.2.1 = .agg b ∧ eqL p.1 a b = some p.2.2.2) → ∀ ks x y b, entE m ks x y = some b → ∃ as bs, su σ x = .agg as ∧ su σ y = .agg bs ∧ eqL ks as bs = some b
  | [], _, _, _, _, _, h => by cases h
  | p :: m, hm, ks, x, y, v, h => by
    have h : @Bool.rec (fun _ => Option Bool) (entE m ks x y) (some p.2.2.2) (ifK (decide (ks = p.1)) (ifK (veq x p.2.1) (veq y p.2.2.1) false) false) = some v := h
    cases hc : ifK (decide (ks = p.1)) (ifK (veq x p.2.1) (veq y p.2.2.1) false) false with
    | false => rw [hc] at h; exact entE_ok (fun q hq => hm q (List.mem_cons_of_mem _ hq)) ks x y v h
    | true =>
      rw [hc] at h
      cases h
      obtain ⟨h1, h2⟩ := ifK_t hc
      obtain ⟨h2, h3⟩ := ifK_t h2
      rw [of_decide_eq_true h1, veq_sound _ _ h2, veq_sound _ _ h3]
      exact hm p (List.mem_cons_self ..)
noncomputable def orcS (b : List (BinOp × V × V × V)) (w : List (IntKind × V × V)) (e : List (List Nat × V × V × Bool)) : Orc := { B := entB b, W := entW w, E := entE e, K := fun _ _ => none }
theorem orcS_ok {T : Tab} {σ : Int → V} {b : List (BinOp × V × V × V)} {w : List (IntKind × V × V)} {e : List (List Nat × V × V × Bool)}
    (hb : ∀ p ∈ b, binV p.1 (su σ p.2.1) (su σ p.2.2.1) = some (su σ p.2.2.2)) (hw : ∀ p ∈ w, ∃ j n, su σ p.2.1 = .int j n ∧ su σ p.2.2 = .int p.1 (p.1.wrap n))
    (he : ∀ p ∈ e, ∃ x y, su σ p.2.1 = .agg x ∧ su σ p.2.2.1 = .agg y ∧ eqL p.1 x y = some p.2.2.2) : OrcOk T σ (orcS b w e) :=
  ⟨entB_ok hb, entW_ok hw, entE_ok he, fun _ _ _ _ h => by cases h⟩
/-- of symbols by one, of calls by another -/
noncomputable def orcM (S A : Orc) : Orc := { B := S.B, W := S.W, E := S.E, K := A.K }
theorem orcM_ok {T : Tab} {σ : Int → V} {S A : Orc} (hS : OrcOk T σ S) (hA : OrcOk T σ A) : OrcOk T σ (orcM S A) := ⟨hS.B, hS.W, hS.E, hA.K⟩
theorem bT {p : Prop} [Decidable p] (h : p) : (some (V.bool (decide p)) : Option V) = some (.bool true) := by rw [decide_eq_true h]
theorem bF {p : Prop} [Decidable p] (h : ¬ p) : (some (V.bool (decide p)) : Option V) = some (.bool false) := by rw [decide_eq_false h]
theorem beT {a b : Int} (h : a = b) : (some (V.bool (a == b)) : Option V) = some (.bool true) := by subst h; simp
theorem beF {a b : Int} (h : a ≠ b) : (some (V.bool (a == b)) : Option V) = some (.bool false) := by simp [h]
theorem bnT {a b : Int} (h : a ≠ b) : (some (V.bool (!(a == b))) : Option V) = some (.bool true) := by simp [h]
theorem bnF {a b : Int} (h : a = b) : (some (V.bool (!(a == b))) : Option V) = some (.bool false) := by subst h; simp
end Go.Vm
