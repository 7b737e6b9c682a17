/-
  A part of a proof: the last text of the claim says what is proved, and under which conditions.
-/
import Derived.Test.YtfdmcaddpfmchaaGreatDoorM3
import Derived.Test.YtfdmcaddpfmchaaGreatDoorM4
import Derived.Lib.RowBridge
set_option linter.unusedSimpArgs false
set_option linter.unusedVariables false
set_option linter.unnecessarySimpa false
/-
  The machine V: slices.Sorted(slices.Values(l)) at texts, as a routine.
-/
namespace Go.Vm
open Go Go.RowKit Go.Sort Go.Proofs
def insT (x:List UInt8):List (List UInt8)→List (List UInt8)
 | []=>[x]
 |y::ys=>bif decide (x≤y) then x::y::ys else y::insT x ys
def sortT:List (List UInt8)→List (List UInt8)
 | []=>[]
 |x::xs=>insT x (sortT xs)
theorem insT_perm (x:List UInt8):∀ l,(insT x l).Perm (x::l)
 | []=>.refl _
 |y::ys=>by
  unfold insT
  cases decide (x≤y) with
  |true=>exact .refl _
  |false=>exact((insT_perm x ys).cons y).trans (.swap x y ys)
theorem sortT_perm:∀ l,(sortT l).Perm l
 | []=>.refl _
 |x::xs=>(insT_perm x _).trans ((sortT_perm xs).cons x)
theorem insT_sorted (x:List UInt8):∀ l:List (List UInt8),l.Pairwise (fun a b=>a≤b)→(insT x l).Pairwise (fun a b=>a≤b)
 | [],_=>by simp[insT]
 |y::ys,h=>by
  obtain⟨h1,h2⟩:=List.pairwise_cons.1 h
  unfold insT
  by_cases hxy:x≤y
  ·rw[decide_eq_true hxy]
   refine List.pairwise_cons.2 ⟨fun z hz=>?_,h⟩
   rcases List.mem_cons.1 hz with rfl|hz
   ·exact hxy
   ·exact List.le_trans hxy (h1 z hz)
  ·rw[decide_eq_false hxy]
   have hyx:y≤x:=(List.le_total x y).resolve_left hxy
   refine List.pairwise_cons.2 ⟨fun z hz=>?_,insT_sorted x ys h2⟩
   rcases List.mem_cons.1 ((insT_perm x ys).mem_iff.1 hz) with rfl|hz
   ·exact hyx
   ·exact h1 z hz
theorem sortT_sorted:∀ l,(sortT l).Pairwise (fun a b=>a≤b)
 | []=>.nil
 |x::xs=>insT_sorted x _ (sortT_sorted xs)
theorem sortT_eq (l:List (List UInt8)):sortT l=l.mergeSort fun x y=>decide (x≤y):=by
 refine List.Perm.eq_of_pairwise (le:=fun a b:List UInt8=>a≤b) (fun a b _ _ h1 h2=>List.le_antisymm h1 h2) (sortT_sorted l) ?_ ((sortT_perm l).trans (List.mergeSort_perm l _).symm)
 have:=List.pairwise_mergeSort (le:=fun x y:List UInt8=>decide (x≤y)) (fun a b c h1 h2=>by simp only[decide_eq_true_eq] at *;exact List.le_trans h1 h2) (fun a b=>by simp only[Bool.or_eq_true,decide_eq_true_eq];exact List.le_total a b) l
 exact this.imp fun h=>by simpa using h
structure SrtFn (P:Program) (f g:FuncId):Prop where
 enter:∀ (A:Array Value) (w:World),(callFunc f A).run P w = .ok (.enter f A) w
 tells:∀ (Bs Bo:Nat) (sv:Value) (zs:List (List UInt8)) (w:World),zs.length≤lim→Bs<w.heap.size→w.cell? ⟨Bs,Bo,none⟩=some sv →
  ((∃ a cap,sv = .slice a 0 cap∧zs = [])∨∃ b off cap,sv = .slice (some ⟨b,off,none⟩) zs.length cap∧b<w.heap.size∧∀ j,j<zs.length→w.cell? ⟨b,off+j,none⟩=some (encStr (zs[j]?.getD []))) →
  Calls P f #[.func (.func g) #[] #[.pointer (some ⟨Bs,Bo,none⟩)]] w fun e w'=>∃ v,e = .returned v∧Below w.heap.size w w' ∧
   ((v = .slice none 0 0∧zs = [])∨∃ gb cap,v = .slice (some ⟨gb,0,none⟩) zs.length cap∧w.heap.size≤gb∧zs.length≤cap∧∀ j,j<zs.length→w'.cell? ⟨gb,j,none⟩=some (encStr ((sortT zs)[j]?.getD [])))
theorem WR.know {G:Gh} {KW:World→Prop} {B:Bd KW} {fr:Fr} {sg:List Fr} {w:World} (h:WR G B fr sg w) {c:Nat} (hf:(∀ k,G.im c k=none)∧∀ k,G.ow c k=none) (f:Nat→Option Value) (hc:∀ k x,f k=some x→w.cell? ⟨c,k,none⟩=some x) :
  WR { G with im:=fun c' k=>if c'=c then f k else G.im c' k } B fr sg w∧ImLe G.im (fun c' k=>if c'=c then f k else G.im c' k):=by
 have him:ImLe G.im (fun c' k=>if c'=c then f k else G.im c' k):=by
  intro c' k x hx
  by_cases e:c'=c
  ·subst e;rw[hf.1 k] at hx;cases hx
  ·show(if c'=c then f k else G.im c' k)=some x
   rw[if_neg e];exact hx
 refine⟨⟨fun c' k x hx=>?_,fun c' k x hx=>?_,h.ob,fun d i b loc hd hg hl=>?_,h.dm,h.hB,h.kn⟩,him⟩
 ·by_cases e:c'=c
  ·subst e
   have hx':f k=some x:=by simpa using hx
   exact hc k x hx'
  ·have hx':G.im c' k=some x:=by simpa[e] using hx
   exact h.im c' k x hx'
 ·by_cases e:c'=c
  ·subst e;exact hf.2 k
  ·have hx':G.im c' k=some x:=by simpa[e] using hx
   exact h.io c' k x hx'
 ·exact(h.bl d i b loc hd hg hl).keep him (PhLe.refl _ _) fun c k ho=>⟨ho,rfl,Fz.refl _ _ _⟩
end Go.Vm
