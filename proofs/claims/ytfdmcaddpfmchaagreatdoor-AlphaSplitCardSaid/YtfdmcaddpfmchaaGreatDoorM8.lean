/-
  A part of a proof: the last text of the claim says what is proved, and under which conditions.
-/
import Derived.Test.YtfdmcaddpfmchaaGreatDoorM6
import Derived.Test.YtfdmcaddpfmchaaGreatDoorM7
set_option linter.unusedSimpArgs false
set_option linter.unusedVariables false
set_option linter.unnecessarySimpa false
/-
  The machine V: rows of texts, sorted, or each run of the same made one, among its routines; and words for printed proofs.
-/
namespace Go.Vm
open Go
def primR (K:FuncId→Option Bool) (p:Call):Call:=fun f av sg=>match K f with
 |some _=>rowX K f av sg
 |none=>p f av sg
theorem primR_q {K:FuncId→Option Bool} {p:Call} (hp:CallQ p):CallQ (primR K p):=by
 intro f av sg v sg' wd h
 unfold primR at h
 split at h
 ·exact rowX_q K f av sg v sg' wd h
 ·exact hp f av sg v sg' wd h
theorem primR_ok {KW:World→Prop} {P:Program} {K:FuncId→Option Bool} {p:Call} (hK:∀ f k,K f=some k→RowFn P k f) (hp:CallOk KW P p):CallOk KW P (primR K p):=by
 intro f av sg v sg' wd h G B w A hwr hA hR
 unfold primR at h
 split at h
 ·exact rowX_ok hK f av sg v sg' wd h G B w A hwr hA hR
 ·exact hp f av sg v sg' wd h G B w A hwr hA hR
theorem txtsR_su {σ:Int→V}:∀ ss:List (List UInt8),suL σ (ss.map V.str)=ss.map V.str
 | []=>rfl
 |s::ss=>by simp only[List.map_cons,suL,su,txtsR_su ss]
theorem suL_app {σ:Int→V} (l m:List V):suL σ (l++m)=suL σ l++suL σ m:=by simp only[suL_map,List.map_append]
theorem suG_set {σ:Int→V} (sg:List Fr) (d i:Nat) (b:Blk):suG σ (sg.modify d (·.set i b))=(suG σ sg).modify d (·.set i (suB σ b)):=by
 apply List.ext_getElem?
 intro j
 simp only[suG,suF,List.getElem?_map,List.getElem?_modify]
 cases sg[j]? with
 |none=>rfl
 |some f=>
  by_cases e:d=j
  ·simp only[e,if_true,Option.map_some];exact congrArg some (show(f.set i b).map (suB σ)=(f.map (suB σ)).set i (suB σ b) from List.map_set ..)
  ·simp[e]
theorem primR_su {σ:Int→V} {K:FuncId→Option Bool} {p:Call} (hp:CallS σ p p):CallS σ (primR K p) (primR K p):=by
 intro f av sg v sg' wd h
 unfold primR at h ⊢
 split at h
 case h_2=>exact hp f av sg v sg' wd h
 rename_i k hk
 show rowX K f (suL σ av) (suG σ sg)=_
 unfold rowX at h
 rw[hk] at h
 split at h
 case h_2=>cases h
 rename_i x1 x2 k' d i ver o len e1
 cases e1
 split at h
 case h_2=>cases h
 rename_i ver' z es hg
 obtain⟨hb,h1⟩:=bif_opt' h
 have hg':getB [] (suG σ sg) (d+1) i=some (.arr ver' z (suL σ es)):=by
  simp only[getB,suG,List.getElem?_map] at hg ⊢
  cases h1:sg[d]? with
  |none=>rw[h1] at hg;cases hg
  |some fr=>
   rw[h1] at hg
   simp only[Option.bind_some,Option.map_some,suF,List.getElem?_map] at hg ⊢
   rw[hg];rfl
 have hr:su σ (rowV k d i ver o 0)=rowV k d i ver o 0:=by cases k<;>rfl
 have hr':∀ n,su σ (rowV k d i ver o n)=rowV k d i ver o n:=by intro n;cases k<;>rfl
 show rowX K f [.bs (d+1) i ver o len] (suG σ sg)=_
 unfold rowX
 rw[hk]
 simp only[hg',suL_len,hb,cond_true]
 cases h0:Nat.beq len 0 with
 |true=>
  rw[h0] at h1
  cases h1
  rw[hr];rfl
 |false=>
  rw[h0] at h1
  obtain⟨ss,h2,h3⟩:=Option.map_eq_some_iff.1 h1
  cases h3
  have h4:strsOf (((suL σ es).drop o).take len)=some ss:=by
   have:=strsOf_inv h2
   rw[← suL_drop,← suL_take,this,txtsR_su,strsOf_map]
  simp only[cond_false,h4,Option.map_some,hr']
  show some (_,(suG σ sg).modify d (·.set i _),d+1)=some (_,suG σ (sg.modify d (·.set i _)),d+1)
  rw[suG_set]
  show _=some (_,(suG σ sg).modify d (·.set i (.arr ver z (suL σ _))),d+1)
  rw[suL_app,suL_app,suL_take,suL_drop,txtsR_su]
section
variable {T:Tab} {F:VF} {α:Type} {e:α→V × List Fr × Nat} {r:α} {c:Cf}
theorem clr {f:FuncId} {l:List V} {v:V} {fr:Fr} (hs:∃ wd,wd≤1∧T.call f l (c.s.fr::c.s.sg)=some (v,fr::c.s.sg,wd)) (h:Ans T F e r (setF c v { c.s with fr:=fr })) (hc:callA T.C c=some (f,l):=by kernel_rfl) (hr:inReg c=true:=by kernel_rfl):Ans T F e r c:=by
 obtain⟨wd,h1,h2⟩:=hs
 refine clw h2 ?_ hc hr
 have:behind c.s fr c.s.sg wd = { c.s with fr:=fr }:=by
  unfold behind
  rw[show wd-1=0 by omega,Nat.max_zero]
 rw[this];exact h
theorem row_call {K:FuncId→Option Bool} {f:FuncId} {k:Bool} {fr:Fr} {sg:List Fr} {i ver:Nat} {L:List (List UInt8)} {n:Nat} (hn:n=L.length) (hf:T.funs f=none) (hp:T.prim f=rowX K f) (hk:K f=some k) (hg:fr[i]? = some (.arr ver 1 (L.map V.str)))
  (hl:L.length<4611686018427387904):∃ wd,wd≤1∧T.call f [.bs 1 i ver 0 n] (fr::sg)=some (rowV k 0 i ver 0 (rowN k L),fr.set i (.arr ver 1 ((rowT k L).map V.str))::sg,wd):=by
 subst hn
 suffices h:∃ wd,wd≤1∧rowX K f [.bs 1 i ver 0 L.length] (fr::sg)=some (rowV k 0 i ver 0 (rowN k L),fr.set i (.arr ver 1 ((rowT k L).map V.str))::sg,wd) by
  obtain⟨wd,h1,h2⟩:=h
  exact⟨wd,h1,call_prim hf (by rw[hp];exact h2)⟩
 unfold rowX
 have hg':getB [] (fr::sg) (0+1) i=some (.arr ver 1 (L.map V.str)):=hg
 have h1:(Nat.beq 1 1&&(Nat.beq ver ver&&(Nat.ble (0+L.length) (L.map V.str).length&&Nat.blt L.length 4611686018427387904)))=true:=by
  simp only[Nat.beq_refl,Bool.true_and,List.length_map,Nat.zero_add,Bool.and_eq_true]
  exact⟨Nat.ble_eq_true_of_le (Nat.le_refl _),by simpa[Nat.blt_eq] using hl⟩
 simp only[hk,hg',h1,cond_true]
 cases h0:Nat.beq L.length 0 with
 |true=>
  have:L = []:=List.eq_nil_of_length_eq_zero (Nat.eq_of_beq_eq_true h0)
  subst this
  refine⟨0,Nat.zero_le _,?_⟩
  have e1:fr.set i (Blk.arr ver 1 (([]:List (List UInt8)).map V.str))=fr:=by
   apply List.ext_getElem?
   intro j
   by_cases e:i=j
   ·subst e;rw[List.getElem?_set_self (List.getElem?_eq_some_iff.1 hg).1,hg]
   ·rw[List.getElem?_set_ne e]
  cases k
  ·have:rowT false [] = []:=rfl
   rw[this,e1];rfl
  ·have:rowT true [] = []:=rfl
   rw[this,e1];rfl
 |false=>
  refine⟨1,Nat.le_refl _,?_⟩
  have h2:((L.map V.str).drop 0).take L.length=L.map V.str:=by rw[List.drop_zero,List.take_of_length_le (by simp)]
  simp only[cond_false,h2,strsOf_map,Option.map_some,List.take_zero,List.nil_append,Nat.zero_add]
  have h3:(L.map V.str).drop L.length = []:=by simp
  rw[h3,List.append_nil]
  rfl
def rwV (C:Cfg) (c:Cf):Nat:=match callA C c with
 |some (_,[.bs _ _ ver _ _])=>ver
 |_=>0
theorem rwc {K:FuncId→Option Bool} {f:FuncId} {k:Bool} {i n:Nat} {L:List (List UInt8)} {r:α} (hn:n=L.length) (hf:T.funs f=none) (hp:T.prim f=rowX K f) (hk:K f=some k) (hl:L.length<4611686018427387904)
  (h:Ans T F e r (setF c (rowV k 0 i (rwV T.C c) 0 (rowN k L)) { c.s with fr:=c.s.fr.set i (.arr (rwV T.C c) 1 ((rowT k L).map V.str)) }))
  (hg:c.s.fr[i]? = some (.arr (rwV T.C c) 1 (L.map V.str)):=by kernel_rfl) (hc:callA T.C c=some (f,[.bs 1 i (rwV T.C c) 0 n]):=by kernel_rfl) (hr:inReg c=true:=by kernel_rfl):Ans T F e r c:=
 clr (row_call hn hf hp hk hg hl) h hc hr
end
end Go.Vm
