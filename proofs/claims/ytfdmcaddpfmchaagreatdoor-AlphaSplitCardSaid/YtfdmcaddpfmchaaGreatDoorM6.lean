/-
  A part of a proof: the last text of the claim says what is proved, and under which conditions.
-/
import Derived.Test.YtfdmcaddpfmchaaGreatDoorM5
import Derived.Lib.SlicesCompact
import Derived.Sort.Grow
import Derived.Lib.RowBridge
set_option linter.unusedSimpArgs false
set_option linter.unusedVariables false
set_option linter.unnecessarySimpa false
/-
  The machine V: rows of texts, sorted, or each run of the same made one: Go's own routines, by the library's contracts of them.
-/
namespace Go.Vm
open Go Go.RowKit Go.Sort Go.Proofs
def strsOf:List V→Option (List (List UInt8))
 | []=>some []
 | .str s::vs=>(strsOf vs).map (s :: ·)
 |_=>none
theorem strsOf_map:∀ ss:List (List UInt8),strsOf (ss.map V.str)=some ss
 | []=>rfl
 |s::ss=>by simp only[List.map_cons,strsOf,strsOf_map ss,Option.map_some]
theorem strsOf_inv:∀ {vs:List V} {ss:List (List UInt8)},strsOf vs=some ss→vs=ss.map V.str
 | [],ss,h=>by cases h;rfl
 |v::vs,ss,h=>by
  cases v<;>first|cases h|skip
  rename_i s
  obtain⟨r,h1,rfl⟩:=Option.map_eq_some_iff.1 (show(strsOf vs).map (s :: ·)=some ss from h)
  rw[strsOf_inv h1];rfl
def cmpT:List (List UInt8)→List (List UInt8)
 | []=>[]
 |x::l=>match l with
  | []=>[x]
  |y::_=>bif x == y then cmpT l else x::cmpT l
theorem cmpT_two (x y:List UInt8) (l:List (List UInt8)):cmpT (x::y::l)=bif x == y then cmpT (y::l) else x::cmpT (y::l):=rfl
theorem cmpT_snoc (x:List UInt8):∀ l,cmpT (l ++ [x])=cmpT l++(if l.getLast? = some x then [] else [x])
 | []=>rfl
 | [y]=>by
  show cmpT [y,x]=_
  rw[cmpT_two]
  by_cases h:y=x
  ·subst h;simp[cmpT]
  ·have:(y == x)=false:=by simpa using h
   simp[this,cmpT,h]
 |y::z::l=>by
  have ih:=cmpT_snoc x (z::l)
  show cmpT (y::z::(l ++ [x]))=_
  rw[cmpT_two,cmpT_two]
  have e:cmpT (z::(l ++ [x]))=cmpT (z::l ++ [x]):=rfl
  rw[e,ih,List.getLast?_cons_cons]
  cases y == z<;>rfl
theorem cmpT_upTo (l:List (List UInt8)):∀ m,m≤l.length→Lib.compactUpTo l.toArray m=cmpT (l.take m)
 |0,_=>rfl
 |m+1,h=>by
  have hm:m<l.length:=by omega
  rw[Lib.compactUpTo_succ,cmpT_upTo l m (by omega),List.take_succ_eq_append_getElem hm,cmpT_snoc]
  have e1:l.toArray[m]! = l[m]:=by rw[getElem!_pos _ _ (by simpa using hm)];simp
  congr 1
  cases m with
  |zero=>simp[Lib.keeps,e1]
  |succ k=>
   have hk:k<l.length:=by omega
   have e2:l.toArray[k]! = l[k]:=by rw[getElem!_pos _ _ (by simpa using hk)];simp
   have e3:(l.take (k+1)).getLast? = some l[k]:=by
    rw[List.take_succ_eq_append_getElem hk,List.getLast?_concat]
   rw[e3,e1]
   by_cases hx:l[k]=l[k+1]
   ·rw[Lib.keeps_neg (by omega) (by rw[e1,Nat.add_sub_cancel,e2];exact hx.symm)]
    simp[hx]
   ·rw[Lib.keeps_pos (by rw[e1,Nat.add_sub_cancel,e2];exact fun h=>hx h.symm)]
    simp[hx]
theorem cmpT_eq (l:List (List UInt8)):cmpT l=Lib.compact l:=by
 have:=cmpT_upTo l l.length (Nat.le_refl _)
 rw[List.take_length] at this
 exact this.symm
theorem cmpT_le (l:List (List UInt8)):(cmpT l).length≤l.length:=by rw[cmpT_eq];exact Lib.compact_length_le l
def rowT:Bool→List (List UInt8)→List (List UInt8)
 |false,ss=>sortT ss
 |true,ss=>cmpT ss++List.replicate (ss.length-(cmpT ss).length) []
def rowN:Bool→List (List UInt8)→Nat
 |false,_=>0
 |true,ss=>(cmpT ss).length
def rowR (k:Bool) (a:Option Addr) (n cap:Nat):Value:=match k with
 |false=>.tuple #[]
 |true=>.slice a n cap
def rowV (k:Bool) (d i ver o n:Nat):V:=match k with
 |false=>.tup []
 |true=>.bs d i ver o n
structure RowFn (P:Program) (k:Bool) (f:FuncId):Prop where
 enter:∀ (A:Array Value) (w:World),(callFunc f A).run P w = .ok (.enter f A) w
 some:∀ (blk off cap:Nat) (ss:List (List UInt8)) (w:World),Holds encStr w blk off ss.toArray→blk<w.heap.size→0<ss.length→ss.length<4611686018427387904→ss.length≤cap →
  Calls P f #[.slice (some ⟨blk,off,none⟩) ss.length cap] w fun e w'=>e = .returned (rowR k (some ⟨blk,off,none⟩) (rowN k ss) cap)∧∃ n os,w'=grow (putRow encStr (Go.Sort.ahead w n) blk off (rowT k ss).toArray) os
 none:∀ (a:Option Addr) (cap:Nat) (w:World),Calls P f #[.slice a 0 cap] w fun e w'=>e = .returned (rowR k a 0 cap)∧w'=w
theorem rowT_len (k:Bool) (ss:List (List UInt8)):(rowT k ss).length=ss.length:=by
 cases k with
 |false=>exact(sortT_perm ss).length_eq
 |true=>
  have:=cmpT_le ss
  simp only[rowT,List.length_append,List.length_replicate];omega
theorem rowN_le (k:Bool) (ss:List (List UInt8)):rowN k ss≤ss.length:=by
 cases k with
 |false=>exact Nat.zero_le _
 |true=>exact cmpT_le ss
def rowX (K:FuncId→Option Bool):Call:=fun f av sg=>match K f,av with
 |some k,[.bs (d+1) i ver o len]=>match getB [] sg (d+1) i with
  |some (.arr ver' z es)=>bif Nat.beq z 1&&(Nat.beq ver ver'&&(Nat.ble (o+len) es.length&&Nat.blt len 4611686018427387904)) then
   (bif Nat.beq len 0 then some (rowV k d i ver o 0,sg,0) else
   (strsOf ((es.drop o).take len)).map fun ss=>(rowV k d i ver o (rowN k ss),(setB [] sg (d+1) i (.arr ver z (es.take o++(rowT k ss).map V.str++es.drop (o+len)))).2,d+1)) else none
  |_=>none
 |_,_=>none
theorem mapAt_mapBlock (w:World) (b:Nat) (f:Array Value→Array Value) (c:Nat):mapAt (mapBlock w b f) c=mapAt w c:=by
 unfold mapAt mapBlock
 simp only[Array.getElem?_modify]
 by_cases h:b=c
 ·rw[if_pos h]
  cases w.heap[c]? with
  |none=>rfl
  |some o=>cases o<;>rfl
 ·rw[if_neg h]
theorem mapAt_grow (w:World) (os:Array Obj) {c:Nat} (h:c<w.heap.size):mapAt (grow w os) c=mapAt w c:=by
 unfold mapAt
 rw[heap_grow_old w os h]
theorem heap_mapBlock_ne (w:World) (b:Nat) (f:Array Value→Array Value) {c:Nat} (h:c≠b):(mapBlock w b f).heap[c]? = w.heap[c]?:=by
 unfold mapBlock
 simp only[Array.getElem?_modify]
 rw[if_neg (fun e=>h e.symm)]
theorem rowX_q (K:FuncId→Option Bool):CallQ (rowX K):=by
 intro f av sg v sg' wd h
 unfold rowX at h
 split at h
 ·rename_i k d i ver o len _
  split at h
  ·rename_i ver' z es hg
   obtain⟨_,h1⟩:=bif_opt' h
   cases h0:Nat.beq len 0 with
   |true=>
    rw[h0] at h1
    cases h1
    exact⟨rfl,fun _ _=>rfl⟩
   |false=>
    rw[h0] at h1
    obtain⟨ss,_,h2⟩:=Option.map_eq_some_iff.1 h1
    obtain⟨rfl,h3⟩:=Prod.mk.inj h2
    obtain⟨rfl,rfl⟩:=Prod.mk.inj h3
    refine⟨by rw[setB_len],fun d' hd'=>?_⟩
    show(sg.modify d _)[d']? = sg[d']?
    rw[List.getElem?_modify]
    have:¬ d=d':=by omega
    simp[this]
  ·cases h
 ·cases h
theorem encStr_eq (s:ByteArray):encStr s.data.toList = .string s:=by
 obtain⟨a⟩:=s
 simp[encStr]
theorem rowX_ok {KW:World→Prop} {P:Program} {K:FuncId→Option Bool} (hS:∀ f k,K f=some k→RowFn P k f):CallOk KW P (rowX K):=by
 intro f av sg v sg' wd h G B w A hwr hA hR
 unfold rowX at h
 split at h
 case h_2=>cases h
 rename_i k d i ver o len hf
 split at h
 case h_2=>cases h
 rename_i ver' z es hg
 obtain⟨hb,h1⟩:=bif_opt' h
 clear h
 simp only[Bool.and_eq_true] at hb
 obtain⟨hz,hv,hol,hl1⟩:=hb
 have hol:=Nat.le_of_ble_eq_true hol
 obtain⟨x,rfl⟩:∃ x,A = #[x]:=by
  obtain⟨l⟩:=A
  match l,hA with
  | [x],_=>exact⟨x,rfl⟩
 have h0:=hR 0 _ x rfl rfl
 obtain⟨ad,cp,loc,rfl,hd,hp,hver,hcp,ha,hsp,hloc,hnn⟩:=h0.bs_inv
 obtain⟨hEn,hSo,hNo⟩:=hS f k hf
 have hsub:sg.length-1-d=sg.length-(d+1):=by omega
 have hres:∀ (G':Gh) (n:Nat) (loc':Loc),n≤len→G'.ph (sg.length-(d+1)) i=some loc'→loc'=loc→VR G'.im G'.ph (sg.length-1) (rowV k d i ver o n) (rowR k ad n cp):=by
  intro G' n loc' hn hp' hll
  subst hll
  cases k with
  |false=>exact .tup [] #[] rfl (fun j x y hx=>by simp at hx)
  |true=>exact .bs d i ver o n ad cp loc' (by omega) (by rw[hsub];exact hp') hver (by omega) ha hsp hloc hnn
 cases hlz:Nat.beq len 0 with
 |true=>
  rw[hlz] at h1
  cases h1
  have hlz:=Nat.eq_of_beq_eq_true hlz
  subst hlz
  refine .inl ⟨hEn _ _,(hNo ad cp w).mono fun e w' he=>?_⟩
  obtain⟨rfl,rfl⟩:=he
  exact⟨G,hwr,ImLe.refl _,PhLt.refl _ _,rfl,hres G 0 loc (Nat.le_refl _) hp rfl,Below.refl _ _⟩
 |false=>
 rw[hlz] at h1
 obtain⟨ss,hss,h2⟩:=Option.map_eq_some_iff.1 h1
 clear h1
 have hl0:0<len:=by
  rcases Nat.eq_zero_or_pos len with h|h
  ·subst h;cases hlz
  ·exact h
 have hz:=Nat.eq_of_beq_eq_true hz
 have hv:=Nat.eq_of_beq_eq_true hv
 have hl1:len<4611686018427387904:=by simpa[Nat.blt_eq] using hl1
 subst hz;subst hv
 obtain⟨rfl,h3⟩:=Prod.mk.inj h2
 obtain⟨rfl,rfl⟩:=Prod.mk.inj h3
 clear h2 h3
 have hsl:=strsOf_inv hss
 have hsz:ss.length=len:=by
  have:=congrArg List.length hsl
  simp at this
  omega
 have hbr:=hwr.bl (d+1) i _ loc hd hg hp
 cases loc with
 |arrN v=>
  obtain⟨rfl,he⟩:ver=v∧es = []:=by
   obtain⟨h1,h2⟩:=hbr
   exact⟨by simp_all,by simp_all⟩
  subst he
  simp at hol
  omega
 |arr v c o0 sz cap=>
  obtain⟨h1,h2,hcap,hown,h5⟩:=hbr
  subst h1;subst h2
  rcases hloc _ _ _ _ rfl with hc0|⟨had,hcp'⟩
  ·omega
  subst had
  rw[Nat.mul_one] at *
  have hcell:∀ j,j<len→w.cell? ⟨c,o0+o+j,none⟩=some (encStr (ss.toArray)[j]!):=by
   intro j hj
   have e1:((es.drop o).take len)[j]? = some (V.str (ss[j]'(by omega))):=by
    rw[hsl,List.getElem?_map,List.getElem?_eq_getElem (by omega)];rfl
   rw[List.getElem?_take,if_pos hj,List.getElem?_drop] at e1
   obtain⟨_,g⟩:=h5 _ _ e1
   obtain⟨cv,g1,g2⟩:=g 0 (V.str (ss[j]'(by omega))) rfl
   obtain⟨s,hs1,rfl⟩:∃ s:ByteArray,ss[j]'(by omega)=s.data.toList∧cv = .string s:=by
    cases g2 with
    |str s l h=>exact⟨s,h,rfl⟩
   rw[Nat.mul_one,Nat.add_zero,← Nat.add_assoc] at g1
   rw[g1]
   have:(ss.toArray)[j]! = ss[j]'(by omega):=by
    rw[getElem!_pos _ _ (by simp;omega)];simp
   rw[this,hs1,encStr_eq]
  have hfz:∀ j,j<len→w.frozen? ⟨c,o0+o+j,none⟩=false:=by
   intro j hj
   have:=(hown (o+j) (by omega)).2.1
   rwa [← Nat.add_assoc] at this
  have hH:Holds encStr w c (o0+o) ss.toArray:=fun j hj=>by
   have hj':j<len:=by simpa[hsz] using hj
   exact⟨hcell j hj',hfz j hj'⟩
  have how:∀ k,k<len→G.ow c (o0+o+k)=some (sg.length-(d+1),i):=fun k hk=>by
   have:=(hown (o+k) (by omega)).1
   rwa [← Nat.add_assoc] at this
  have hcb:=hwr.ob c _ _ (how 0 hl0)
  have hcall:=hSo c (o0+o) cp ss w hH hcb.2 (by omega) (by omega) (by omega)
  rw[hsz] at hcall
  refine .inl ⟨hEn _ _,hcall.mono fun e w' he=>?_⟩
  obtain⟨rfl,n,os,rfl⟩:=he
  let ss':=rowT k ss
  have hs'len:ss'.length=len:=by rw[← hsz];exact rowT_len k ss
  have hs'sz:ss'.toArray.size=ss.toArray.size:=by simp[hs'len,hsz]
  let w1:=putRow encStr (Go.Sort.ahead w n) c (o0+o) ss'.toArray
  have hw1s:w1.heap.size=w.heap.size:=by simp[w1]
  have hold:∀ c' k,(c'<w.heap.size)→(c'≠c∨k<o0+o∨o0+o+len≤k)→(grow w1 os).cell? ⟨c',k,none⟩=w.cell? ⟨c',k,none⟩:=by
   intro c' k hc' hn
   rw[cell?_grow _ _ _ (by rw[hw1s];exact hc')]
   rw[cell?_putRow_other encStr _ _ _ _ _ (by simpa[hs'len] using hn)]
   rfl
  have hnew:∀ j,j<len→(grow w1 os).cell? ⟨c,o0+o+j,none⟩=some (encStr (ss'.toArray)[j]!):=by
   intro j hj
   rw[cell?_grow _ _ _ (by rw[hw1s];exact hcb.2)]
   exact cell?_putRow encStr (Go.Sort.ahead w n) c (o0+o) ss.toArray ss'.toArray (holds_ahead encStr w n c (o0+o) _ hH) hs'sz j (by simpa[hs'len] using hj)
  have hfz':∀ c' k,c'<w.heap.size→(grow w1 os).frozen? ⟨c',k,none⟩=w.frozen? ⟨c',k,none⟩:=by
   intro c' k hc'
   rw[frozen?_grow _ _ _ (by rw[hw1s];exact hc'),frozen?_putRow]
   rfl
  have hmp:∀ c',c'<w.heap.size→mapAt (grow w1 os) c'=mapAt w c':=by
   intro c' hc'
   rw[mapAt_grow _ _ (by rw[hw1s];exact hc')]
   exact mapAt_mapBlock (Go.Sort.ahead w n) c _ c'
  have hbe:Below B.n w (grow w1 os):=by
   refine⟨rfl,rfl,rfl,by simp[hw1s],fun k hk=>?_⟩
   have hk':k<w.heap.size:=Nat.lt_of_lt_of_le hk hwr.hB
   rw[heap_grow_old _ _ (by rw[hw1s];exact hk')]
   exact heap_mapBlock_ne (Go.Sort.ahead w n) c _ (by have:=hcb.1;omega)
  have m:Mv G G B w (grow w1 os) (sg.length-(d+1)) i:=by
   refine⟨by simp[hw1s],ImLe.refl _,fun c' k x hx=>?_,fun c' k o' ho=>⟨(hwr.ob _ _ _ ho).1,by have:=(hwr.ob _ _ _ ho).2;simp[hw1s];omega⟩,fun c' k l' i' hne ho=>?_,fun _ _ _=>rfl,hbe⟩
   ·have hx1:=hwr.im _ _ _ hx
    have hc':=World.block_lt_of_cell? w _ hx1
    refine⟨?_,hwr.io _ _ _ hx⟩
    rw[hold c' k hc' ?_]
    ·exact hx1
    ·by_cases hcc:c'=c
     ·subst hcc
      by_cases h1:k<o0+o
      ·exact .inr (.inl h1)
      ·by_cases h2:o0+o+len≤k
       ·exact .inr (.inr h2)
       ·have:=how (k-(o0+o)) (by omega)
        rw[show o0+o+(k-(o0+o))=k by omega] at this
        rw[hwr.io _ _ _ hx] at this;cases this
     ·exact .inl hcc
   ·have hc':=(hwr.ob _ _ _ ho).2
    refine⟨ho,hold c' k hc' ?_,hfz' c' k hc',hmp c' hc'⟩
    by_cases hcc:c'=c
    ·subst hcc
     by_cases h1:k<o0+o
     ·exact .inr (.inl h1)
     ·by_cases h2:o0+o+len≤k
      ·exact .inr (.inr h2)
      ·have:=how (k-(o0+o)) (by omega)
       rw[show o0+o+(k-(o0+o))=k by omega,ho] at this
       exact absurd (Option.some.inj this) hne
    ·exact .inl hcc
  have hnl:(es.take o++ss'.map V.str++es.drop (o+len)).length=es.length:=by simp[hs'len];omega
  have hget:∀ (j:Nat) (e:V),(es.take o++ss'.map V.str++es.drop (o+len))[j]? = some e→(¬ (o≤j∧j<o+len)∧es[j]? = some e)∨((o≤j∧j<o+len)∧∃ s,ss'[j-o]? = some s∧e = .str s):=by
   intro j e he
   by_cases h1:j<o
   ·rw[List.append_assoc,List.getElem?_append_left (by simp;omega),List.getElem?_take,if_pos h1] at he
    exact .inl ⟨by omega,he⟩
   ·by_cases h2:j<o+len
    ·rw[List.append_assoc,List.getElem?_append_right (by simp;omega),List.getElem?_append_left (by simp[hs'len];omega)] at he
     have e2:j-(es.take o).length=j-o:=by simp;omega
     rw[e2,List.getElem?_map] at he
     obtain⟨s,hs1,rfl⟩:=Option.map_eq_some_iff.1 he
     exact .inr ⟨by omega,s,hs1,rfl⟩
    ·rw[List.getElem?_append_right (by simp[hs'len];omega),List.getElem?_drop] at he
     have e2:o+len+(j-(es.take o++ss'.map V.str).length)=j:=by simp[hs'len];omega
     rw[e2] at he
     exact .inl ⟨by omega,he⟩
  obtain⟨hw,up⟩:=hwr.upd (.arr ver 1 (es.take o++ss'.map V.str++es.drop (o+len))) (.arr ver c o0 1 cap) hd hg hp (LocLe.refl _) m hp (by
   refine⟨rfl,rfl,by rw[hnl];exact hcap,fun k hk=>?_,fun j e he=>?_⟩
   ·obtain⟨q1,q2,u,q3⟩:=hown k (by omega)
    have hcs:=hcb.2
    refine⟨q1,by rw[hfz' _ _ hcs];exact q2,?_⟩
    by_cases hin:o≤k∧k<o+len
    ·have:=hnew (k-o) (by omega)
     rw[show o0+o+(k-o)=o0+k by omega] at this
     exact⟨_,this⟩
    ·exact⟨u,by rw[hold _ _ hcs (by omega)];exact q3⟩
   ·rcases hget j e he with⟨hno,hes⟩|⟨hin,s,hs1,rfl⟩
    ·obtain⟨g1,g2⟩:=h5 j e hes
     refine⟨g1,fun q x hx=>?_⟩
     obtain⟨cv,g3,g4⟩:=g2 q x hx
     have hq:q<1:=by rw[← g1];exact(List.getElem?_eq_some_iff.1 hx).1
     exact⟨cv,by rw[hold _ _ hcb.2 (by omega)];exact g3,g4⟩
    ·refine⟨rfl,fun q x hx=>?_⟩
     cases q with
     |succ q=>cases hx
     |zero=>
      cases hx
      have:=hnew (j-o) (by omega)
      rw[show o0+o+(j-o)=o0+(j*1+0) by omega] at this
      have e3:(ss'.toArray)[j-o]! = s:=by
       have:=(List.getElem?_eq_some_iff.1 hs1)
       obtain⟨hlt,e⟩:=this
       rw[getElem!_pos _ _ (by simpa using hlt)]
       simpa using e
      rw[e3] at this
      exact⟨_,this,.str _ _ rfl⟩)
  have hset:(setB [] sg (d+1) i (Blk.arr ver 1 (es.take o++ss'.map V.str++es.drop (o+len)))).1 = []:=rfl
  rw[hset] at hw
  exact⟨G,hw,ImLe.refl _,PhLt.refl _ _,by rw[setB_len],hres G (rowN k ss) _ (by rw[← hsz];exact rowN_le k ss) hp rfl,hbe⟩
 |rsv z=>exact(BR_rsvA hbr hver).elim
 |_=>exact hbr.elim
end Go.Vm
