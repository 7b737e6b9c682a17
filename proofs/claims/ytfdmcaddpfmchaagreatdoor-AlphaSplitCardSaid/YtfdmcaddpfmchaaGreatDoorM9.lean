/-
  A part of a proof: the last text of the claim says what is proved, and under which conditions.
-/
import Derived.Test.YtfdmcaddpfmchaaGreatDoorM3
import Derived.ChangeArms
import Derived.ChangeShapes
import GoSem.ClaimJoined
import Derived.Test.YtfdmcaddpfmchaaGreatDoorM0
import Derived.Test.YtfdmcaddpfmchaaGreatDoorM7
import Derived.Lib.Bytealg
import Derived.Test.YtfdmcaddpfmchaaGreatDoorM4
import Derived.KernelRfl
set_option linter.unusedSimpArgs false
set_option linter.unusedVariables false
set_option linter.unnecessarySimpa false
/-
  The machine V: what comes in from outside. An argument that reads as data is a value of no place, of its type's shape.
-/
namespace Go.Vm
open Go Go.RowKit Go.ChangeShapes Go.WideShapes
inductive Sh where
 |int (k:IntKind)
 |bool
 |str
 |sl (z:Nat) (e:Sh)
 |st (fs:List Sh)
def lenB:Nat:=140737488351232
mutual
def Sh.n:Sh→Nat
 | .st fs=>Sh.nL fs
 | .int _ | .bool | .str | .sl _ _=>1
def Sh.nL:List Sh→Nat
 | []=>0
 |s::l=>s.n+Sh.nL l
end
def pack:Sh→List V→V
 | .st _,cs=>.agg cs
 |_,[v]=>v
 |_,_=>.und
mutual
def HasC:Sh→List V→Prop
 | .int k,cs=>∃ n,cs = [.int k n]∧(Lit.int k n).wf=true
 | .bool,cs=>∃ b,cs = [.bool b]
 | .str,cs=>∃ s:List UInt8,cs = [.str s]∧s.length≤lenB
 | .sl z e,cs=>∃ css:List (List V),cs = [.sl .no z (css.map (pack e))]∧css.length≤lenB∧∀ c∈css,HasC e c
 | .st fs,cs=>HasL fs cs
def HasL:List Sh→List V→Prop
 | [],cs=>cs = []
 |s::l,cs=>∃ a b,cs=a++b∧HasC s a∧HasL l b
end
mutual
def fits (P:Program):Sh→TypeId→Bool
 | .int k,t=>match P.underlying t with
  |some (.int j)=>j == k&&Nat.beq (P.cellsOf t) 1
  |_=>false
 | .bool,t=>match P.underlying t with
  |some .bool=>Nat.beq (P.cellsOf t) 1
  |_=>false
 | .str,t=>match P.underlying t with
  |some .string=>Nat.beq (P.cellsOf t) 1
  |_=>false
 | .sl z e,t=>match P.underlying t with
  |some (.slice u)=>Nat.beq (P.cellsOf t) 1&&(Nat.beq (P.cellsOf u) z&&(Nat.beq e.n z&&(Nat.blt 0 (P.bytesOf u)&&(Nat.blt 0 z&&fits P e u))))
  |_=>false
 | .st fs,t=>match P.underlying t with
  |some (.struct fds)=>Nat.beq (P.cellsOf t) (Sh.nL fs)&&fitsL P fs fds.toList 0
  |_=>false
def fitsL (P:Program):List Sh→List Field→Nat→Bool
 | [],[],_=>true
 |s::l,f::fl,o=>Nat.beq f.offset o&&(fits P s f.type&&fitsL P l fl (o+s.n))
 |_,_,_=>false
end
mutual
theorem HasC.len:∀ {s:Sh} {cs:List V},HasC s cs→cs.length=s.n
 | .int k,cs,⟨n,h,_⟩=>by subst h;rfl
 | .bool,cs,⟨b,h⟩=>by subst h;rfl
 | .str,cs,⟨s,h,_⟩=>by subst h;rfl
 | .sl z e,cs,⟨css,h,_⟩=>by subst h;rfl
 | .st fs,cs,h=>HasL.len h
theorem HasL.len:∀ {l:List Sh} {cs:List V},HasL l cs→cs.length=Sh.nL l
 | [],cs,h=>by subst h;rfl
 |s::l,cs,⟨a,b,h,ha,hb⟩=>by
  subst h
  rw[List.length_append,ha.len,HasL.len hb];rfl
end
theorem fits_cells {P:Program} {s:Sh} {t:TypeId} (h:fits P s t=true):P.cellsOf t=s.n:=by
 cases s with
 |int k=>unfold fits at h;split at h<;>first|cases h|(simp only[Bool.and_eq_true] at h;exact Nat.eq_of_beq_eq_true h.2)
 |bool=>unfold fits at h;split at h<;>first|cases h|exact Nat.eq_of_beq_eq_true h
 |str=>unfold fits at h;split at h<;>first|cases h|exact Nat.eq_of_beq_eq_true h
 |sl z e=>unfold fits at h;split at h<;>first|cases h|(simp only[Bool.and_eq_true] at h;exact Nat.eq_of_beq_eq_true h.1)
 |st fs=>unfold fits at h;split at h<;>first|cases h|(simp only[Bool.and_eq_true] at h;exact Nat.eq_of_beq_eq_true h.1)
def PRs (im:Nat→Nat→Option Value) (vs:List V) (cs:List Value):Prop:=∀ (j:Nat) (x:V) (y:Value),vs[j]? = some x→cs[j]? = some y→PR im x y
theorem PRs.append {im:Nat→Nat→Option Value} {a b:List V} {c d:List Value} (hl:a.length=c.length) (h:PRs im a c) (k:PRs im b d):PRs im (a++b) (c++d):=by
 intro j x y hx hy
 by_cases hj:j<a.length
 ·rw[List.getElem?_append_left hj] at hx
  rw[List.getElem?_append_left (by omega)] at hy
  exact h j x y hx hy
 ·rw[List.getElem?_append_right (by omega)] at hx
  rw[List.getElem?_append_right (by omega)] at hy
  rw[← hl] at hy
  exact k _ x y hx hy
theorem cellsOf_pack {s:Sh} {cs:List V} (h:HasC s cs):cellsOf (pack s cs)=cs:=by
 cases s with
 |st fs=>rfl
 |int k=>obtain⟨n,rfl,_⟩:=h;rfl
 |bool=>obtain⟨n,rfl⟩:=h;rfl
 |str=>obtain⟨n,rfl,_⟩:=h;rfl
 |sl z e=>obtain⟨n,rfl,_⟩:=h;rfl
section
variable {H:Type} {enc:TypeId × Value→H} {P:Program} {w:World} {base:Nat} {held:Bool}
theorem all_app {a b:List Nat} {p:Nat→Bool} (h:(a++b).all p=true):a.all p=true∧b.all p=true:=by
 rw[List.all_append,Bool.and_eq_true] at h;exact h
theorem weightsAll_mem {t:TypeId}:∀ {l:List (DataW H)} {d:DataW H},(DataW.weightsAll P t l).all (·≤reachBytes)=true→d∈l→(d.weights P t).all (·≤reachBytes)=true
 | [],d,_,h=>by cases h
 |x::l,d,h,hd=>by
  have:=all_app (show(x.weights P t++DataW.weightsAll P t l).all _=true from h)
  cases hd with
  |head=>exact this.1
  |tail _ hd=>exact weightsAll_mem this.2 hd
theorem weightsEach_get:∀ {ts:List TypeId} {ds:List (DataW H)} {j:Nat} {t:TypeId} {d:DataW H},(DataW.weightsEach P ts ds).all (·≤reachBytes)=true→ts[j]? = some t→ds[j]? = some d→(d.weights P t).all (·≤reachBytes)=true
 | [],_,j,t,d,_,ht,_=>by cases ht
 |_::_,[],j,t,d,_,_,hd=>by cases hd
 |u::ts,x::ds,j,t,d,h,ht,hd=>by
  have:=all_app (show(x.weights P u++DataW.weightsEach P ts ds).all _=true from h)
  cases j with
  |zero=>cases ht;cases hd;exact this.1
  |succ j=>exact weightsEach_get this.2 (by simpa using ht) (by simpa using hd)
theorem choose_list {α:Type} {p:Nat→α→Prop}:∀ n:Nat,(∀ i,i<n→∃ a,p i a)→∃ l:List α,l.length=n∧∀ i a,l[i]? = some a→p i a
 |0,_=>⟨[],rfl,fun i a h=>by cases h⟩
 |n+1,h=>by
  obtain⟨l,hl,hp⟩:=choose_list n (fun i hi=>h i (by omega))
  obtain⟨a,ha⟩:=h n (by omega)
  refine⟨l ++ [a],by simp[hl],fun i b hb=>?_⟩
  by_cases hi:i<l.length
  ·rw[List.getElem?_append_left hi] at hb;exact hp i b hb
  ·have hb':=hb
   rw[List.getElem?_append_right (by omega)] at hb
   have:i-l.length=0:=by
    rcases Nat.eq_zero_or_pos (i-l.length) with h0|h0
    ·exact h0
    ·rw[List.getElem?_eq_none (by simp;omega)] at hb;cases hb
   rw[this] at hb
   cases hb
   have:i=n:=by omega
   subst this
   exact ha
mutual
theorem open_cells:∀ (s:Sh) {t:TypeId} {fuel:Nat} {cs:List Value} {x:DataW H × List MemPlace},fits P s t=true→DataW.trod enc P w base (fun _=>true) held fuel t cs=some x→(x.1.weights P t).all (·≤reachBytes)=true →
  ∃ vs,HasC s vs∧vs.length=cs.length∧PRs (im0 w) vs cs
 | .int k,t,fuel,cs,x,hf,hd,hw=>by
  unfold fits at hf;split at hf<;>first|cases hf|skip
  rename_i j hu
  simp only[Bool.and_eq_true] at hf
  obtain⟨n,rfl,rfl,hwf⟩:=DataW.trod_int hu hd
  have:j=k:=by simpa using hf.1
  subst this
  refine⟨[.int j n],⟨n,rfl,hwf⟩,rfl,fun i x y hx hy=>?_⟩
  cases i with
  |zero=>cases hx;cases hy;exact .int _ _
  |succ i=>cases hx
 | .bool,t,fuel,cs,x,hf,hd,hw=>by
  unfold fits at hf;split at hf<;>first|cases hf|skip
  rename_i hu
  obtain⟨b,rfl,rfl⟩:=DataW.trod_bool hu hd
  refine⟨[.bool b],⟨b,rfl⟩,rfl,fun i x y hx hy=>?_⟩
  cases i with
  |zero=>cases hx;cases hy;exact .bool _
  |succ i=>cases hx
 | .str,t,fuel,cs,x,hf,hd,hw=>by
  unfold fits at hf;split at hf<;>first|cases hf|skip
  rename_i hu
  obtain⟨s,rfl,rfl,_⟩:=DataW.trod_string hu hd
  have hs:s.data.toList.length≤lenB:=by
   have:([s.data.toList.length].all (·≤reachBytes))=true:=hw
   simp only[List.all_cons,List.all_nil,Bool.and_true,decide_eq_true_eq] at this
   exact this
  refine⟨[.str s.data.toList],⟨_,rfl,hs⟩,rfl,fun i x y hx hy=>?_⟩
  cases i with
  |zero=>cases hx;cases hy;exact .str _ _ rfl
  |succ i=>cases hx
 | .sl z e,t,fuel,cs,x,hf,hd,hw=>by
  unfold fits at hf;split at hf<;>first|cases hf|skip
  rename_i u hu
  simp only[Bool.and_eq_true] at hf
  obtain⟨_,hz,hez,hby,hz0,hfe⟩:=hf
  have hz:=Nat.eq_of_beq_eq_true hz
  have hez:=Nat.eq_of_beq_eq_true hez
  have hz0:0<z:=by simpa[Nat.blt_eq] using hz0
  have hby:0<P.bytesOf u:=by simpa[Nat.blt_eq] using hby
  rcases DataW.trod_slice hu hd with⟨rfl,rfl⟩|⟨a,len,cap,elems,rest,n,rfl,rfl,rfl,hb,hlc,hcm,hel,hes,hsp,_⟩
  ·refine⟨[.sl .no z []],⟨[],rfl,by simp[lenB],fun c h=>by cases h⟩,rfl,fun i x y hx hy=>?_⟩
   cases i with
   |zero=>
    cases hx;cases hy
    exact .sl .no z [] none 0 (fun _ _=>default) (.inl rfl) (Nat.le_refl _) (fun _=>rfl) (fun _ h=>by cases h) (fun _ _ _ h=>by cases h) (fun _ _ h=>by cases h) (fun _ _ _ _ h=>by cases h)
   |succ i=>cases hx
  ·obtain⟨hrl,hrs⟩:=hsp rfl
   simp only[DataW.weights,hu] at hw
   rw[List.all_cons,Bool.and_eq_true] at hw
   obtain⟨hw0,hw1⟩:=hw
   obtain⟨hw1,_⟩:=all_app hw1
   have hlen:len≤lenB:=by
    have h1:(elems.length+rest.length)*P.bytesOf u≤reachBytes:=by simpa using hw0
    have h2:elems.length*1≤(elems.length+rest.length)*P.bytesOf u:=Nat.mul_le_mul (by omega) hby
    simp only[reachBytes] at h1
    simp only[lenB]
    omega
   have key:∀ i,i<len→∃ c:List V × List Value,HasC e c.1∧c.1.length=c.2.length∧PRs (im0 w) c.1 c.2∧w.cells? base (a.add (i*z)) z=some c.2:=by
    intro i hi
    have h1:=hes i hi
    have h2:elems[i]? = some elems[i]:=List.getElem?_eq_getElem (by omega)
    rw[h2] at h1
    obtain⟨c,hc1,hc2⟩:=Option.bind_eq_some_iff.1 h1
    have hmem:elems[i].1∈elems.map (·.1):=List.mem_map.2 ⟨_,List.getElem_mem _,rfl⟩
    obtain⟨vs,k1,k2,k3⟩:=open_cells e hfe hc2 (weightsAll_mem hw1 hmem)
    rw[hz] at hc1
    exact⟨(vs,c),k1,k2,k3,hc1⟩
   obtain⟨l,hl,hp⟩:=choose_list len key
   have hspot:cap≠0→a.spot=none:=by
    intro hc
    have:∃ c,w.cells? base a z=some c:=by
     by_cases h0:0<len
     ·obtain⟨c,_,_,_,h⟩:=key 0 h0
      simp only[Nat.zero_mul,Addr.add,if_true] at h
      exact⟨_,h⟩
     ·have h1:=hrs 0 (by omega)
      have h2:rest[0]? = some rest[0]:=List.getElem?_eq_getElem (by omega)
      rw[h2] at h1
      obtain⟨c,hc1,_⟩:=Option.bind_eq_some_iff.1 h1
      have h3:len=0:=by omega
      simp only[h3,Nat.zero_add,Nat.zero_mul,Addr.add,if_true,hz] at hc1
      exact⟨c,hc1⟩
    obtain⟨c,h⟩:=this
    obtain⟨_,hcl,hcell⟩:=World.cells?_some h
    have h0:=hcell 0 hz0
    have h1:c[0]? = some c[0]:=List.getElem?_eq_getElem (by omega)
    rw[h1] at h0
    simp only[Addr.add,if_true] at h0
    exact World.cell?_spot h0
   have hit:∀ (j q:Nat),j<len→q<z→∃ v,w.cell? ⟨a.block,a.off+(j*z+q),none⟩=some v∧((l[j]?).bind fun c=>c.2[q]?)=some v:=by
    intro j q hj hq
    have h2:l[j]? = some l[j]:=List.getElem?_eq_getElem (by omega)
    obtain⟨_,_,_,h⟩:=hp j _ h2
    obtain⟨_,hcl,hcell⟩:=World.cells?_some h
    have h0:=hcell q hq
    have h1:(l[j]).2[q]? = some (l[j]).2[q]:=List.getElem?_eq_getElem (by omega)
    refine⟨(l[j]).2[q],?_,by rw[h2];exact h1⟩
    rw[h1] at h0
    have hs:=hspot (by omega)
    obtain⟨ab,ao,as⟩:=a
    simp only at hs
    subst hs
    rw[addr_add,addr_add] at h0
    rw[← Nat.add_assoc];exact h0
   refine⟨[.sl .no z ((l.map (·.1)).map (pack e))],⟨l.map (·.1),rfl,by simp;omega,fun c hc=>?_⟩,rfl,fun i x y hx hy=>?_⟩
   ·obtain⟨p,hp1,rfl⟩:=List.mem_map.1 hc
    obtain⟨i,hi⟩:=List.getElem?_of_mem hp1
    exact(hp i p hi).1
   ·cases i with
    |succ i=>cases hx
    |zero=>
     cases hx;cases hy
     have hlen2:((l.map (·.1)).map (pack e)).length=len:=by simp[hl]
     have:=PR.sl (im:=im0 w) .no z ((l.map (·.1)).map (pack e)) (some a) cap (fun j q=>((l[j]?).bind fun c=>c.2[q]?).getD default) (.inl rfl) (by omega) (fun h=>by cases h) (fun x hx hc=>by cases hx;exact hspot hc)
      (fun x j q hx hj hq=>by
       cases hx
       obtain⟨v,hv1,hv2⟩:=hit j q (by omega) hq
       rw[hv2]
       exact hv1)
      (fun j v hv=>by
       rw[List.map_map,List.getElem?_map] at hv
       obtain⟨c,hc,rfl⟩:=Option.map_eq_some_iff.1 hv
       have:=hp j c hc
       rw[Function.comp_apply,cellsOf_pack this.1,this.1.len,hez])
      (fun j v q x hv hx=>by
       rw[List.map_map,List.getElem?_map] at hv
       obtain⟨c,hc,rfl⟩:=Option.map_eq_some_iff.1 hv
       have h1:=hp j c hc
       rw[Function.comp_apply,cellsOf_pack h1.1] at hx
       have hq:q<c.2.length:=by rw[← h1.2.1];exact(List.getElem?_eq_some_iff.1 hx).1
       have h2:c.2[q]? = some c.2[q]:=List.getElem?_eq_getElem hq
       rw[hc]
       simp only[Option.bind_some,h2,Option.getD_some]
       exact h1.2.2.1 q x _ hx h2)
     rw[hlen2] at this
     exact this
 | .st fs,t,fuel,cs,x,hf,hd,hw=>by
  unfold fits at hf;split at hf<;>first|cases hf|skip
  rename_i fds hu
  simp only[Bool.and_eq_true] at hf
  obtain⟨hn,hfl⟩:=hf
  obtain⟨xs,n,rfl,rfl,hcl,hxl,hget⟩:=DataW.trod_struct hu hd
  simp only[DataW.weights,hu] at hw
  obtain⟨vs,h1,h2,h3⟩:=open_fields fs (fds:=fds.toList) (o:=0) (n:=n) (cs:=cs) (xs:=xs) hfl (by simpa using hxl) (fun i f hi=>by
   have:=hget i f (by simpa using hi)
   exact this) (by rw[hcl,Nat.eq_of_beq_eq_true hn];omega) hw
  refine⟨vs,h1,?_,by simpa using h3⟩
  rw[HasL.len h1,hcl,Nat.eq_of_beq_eq_true hn]
theorem open_fields:∀ (fs:List Sh) {fds:List Field} {o n:Nat} {cs:List Value} {xs:List (DataW H × List MemPlace)},fitsL P fs fds o=true→xs.length=fds.length →
  (∀ (i:Nat) (f:Field),fds[i]? = some f→DataW.trod enc P w base (fun _=>true) held n f.type ((cs.drop f.offset).take (P.cellsOf f.type))=xs[i]?)→cs.length=o+Sh.nL fs →
  (DataW.weightsEach P (fds.map (·.type)) (xs.map (·.1))).all (·≤reachBytes)=true→∃ vs,HasL fs vs∧vs.length=(cs.drop o).length∧PRs (im0 w) vs (cs.drop o)
 | [],fds,o,n,cs,xs,hf,hx,hg,hc,hw=>by
  simp only[Sh.nL,Nat.add_zero] at hc
  refine⟨[],rfl,by simp[hc],fun j x y h=>by cases h⟩
 |s::fs,fds,o,n,cs,xs,hf,hx,hg,hc,hw=>by
  cases fds with
  |nil=>cases hf
  |cons f fl=>
   cases xs with
   |nil=>cases hx
   |cons x xs=>
    unfold fitsL at hf
    simp only[Bool.and_eq_true] at hf
    obtain⟨ho,hfs,hfl⟩:=hf
    have ho:=Nat.eq_of_beq_eq_true ho
    have h0:=hg 0 f rfl
    rw[ho,fits_cells hfs] at h0
    have hw':=all_app (show((x.1).weights P f.type++DataW.weightsEach P (fl.map (·.type)) (xs.map (·.1))).all _=true from hw)
    simp only[Sh.nL] at hc
    obtain⟨a,ha1,ha2,ha3⟩:=open_cells s hfs h0 hw'.1
    obtain⟨b,hb1,hb2,hb3⟩:=open_fields fs (fds:=fl) (o:=o+s.n) (n:=n) (cs:=cs) (xs:=xs) hfl (by simpa using hx) (fun i f' hi=>by simpa using hg (i+1) f' (by simpa using hi)) (by omega) hw'.2
    have e1:cs.drop o=(cs.drop o).take s.n++cs.drop (o+s.n):=by
     rw[← List.drop_drop,List.take_append_drop]
    refine⟨a++b,⟨a,b,rfl,ha1,hb1⟩,?_,?_⟩
    ·rw[e1,List.length_append,List.length_append,ha2,hb2]
    ·rw[e1]
     exact PRs.append ha2 ha3 hb3
end
def HasV (s:Sh) (v:V):Prop:=∃ cs,v=pack s cs∧HasC s cs
theorem open_val {s:Sh} {t:TypeId} {r:Reach} {b0:Nat} {v:Value} {d:DataW H} {ps:List MemPlace} (hf:fits P s t=true) (hval:Value.okWide P w r b0 t v) (hd:DataW.Trod enc P w base (fun _=>true) held t v d ps) (hw:(d.weights P t).all (·≤reachBytes)=true) :
  ∃ x,HasV s x∧PR (im0 w) x v:=by
 obtain⟨fuel,hd⟩:=hd
 obtain⟨vs,h1,h2,h3⟩:=open_cells s hf hd hw
 refine⟨pack s vs,⟨vs,rfl,h1⟩,?_⟩
 have scalar:∀ {x:V},vs = [x]→(∀ cs,v≠.agg cs)→PR (im0 w) x v:=by
  intro x hx hv
  have hc:(Value.cells v).toList = [v]:=by
   cases v<;>first|rfl|exact absurd rfl (hv _)
  rw[hc] at h3
  subst hx
  exact h3 0 x v rfl rfl
 cases s with
 |st fs=>
  unfold fits at hf;split at hf<;>first|cases hf|skip
  rename_i fds hu
  unfold Value.okWide at hval
  rw[hu] at hval
  obtain⟨cs,rfl,_⟩:=hval
  refine .agg vs cs (by simpa[Value.cells] using h2.symm) (fun j x y hx hy=>h3 j x y hx ?_)
  simpa[Value.cells] using hy
 |int k=>
  unfold fits at hf;split at hf<;>first|cases hf|skip
  rename_i j hu
  obtain⟨n,rfl⟩:=okWide_int hu hval
  obtain⟨m,rfl,_⟩:=h1
  exact scalar rfl (fun _ h=>by cases h)
 |bool=>
  obtain⟨m,rfl⟩:=h1
  unfold fits at hf;split at hf<;>first|cases hf|skip
  rename_i hu
  refine scalar rfl (fun cs h=>?_)
  subst h
  simp[Value.okWide,Cell.okWide,Cell.ok,hu] at hval
 |str=>
  obtain⟨m,rfl,_⟩:=h1
  unfold fits at hf;split at hf<;>first|cases hf|skip
  rename_i hu
  refine scalar rfl (fun cs h=>?_)
  subst h
  simp[Value.okWide,Cell.okWide,Cell.ok,hu] at hval
 |sl z e=>
  obtain⟨m,rfl,_⟩:=h1
  unfold fits at hf;split at hf<;>first|cases hf|skip
  rename_i u hu
  refine scalar rfl (fun cs h=>?_)
  subst h
  simp[Value.okWide,Cell.okWide,Cell.ok,hu] at hval
end
theorem packs {α:Type} {e:Sh} {en:α→V} {ok:α→Prop} (h:∀ x,HasV e x→∃ a,x=en a∧ok a):∀ css:List (List V),(∀ c∈css,HasC e c)→∃ l:List α,css.map (pack e)=l.map en∧∀ a∈l,ok a
 | [],_=>⟨[],rfl,fun a h=>by cases h⟩
 |c::css,hc=>by
  obtain⟨a,h1,h2⟩:=h _ ⟨c,rfl,hc c (List.mem_cons_self ..)⟩
  obtain⟨l,h3,h4⟩:=packs h css (fun c h=>hc c (List.mem_cons_of_mem _ h))
  refine⟨a::l,by rw[List.map_cons,List.map_cons,h1,h3],fun b hb=>?_⟩
  cases hb with
  |head=>exact h2
  |tail _ hb=>exact h4 b hb
theorem has_list {α:Type} {e:Sh} {en:α→V} {ok:α→Prop} (h:∀ x,HasV e x→∃ a,x=en a∧ok a) {z:Nat} {x:V} (hx:HasV (.sl z e) x):∃ l:List α,x = .sl .no z (l.map en)∧l.length≤lenB∧∀ a∈l,ok a:=by
 obtain⟨cs,rfl,css,rfl,hl,hc⟩:=hx
 obtain⟨l,h1,h2⟩:=packs h css hc
 refine⟨l,by simp only[pack,h1],?_,h2⟩
 have:=congrArg List.length h1
 simp only[List.length_map] at this
 omega
end Go.Vm
/-
  The program's data, in plain Lean; and as values of the machine V.
-/
namespace Go.Sp
open Go Go.Vm
abbrev Txt:=List UInt8
structure Val where
 kind:Int
 n:Int
 s:Txt
 deriving DecidableEq,Repr,Inhabited
structure Fact where
 name:Txt
 args:List Val
 deriving DecidableEq,Repr,Inhabited
structure Term where
 var:Txt
 val:Val
 deriving DecidableEq,Repr,Inhabited
structure Atom where
 name:Txt
 args:List Term
 deriving DecidableEq,Repr,Inhabited
structure Bind where
 var:Txt
 val:Val
 deriving DecidableEq,Repr,Inhabited
structure Op where
 kind:Int
 var:Txt
 val:Val
 deriving DecidableEq,Repr,Inhabited
structure Cond where
 kind:Int
 atom:Atom
 how:Int
 left:List Op
 right:List Op
 deriving DecidableEq,Repr,Inhabited
structure Act where
 kind:Int
 name:Txt
 args:List (List Op)
 which:Int
 deriving DecidableEq,Repr,Inhabited
structure Rule where
 name:Txt
 prio:Int
 conds:List Cond
 acts:List Act
 deriving DecidableEq,Repr,Inhabited
structure Decl where
 name:Txt
 arity:Int
 kind:Int
 deriving DecidableEq,Repr,Inhabited
structure Node where
 kind:Int
 atom:Atom
 a:Int
 b:Int
 deriving DecidableEq,Repr,Inhabited
structure Pattern where
 name:Txt
 trigger:Atom
 nodes:List Node
 deriving DecidableEq,Repr,Inhabited
structure Prog where
 decls:List Decl
 rules:List Rule
 pats:List Pattern
 deriving DecidableEq,Repr,Inhabited
structure Config where
 fuel:Int
 facts:Int
 deriving DecidableEq,Repr,Inhabited
structure Inst where
 rule:Int
 facts:List Fact
 deriving DecidableEq,Repr,Inhabited
abbrev eI (n:Int):V:=.int .i64 n
abbrev b8 (c:UInt8):V:=.int .u8 (c.toNat:Int)
abbrev eB (b:Bool):V:=.bool b
abbrev eS (s:Txt):V:=.str s
abbrev eL {α:Type} (z:Nat) (e:α→V) (l:List α):V:=.sl .no z (l.map e)
def Val.cells (v:Val):List V:=[eI v.kind,eI v.n,eS v.s]
def eVal (v:Val):V:=.agg v.cells
def Fact.cells (f:Fact):List V:=[eS f.name,eL 3 eVal f.args]
def eFact (f:Fact):V:=.agg f.cells
def Term.cells (t:Term):List V:=eS t.var::t.val.cells
def eTerm (t:Term):V:=.agg t.cells
def Atom.cells (a:Atom):List V:=[eS a.name,eL 4 eTerm a.args]
def eAtom (a:Atom):V:=.agg a.cells
def Bind.cells (b:Bind):List V:=eS b.var::b.val.cells
def eBind (b:Bind):V:=.agg b.cells
def Op.cells (o:Op):List V:=eI o.kind::eS o.var::o.val.cells
def eOp (o:Op):V:=.agg o.cells
def Cond.cells (c:Cond):List V:=eI c.kind::(c.atom.cells ++ [eI c.how,eL 5 eOp c.left,eL 5 eOp c.right])
def eCond (c:Cond):V:=.agg c.cells
def Act.cells (a:Act):List V:=[eI a.kind,eS a.name,eL 1 (eL 5 eOp) a.args,eI a.which]
def eAct (a:Act):V:=.agg a.cells
def Rule.cells (r:Rule):List V:=[eS r.name,eI r.prio,eL 6 eCond r.conds,eL 4 eAct r.acts]
def eRule (r:Rule):V:=.agg r.cells
def Decl.cells (d:Decl):List V:=[eS d.name,eI d.arity,eI d.kind]
def eDecl (d:Decl):V:=.agg d.cells
def Node.cells (n:Node):List V:=eI n.kind::(n.atom.cells ++ [eI n.a,eI n.b])
def eNode (n:Node):V:=.agg n.cells
def Pattern.cells (p:Pattern):List V:=eS p.name::(p.trigger.cells ++ [eL 5 eNode p.nodes])
def ePattern (p:Pattern):V:=.agg p.cells
def Prog.cells (p:Prog):List V:=[eL 3 eDecl p.decls,eL 4 eRule p.rules,eL 4 ePattern p.pats]
def eProg (p:Prog):V:=.agg p.cells
structure Looker where
 l:List Node
 deriving DecidableEq,Repr,Inhabited
def Looker.cells (k:Looker):List V:=[eL 5 eNode k.l]
def eLooker (k:Looker):V:=.agg k.cells
def eP {α β:Type} (e:α→V) (f:β→V) (p:α × β):V:=.tup [e p.1,f p.2]
def eP3 {α β γ:Type} (e:α→V) (f:β→V) (g:γ→V) (p:α × β × γ):V:=.tup [e p.1,f p.2.1,g p.2.2]
end Go.Sp
/-
  The machine V: words for blocks of frames above: arrays and variables that a function is handed and writes.
-/
namespace Go.Vm
open Go
def upB (sg:List Fr) (d i:Nat) (b:Blk):List Fr:=sg.modify d (·.set i b)
def Plc (sg:List Fr) (d i:Nat):Prop:=∃ b,(sg[d]?).bind (·[i]?)=some b
theorem getL_modify {α:Type} (l:List α) (d:Nat) (f:α→α):(l.modify d f)[d]? = (l[d]?).map f:=by
 rw[List.getElem?_modify];simp
theorem get_up {sg:List Fr} {d i:Nat} {b:Blk} (h:Plc sg d i):((upB sg d i b)[d]?).bind (·[i]?)=some b:=by
 obtain⟨b0,h⟩:=h
 unfold upB
 rw[getL_modify]
 cases hs:sg[d]? with
 |none=>rw[hs] at h;cases h
 |some f=>
  rw[hs] at h
  have h:f[i]? = some b0:=h
  show(f.set i b)[i]? = some b
  exact List.getElem?_set_self (List.getElem?_eq_some_iff.1 h).1
theorem modify_modify {α:Type} (l:List α) (d:Nat) (f g:α→α):(l.modify d f).modify d g=l.modify d (g ∘ f):=by
 apply List.ext_getElem?
 intro j
 simp only[List.getElem?_modify]
 by_cases e:d=j
 ·cases l[j]?<;>simp[e]
 ·cases l[j]?<;>simp[e]
theorem up_up (sg:List Fr) (d i:Nat) (b b':Blk):upB (upB sg d i b) d i b'=upB sg d i b':=by
 unfold upB
 rw[modify_modify]
 congr 1
 funext f
 exact List.set_set ..
theorem plc_own {fr:Fr} {sg:List Fr} {i:Nat} {b:Blk} (h:fr[i]? = some b):Plc (fr::sg) 0 i:=⟨b,h⟩
theorem plc_s {fr:Fr} {sg:List Fr} {d i:Nat} (h:Plc sg d i):Plc (fr::sg) (d+1) i:=h
theorem plc_up {sg:List Fr} {d i d' i':Nat} {b:Blk} (h:Plc sg d i):Plc (upB sg d' i' b) d i:=by
 obtain⟨b0,h⟩:=h
 unfold Plc upB
 rw[List.getElem?_modify]
 cases hs:sg[d]? with
 |none=>rw[hs] at h;cases h
 |some f=>
  rw[hs] at h
  have h:f[i]? = some b0:=h
  by_cases e:d'=d
  ·by_cases e2:i'=i
   ·subst e2
    exact⟨b,by simp only[e,if_true];exact List.getElem?_set_self (List.getElem?_eq_some_iff.1 h).1⟩
   ·exact⟨b0,by simp only[e,if_true];show(f.set i' b)[i]? = _;rw[List.getElem?_set_ne e2];exact h⟩
  ·exact⟨b0,by simp only[e,if_false];exact h⟩
theorem all_ok1 {β:Type} {P:β→Prop} {l:List β} {a:β} (h:∀ x∈l,P x) (ha:P a):∀ x∈l ++ [a],P x:=fun x hx=>(List.mem_append.1 hx).elim (h x) (fun e=>(List.mem_singleton.1 e).symm▸ha)
theorem all_set {β:Type} {P:β→Prop} {l:List β} {i:Nat} {a:β} (h:∀ x∈l,P x) (ha:P a):∀ x∈l.set i a,P x:=fun x hx=>(List.mem_or_eq_of_mem_set hx).elim (h x) (fun e=>e▸ha)
section
attribute [local semireducible] Ans Head
variable {T:Tab} {F:VF} {α:Type} {e:α→V × List Fr × Nat} {r r1 r2:α} {c:Cf}
def iuA (c:Cf):Option (Nat × Nat × Nat × Nat × Nat × Nat × Nat):=match nextO c with
 |some (_,.ia none sz x i)=>match rd c.s.tm x,nat? (rd c.s.tm i) with
  | .bs d b ver o len,some n=>some (d,b,ver,o,len,n,sz)
  |_,_=>none
 |_=>none
theorem iau {d b ver z o len n:Nat} {es:List V} {sg:List Fr} (hg:(sg[d]?).bind (·[b]?)=some (.arr ver z es)) (hlt:n<len) (h:Ans T F e r (setA c (.ap (d+1) b ver (o+n) 0))) (hs:c.s.sg=sg:=by kernel_rfl) (hc:iuA c=some (d+1,b,ver,o,len,n,z):=by kernel_rfl):Ans T F e r c:=by
 unfold iuA at hc
 split at hc
 ·rename_i d0 sz x i hno
  split at hc
  ·rename_i d' b' ver' o' len' n' hx hi
   simp only[Option.some.injEq,Prod.mk.injEq] at hc
   obtain⟨rfl,rfl,rfl,rfl,rfl,rfl,rfl⟩:=hc
   have e0:nxO c = .ia none sz x i:=by unfold nxO;rw[hno]
   refine opq ?_ (by rw[e0];rfl) h (by unfold isS;rw[hno];rfl)
   rw[e0]
   show((nat? (rd c.s.tm i)).bind fun i=>_)=_
   have hg':c.s.get (d+1) b'=some (.arr ver' sz es):=by
    show getB c.s.fr c.s.sg (d+1) b'=_
    rw[hs];exact hg
   rw[hi,Option.bind_some,hx]
   simp only[hg']
   have h1:Nat.beq sz sz=true:=Nat.beq_refl sz
   have h2:Nat.beq ver' ver'=true:=Nat.beq_refl _
   have h3:Nat.blt n' len'=true:=by simpa[Nat.blt_eq] using hlt
   rw[h1,h2,h3]
   rfl
  ·cases hc
 ·cases hc
theorem iauz {d b ver z len n:Nat} {es:List V} {sg:List Fr} (hg:(sg[d]?).bind (·[b]?)=some (.arr ver z es)) (hlt:n<len) (h:Ans T F e r (setA c (.ap (d+1) b ver n 0))) (hs:c.s.sg=sg:=by kernel_rfl) (hc:iuA c=some (d+1,b,ver,0,len,n,z):=by kernel_rfl):Ans T F e r c:=
 iau hg hlt (by rw[Nat.zero_add];exact h) hs hc
def luA (c:Cf):Option (Bool × Nat × Nat × Nat × Nat × Nat × Nat):=match nextO c with
 |some (_,.ld ag sz x)=>match rd c.s.tm x with
  | .ap d i ver j o=>some (ag,sz,d,i,ver,j,o)
  |_=>none
 |_=>none
theorem ldu {β:Type} {en:β→V} {L:List β} {ag:Bool} {sz d i ver z j o:Nat} {y:β} {v:V} {sg:List Fr} (hg:(sg[d]?).bind (·[i]?)=some (.arr ver z (L.map en))) (hy:L[j]? = some y) (hl:ldC ag sz (cellsOf (en y)) o=some v) (h:Ans T F e r (setA c v))
  (hs:c.s.sg=sg:=by kernel_rfl) (hc:luA c=some (ag,sz,d+1,i,ver,j,o):=by kernel_rfl):Ans T F e r c:=by
 unfold luA at hc
 split at hc
 ·rename_i d0 ag' sz' x hno
  split at hc
  ·rename_i d' i' ver' j' o' hx
   simp only[Option.some.injEq,Prod.mk.injEq] at hc
   obtain⟨rfl,rfl,rfl,rfl,rfl,rfl,rfl⟩:=hc
   have e0:nxO c = .ld ag' sz' x:=by unfold nxO;rw[hno]
   have hg':c.s.get (d+1) i'=some (.arr ver' z (L.map en)):=by
    show getB c.s.fr c.s.sg (d+1) i'=_
    rw[hs];exact hg
   refine opq ?_ (by rw[e0];rfl) h (by unfold isS;rw[hno];rfl)
   rw[e0]
   show(ldV ag' sz' (rd c.s.tm x) c.s).map (·,c.s)=_
   rw[hx]
   simp only[ldV,hg']
   have h2:Nat.beq ver' ver'=true:=Nat.beq_refl _
   rw[h2,get_map en hy]
   simp only[cond_true,Option.bind_some,hl,Option.map_some]
  ·cases hc
 ·cases hc
theorem stV_up {β:Type} {en:β→V} {L:List β} {ag:Bool} {sz d i ver z j o:Nat} {y y':β} {v:V} {cs:List V} {s:St} (hg:(s.sg[d]?).bind (·[i]?)=some (.arr ver z (L.map en))) (hy:L[j]? = some y) (hs:stC ag sz (cellsOf (en y)) o (dt2 v)=some cs) (he:reEl (en y) cs=en y') (hp:pu2 (en y')=true) :
  stV ag sz (.ap (d+1) i ver j o) v s=some { s with sg:=upB s.sg d i (.arr ver z ((L.set j y').map en)),wd:=max s.wd (d+1) }:=by
 have hg':s.get (d+1) i=some (.arr ver z (L.map en)):=hg
 simp only[stV,hg']
 have h2:Nat.beq ver ver=true:=Nat.beq_refl _
 rw[h2,get_map en hy]
 simp only[cond_true,Option.bind_some,hs,he,hp]
 rw[← List.map_set]
 rfl
def suA (c:Cf):Option (Bool × Nat × Nat × Nat × Nat × Nat × Nat × V):=match nextO c with
 |some (_,.st ag sz x v)=>match rd c.s.tm x with
  | .ap d i ver j o=>some (ag,sz,d,i,ver,j,o,rd c.s.tm v)
  |_=>none
 |_=>none
theorem stu {β:Type} {en:β→V} {L:List β} {ag:Bool} {sz d i ver z j o:Nat} {y y':β} {v:V} {cs:List V} {sg sg':List Fr} {w W:Nat} (hg:(sg[d]?).bind (·[i]?)=some (.arr ver z (L.map en))) (hu:upB sg d i (.arr ver z ((L.set j y').map en))=sg')
  (hy:L[j]? = some y) (hs:stC ag sz (cellsOf (en y)) o (dt2 v)=some cs) (he:reEl (en y) cs=en y') (hp:pu2 (en y')=true) (hw:w≤W) (hW:d+1≤W)
  (h:∀ w,w≤W→Ans T F e r (setF c .und { c.s with sg:=sg',wd:=w })) (hsg:c.s.sg=sg:=by kernel_rfl) (hwd:c.s.wd=w:=by kernel_rfl) (hc:suA c=some (ag,sz,d+1,i,ver,j,o,v):=by kernel_rfl) (hr:inReg c=true:=by kernel_rfl):Ans T F e r c:=by
 unfold suA at hc
 split at hc
 ·rename_i d0 ag' sz' x v' hno
  split at hc
  ·rename_i d' i' ver' j' o' hx
   simp only[Option.some.injEq,Prod.mk.injEq] at hc
   obtain⟨rfl,rfl,rfl,rfl,rfl,rfl,rfl,rfl⟩:=hc
   refine opF_s hr hno ?_ (h (max w (d+1)) (Nat.max_le.2 ⟨hw,hW⟩))
   show(stV ag' sz' (rd c.s.tm x) (rd c.s.tm v') c.s).map (V.und,·)=_
   rw[hx,stV_up (by rw[hsg];exact hg) hy hs he hp,hsg,hu,hwd]
   rfl
  ·cases hc
 ·cases hc
def suM (c:Cf):Option (Bool × Nat × Nat × Nat × Nat × Nat × Nat × V × List Nat × List DOp × List DOp × Option Nat):=match mopA c with
 |some (dd,.st ag sz x v,re,all,l)=>match rd c.s.tm x with
  | .ap d i ver j o=>some (ag,sz,d,i,ver,j,o,rd c.s.tm v,re,all,l,dd)
  |_=>none
 |_=>none
def suD (c:Cf):List DOp × List DOp × Option Nat:=match suM c with
 |some (_,_,_,_,_,_,_,_,_,x)=>x
 |none=>([],[],none)
theorem smu {β:Type} {en:β→V} {L:List β} {ag:Bool} {sz d i ver z j o:Nat} {y y':β} {v:V} {cs:List V} {sg sg':List Fr} {w W:Nat} {re:List Nat} (hg:(sg[d]?).bind (·[i]?)=some (.arr ver z (L.map en))) (hu:upB sg d i (.arr ver z ((L.set j y').map en))=sg')
  (hy:L[j]? = some y) (hs:stC ag sz (cellsOf (en y)) o (dt2 v)=some cs) (he:reEl (en y) cs=en y') (hp:pu2 (en y')=true) (hw:w≤W) (hW:d+1≤W)
  (hre:∀ w,w≤W→reP T (suD c).1 (put { c.s with sg:=sg',wd:=w } (suD c).2.2 .und) re)
  (h:∀ w,w≤W→Ans T F e r (setD c (suD c).1 (suD c).2.1 (put { c.s with sg:=sg',wd:=w } (suD c).2.2 .und)))
  (hsg:c.s.sg=sg:=by kernel_rfl) (hwd:c.s.wd=w:=by kernel_rfl) (hc:suM c=some (ag,sz,d+1,i,ver,j,o,v,re,(suD c).1,(suD c).2.1,(suD c).2.2):=by kernel_rfl):Ans T F e r c:=by
 revert hc h hre
 generalize suD c=D
 intro hre h hc
 obtain⟨D1,D2,D3⟩:=D
 unfold suM at hc
 split at hc
 ·rename_i d0 ag' sz' x v' re all l hm
  split at hc
  ·rename_i d' i' ver' j' o' hx
   simp only[Option.some.injEq,Prod.mk.injEq] at hc
   obtain⟨rfl,rfl,rfl,rfl,rfl,rfl,rfl,rfl,rfl,rfl,rfl,rfl⟩:=hc
   have hm':max w (d+1)≤W:=Nat.max_le.2 ⟨hw,hW⟩
   refine opD_s hm ?_ (hre _ hm') (h _ hm')
   show(stV ag' sz' (rd c.s.tm x) (rd c.s.tm v') c.s).map (V.und,·)=_
   rw[hx,stV_up (by rw[hsg];exact hg) hy hs he hp,hsg,hu,hwd]
   rfl
  ·cases hc
 ·cases hc
theorem clu {f:FuncId} {l:List V} {v:V} {fr:Fr} {sg SG1 SG2:List Fr} {w W W1:Nat} (hs:∃ w,w≤W1∧T.call f l SG1=some (v,SG2,w)) (hw:w≤W) (hW:W1≤W+1)
  (h:∀ w,w≤W→Ans T F e r (setF c v { c.s with fr:=fr,sg:=sg,wd:=w })) (h1:SG1=c.s.fr::c.s.sg:=by kernel_rfl) (h2:SG2=fr::sg:=by kernel_rfl) (hwd:c.s.wd=w:=by kernel_rfl) (hc:callA T.C c=some (f,l):=by kernel_rfl) (hr:inReg c=true:=by kernel_rfl):Ans T F e r c:=by
 obtain⟨w1,h3,h4⟩:=hs
 rw[h1,h2] at h4
 refine clw h4 ?_ hc hr
 have:=h (max w (w1-1)) (Nat.max_le.2 ⟨hw,by omega⟩)
 unfold behind
 rw[hwd]
 exact this
def cbA (c:Cf):Option (Nat × Nat × Nat × Nat × Nat × Nat × Nat × Nat):=match nextO c with
 |some (_,.cut false sz x lo hi none)=>match rd c.s.tm x with
  | .bs d i ver o len=>match onat c.s.tm 0 lo,onat c.s.tm len hi with
   |some l,some h=>some (sz,d,i,ver,o,len,l,h)
   |_,_=>none
  |_=>none
 |_=>none
theorem cb0 {d i ver z o len l hh:Nat} {es:List V} (hg:c.s.get d i=some (.arr ver z es)) (h1:l≤hh) (h2:hh≤len) (h:Ans T F e r (setA c (.bs d i ver (o+l) (hh-l)))) (hc:cbA c=some (z,d,i,ver,o,len,l,hh)):Ans T F e r c:=by
 unfold cbA at hc
 split at hc
 ·rename_i d0 sz x lo hi hno
  split at hc
  ·rename_i d' i' ver' o' len' hx
   split at hc
   ·rename_i l' h' hl hh'
    simp only[Option.some.injEq,Prod.mk.injEq] at hc
    obtain⟨rfl,rfl,rfl,rfl,rfl,rfl,rfl,rfl⟩:=hc
    have e0:nxO c = .cut false sz x lo hi none:=by unfold nxO;rw[hno]
    refine opq ?_ (by rw[e0];rfl) h (by unfold isS;rw[hno];rfl)
    rw[e0]
    show(bif isStr (rd c.s.tm x) == false then(cutV sz c.s lo hi none (rd c.s.tm x)).map (·,c.s) else none)=_
    rw[hx]
    simp only[isStr,cutV,hg,hl,hh',Option.bind_some,Option.isNone_none,Nat.beq_refl,Bool.and_self,cond_true,bT' h1,bT' h2,beq_self_eq_true,Option.map_some]
   ·cases hc
  ·cases hc
 ·cases hc
theorem cbo {i ver z o len l hh o' len':Nat} {es:List V} (h1:l≤hh) (h2:hh≤len) (ho:o+l=o') (hq:hh-l=len') (h:Ans T F e r (setA c (.bs 0 i ver o' len'))) (hg:c.s.fr[i]? = some (.arr ver z es):=by kernel_rfl) (hc:cbA c=some (z,0,i,ver,o,len,l,hh):=by kernel_rfl):Ans T F e r c:=by
 subst ho;subst hq;exact cb0 (d:=0) (show c.s.get 0 i=_ from hg) h1 h2 h hc
theorem cbu {d i ver z o len l hh o' len':Nat} {es:List V} {sg:List Fr} (hg:(sg[d]?).bind (·[i]?)=some (.arr ver z es)) (h1:l≤hh) (h2:hh≤len) (ho:o+l=o') (hq:hh-l=len') (h:Ans T F e r (setA c (.bs (d+1) i ver o' len'))) (hs:c.s.sg=sg:=by kernel_rfl) (hc:cbA c=some (z,d+1,i,ver,o,len,l,hh):=by kernel_rfl):Ans T F e r c:=by
 subst ho;subst hq;exact cb0 (by show getB c.s.fr c.s.sg (d+1) i=_;rw[hs];exact hg) h1 h2 h hc
theorem clo {f:FuncId} {l:List V} {v:V} {fr:Fr} {SG1 SG2:List Fr} (hs:∃ w,w≤1∧T.call f l SG1=some (v,SG2,w)) (h:Ans T F e r (setF c v { c.s with fr:=fr })) (h1:SG1=c.s.fr::c.s.sg:=by kernel_rfl) (h2:SG2=fr::c.s.sg:=by kernel_rfl)
  (hc:callA T.C c=some (f,l):=by kernel_rfl) (hr:inReg c=true:=by kernel_rfl):Ans T F e r c:=by
 obtain⟨w1,h3,h4⟩:=hs
 rw[h1,h2] at h4
 refine clw h4 ?_ hc hr
 have:behind c.s fr c.s.sg w1 = { c.s with fr:=fr }:=by
  unfold behind
  rw[show w1-1=0 by omega,Nat.max_zero]
 rw[this];exact h
def ccA (c:Cf):Option (List V × Nat × Nat × Nat × Nat × Nat):=match nextO c with
 |some (_,.clr z x)=>match rd c.s.tm x with
  | .bs d i ver o len=>some (z,d,i,ver,o,len)
  |_=>none
 |_=>none
def zeroL (z:List V) (e:V):V:=match e with
 | .agg _=>.agg z
 |_=>mkEl false z
theorem clr_es {β:Type} {en:β→V} {L:List β} {o len:Nat} {z:List V} {x0:β} (ho:o+len=L.length) (hz:∀ y,zeroL z (en y)=en x0) :
  (L.map en).take o++((L.map en).drop o).mapIdx (fun j e=>bif Nat.blt j len then(match e with | .agg _=>.agg z|_=>mkEl false z) else e)=(L.take o++List.replicate len x0).map en:=by
 rw[List.map_append,List.map_take]
 congr 1
 apply List.ext_getElem?
 intro j
 rw[List.getElem?_mapIdx,List.getElem?_drop,List.getElem?_map,List.map_replicate,List.getElem?_replicate]
 by_cases h:j<len
 ·rw[if_pos h]
  have h2:o+j<L.length:=by omega
  rw[List.getElem?_eq_getElem h2]
  have h3:Nat.blt j len=true:=by simpa[Nat.blt_eq] using h
  simp only[Option.map_some,h3,cond_true]
  exact congrArg some (hz _)
 ·rw[if_neg h,List.getElem?_eq_none (by omega)];rfl
theorem clru {β:Type} {en:β→V} {L:List β} {d i ver o len zz:Nat} {z:List V} {sg sg':List Fr} {w W:Nat} (x0:β) (hg:(sg[d]?).bind (·[i]?)=some (.arr ver zz (L.map en))) (hu:upB sg d i (.arr ver zz ((L.take o++List.replicate len x0).map en))=sg') (ho:o+len=L.length) (hz:∀ y,zeroL z (en y)=en x0) (hl:z.length=zz) (hw:w≤W) (hW:d+1≤W)
  (h:∀ w,w≤W→Ans T F e r (setF c .und { c.s with sg:=sg',wd:=w })) (hs:c.s.sg=sg:=by kernel_rfl) (hwd:c.s.wd=w:=by kernel_rfl) (hc:ccA c=some (z,d+1,i,ver,o,len):=by kernel_rfl) (hr:inReg c=true:=by kernel_rfl):Ans T F e r c:=by
 unfold ccA at hc
 split at hc
 ·rename_i d0 z' x hno
  split at hc
  ·rename_i d' i' ver' o' len' hx
   simp only[Option.some.injEq,Prod.mk.injEq] at hc
   obtain⟨rfl,rfl,rfl,rfl,rfl,rfl⟩:=hc
   refine opF_s hr hno ?_ (h (max w (d+1)) (Nat.max_le.2 ⟨hw,hW⟩))
   have hg':c.s.get (d+1) i'=some (.arr ver' zz (L.map en)):=by
    show getB c.s.fr c.s.sg (d+1) i'=_
    rw[hs];exact hg
   simp only[opV,hx,hg']
   have h1:Nat.beq zz z'.length=true:=by rw[hl];exact Nat.beq_refl _
   have h2:Nat.ble (o'+len') (L.map en).length=true:=bT' (by rw[List.length_map];omega)
   simp only[h1,Nat.beq_refl,h2,Bool.and_self,cond_true]
   refine(congrArg (fun es=>some (V.und,c.s.set (d+1) i' (.arr ver' zz es))) (clr_es ho hz)).trans ?_
   have:c.s.set (d+1) i' (.arr ver' zz ((L.take o'++List.replicate len' x0).map en)) = { c.s with sg:=sg',wd:=max w (d+1) }:=by
    rw[← hu,← hwd,← hs];rfl
   rw[this]
  ·cases hc
 ·cases hc
def fzA (c:Cf):Option (Nat × Nat × Nat × Nat × Nat × Nat × List V):=match nextO c with
 |some (_,.fz x)=>match rd c.s.tm x with
  | .bs 0 i ver o len=>match c.s.fr[i]? with
   |some (.arr ver' z es)=>some (i,ver,ver',z,o,len,es)
   |_=>none
  |_=>none
 |_=>none
theorem fzw {β:Type} {en:β→V} {L:List β} {i ver z len:Nat} (hk:len≤L.length) (h:Ans T F e r (setF c (.sl .no z ((L.take len).map en)) { c.s with fr:=c.s.fr.set i .dead })) (hc:fzA c=some (i,ver,ver,z,0,len,L.map en):=by kernel_rfl) (hr:inReg c=true:=by kernel_rfl):Ans T F e r c:=by
 unfold fzA at hc
 split at hc
 ·rename_i d0 x hno
  split at hc
  ·rename_i i' ver' o' len' hx
   split at hc
   ·rename_i ver'' z' es hg
    simp only[Option.some.injEq,Prod.mk.injEq] at hc
    obtain⟨rfl,rfl,rfl,rfl,rfl,rfl,rfl⟩:=hc
    refine opF_s hr hno ?_ h
    have h2:Nat.ble (0+len') (L.map en).length=true:=bT' (by rw[List.length_map];omega)
    simp only[opV,hx,hg,Nat.beq_refl,h2,Bool.and_self,cond_true,List.drop_zero,List.map_take]
   ·cases hc
  ·cases hc
 ·cases hc
theorem enu {t d i ver k w:Nat} {sg:List Fr} (hp:Plc sg d i) (hw:w≤(e r).2.2) (hs:c.s.sg=sg:=by kernel_rfl) (hF:F.res = [(t,none)]:=by rfl) (hx:endOk c=true:=by kernel_rfl) (ht:c.s.tm t = .bs (d+1) i ver 0 k:=by kernel_rfl) (hwd:c.s.wd=w:=by kernel_rfl)
  (hr:((e r).1,(e r).2.1)=(.bs d i ver 0 k,sg):=by kernel_rfl):Ans T F e r c:=by
 simp only[Prod.mk.injEq] at hr
 have hl0:leave F c.s=some ((e r).1,(e r).2.1,w):=by
  unfold leave
  rw[hF]
  have e1:(if F.keepR then one [c.s.tm t] else fz3 c.s.fr (one [c.s.tm t])) = .bs (d+1) i ver 0 k:=by
   simp only[one,ht,fz3,fz2,fz0,ite_self]
  have e1':(bif F.keepR then one [c.s.tm t] else fz3 c.s.fr (one [c.s.tm t])) = .bs (d+1) i ver 0 k:=by
   cases hk:F.keepR<;>simp only[hk,cond_true,cond_false,one,ht,fz3,fz2,fz0]
  simp only[List.mapM_cons,List.mapM_nil,resV,Option.pure_def,Option.bind_eq_bind,Option.bind_some,e1']
  have e2:pu3 (V.bs (d+1) i ver 0 k)=false:=rfl
  rw[e2,hs,hwd]
  obtain⟨b0,hb⟩:=hp
  cases sg with
  |nil=>cases hb
  |cons f r'=>
   have e3:∀ kp,dnR kp (V.bs (d+1) i ver 0 k)=some (V.bs d i ver 0 k):=by
    intro kp
    show dn0 1 (V.bs (d+1) i ver 0 k)=_
    have:Nat.ble 1 (d+1)=true:=bT' (by omega)
    simp only[dn0,this,cond_true,Nat.add_sub_cancel]
   simp only[cond_false,e3,hr.1,hr.2]
 obtain⟨k',x,s⟩:=c
 unfold endOk at hx
 split at hx
 ·rename_i hk' hx'
  simp only at hk' hx'
  subst hk';subst hx'
  exact⟨w,hw,hl0⟩
 ·rename_i hk' hx'
  simp only at hk' hx'
  subst hk';subst hx'
  exact⟨w,hw,hl0⟩
 ·cases hx
def clM (C:Cfg) (c:Cf):Option (FuncId × List V × List Nat × List DOp × List DOp × Option Nat):=match mopA c with
 |some (dd,.call f as,re,all,l)=>some (f,(as.map (rd c.s.tm)).map (argV (C.keepA f)),re,all,l,dd)
 |some (dd,.cv x as,re,all,l)=>match rd c.s.tm x with
  | .fn f a b=>some (f,(a++as.map (rd c.s.tm)++b).map (argV (C.keepA f)),re,all,l,dd)
  |_=>none
 |_=>none
def cmD (C:Cfg) (c:Cf):List DOp × List DOp × Option Nat:=match clM C c with
 |some (_,_,_,x)=>x
 |none=>([],[],none)
theorem clim {f:FuncId} {l:List V} {v:V} (hs:T.call f l (c.s.fr::c.s.sg)=some (v,c.s.fr::c.s.sg,0)) (h:Ans T F e r (setD c (cmD T.C c).1 (cmD T.C c).2.1 (put c.s (cmD T.C c).2.2 v))) (hc:clM T.C c=some (f,l,[],(cmD T.C c).1,(cmD T.C c).2.1,(cmD T.C c).2.2):=by kernel_rfl):Ans T F e r c:=by
 revert hc h
 generalize cmD T.C c=D
 intro h hc
 obtain⟨D1,D2,D3⟩:=D
 unfold clM at hc
 split at hc
 ·rename_i dd g as re all ll hm
  simp only[Option.some.injEq,Prod.mk.injEq] at hc
  obtain⟨rfl,rfl,rfl,rfl,rfl,rfl⟩:=hc
  refine opD_s hm ?_ trivial h
  show doCall T.C T.call g (as.map (rd c.s.tm)) c.s=_
  unfold doCall
  rw[hs]
  simp
 ·rename_i dd x as re all ll hm
  split at hc
  ·rename_i g a b hx
   simp only[Option.some.injEq,Prod.mk.injEq] at hc
   obtain⟨rfl,rfl,rfl,rfl,rfl,rfl⟩:=hc
   refine opD_s hm ?_ trivial h
   show doFn T.C T.call (rd c.s.tm x) (as.map (rd c.s.tm)) c.s=_
   rw[hx]
   unfold doFn doCall
   simp only
   rw[hs]
   simp
  ·cases hc
 ·cases hc
theorem clm {f:FuncId} {l:List V} {v:V} (hs:SaysT T f l v) (h:Ans T F e r (setD c (cmD T.C c).1 (cmD T.C c).2.1 (put c.s (cmD T.C c).2.2 v))) (hc:clM T.C c=some (f,l,[],(cmD T.C c).1,(cmD T.C c).2.1,(cmD T.C c).2.2):=by kernel_rfl):Ans T F e r c:=clim (hs _) h hc
theorem clq {f:FuncId} {l:List V} {v:V} {SG1:List Fr} (hs:T.call f l SG1=some (v,SG1,0)) (h:Ans T F e r (setA c v)) (h1:SG1=c.s.fr::c.s.sg:=by kernel_rfl) (hc:callA T.C c=some (f,l):=by kernel_rfl):Ans T F e r c:=by
 rw[h1] at hs;exact cli hs h hc
def lsA (c:Cf):LS:=match loopA c with
 |some (_,_,l)=>l
 |none=>{ vals:=[],fr:=[],sg:=[],wd:=0 }
theorem unr (h:Ans T F e r ⟨.code (bdA c) :: .rnd c.s.fr.length (lvA c) (bdA c)::popK c,.normal,(lsA c).st (lvA c)⟩) (hl:loopA c=some (lvA c,bdA c,lsA c):=by kernel_rfl):Ans T F e r c:=hd_lp hl rfl (hd_in h)
theorem unl3 (L0 L1 L2:LS) (h2:Ans T F e r ⟨.code (bdA c) :: .rnd c.s.fr.length (lvA c) (bdA c)::popK c,.normal,L2.st (lvA c)⟩) (h1:Head T F e r c.s.fr.length (lvA c) (bdA c) (popK c) L2→Ans T F e r ⟨.code (bdA c) :: .rnd c.s.fr.length (lvA c) (bdA c)::popK c,.normal,L1.st (lvA c)⟩)
 (h0:Head T F e r c.s.fr.length (lvA c) (bdA c) (popK c) L1→Ans T F e r ⟨.code (bdA c) :: .rnd c.s.fr.length (lvA c) (bdA c)::popK c,.normal,L0.st (lvA c)⟩) (hl:loopA c=some (lvA c,bdA c,L0):=by kernel_rfl):Ans T F e r c:=hd_lp hl rfl (hd_in (h0 (hd_in (h1 (hd_in h2)))))
def azA (c:Cf):Option (Bool × List V × Nat × Nat × Nat):=match nextO c with
 |some (_,.az ag z x n)=>match rd c.s.tm x,nat? (rd c.s.tm n) with
  | .sl .ex zl [],some n=>some (ag,z,zl,n,c.s.fr.length)
  |_,_=>none
 |_=>none
theorem azw {β:Type} {en:β→V} {ag:Bool} {z:List V} {n i zl:Nat} (x0:β) (h0:0<n) (hn:n≤lim) (hx:mkEl ag z=en x0) (hz:z.length=zl) (h:Ans T F e r (setF c (.bs 0 i n 0 n) { c.s with fr:=c.s.fr ++ [.arr n zl ((List.replicate n x0).map en)] }))
  (hc:azA c=some (ag,z,zl,n,i):=by kernel_rfl) (hr:inReg c=true:=by kernel_rfl):Ans T F e r c:=by
 unfold azA at hc
 split at hc
 ·rename_i d ag' z' x n' hno
  split at hc
  ·rename_i zl' n'' h1 h2
   simp only[Option.some.injEq,Prod.mk.injEq] at hc
   obtain⟨rfl,rfl,rfl,rfl,rfl⟩:=hc
   refine opF_s hr hno ?_ h
   show((nat? (rd c.s.tm n')).bind fun n=>amV z'.length c.s (rd c.s.tm x) (List.replicate n (mkEl ag' z')))=_
   rw[h2,h1,Option.bind_some]
   obtain⟨m,rfl⟩:∃ m,n''=m+1:=⟨n''-1,by omega⟩
   have e1:(Nat.beq zl' z'.length&&Nat.ble (([]:List V).length+(List.replicate (m+1) (mkEl ag' z')).length) lim)=true:=by
    rw[hz,Nat.beq_refl,List.length_replicate,List.length_nil,Nat.zero_add,bT' hn];rfl
   simp only[amV,e1,cond_true]
   simp only[List.replicate_succ,List.length_cons,List.length_nil,List.length_replicate,Nat.zero_add,List.nil_append,List.map_cons,List.map_replicate,hx]
  ·cases hc
 ·cases hc
def amC {β:Type} (L:List β) (k:Nat) (M:List β):List β:=bif M.isEmpty then L else L.take k++M
theorem amC_len {β:Type} {L M:List β} {k:Nat} (h:k≤L.length):k+M.length≤(amC L k M).length:=by
 cases M with
 |nil=>exact h
 |cons m M=>simp only[amC,List.isEmpty_cons,cond_false,List.length_append,List.length_take];omega
theorem amw {β:Type} {en:β→V} {L M:List β} {i z ver n:Nat} (hk:n≤L.length) (hlen:n+M.length≤lim) (hcel:∀ x∈M,cel (en x)=true)
  (h:Ans T F e r (setF c (.bs 0 i (ver+M.length) 0 (n+M.length)) (c.s.set 0 i (.arr (ver+M.length) z ((amC L n M).map en)))))
  (hc:amA c=some (0,i,ver,ver,z,0,n,L.map en,M.map en,z):=by kernel_rfl) (hr:inReg c=true:=by kernel_rfl):Ans T F e r c:=by
 unfold amA at hc
 split at hc
 ·rename_i d sz x y hno
  split at hc
  ·rename_i d' i' ver' o' len' ys hx hy
   split at hc
   ·rename_i ver'' z' es hg
    simp only[Option.some.injEq,Prod.mk.injEq] at hc
    obtain⟨rfl,rfl,rfl,rfl,rfl,rfl,rfl,rfl,rfl,e2⟩:=hc
    subst e2
    refine opF_s hr hno ?_ h
    show(els sz c.s (rd c.s.tm y)).bind (fun l=>amV sz c.s (rd c.s.tm x) l)=_
    rw[hx,hy]
    simp only[Option.bind_some,amV,hg,List.length_map]
    have h2:∀ q:Nat,Nat.beq q q=true:=fun q=>Nat.beq_refl q
    have h3:∀ q,q=len'→Nat.ble (0+q) L.length=true:=fun q hq=>bT' (by omega)
    have h4:Nat.ble (len'+M.length) lim=true:=bT' hlen
    have h5:(M.map en).all cel=true:=by
     rw[List.all_eq_true]
     intro v hv
     obtain⟨x,hx,rfl⟩:=List.mem_map.1 hv
     exact hcel x hx
    simp only[h2,h3 _ rfl,h4,h5,Bool.and_self,cond_true]
    cases M with
    |nil=>
     simp only[List.map_nil,List.length_nil,Nat.add_zero,amC,List.isEmpty_nil,cond_true]
     have e1:=set_same c.s 0 _ _ hg
     exact congrArg some (Prod.ext rfl e1.symm)
    |cons m M=>
     simp only[amC,List.isEmpty_cons,cond_false,List.map_cons,List.length_cons,List.drop_zero,List.map_append,List.map_take]
   ·cases hc
  ·cases hc
 ·cases hc
end
end Go.Vm
/-
  The program's data: of sizes that may be.
-/
namespace Go.Sp
open Go Go.Vm
def i64ok (n:Int):Prop:=-9223372036854775808≤n∧n≤9223372036854775807
def Val.ok (v:Val):Prop:=v.s.length≤140737488351232∧i64ok v.n∧i64ok v.kind
def Term.ok (t:Term):Prop:=t.var.length≤140737488351232∧t.val.ok
def Atom.ok (a:Atom):Prop:=a.name.length≤140737488351232∧a.args.length≤140737488351232∧∀ t∈a.args,t.ok
def Node.ok (n:Node):Prop:=n.atom.ok∧i64ok n.kind∧i64ok n.a∧i64ok n.b
def okL (l:List Node):Prop:=l.length≤140737488351232∧∀ n∈l,n.ok
theorem Val.ok.s {v:Val} (h:v.ok):v.s.length≤140737488351232:=h.1
theorem Term.ok.var {t:Term} (h:t.ok):t.var.length≤140737488351232:=h.1
theorem Term.ok.val {t:Term} (h:t.ok):t.val.ok:=h.2
theorem Atom.ok.name {a:Atom} (h:a.ok):a.name.length≤140737488351232:=h.1
theorem Atom.ok.args {a:Atom} (h:a.ok):a.args.length≤140737488351232:=h.2.1
theorem Atom.ok.arg {a:Atom} (h:a.ok) {i:Nat} {t:Term} (ht:a.args[i]? = some t):t.ok:=h.2.2 t (List.mem_of_getElem? ht)
theorem Atom.ok.mem {a:Atom} (h:a.ok) {t:Term} (ht:t∈a.args):t.ok:=h.2.2 t ht
theorem Node.ok.atom {n:Node} (h:n.ok):n.atom.ok:=h.1
theorem okL.len {l:List Node} (h:okL l):l.length≤140737488351232:=h.1
theorem okL.get {l:List Node} (h:okL l) {i:Nat} {n:Node} (hn:l[i]? = some n):n.ok:=h.2 n (List.mem_of_getElem? hn)
theorem okL.mem {l:List Node} (h:okL l) {n:Node} (hn:n∈l):n.ok:=h.2 n hn
theorem okL.b {l:List Node} (h:okL l) {i:Nat} {n:Node} (hn:l[i]? = some n):(-9223372036854775808≤n.kind∧n.kind≤9223372036854775807)∧(-9223372036854775808≤n.a∧n.a≤9223372036854775807)∧(-9223372036854775808≤n.b∧n.b≤9223372036854775807):=(okL.get h hn).2
attribute [grind →] Val.ok.s Term.ok.var Term.ok.val Atom.ok.name Atom.ok.args Atom.ok.arg Atom.ok.mem Node.ok.atom okL.len okL.get okL.mem
theorem all_snoc {α:Type} {P:Nat→α→Prop} {l:List α} {z:α} (h:∀ j y,l[j]? = some y→P j y) (hz:P l.length z):∀ j y,(l ++ [z])[j]? = some y→P j y:=by
 intro j y hy
 by_cases hj:j<l.length
 ·rw[List.getElem?_append_left hj] at hy;exact h j y hy
 ·rw[List.getElem?_append_right (by omega)] at hy
  have:j-l.length=0:=by
   rcases Nat.eq_zero_or_pos (j-l.length) with h0|h0
   ·exact h0
   ·rw[List.getElem?_eq_none (by simp;omega)] at hy;cases hy
  rw[this] at hy
  cases hy
  rw[show j=l.length by omega];exact hz
end Go.Sp
/-
  The program's data: of sizes that may be: operations, conditions, rules, programs.
-/
namespace Go.Sp
open Go Go.Vm
def Op.ok (o:Op):Prop:=i64ok o.kind∧o.var.length≤140737488351232∧o.val.ok
def okOps (l:List Op):Prop:=l.length≤140737488351232∧∀ o∈l,o.ok
def Cond.ok (c:Cond):Prop:=i64ok c.kind∧c.atom.ok∧i64ok c.how∧okOps c.left∧okOps c.right
def Act.ok (a:Act):Prop:=i64ok a.kind∧a.name.length≤140737488351232∧(a.args.length≤140737488351232∧∀ l∈a.args,okOps l)∧i64ok a.which
def Rule.ok (r:Rule):Prop:=r.name.length≤140737488351232∧i64ok r.prio∧(r.conds.length≤140737488351232∧∀ c∈r.conds,c.ok)∧(r.acts.length≤140737488351232∧∀ a∈r.acts,a.ok)
def Decl.ok (d:Decl):Prop:=d.name.length≤140737488351232∧i64ok d.arity∧i64ok d.kind
def Pattern.ok (p:Pattern):Prop:=p.name.length≤140737488351232∧p.trigger.ok∧okL p.nodes
def Prog.ok (p:Prog):Prop:=(p.decls.length≤140737488351232∧∀ d∈p.decls,d.ok)∧(p.rules.length≤140737488351232∧∀ r∈p.rules,r.ok)∧(p.pats.length≤140737488351232∧∀ x∈p.pats,x.ok)
theorem okOps.get {l:List Op} (h:okOps l) {i:Nat} {o:Op} (ho:l[i]? = some o):o.ok:=h.2 o (List.mem_of_getElem? ho)
theorem Rule.ok.cond {r:Rule} (h:r.ok) {i:Nat} {c:Cond} (hc:r.conds[i]? = some c):c.ok:=h.2.2.1.2 c (List.mem_of_getElem? hc)
theorem Rule.ok.act {r:Rule} (h:r.ok) {a:Act} (ha:a∈r.acts):a.ok:=h.2.2.2.2 a ha
end Go.Sp
/-
  The program's data: of sizes that may be: facts, values of variables, matches.
-/
namespace Go.Sp
open Go Go.Vm
def Bind.ok (b:Bind):Prop:=b.var.length≤140737488351232∧b.val.ok
def okB (l:List Bind):Prop:=l.length≤140737488351232∧∀ x∈l,x.ok
def Fact.ok (f:Fact):Prop:=f.name.length≤140737488351232∧f.args.length≤140737488351232∧∀ v∈f.args,v.ok
def okFs (l:List Fact):Prop:=l.length≤140737488351232∧∀ x∈l,x.ok
def Inst.ok (x:Inst):Prop:=i64ok x.rule∧okFs x.facts
def okI (l:List Inst):Prop:=l.length≤140737488351232∧∀ x∈l,x.ok
theorem okB.get {l:List Bind} (h:okB l) {i:Nat} {x:Bind} (hx:l[i]? = some x):x.ok:=h.2 x (List.mem_of_getElem? hx)
theorem okFs.get {l:List Fact} (h:okFs l) {i:Nat} {x:Fact} (hx:l[i]? = some x):x.ok:=h.2 x (List.mem_of_getElem? hx)
theorem Fact.ok.get {f:Fact} (h:f.ok) {i:Nat} {x:Val} (hx:f.args[i]? = some x):x.ok:=h.2.2 x (List.mem_of_getElem? hx)
theorem okI.get {l:List Inst} (h:okI l) {i:Nat} {x:Inst} (hx:l[i]? = some x):x.ok:=h.2 x (List.mem_of_getElem? hx)
theorem okB.sub {l m:List Bind} (h:okB l) (hm:∀ x∈m,x∈l) (hl:m.length≤140737488351232):okB m:=⟨hl,fun x hx=>h.2 x (hm x hx)⟩
end Go.Sp
/-
  The machine V: maps of texts, in words for printed proofs.
-/
namespace Go.Vm
open Go
def mFind {β:Type} (k:List UInt8):List (List UInt8 × β)→Nat→Option (Nat × β)
 | [],_=>none
 |(a,b)::r,i=>bif k == a then some (i,b) else mFind k r (i+1)
def mGet {β:Type} (T:List (List UInt8 × β)) (k:List UInt8) (z:β):β:=((mFind k T 0).map (·.2)).getD z
def mPut {β:Type} (T:List (List UInt8 × β)) (k:List UInt8) (v:β):List (List UInt8 × β):=match mFind k T 0 with
 |some (j,_)=>T.set j (k,v)
 |none=>T ++ [(k,v)]
abbrev eM {β:Type} (en:β→V) (e:List UInt8 × β):V × V:=(.str e.1,en e.2)
theorem findM_eM {β:Type} (en:β→V) (k:List UInt8):∀ (T:List (List UInt8 × β)) (i:Nat),findM (.str k) (T.map (eM en)) i=some ((mFind k T i).map fun p=>(p.1,en p.2))
 | [],_=>rfl
 |(a,b)::r,i=>by
  simp only[List.map_cons,findM,sk,mFind]
  cases k == a with
  |true=>rfl
  |false=>exact findM_eM en k r (i+1)
section
attribute [local semireducible] Ans Head
variable {T:Tab} {F:VF} {α:Type} {e:α→V × List Fr × Nat} {r:α} {c:Cf}
def mgA (c:Cf):Option (V × Nat × List (V × V) × V):=match nextO c with
 |some (_,.mg false none z m k)=>match rd c.s.tm m with
  | .mp 0 i=>match c.s.fr[i]? with
   |some (.map es)=>some (z,i,es,rd c.s.tm k)
   |_=>none
  |_=>none
 |_=>none
theorem mgw {β:Type} {en:β→V} {M:List (List UInt8 × β)} {k:List UInt8} {z:β} {i:Nat} (h:Ans T F e r (setF c (en (mGet M k z)) c.s)) (hc:mgA c=some (en z,i,M.map (eM en),.str k):=by kernel_rfl) (hr:inReg c=true:=by kernel_rfl):Ans T F e r c:=by
 unfold mgA at hc
 split at hc
 ·rename_i d zz m kk hno
  split at hc
  ·rename_i i' hm
   split at hc
   ·rename_i es hg
    simp only[Option.some.injEq,Prod.mk.injEq] at hc
    obtain⟨rfl,rfl,rfl,hk⟩:=hc
    refine opF_s hr hno ?_ h
    have hg':c.s.get 0 i'=some (.map (M.map (eM en))):=hg
    simp only[opV,hk,kK,cond_true,hm,lookM,hg',findM_eM,Option.map_some,cond_false]
    unfold mGet
    cases mFind k M 0<;>rfl
   ·cases hc
  ·cases hc
 ·cases hc
def muA (c:Cf):Option (Nat × List (V × V) × V × V):=match nextO c with
 |some (_,.mu none m k v)=>match rd c.s.tm m with
  | .mp 0 i=>match c.s.fr[i]? with
   |some (.map es)=>some (i,es,rd c.s.tm k,rd c.s.tm v)
   |_=>none
  |_=>none
 |_=>none
theorem muw {β:Type} {en:β→V} {M:List (List UInt8 × β)} {k:List UInt8} {v:β} {i:Nat} (hms:ms1 (en v)=true) (h:Ans T F e r (setF c .und (c.s.set 0 i (.map ((mPut M k v).map (eM en)))))) (hc:muA c=some (i,M.map (eM en),.str k,en v):=by kernel_rfl) (hr:inReg c=true:=by kernel_rfl):Ans T F e r c:=by
 unfold muA at hc
 split at hc
 ·rename_i d m kk vv hno
  split at hc
  ·rename_i i' hm
   split at hc
   ·rename_i es hg
    simp only[Option.some.injEq,Prod.mk.injEq] at hc
    obtain⟨rfl,rfl,hk,hv⟩:=hc
    refine opF_s hr hno ?_ h
    have hg':c.s.get 0 i'=some (.map (M.map (eM en))):=hg
    simp only[opV,hk,hv,kK,cond_true,hm,updM,hg',hms,findM_eM,Option.map_some]
    unfold mPut
    cases mFind k M 0 with
    |none=>simp[eM]
    |some p=>obtain⟨j,b⟩:=p;simp[eM,List.map_set]
   ·cases hc
  ·cases hc
 ·cases hc
end
end Go.Vm
/-
  The order of texts; lists in order; a list sorted by putting each one to its place.
-/
namespace Go.Vm
open Go Go.Sp
theorem cb_eq:∀ a b:List UInt8,Lib.compareBytes a b=0→a=b
 | [],[],_=>rfl
 | [],_::_,h=>by simp[Lib.compareBytes] at h
 |_::_,[],h=>by simp[Lib.compareBytes] at h
 |a::l,b::m,h=>by
  rw[Lib.compareBytes] at h
  by_cases h1:a<b
  ·rw[if_pos h1] at h;cases h
  ·rw[if_neg h1] at h
   by_cases h2:b<a
   ·rw[if_pos h2] at h;cases h
   ·rw[if_neg h2] at h
    rw[cb_eq l m h,UInt8.le_antisymm (UInt8.not_lt.1 h2) (UInt8.not_lt.1 h1)]
theorem cb_swap:∀ a b:List UInt8,Lib.compareBytes b a = - Lib.compareBytes a b
 | [],[]=>rfl
 | [],_::_=>rfl
 |_::_,[]=>rfl
 |a::l,b::m=>by
  rw[Lib.compareBytes,Lib.compareBytes]
  by_cases h1:a<b
  ·have h2:¬ b<a:=fun h=>UInt8.lt_irrefl a (UInt8.lt_trans h1 h)
   rw[if_neg h2,if_pos h1,if_pos h1];rfl
  ·rw[if_neg h1,if_neg h1]
   by_cases h2:b<a
   ·rw[if_pos h2,if_pos h2]
   ·rw[if_neg h2,if_neg h2];exact cb_swap l m
theorem cb_trans:∀ a b c:List UInt8,Lib.compareBytes a b≤0→Lib.compareBytes b c≤0→Lib.compareBytes a c≤0
 | [],b,[],_,_=>by simp[Lib.compareBytes]
 | [],b,_::_,_,_=>by simp[Lib.compareBytes]
 |_::_,[],c,h,_=>by simp[Lib.compareBytes] at h
 |_::_,_::_,[],_,h=>by simp[Lib.compareBytes] at h
 |a::l,b::m,c::n,h1,h2=>by
  rw[Lib.compareBytes] at h1 h2 ⊢
  by_cases ab:a<b
  ·by_cases bc:b<c
   ·rw[if_pos (UInt8.lt_trans ab bc)];decide
   ·rw[if_neg bc] at h2
    by_cases cb:c<b
    ·rw[if_pos cb] at h2;exact absurd h2 (by decide)
    ·have:b=c:=UInt8.le_antisymm (UInt8.not_lt.1 cb) (UInt8.not_lt.1 bc)
     subst this
     rw[if_pos ab];decide
  ·rw[if_neg ab] at h1
   by_cases ba:b<a
   ·rw[if_pos ba] at h1;exact absurd h1 (by decide)
   ·have:a=b:=UInt8.le_antisymm (UInt8.not_lt.1 ba) (UInt8.not_lt.1 ab)
    subst this
    rw[if_neg ba] at h1
    by_cases bc:a<c
    ·rw[if_pos bc];decide
    ·rw[if_neg bc] at h2 ⊢
     by_cases cb:c<a
     ·rw[if_pos cb] at h2;exact absurd h2 (by decide)
     ·rw[if_neg cb] at h2 ⊢
      exact cb_trans l m n h1 h2
structure Cmp {α:Type} (cmp:α→α→Int):Prop where
 swap:∀ a b,cmp b a = - cmp a b
 trans:∀ a b c,cmp a b≤0→cmp b c≤0→cmp a c≤0
theorem Cmp.of {α β:Type} {cmp:β→β→Int} (h:Cmp cmp) (f:α→β):Cmp (fun x y=>cmp (f x) (f y)):=⟨fun _ _=>h.swap _ _,fun _ _ _=>h.trans _ _ _⟩
theorem Cmp.txt:Cmp Lib.compareBytes:=⟨cb_swap,cb_trans⟩
def srtI {α:Type} (cmp:α→α→Int):List α→α→List α→List α
 | [],x,s=>x::s
 |y::q,x,s=>bif decide (cmp x y<0) then srtI cmp q x (y::s) else q.reverse++y::x::s
def srtL {α:Type} (cmp:α→α→Int):List α→List α→List α
 |p,[]=>p
 |p,x::s=>srtL cmp (srtI cmp p.reverse x []) s
theorem srtI_perm {α:Type} (cmp:α→α→Int):∀ (q:List α) (x:α) (s:List α),(srtI cmp q x s).Perm (q.reverse++x::s)
 | [],x,s=>List.Perm.refl _
 |y::q,x,s=>by
  rw[srtI]
  cases decide (cmp x y<0) with
  |true=>
   refine(srtI_perm cmp q x (y::s)).trans ?_
   rw[List.reverse_cons,List.append_assoc]
   exact List.Perm.append_left _ (List.Perm.swap ..)
  |false=>rw[List.reverse_cons,List.append_assoc];exact List.Perm.refl _
theorem srtI_app {α:Type} (cmp:α→α→Int):∀ (q:List α) (x:α) (s t:List α),srtI cmp q x (s++t)=srtI cmp q x s++t
 | [],x,s,t=>rfl
 |y::q,x,s,t=>by
  rw[srtI,srtI]
  cases decide (cmp x y<0) with
  |true=>exact srtI_app cmp q x (y::s) t
  |false=>simp[cond_false]
theorem srtL_perm {α:Type} (cmp:α→α→Int):∀ (s p:List α),(srtL cmp p s).Perm (p++s)
 | [],p=>by rw[srtL,List.append_nil]
 |x::s,p=>by
  rw[srtL]
  refine(srtL_perm cmp s _).trans ?_
  have:=(srtI_perm cmp p.reverse x []).append_right s
  rw[List.reverse_reverse,List.append_assoc] at this
  exact this
abbrev isrt {α:Type} (cmp:α→α→Int) (l:List α):List α:=srtL cmp [] l
end Go.Vm
/-
  Lists in order by a key: the same ones that stand side by side made one; each key with one thing alone.
-/
namespace Go.Vm
open Go Go.Sp
def dd {α:Type} [BEq α]:List α→List α
 |x::y::l=>bif x == y then dd (y::l) else x::dd (y::l)
 |l=>l
theorem dd_two {α:Type} [BEq α] (x y:α) (l:List α):dd (x::y::l)=bif x == y then dd (y::l) else x::dd (y::l):=rfl
theorem dd_head {α : Type} [BEq α] [LawfulBEq α] : ∀ (x : α) (l : List α), ∃ m, dd (x :: l) = x :: m
  | x, [] => ⟨[], rfl⟩
  | x, y :: l => by
    rw [dd_two]
    cases h : x == y with
    | true => have : x = y := by simpa using h
              subst this
              exact dd_head x l
    | false => exact ⟨_, rfl⟩
theorem mem_dd {α:Type} [BEq α] [LawfulBEq α] (z:α):∀ l:List α,z∈dd l↔z∈l
 | []=>Iff.rfl
 | [x]=>Iff.rfl
 |x::y::l=>by
  rw[dd_two]
  cases h:x == y with
  |true=>
   have:x=y:=by simpa using h
   subst this
   rw[cond_true,mem_dd z (x::l)]
   simp
  |false=>rw[cond_false,List.mem_cons,mem_dd z (y::l),List.mem_cons (a:=z) (b:=x)]
theorem dd_len {α:Type} [BEq α]:∀ l:List α,(dd l).length≤l.length
 | []=>Nat.le_refl _
 | [x]=>Nat.le_refl _
 |x::y::l=>by
  rw[dd_two]
  have:=dd_len (y::l)
  cases x == y with
  |true=>simp only[cond_true,List.length_cons] at this ⊢;omega
  |false=>simp only[cond_false,List.length_cons] at this ⊢;omega
section
variable {α:Type} [BEq α] [LawfulBEq α] (key:α→List UInt8)
def Fn1 (l:List α):Prop:=∀ x∈l,∀ y∈l,key x=key y→x=y
end
end Go.Vm
/-
  The machine V, for the kernel: calls whose answers are known.
-/
namespace Go.Vm
open Go
theorem suB0 (b:Blk):suB sg0 b=b:=by
 cases b with
 |box l=>simp only[suB,suL0]
 |arr v z l=>simp only[suB,suL0,su0]
 |tok v=>simp only[suB]
 |map es=>simp only[suB,su0,List.map_id']
 |dead=>simp only[suB]
theorem suG0 (sg:List Fr):suG sg0 sg=sg:=by
 have h1:suB sg0=id:=funext suB0
 have h2:suF sg0=id:=funext fun f=>by simp only[suF,h1,List.map_id,id]
 simp only[suG,h2,List.map_id]
class Cl {α:Type} (e:α→V) where
 cl:∀ (σ:Int→V) x,su σ (e x)=e x
class Cd {α:Type} (e:α→V) extends Cl e where
 dec:V→Option α
 ok:∀ v x,dec v=some x→v=e x
def KOk (T:Tab) (f:FuncId) (k:List V→Option V):Prop:=∀ (σ:Int→V) (l:List V) v sg,k l=some v→T.call f (suL σ l) sg=some (su σ v,sg,0)
inductive KT where
 |leaf
 |node (f:Nat) (k:List V→Option V) (l r:KT)
noncomputable def KT.get (t:KT) (f:FuncId):List V→Option V:=
 @KT.rec (fun _=>List V→Option V) (fun _=>none) (fun g k _ _ l r=>@Bool.rec (fun _=>List V→Option V) (@Bool.rec (fun _=>List V→Option V) r l (Nat.blt f g)) k (Nat.beq f g)) t
def KT.Ok (T:Tab):KT→Prop
 | .leaf=>True
 | .node f k l r=>KOk T f k∧l.Ok T∧r.Ok T
noncomputable def k1 {α β:Type} (e:α→V) [Cd e] (e':β→V) (c:α→Bool) (g:α→β):List V→Option V:=fun l=>match l with
 | [a]=>match Cd.dec e a with
  |some x=>bif c x then some (e' (g x)) else none
  |none=>none
 |_=>none
noncomputable def k2 {α γ β:Type} (e:α→V) [Cd e] (e2:γ→V) [Cd e2] (e':β→V) (c:α→γ→Bool) (g:α→γ→β):List V→Option V:=fun l=>match l with
 | [a,b]=>match Cd.dec e a with
  |some x=>match Cd.dec e2 b with
   |some y=>bif c x y then some (e' (g x y)) else none
   |none=>none
  |none=>none
 |_=>none
theorem says_of_C {T:Tab} {A:Orc} (hA:OrcOk T sg0 A) (hp:CallS sg0 T.prim T.prim) (hl:∀ f F,T.funs f=some F→clC F.code=true) {n:Nat} {f:FuncId} {l:List V} {v:V}
  (h:∀ (p:List Fr→Bool) sg,callC T.C A T.funs T.prim n f l sg (fun v' sg' wd=>ifK (veq v' v) (ifK (Nat.beq wd 0) (p sg') false) false)=p sg):SaysT T f l v:=by
 classical
 intro sg
 have h1:=h (fun x=>decide (x=sg)) sg
 simp only[decide_true] at h1
 obtain⟨v',sg',wd,h2,h3⟩:=callC_s num0 hA hp hl n f l sg _ h1
 rw[suL0,suG0] at h2
 rw[h2]
 cases hv:veq v' v with
 |false=>rw[hv] at h3;cases h3
 |true=>
  rw[hv] at h3
  cases hw:Nat.beq wd 0 with
  |false=>rw[hw] at h3;cases h3
  |true=>
   rw[hw] at h3
   have h3:decide (sg'=sg)=true:=h3
   rw[su0,suG0,veq_sound _ _ hv,of_decide_eq_true h3,Nat.eq_of_beq_eq_true hw]
end Go.Vm
/-
  The machine V, for the kernel: tables of known calls, one behind the other; numbers of which only rests are looked at.
-/
namespace Go.Vm
open Go
noncomputable def orcN:Orc:={ B:=fun _ _ _=>none,W:=fun _ _=>none,E:=fun _ _ _=>none,K:=fun _ _=>none }
theorem orcN_ok {T:Tab} {σ:Int→V}:OrcOk T σ orcN:=⟨(fun _ _ _ _ h=>by cases h),(fun _ _ _ h=>by cases h),(fun _ _ _ _ h=>by cases h),(fun _ _ _ _ h=>by cases h)⟩
end Go.Vm
/-
  The program's data as what comes in from outside: shapes, and the data of a value of such a shape.
-/
namespace Go.Sp
open Go Go.Vm
abbrev shVal:Sh:=.st [.int .i64,.int .i64,.str]
abbrev shTerm:Sh:=.st [.str,shVal]
abbrev shAtom:Sh:=.st [.str,.sl 4 shTerm]
abbrev shNode:Sh:=.st [.int .i64,shAtom,.int .i64,.int .i64]
theorem wf_i64 {n:Int} (h:(Lit.int .i64 n).wf=true):i64ok n:=by
 simp only[Lit.wf,Bool.and_eq_true,decide_eq_true_eq] at h
 exact h
theorem lenB_le {n:Nat} (h:n≤lenB):n≤140737488351232:=h
theorem hasC_val {cs:List V} (h:HasC shVal cs):∃ v:Val,cs=v.cells∧v.ok:=by
 obtain⟨a1,b1,rfl,⟨n1,rfl,w1⟩,a2,b2,rfl,⟨n2,rfl,w2⟩,a3,b3,rfl,⟨s,rfl,w3⟩,rfl⟩:=h
 exact⟨⟨n1,n2,s⟩,rfl,lenB_le w3,wf_i64 w2,wf_i64 w1⟩
theorem hasC_term {cs:List V} (h:HasC shTerm cs):∃ v:Term,cs=v.cells∧v.ok:=by
 obtain⟨a1,b1,rfl,⟨s,rfl,w1⟩,a2,b2,rfl,h2,rfl⟩:=h
 obtain⟨v,rfl,h3⟩:=hasC_val h2
 exact⟨⟨s,v⟩,rfl,lenB_le w1,h3⟩
theorem has_term {x:V} (h:HasV shTerm x):∃ v:Term,x=eTerm v∧v.ok:=by
 obtain⟨cs,rfl,h⟩:=h
 obtain⟨v,rfl,h3⟩:=hasC_term h
 exact⟨v,rfl,h3⟩
theorem hasC_atom {cs:List V} (h:HasC shAtom cs):∃ v:Atom,cs=v.cells∧v.ok:=by
 obtain⟨a1,b1,rfl,⟨s,rfl,w1⟩,a2,b2,rfl,h2,rfl⟩:=h
 obtain⟨l,h3,h4,h5⟩:=has_list (en:=eTerm) (ok:=Term.ok) (fun x h=>has_term h) (x:=pack (.sl 4 shTerm) a2) ⟨a2,rfl,h2⟩
 obtain⟨css,rfl,_⟩:=h2
 refine⟨⟨s,l⟩,?_,lenB_le w1,lenB_le h4,h5⟩
 show [V.str s]++([_] ++ []) = [V.str s,_]
 have h3:V.sl .no 4 _=V.sl .no 4 (l.map eTerm):=h3
 rw[h3]
 rfl
theorem hasC_node {cs:List V} (h:HasC shNode cs):∃ v:Node,cs=v.cells∧v.ok:=by
 obtain⟨a1,b1,rfl,⟨k,rfl,w1⟩,a2,b2,rfl,h2,a3,b3,rfl,⟨a,rfl,w3⟩,a4,b4,rfl,⟨b,rfl,w4⟩,rfl⟩:=h
 obtain⟨v,rfl,h3⟩:=hasC_atom h2
 exact⟨⟨k,v,a,b⟩,rfl,h3,wf_i64 w1,wf_i64 w3,wf_i64 w4⟩
theorem has_node {x:V} (h:HasV shNode x):∃ v:Node,x=eNode v∧v.ok:=by
 obtain⟨cs,rfl,h⟩:=h
 obtain⟨v,rfl,h3⟩:=hasC_node h
 exact⟨v,rfl,h3⟩
end Go.Sp
/-
  Facts as what comes in from outside.
-/
namespace Go.Sp
open Go Go.Vm
abbrev shFact:Sh:=.st [.str,.sl 3 shVal]
theorem has_val {x:V} (h:HasV shVal x):∃ v:Val,x=eVal v∧v.ok:=by
 obtain⟨cs,rfl,h⟩:=h
 obtain⟨v,rfl,h3⟩:=hasC_val h
 exact⟨v,rfl,h3⟩
theorem hasC_fact {cs:List V} (h:HasC shFact cs):∃ v:Fact,cs=v.cells∧v.ok:=by
 obtain⟨a1,b1,rfl,⟨s,rfl,w1⟩,a2,b2,rfl,h2,rfl⟩:=h
 obtain⟨l,h3,h4,h5⟩:=has_list (en:=eVal) (ok:=Val.ok) (fun x h=>has_val h) (x:=pack (.sl 3 shVal) a2) ⟨a2,rfl,h2⟩
 obtain⟨css,rfl,_⟩:=h2
 refine⟨⟨s,l⟩,?_,lenB_le w1,lenB_le h4,h5⟩
 show [V.str s]++([_] ++ []) = [V.str s,_]
 have h3:V.sl .no 3 _=V.sl .no 3 (l.map eVal):=h3
 rw[h3]
 rfl
theorem has_fact {x:V} (h:HasV shFact x):∃ v:Fact,x=eFact v∧v.ok:=by
 obtain⟨cs,rfl,h⟩:=h
 obtain⟨v,rfl,h3⟩:=hasC_fact h
 exact⟨v,rfl,h3⟩
theorem has_facts {x:V} (h:HasV (.sl 2 shFact) x):∃ l:List Fact,x=eL 2 eFact l∧okFs l:=by
 obtain⟨l,h1,h2,h3⟩:=has_list (en:=eFact) (ok:=Fact.ok) (fun x h=>has_fact h) h
 exact⟨l,h1,lenB_le h2,h3⟩
end Go.Sp
/-
  Rules and programs as what comes in from outside.
-/
namespace Go.Sp
open Go Go.Vm
abbrev shOp:Sh:=.st [.int .i64,.str,shVal]
abbrev shCond:Sh:=.st [.int .i64,shAtom,.int .i64,.sl 5 shOp,.sl 5 shOp]
abbrev shAct:Sh:=.st [.int .i64,.str,.sl 1 (.sl 5 shOp),.int .i64]
abbrev shRule:Sh:=.st [.str,.int .i64,.sl 6 shCond,.sl 4 shAct]
abbrev shDecl:Sh:=.st [.str,.int .i64,.int .i64]
abbrev shPat:Sh:=.st [.str,shAtom,.sl 5 shNode]
abbrev shProg:Sh:=.st [.sl 3 shDecl,.sl 4 shRule,.sl 4 shPat]
theorem has_op {x:V} (h:HasV shOp x):∃ v:Op,x=eOp v∧v.ok:=by
 obtain⟨cs,rfl,h⟩:=h
 obtain⟨a1,b1,rfl,⟨k,rfl,w1⟩,a2,b2,rfl,⟨s,rfl,w2⟩,a3,b3,rfl,h3,rfl⟩:=h
 obtain⟨v,rfl,h4⟩:=hasC_val h3
 exact⟨⟨k,s,v⟩,rfl,wf_i64 w1,lenB_le w2,h4⟩
theorem hasC_list {z:Nat} {sh:Sh} {β:Type} {en:β→V} {ok:β→Prop} (he:∀ x,HasV sh x→∃ v,x=en v∧ok v) {cs:List V} (h:HasC (.sl z sh) cs):∃ l:List β,cs = [.sl .no z (l.map en)]∧l.length≤140737488351232∧∀ x∈l,ok x:=by
 obtain⟨l,h3,h4,h5⟩:=has_list (en:=en) (ok:=ok) he (x:=pack (.sl z sh) cs) ⟨cs,rfl,h⟩
 obtain⟨css,rfl,_⟩:=h
 have h3:V.sl .no z _=V.sl .no z (l.map en):=h3
 exact⟨l,by rw[h3],lenB_le h4,h5⟩
theorem hasC_ops {cs:List V} (h:HasC (.sl 5 shOp) cs):∃ l:List Op,cs = [eL 5 eOp l]∧okOps l:=by
 obtain⟨l,h1,h2,h3⟩:=hasC_list (fun x h=>has_op h) h
 exact⟨l,h1,h2,h3⟩
theorem has_ops {x:V} (h:HasV (.sl 5 shOp) x):∃ l:List Op,x=eL 5 eOp l∧okOps l:=by
 obtain⟨l,h1,h2,h3⟩:=has_list (en:=eOp) (ok:=Op.ok) (fun x h=>has_op h) h
 exact⟨l,h1,lenB_le h2,h3⟩
theorem has_cond {x:V} (h:HasV shCond x):∃ v:Cond,x=eCond v∧v.ok:=by
 obtain⟨cs,rfl,h⟩:=h
 obtain⟨a1,b1,rfl,⟨k,rfl,w1⟩,a2,b2,rfl,h2,a3,b3,rfl,⟨n,rfl,w3⟩,a4,b4,rfl,h4,a5,b5,rfl,h5,rfl⟩:=h
 obtain⟨a,rfl,oa⟩:=hasC_atom h2
 obtain⟨l,rfl,ol⟩:=hasC_ops h4
 obtain⟨r,rfl,or⟩:=hasC_ops h5
 exact⟨⟨k,a,n,l,r⟩,rfl,wf_i64 w1,oa,wf_i64 w3,ol,or⟩
theorem has_act {x:V} (h:HasV shAct x):∃ v:Act,x=eAct v∧v.ok:=by
 obtain⟨cs,rfl,h⟩:=h
 obtain⟨a1,b1,rfl,⟨k,rfl,w1⟩,a2,b2,rfl,⟨s,rfl,w2⟩,a3,b3,rfl,h3,a4,b4,rfl,⟨n,rfl,w4⟩,rfl⟩:=h
 obtain⟨l,rfl,q1,q2⟩:=hasC_list (fun x h=>has_ops h) h3
 exact⟨⟨k,s,l,n⟩,rfl,wf_i64 w1,lenB_le w2,⟨q1,q2⟩,wf_i64 w4⟩
theorem has_rule {x:V} (h:HasV shRule x):∃ v:Rule,x=eRule v∧v.ok:=by
 obtain⟨cs,rfl,h⟩:=h
 obtain⟨a1,b1,rfl,⟨s,rfl,w1⟩,a2,b2,rfl,⟨n,rfl,w2⟩,a3,b3,rfl,h3,a4,b4,rfl,h4,rfl⟩:=h
 obtain⟨l,rfl,q1,q2⟩:=hasC_list (fun x h=>has_cond h) h3
 obtain⟨m,rfl,q3,q4⟩:=hasC_list (fun x h=>has_act h) h4
 exact⟨⟨s,n,l,m⟩,rfl,lenB_le w1,wf_i64 w2,⟨q1,q2⟩,⟨q3,q4⟩⟩
theorem has_decl {x:V} (h:HasV shDecl x):∃ v:Decl,x=eDecl v∧v.ok:=by
 obtain⟨cs,rfl,h⟩:=h
 obtain⟨a1,b1,rfl,⟨s,rfl,w1⟩,a2,b2,rfl,⟨n,rfl,w2⟩,a3,b3,rfl,⟨k,rfl,w3⟩,rfl⟩:=h
 exact⟨⟨s,n,k⟩,rfl,lenB_le w1,wf_i64 w2,wf_i64 w3⟩
theorem has_pat {x:V} (h:HasV shPat x):∃ v:Pattern,x=ePattern v∧v.ok:=by
 obtain⟨cs,rfl,h⟩:=h
 obtain⟨a1,b1,rfl,⟨s,rfl,w1⟩,a2,b2,rfl,h2,a3,b3,rfl,h3,rfl⟩:=h
 obtain⟨a,rfl,oa⟩:=hasC_atom h2
 obtain⟨l,rfl,q1,q2⟩:=hasC_list (fun x h=>has_node h) h3
 exact⟨⟨s,a,l⟩,rfl,lenB_le w1,oa,q1,q2⟩
theorem has_prog {x:V} (h:HasV shProg x):∃ v:Prog,x=eProg v∧v.ok:=by
 obtain⟨cs,rfl,h⟩:=h
 obtain⟨a1,b1,rfl,h1,a2,b2,rfl,h2,a3,b3,rfl,h3,rfl⟩:=h
 obtain⟨l,rfl,q1,q2⟩:=hasC_list (fun x h=>has_decl h) h1
 obtain⟨m,rfl,q3,q4⟩:=hasC_list (fun x h=>has_rule h) h2
 obtain⟨n,rfl,q5,q6⟩:=hasC_list (fun x h=>has_pat h) h3
 exact⟨⟨l,m,n⟩,rfl,⟨q1,q2⟩,⟨q3,q4⟩,⟨q5,q6⟩⟩
end Go.Sp
