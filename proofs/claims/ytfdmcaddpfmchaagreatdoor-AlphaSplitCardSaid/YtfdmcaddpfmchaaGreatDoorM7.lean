/-
  A part of a proof: the last text of the claim says what is proved, and under which conditions.
-/
import Derived.Test.YtfdmcaddpfmchaaGreatDoorM4
import Derived.KernelRfl
set_option linter.unusedSimpArgs false
set_option linter.unusedVariables false
set_option linter.unnecessarySimpa false
/-
  The machine V: going through a code, the kernel reckoning between the points where something is to be said.
-/
namespace Go.Vm
open Go
def noC:Call:=fun _ _ _=>none
def know (s:St) (t:Nat) (v:V):St:={ s with tm:=upd s.tm t v }
section
variable {T:Tab} {Q:Ex→St→Prop} {s:St}
theorem noC_le (c:Call):CallLe noC c:=fun _ _ _ _ h=>by cases h
theorem noC_lim:Limit (fun _=>noC) noC:=⟨fun _ _ _=>CallLe.refl _,fun f as sg r h=>by cases h⟩
theorem runL_noC {ops:List VOp} {s1:St} (h:runL T.C noC ops s=some s1):runL T.C T.call ops s=some s1:=
 (good_runL (C:=T.C) noC_lim ops s).1 _ _ (noC_le _) _ h
theorem drwV_noC {all l:List DOp} {s1:St} (h:drwV T.C noC all l s=some s1):drwV T.C T.call all l s=some s1:=
 (good_drwV (C:=T.C) noC_lim all l s).1 _ _ (noC_le _) _ h
theorem know_same {t:Nat} {v:V} (h:s.tm t=v):know s t v=s:=by
 unfold know
 have:upd s.tm t v=s.tm:=by
  funext u
  rw[upd_at]
  split
  ·rename_i e;rw[e,h]
  ·rfl
 rw[this]
def SaysT (T:Tab) (f:FuncId) (l:List V) (v:V):Prop:=∀ sg,T.call f l sg=some (v,sg,0)
theorem ix_some {x i:O} {b:List UInt8} {n:Nat} {c:UInt8} (hx:rd s.tm x = .str b) (hi:nat? (rd s.tm i)=some n) (hc:b[n]? = some c):opV T.C T.call (.ix x i) s=some (.int .u8 c.toNat,s):=by
 simp only[opV,hi,Option.bind_some,hx,hc,Option.map_some]
theorem ia_some {sz:Nat} {x i:O} {t:Tok} {es:List V} {n:Nat} {e:V} (hx:rd s.tm x = .sl t sz es) (hi:nat? (rd s.tm i)=some n) (hc:es[n]? = some e):opV T.C T.call (.ia none sz x i) s=some (.ep (cellsOf e) 0,s):=by
 simp only[opV,hi,Option.bind_some,hx,hc,Option.map_some]
 have:Nat.beq sz sz=true:=by simp
 rw[this];rfl
theorem says {f:FuncId} {F:VF} {l:List V} {v:V} (hF:T.funs f=some F) (h:∀ sg,Wp T F.code { tm:=env l,fr:=[],sg,wd:=0 } (Out F (v,sg,0))):SaysT T f l v:=fun sg=>call_fun hF (h sg)
end
end Go.Vm
/-
  The machine V: loops over a list; ends.
-/
namespace Go.Vm
open Go
section
variable {T:Tab} {Q:Ex→St→Prop} {s:St}
theorem drop_get {α:Type} {L:List α} {i:Nat} {x:α} {xs:List α} (h:L.drop i=x::xs):L[i]? = some x:=by
 have:(L.drop i)[0]? = some x:=by rw[h];rfl
 rw[List.getElem?_drop] at this
 simpa using this
theorem drop_lt {α:Type} {L:List α} {i:Nat} {x:α} {xs:List α} (h:L.drop i=x::xs):i<L.length:=(List.getElem?_eq_some_iff.1 (drop_get h)).1
theorem drop_ge {α:Type} {L:List α} {i:Nat} (h:L.drop i = []):L.length≤i:=by simpa using h
theorem lt_true {i n:Nat} (h:i<n):decide ((i:Int)<(n:Int))=true:=by simp;omega
theorem lt_false {i n:Nat} (h:n≤i):decide ((i:Int)<(n:Int))=false:=by simp;omega
theorem get_map {α:Type} {L:List α} {i:Nat} {x:α} (f:α→V) (h:L[i]? = some x):(L.map f)[i]? = some (f x):=by rw[List.getElem?_map,h];rfl
def big:Nat:=4611686018427387904
theorem wrap_succ {i n:Nat} (h:i<n) (hn:n≤big):IntKind.i64.wrap ((i:Int)+1)=((i+1:Nat):Int):=by
 have:=wrap_i64 (n:=i+1) (by unfold big at hn;omega)
 simpa using this
theorem wrap_pred {i n:Nat} (h:i<n) (hn:n≤big) (h0:0<i):IntKind.i64.wrap ((i:Int)-1)=((i-1:Nat):Int):=by
 have:=wrap_i64 (n:=i-1) (by unfold big at hn;omega)
 rw[show((i:Int)-1)=((i-1:Nat):Int) by omega];exact this
theorem len_map {α:Type} (f:α→V) (l:List α):V.int .i64 (((l.map f).length:Nat):Int)=V.int .i64 (l.length:Int):=by rw[List.length_map]
end
end Go.Vm
/-
  The machine V: going through a code with a stack of what is still to be done; one short step for each thing that is to be said.
-/
namespace Go.Vm
open Go
inductive Kn where
 |code (c:VC)
 |reg (l:List VOp)
 |drw (all l:List DOp)
 |blk (id:Nat)
 |rnd (n:Nat) (live:List Nat) (b:VC)
structure Cf where
 k:List Kn
 x:Ex
 s:St
section
variable {T:Tab} {Q:Ex→St→Prop}
def denD (T:Tab) (all l:List DOp) (Q:Ex→St→Prop):Ex→St→Prop:=fun x s=>match x with
 | .normal=>WpD T all l s Q
 |x=>Q x s
def denK (T:Tab) (Q:Ex→St→Prop):List Kn→Ex→St→Prop
 | []=>Q
 | .code c::k=>Then T c (denK T Q k)
 | .reg l::k=>Then T (.reg l) (denK T Q k)
 | .drw all l::k=>denD T all l (denK T Q k)
 | .blk id::k=>Behind id (denK T Q k)
 | .rnd n live b::k=>Round T b n live (denK T Q k)
def Ends (T:Tab) (Q:Ex→St→Prop) (c:Cf):Prop:=denK T Q c.k c.x c.s
def kcode (k:List Kn) (s:St) (c:Cf):VC→Cf
 | .skip=>⟨k,.normal,s⟩
 | .reg ops=>⟨.reg ops::k,.normal,s⟩
 | .drw ops=>⟨.drw ops ops::k,.normal,s⟩
 | .seq a b=>⟨.code a :: .code b::k,.normal,s⟩
 | .cond o t e=>match rd s.tm o with
  | .bool b=>bif b then⟨.code t::k,.normal,s⟩ else⟨.code e::k,.normal,s⟩
  |_=>c
 | .block id b=>⟨.code b :: .blk id::k,.normal,s⟩
 | .exit id=>⟨k,.exit id,s⟩
 | .ret=>⟨k,.ret,s⟩
 | .loop _ _=>c
 | .bad=>c
def kstep (C:Cfg) (c:Cf):Cf:=
 match c with
 |⟨[],_,_⟩=>c
 |⟨kn::k,.normal,s⟩=>match kn with
  | .code p=>kcode k s c p
  | .reg []=>⟨k,.normal,s⟩
  | .reg (o::os)=>match stepV C noC o s with
   |some s=>⟨.reg os::k,.normal,s⟩
   |none=>c
  | .drw _ []=>⟨k,.normal,s⟩
  | .drw all (o::l)=>match drwV C noC all [o] s with
   |some s=>⟨.drw all l::k,.normal,s⟩
   |none=>c
  | .blk _=>⟨k,.normal,s⟩
  | .rnd _ _ _=>c
 |⟨kn::k,.exit j,s⟩=>match kn with
  | .blk id=>bif Nat.beq j id then⟨k,.normal,s⟩ else⟨k,.exit j,s⟩
  |_=>⟨k,.exit j,s⟩
 |⟨_::k,.ret,s⟩=>⟨k,.ret,s⟩
theorem drw_noC1 {all l:List DOp} {o:DOp} {s s1:St} (h:drwV T.C noC all [o] s=some s1) (k:WpD T all l s1 Q):WpD T all (o::l) s Q:=by
 have h1:=drwV_noC (T:=T) h
 obtain⟨s',h2,h3⟩:=k
 refine⟨s',?_,h3⟩
 rw[← List.singleton_append,drwV_append,h1]
 exact h2
theorem kstep_s {c:Cf} (h:Ends T Q (kstep T.C c)):Ends T Q c:=by
 obtain⟨k,x,s⟩:=c
 cases k with
 |nil=>exact h
 |cons kn k=>
  cases x with
  |normal=>
   cases kn with
   |code p=>
    cases p with
    |skip=>exact Wp_skip.2 h
    |reg ops=>exact h
    |drw ops=>exact W_drw.2 h
    |seq a b=>exact Wp_seq.2 h
    |cond o t e=>
     cases ho:rd s.tm o with
     |bool b=>
      have e1:kstep T.C ⟨.code (.cond o t e)::k,.normal,s⟩=bif b then⟨.code t::k,.normal,s⟩ else⟨.code e::k,.normal,s⟩:=by
       simp only[kstep,kcode,ho]
      rw[e1] at h
      refine(Wp_cond ho).2 ?_
      cases b
      ·exact h
      ·exact h
     |_=>
      have e1:kstep T.C ⟨.code (.cond o t e)::k,.normal,s⟩=⟨.code (.cond o t e)::k,.normal,s⟩:=by simp only[kstep,kcode,ho]
      rw[e1] at h
      exact h
    |block id b=>exact Wp_block.2 h
    |loop live b=>exact h
    |exit id=>exact Wp_exit.2 h
    |ret=>exact Wp_ret.2 h
    |bad=>exact h
   |reg l=>
    cases l with
    |nil=>exact W_nil.2 h
    |cons o os=>
     cases ho:stepV T.C noC o s with
     |none=>
      have e1:kstep T.C ⟨.reg (o::os)::k,.normal,s⟩=⟨.reg (o::os)::k,.normal,s⟩:=by simp only[kstep,ho]
      rw[e1] at h
      exact h
     |some s1=>
      have e1:kstep T.C ⟨.reg (o::os)::k,.normal,s⟩=⟨.reg os::k,.normal,s1⟩:=by simp only[kstep,ho]
      rw[e1] at h
      refine reg_cons.2 ⟨s1,?_,h⟩
      have:=runL_noC (T:=T) (ops:=[o]) (s:=s) (s1:=s1) (by simp only[runL,ho,Option.bind_some])
      simpa only[runL,Option.bind_eq_some_iff,Option.some.injEq,exists_eq_right] using this
   |drw all l=>
    cases l with
    |nil=>exact WD_nil.2 h
    |cons o os=>
     cases ho:drwV T.C noC all [o] s with
     |none=>
      have e1:kstep T.C ⟨.drw all (o::os)::k,.normal,s⟩=⟨.drw all (o::os)::k,.normal,s⟩:=by simp only[kstep,ho]
      rw[e1] at h
      exact h
     |some s1=>
      have e1:kstep T.C ⟨.drw all (o::os)::k,.normal,s⟩=⟨.drw all os::k,.normal,s1⟩:=by simp only[kstep,ho]
      rw[e1] at h
      exact drw_noC1 ho h
   |blk id=>exact h
   |rnd n live b=>exact h
  |exit j=>
   cases kn with
   |blk id=>
    have e1:kstep T.C ⟨.blk id::k,.exit j,s⟩=bif Nat.beq j id then⟨k,.normal,s⟩ else⟨k,.exit j,s⟩:=rfl
    rw[e1] at h
    show(bif Nat.beq j id then denK T Q k .normal s else denK T Q k (.exit j) s)
    cases hb:Nat.beq j id with
    |true=>rw[hb] at h;exact h
    |false=>rw[hb] at h;exact h
   |_=>exact h
  |ret=>cases kn<;>exact h
def kgo (C:Cfg):Nat→Cf→Cf
 |0,c=>c
 |n+1,c=>kgo C n (kstep C c)
theorem go (n:Nat) {c:Cf} (h:Ends T Q (kgo T.C n c)):Ends T Q c:=by
 induction n generalizing c with
 |zero=>exact h
 |succ n ih=>exact kstep_s (ih h)
def knw (c:Cf) (t:Nat) (v:V):Cf:={ c with s:=know c.s t v }
theorem knw_same {c:Cf} {t:Nat} {v:V} (h:c.s.tm t=v):knw c t v=c:=by
 unfold knw
 rw[know_same h]
def OutL (F:VF) (R:V × List Fr × Nat):Ex→St→Prop:=fun x s=>∃ w,w≤R.2.2∧Out F (R.1,R.2.1,w) x s
theorem call_funL {f:FuncId} {F:VF} (hF:T.funs f=some F) {as:List V} {sg:List Fr} {R:V × List Fr × Nat} (h:Wp T F.code { tm:=env as,fr:=[],sg,wd:=0 } (OutL F R)):∃ w,w≤R.2.2∧T.call f as sg=some (R.1,R.2.1,w):=by
 obtain⟨n,x,s',h1,w,h2,h3⟩:=h
 exact⟨w,h2,call_fun hF ⟨n,x,s',h1,h3⟩⟩
def Ans (T:Tab) (F:VF) {α:Type} (e:α→V × List Fr × Nat) (r:α) (c:Cf):Prop:=Ends T (OutL F (e r)) c
section
variable {F:VF} {α:Type} {e:α→V × List Fr × Nat} {r r1 r2:α} {c:Cf}
theorem gO (n:Nat) (h:Ans T F e r (kgo T.C n c)):Ans T F e r c:=go n h
theorem dc (t:Nat) {b:Bool} (h1:b=true→Ans T F e r1 (knw c t (.bool true))) (h2:b=false→Ans T F e r2 (knw c t (.bool false))) (hv:c.s.tm t = .bool b:=by kernel_rfl):Ans T F e (bif b then r1 else r2) c:=by
 cases b with
 |true=>have:=h1 rfl;rwa [knw_same hv] at this
 |false=>have:=h2 rfl;rwa [knw_same hv] at this
theorem dp (t:Nat) {p:Prop} [Decidable p] (h1:p→Ans T F e r1 (knw c t (.bool true))) (h2:¬ p→Ans T F e r2 (knw c t (.bool false))) (hv:c.s.tm t = .bool (decide p):=by kernel_rfl):Ans T F e (bif decide p then r1 else r2) c:=
 dc t (fun h=>h1 (of_decide_eq_true h)) (fun h=>h2 (of_decide_eq_false h)) hv
theorem dq {β:Type} [BEq β] [LawfulBEq β] (t:Nat) {a b:β} (h1:a=b→Ans T F e r1 (knw c t (.bool true))) (h2:a≠b→Ans T F e r2 (knw c t (.bool false))) (hv:c.s.tm t = .bool (a == b):=by kernel_rfl):Ans T F e (bif a == b then r1 else r2) c:=
 dc t (fun h=>h1 (by simpa using h)) (fun h=>h2 (by simpa using h)) hv
theorem dcn (t:Nat) {b:Bool} (h1:b=true→Ans T F e r1 (knw c t (.bool false))) (h2:b=false→Ans T F e r2 (knw c t (.bool true))) (hv:c.s.tm t = .bool (!b):=by kernel_rfl):Ans T F e (bif b then r1 else r2) c:=by
 cases b with
 |true=>have:=h1 rfl;rwa [knw_same (v:=.bool false) hv] at this
 |false=>have:=h2 rfl;rwa [knw_same (v:=.bool true) hv] at this
theorem dqn {β:Type} [BEq β] [LawfulBEq β] (t:Nat) {a b:β} (h1:a=b→Ans T F e r1 (knw c t (.bool false))) (h2:a≠b→Ans T F e r2 (knw c t (.bool true))) (hv:c.s.tm t = .bool (!(a == b)):=by kernel_rfl):Ans T F e (bif a == b then r1 else r2) c:=
 dcn t (fun h=>h1 (by simpa using h)) (fun h=>h2 (by simpa using h)) hv
theorem td {p:Prop} [Decidable p] (h:p):decide p=true:=decide_eq_true h
theorem fd {p:Prop} [Decidable p] (h:¬ p):decide p=false:=decide_eq_false h
theorem tq {β:Type} [BEq β] [LawfulBEq β] {a b:β} (h:a=b):(a == b)=true:=by simpa using h
theorem fq {β:Type} [BEq β] [LawfulBEq β] {a b:β} (h:a≠b):(a == b)=false:=by simpa using h
theorem wrap_s {i n:Nat} (h:i<n) (hn:n≤4611686018427387904):IntKind.i64.wrap ((i:Int)+1)=((i+1:Nat):Int):=wrap_succ h hn
theorem wrap_p {i n:Nat} (h:i<n) (hn:n≤4611686018427387904) (h0:0<i):IntKind.i64.wrap ((i:Int)-1)=((i-1:Nat):Int):=wrap_pred h hn h0
theorem wrap_id {n:Int} (h1 : -9223372036854775808≤n) (h2:n≤9223372036854775807):IntKind.i64.wrap n=n:=by
 show(if(true&&decide (n % 18446744073709551616≥9223372036854775808))=true then n % 18446744073709551616-18446744073709551616 else n % 18446744073709551616)=n
 by_cases h:n % 18446744073709551616≥9223372036854775808
 ·simp only[h,decide_true,Bool.and_self,if_true];omega
 ·simp only[h,decide_false,Bool.and_false,Bool.false_eq_true,if_false];omega
theorem dk (t:Nat) {b b':Bool} (hb:b=b') (h:Ans T F e r (knw c t (.bool b'))) (hv:c.s.tm t = .bool b:=by kernel_rfl):Ans T F e r c:=by
 subst hb;rwa [knw_same hv] at h
theorem kw (t:Nat) {u v:V} (huv:u=v) (h:Ans T F e r (knw c t v)) (hu:c.s.tm t=u:=by kernel_rfl):Ans T F e r c:=by
 subst huv;rwa [knw_same hu] at h
def nextO (c:Cf):Option (Option Nat × VO):=match c.k,c.x with
 | .reg (o::_)::_,.normal=>match want c.s o.g with
  |some true=>some (o.d,o.o)
  |_=>none
 | .drw _ (o::_)::_,.normal=>bif o.main then none else match want c.s o.op.g with
  |some true=>some (o.op.d,o.op.o)
  |_=>none
 |_,_=>none
def setA (c:Cf) (v:V):Cf:=match c.k with
 | .reg (o::os)::k=>⟨.reg os::k,.normal,put c.s o.d v⟩
 | .drw all (o::l)::k=>⟨.drw all l::k,.normal,put c.s o.op.d v⟩
 |_=>c
theorem op_s {d:Option Nat} {o:VO} {v:V} (hn:nextO c=some (d,o)) (ho:opV T.C T.call o c.s=some (v,c.s)) (hp:opP T.C T.call o c.s=some v) (h:Ends T Q (setA c v)):Ends T Q c:=by
 obtain⟨k,x,s⟩:=c
 unfold nextO at hn
 split at hn
 ·rename_i o1 os k' hk hx
  simp only at hk hx
  subst hk;subst hx
  split at hn<;>first|(cases hn;done)|skip
  rename_i hw
  cases hn
  refine reg_cons.2 ⟨put s o1.d v,?_,h⟩
  simp only at hw ho
  simp only[stepV,hw,ho,Option.map_some]
 ·rename_i all o1 l k' hk hx
  simp only at hk hx
  subst hk;subst hx
  cases hm:o1.main with
  |true=>rw[hm] at hn;cases hn
  |false=>
   rw[hm] at hn
   simp only[cond_false] at hn
   split at hn<;>first|(cases hn;done)|skip
   rename_i hw
   cases hn
   simp only at hw hp
   obtain⟨ix,bf,op,mn,re⟩:=o1
   simp only at hm
   subst hm
   refine drw_pure.2 ⟨put s op.d v,?_,h⟩
   simp only[stepP,hw,hp,Option.map_some]
 ·cases hn
def callA (C:Cfg) (c:Cf):Option (FuncId × List V):=match nextO c with
 |some (_,.call f as)=>some (f,(as.map (rd c.s.tm)).map (argV (C.keepA f)))
 |some (_,.cv x as)=>match rd c.s.tm x with
  | .fn f a b=>some (f,(a++as.map (rd c.s.tm)++b).map (argV (C.keepA f)))
  |_=>none
 |_=>none
theorem callA_s {f:FuncId} {l:List V} {v:V} (hs:T.call f l (c.s.fr::c.s.sg)=some (v,c.s.fr::c.s.sg,0)) (hc:callA T.C c=some (f,l)) (h:Ends T Q (setA c v)):Ends T Q c:=by
 unfold callA at hc
 split at hc
 ·rename_i d g as hn
  cases hc
  refine op_s hn ?_ ?_ h
  ·show doCall T.C T.call f (as.map (rd c.s.tm)) c.s=_
   unfold doCall
   rw[hs]
   simp
  ·show callP T.C T.call f (as.map (rd c.s.tm)) c.s=_
   unfold callP
   rw[hs]
   rfl
 ·rename_i d x as hn
  split at hc
  ·rename_i g a b hx
   cases hc
   refine op_s hn ?_ ?_ h
   ·show doFn T.C T.call (rd c.s.tm x) (as.map (rd c.s.tm)) c.s=_
    rw[hx]
    unfold doFn doCall
    simp only
    rw[hs]
    simp
   ·show fnP T.C T.call (rd c.s.tm x) (as.map (rd c.s.tm)) c.s=_
    rw[hx]
    unfold fnP callP
    simp only
    rw[hs]
    rfl
  ·cases hc
 ·cases hc
theorem cl {f:FuncId} {l:List V} {v:V} (hs:SaysT T f l v) (h:Ans T F e r (setA c v)) (hc:callA T.C c=some (f,l):=by kernel_rfl):Ans T F e r c:=callA_s (hs _) hc h
theorem cli {f:FuncId} {l:List V} {v:V} (hs:T.call f l (c.s.fr::c.s.sg)=some (v,c.s.fr::c.s.sg,0)) (h:Ans T F e r (setA c v)) (hc:callA T.C c=some (f,l):=by kernel_rfl):Ans T F e r c:=callA_s hs hc h
def ixA (c:Cf):Option (List UInt8 × Nat):=match nextO c with
 |some (_,.ix x i)=>match rd c.s.tm x,nat? (rd c.s.tm i) with
  | .str b,some n=>some (b,n)
  |_,_=>none
 |_=>none
theorem ixA_s {b:List UInt8} {n:Nat} {y:UInt8} (hy:b[n]? = some y) (hc:ixA c=some (b,n)) (h:Ends T Q (setA c (.int .u8 (y.toNat:Int)))):Ends T Q c:=by
 unfold ixA at hc
 split at hc
 ·rename_i d x i hn
  split at hc
  ·rename_i b' n' hx hi
   cases hc
   have:=ix_some (T:=T) hx hi hy
   refine op_s hn this ?_ h
   show(bif pureO (.ix x i) then(opV T.C T.call (.ix x i) c.s).map (·.1) else none)=_
   rw[this];rfl
  ·cases hc
 ·cases hc
def onS {β γ:Type} (o:Option β) (f:β→γ) (d:γ):γ:=match o with
 |some y=>f y
 |none=>d
theorem ix {b:List UInt8} {n:Nat} {f:UInt8→α} {d:α} (hlt:n<b.length) (h:∀ y,b[n]? = some y→Ans T F e (f y) (setA c (.int .u8 (y.toNat:Int)))) (hc:ixA c=some (b,n):=by kernel_rfl):Ans T F e (onS b[n]? f d) c:=by
 have hy:b[n]? = some b[n]:=List.getElem?_eq_getElem hlt
 rw[hy]
 exact ixA_s hy hc (h _ hy)
theorem ixk {b:List UInt8} {n:Nat} {y:UInt8} (hy:b[n]? = some y) (h:Ans T F e r (setA c (.int .u8 (y.toNat:Int)))) (hc:ixA c=some (b,n):=by kernel_rfl):Ans T F e r c:=ixA_s hy hc h
def iaA (c:Cf):Option (List V × Nat):=match nextO c with
 |some (_,.ia none sz x i)=>match rd c.s.tm x,nat? (rd c.s.tm i) with
  | .sl _ z es,some n=>bif Nat.beq z sz then some (es,n) else none
  |_,_=>none
 |_=>none
theorem iaA_s {es:List V} {n:Nat} {u:V} (hy:es[n]? = some u) (hc:iaA c=some (es,n)) (h:Ends T Q (setA c (.ep (cellsOf u) 0))):Ends T Q c:=by
 unfold iaA at hc
 split at hc
 ·rename_i d sz x i hn
  split at hc
  ·rename_i t z es' n' hx hi
   cases hz:Nat.beq z sz with
   |false=>rw[hz] at hc;cases hc
   |true=>
    rw[hz] at hc
    cases hc
    have:=Nat.eq_of_beq_eq_true hz
    subst this
    have:=ia_some (T:=T) hx hi hy
    refine op_s hn this ?_ h
    show(bif pureO (.ia none z x i) then(opV T.C T.call (.ia none z x i) c.s).map (·.1) else none)=_
    rw[this];rfl
  ·cases hc
 ·cases hc
theorem ia {β:Type} {l:List β} {en:β→V} {n:Nat} {f:β→α} {d:α} (hlt:n<l.length) (h:∀ y,l[n]? = some y→Ans T F e (f y) (setA c (.ep (cellsOf (en y)) 0))) (hc:iaA c=some (l.map en,n):=by kernel_rfl):Ans T F e (onS l[n]? f d) c:=by
 have hy:l[n]? = some l[n]:=List.getElem?_eq_getElem hlt
 rw[hy]
 exact iaA_s (get_map en hy) hc (h _ hy)
theorem iak {β:Type} {l:List β} {n:Nat} {y:β} (en:β→V) (hy:l[n]? = some y) (h:Ans T F e r (setA c (.ep (cellsOf (en y)) 0))) (hc:iaA c=some (l.map en,n):=by kernel_rfl):Ans T F e r c:=iaA_s (get_map en hy) hc h
def ldA (c:Cf):Option (Bool × Nat × Nat × Nat × Nat):=match nextO c with
 |some (_,.ld ag sz x)=>match rd c.s.tm x with
  | .bp d i o=>some (ag,sz,d,i,o)
  |_=>none
 |_=>none
theorem ld {ag:Bool} {sz d i o:Nat} {v:V} {cs:List V} (hg:c.s.get d i=some (.box cs)) (hl:(ldC ag sz cs o).map (match d with|0=>id|d+1=>sh2 (d+1))=some v) (h:Ans T F e r (setA c v)) (hc:ldA c=some (ag,sz,d,i,o):=by kernel_rfl):Ans T F e r c:=by
 unfold ldA at hc
 split at hc
 ·rename_i dd ag' sz' x hn
  split at hc
  ·rename_i d' i' o' hx
   cases hc
   have:opV T.C T.call (.ld ag sz x) c.s=some (v,c.s):=by
    show(ldV ag sz (rd c.s.tm x) c.s).map (·,c.s)=_
    rw[hx]
    simp only[ldV,hg]
    cases d with
    |zero=>exact congrArg (Option.map fun x=>(x,c.s)) hl
    |succ d=>exact congrArg (Option.map fun x=>(x,c.s)) hl
   refine op_s hn this ?_ h
   show(bif pureO (.ld ag sz x) then(opV T.C T.call (.ld ag sz x) c.s).map (·.1) else none)=_
   rw[this];rfl
  ·cases hc
 ·cases hc
theorem ldo {ag:Bool} {sz d i o:Nat} {v:V} {cs:List V} {sg:List Fr} (hg:(sg[d]?).bind (·[i]?)=some (.box cs)) (hl:(ldC ag sz cs o).map (sh2 (d+1))=some v) (h:Ans T F e r (setA c v)) (hs:c.s.sg=sg:=by kernel_rfl) (hc:ldA c=some (ag,sz,d+1,i,o):=by kernel_rfl):Ans T F e r c:=
 ld (d:=d+1) (by
  show getB c.s.fr c.s.sg (d+1) i=_
  rw[hs];exact hg) hl h hc
def appA (c:Cf):Option (Nat × Nat × Nat × Nat × Nat × List V × List V × Nat):=match nextO c with
 |some (_,.app sz x y)=>match rd c.s.tm x,els sz c.s (rd c.s.tm y) with
  | .sl (.at d i ver) z es,some ys=>match c.s.get d i with
   |some (.tok ver')=>some (d,i,ver,ver',z,es,ys,sz)
   |_=>none
  |_,_=>none
 |_=>none
def setF (c:Cf) (v:V) (s:St):Cf:=match c.k with
 | .reg (o::os)::k=>⟨.reg os::k,.normal,put s o.d v⟩
 |_=>c
def inReg (c:Cf):Bool:=match c.k with
 | .reg _::_=>true
 |_=>false
theorem opF_s {d:Option Nat} {o:VO} {v:V} {s1:St} (hr:inReg c=true) (hn:nextO c=some (d,o)) (ho:opV T.C T.call o c.s=some (v,s1)) (h:Ends T Q (setF c v s1)):Ends T Q c:=by
 obtain⟨k,x,s⟩:=c
 unfold nextO at hn
 split at hn
 ·rename_i o1 os k' hk hx
  simp only at hk hx
  subst hk;subst hx
  split at hn<;>first|(cases hn;done)|skip
  rename_i hw
  cases hn
  refine reg_cons.2 ⟨put s1 o1.d v,?_,h⟩
  simp only at hw ho
  simp only[stepV,hw,ho,Option.map_some]
 ·rename_i all o1 l k' hk hx
  simp only at hk
  subst hk
  cases hr
 ·cases hn
theorem set_same (s:St) (d i:Nat) (b:Blk) (h:s.get d i=some b):{ s.set d i b with wd:=s.wd }=s:=by
 cases d with
 |zero=>
  have h:s.fr[i]? = some b:=h
  have:s.fr.set i b=s.fr:=by
   apply List.ext_getElem?
   intro j
   by_cases e:i=j
   ·subst e;rw[List.getElem?_set_self (List.getElem?_eq_some_iff.1 h).1,h]
   ·rw[List.getElem?_set_ne e]
  show { s with fr:=s.fr.set i b,wd:=s.wd }=s
  rw[this]
 |succ d=>
  have h:(s.sg[d]?).bind (·[i]?)=some b:=h
  have:s.sg.modify d (·.set i b)=s.sg:=by
   apply List.ext_getElem?
   intro j
   rw[List.getElem?_modify]
   by_cases e:d=j
   ·subst e
    cases hs:s.sg[d]? with
    |none=>rfl
    |some f=>
     rw[hs] at h
     have h:f[i]? = some b:=h
     have:f.set i b=f:=by
      apply List.ext_getElem?
      intro j
      by_cases e:i=j
      ·subst e;rw[List.getElem?_set_self (List.getElem?_eq_some_iff.1 h).1,h]
      ·rw[List.getElem?_set_ne e]
     simp[this]
   ·cases s.sg[j]?<;>simp[e]
  show { s with sg:=s.sg.modify d (·.set i b),wd:=s.wd }=s
  rw[this]
theorem ap0 {β:Type} {en:β→V} {L M:List β} {i z:Nat} (hlen:(L++M).length≤lim) (hcel:∀ x∈M,cel (en x)=true)
  (h:Ans T F e r (setF c (.sl (.at 0 i (L++M).length) z ((L++M).map en)) (c.s.set 0 i (.tok (L++M).length))))
  (hc:appA c=some (0,i,L.length,L.length,z,L.map en,M.map en,z):=by kernel_rfl) (hr:inReg c=true:=by kernel_rfl):Ans T F e r c:=by
 unfold appA at hc
 split at hc
 ·rename_i d sz x y hn
  split at hc
  ·rename_i d' i' ver z' es ys hx hy
   split at hc
   ·rename_i ver' hg
    simp only[Option.some.injEq,Prod.mk.injEq] at hc
    obtain⟨rfl,e1,rfl,rfl,rfl,rfl,rfl,e2⟩:=hc
    subst e1;subst e2
    refine opF_s hr hn ?_ h
    show(els sz c.s (rd c.s.tm y)).bind (fun l=>appV sz c.s (rd c.s.tm x) l)=_
    rw[hx,hy]
    simp only[Option.bind_some,appV,List.length_map]
    have h1:Nat.beq sz sz=true:=Nat.beq_refl sz
    have h2:Nat.ble (L.length+M.length) lim=true:=by
     rw[List.length_append] at hlen
     exact Nat.ble_eq_true_of_le hlen
    rw[h1,h2]
    simp only[Bool.and_self,cond_true]
    cases M with
    |nil=>
     simp only[List.map_nil,List.append_nil]
     have:=set_same c.s 0 i' (.tok L.length) hg
     have e1:c.s.set 0 i' (.tok L.length)=c.s:=this
     rw[e1]
    |cons m M=>
     simp only[List.map_cons,hg]
     have h3:Nat.beq L.length L.length=true:=Nat.beq_refl _
     have h4:(en m::M.map en).all cel=true:=by
      rw[← List.map_cons,List.all_eq_true]
      intro v hv
      obtain⟨x,hx,rfl⟩:=List.mem_map.1 hv
      exact hcel x hx
     rw[h3,h4]
     simp only[Bool.and_self,cond_true,List.length_cons,List.length_map,List.length_append,List.map_append,List.map_cons]
   ·cases hc
  ·cases hc
 ·cases hc
def apI (c:Cf):Nat:=match appA c with
 |some (_,i,_)=>i
 |none=>0
def apZ (c:Cf):Nat:=match appA c with
 |some (_,_,_,_,z,_)=>z
 |none=>0
theorem ap {β:Type} {en:β→V} {L M:List β} (hlen:(L++M).length≤lim) (hcel:∀ x∈M,cel (en x)=true)
 (h:Ans T F e r (setF c (.sl (.at 0 (apI c) (L++M).length) (apZ c) ((L++M).map en)) (c.s.set 0 (apI c) (.tok (L++M).length))))
 (hc:appA c=some (0,apI c,L.length,L.length,apZ c,L.map en,M.map en,apZ c):=by kernel_rfl) (hr:inReg c=true:=by kernel_rfl):Ans T F e r c:=ap0 hlen hcel h hc hr
def endA (F:VF) (c:Cf):Option (V × List Fr × Nat):=match c.k,c.x with
 | [],.normal=>leave F c.s
 | [],.ret=>leave F c.s
 |_,_=>none
theorem enw {w:Nat} (hw:w≤(e r).2.2) (hc:endA F c=some ((e r).1,(e r).2.1,w):=by kernel_rfl):Ans T F e r c:=by
 obtain⟨k,x,s⟩:=c
 unfold endA at hc
 split at hc
 ·rename_i hk hx
  simp only at hk hx
  subst hk;subst hx
  exact⟨w,hw,hc⟩
 ·rename_i hk hx
  simp only at hk hx
  subst hk;subst hx
  exact⟨w,hw,hc⟩
 ·cases hc
theorem en (hc:endA F c=some (e r):=by kernel_rfl):Ans T F e r c:=enw (w:=(e r).2.2) (Nat.le_refl _) hc
def loopA (c:Cf):Option (List Nat × VC × LS):=match c.k,c.x with
 | .code (.loop live b)::_,.normal=>some (live,b,{ vals:=live.map c.s.tm,fr:=c.s.fr,sg:=c.s.sg,wd:=c.s.wd })
 |_,_=>none
def popK (c:Cf):List Kn:=match c.k with
 |_::k=>k
 | []=>[]
def Head (T:Tab) (F:VF) {α:Type} (e:α→V × List Fr × Nat) (r:α) (n:Nat) (live:List Nat) (b:VC) (k:List Kn) (l:LS):Prop:=WpI T b n live l (denK T (OutL F (e r)) k)
theorem hd_in {n:Nat} {live:List Nat} {b:VC} {k:List Kn} {l:LS} (h:Ans T F e r ⟨.code b :: .rnd n live b::k,.normal,l.st live⟩):Head T F e r n live b k l:=WpI_iff.2 h
theorem hd_lp {n:Nat} {live:List Nat} {b:VC} {l:LS} (hl:loopA c=some (live,b,l)) (hn:c.s.fr.length=n) (h:Head T F e r n live b (popK c) l):Ans T F e r c:=by
 obtain⟨k,x,s⟩:=c
 unfold loopA at hl
 split at hl
 ·rename_i live' b' k' hk hx
  simp only at hk hx
  subst hk;subst hx
  cases hl
  subst hn
  exact Wp_loop.2 h
 ·cases hl
def nxtA (c:Cf):Option (Nat × List Nat × VC × LS):=match c.k,c.x with
 | .rnd n live b::_,.normal=>some (n,live,b,LS.next n live c.s)
 |_,_=>none
theorem nx {n:Nat} {live:List Nat} {b:VC} {k:List Kn} {l:LS} (h:Head T F e r n live b k l) (hk:popK c=k:=by kernel_rfl) (hl:nxtA c=some (n,live,b,l):=by kernel_rfl):Ans T F e r c:=by
 obtain⟨k',x,s⟩:=c
 unfold nxtA at hl
 split at hl
 ·rename_i n' live' b' k'' hk' hx
  simp only at hk' hx
  subst hk';subst hx
  cases hl
  have hk:k''=k:=hk
  subst hk
  exact h
 ·cases hl
theorem rgI0 {β A:Type} (I:Nat→A→Prop) (mk:Nat→A→LS) {L:List β} {fn:Nat→List β→A→α} {acc0:A} {n:Nat} {live:List Nat} {b:VC} {k:List Kn} (h0:I 0 acc0)
  (hstep:∀ i x xs acc,L.drop i=x::xs→I i acc→(∀ acc',I (i+1) acc'→Head T F e (fn (i+1) xs acc') n live b k (mk (i+1) acc'))→Ans T F e (fn i (x::xs) acc) ⟨.code b :: .rnd n live b::k,.normal,(mk i acc).st live⟩)
  (hend:∀ i acc,L.drop i = []→I i acc→Ans T F e (fn i [] acc) ⟨.code b :: .rnd n live b::k,.normal,(mk i acc).st live⟩)
  (hl:loopA c=some (live,b,mk 0 acc0):=by kernel_rfl) (hn:c.s.fr.length=n:=by kernel_rfl) (hk:popK c=k:=by kernel_rfl):Ans T F e (fn 0 L acc0) c:=by
 have key:∀ (l:List β) (i:Nat) (acc:A),L.drop i=l→I i acc→Head T F e (fn i l acc) n live b k (mk i acc):=by
  intro l
  induction l with
  |nil=>intro i acc hd hi;exact hd_in (hend i acc hd hi)
  |cons x xs ih=>
   intro i acc hd hi
   refine hd_in (hstep i x xs acc hd hi fun acc' hi'=>ih (i+1) acc' ?_ hi')
   rw[← List.drop_drop,hd];rfl
 subst hk
 exact hd_lp hl hn (key L 0 acc0 rfl h0)
theorem rg0 {β A:Type} (mk:Nat→A→LS) {L:List β} {fn:Nat→List β→A→α} {acc0:A} {n:Nat} {live:List Nat} {b:VC} {k:List Kn}
  (hstep:∀ i x xs acc,L.drop i=x::xs→(∀ acc',Head T F e (fn (i+1) xs acc') n live b k (mk (i+1) acc'))→Ans T F e (fn i (x::xs) acc) ⟨.code b :: .rnd n live b::k,.normal,(mk i acc).st live⟩)
  (hend:∀ i acc,L.drop i = []→Ans T F e (fn i [] acc) ⟨.code b :: .rnd n live b::k,.normal,(mk i acc).st live⟩)
  (hl:loopA c=some (live,b,mk 0 acc0):=by kernel_rfl) (hn:c.s.fr.length=n:=by kernel_rfl) (hk:popK c=k:=by kernel_rfl):Ans T F e (fn 0 L acc0) c:=by
 have key:∀ (l:List β) (i:Nat) (acc:A),L.drop i=l→Head T F e (fn i l acc) n live b k (mk i acc):=by
  intro l
  induction l with
  |nil=>intro i acc hd;exact hd_in (hend i acc hd)
  |cons x xs ih=>
   intro i acc hd
   refine hd_in (hstep i x xs acc hd fun acc'=>ih (i+1) acc' ?_)
   rw[← List.drop_drop,hd];rfl
 subst hk
 exact hd_lp hl hn (key L 0 acc0 rfl)
def lvA (c:Cf):List Nat:=match loopA c with
 |some (l,_,_)=>l
 |none=>[]
def bdA (c:Cf):VC:=match loopA c with
 |some (_,b,_)=>b
 |none=>.skip
theorem rgI {β A:Type} (I:Nat→A→Prop) (mk:Nat→A→LS) {L:List β} {fn:Nat→List β→A→α} {acc0:A} (h0:I 0 acc0)
 (hstep:∀ i x xs acc,L.drop i=x::xs→I i acc→(∀ acc',I (i+1) acc'→Head T F e (fn (i+1) xs acc') c.s.fr.length (lvA c) (bdA c) (popK c) (mk (i+1) acc'))→Ans T F e (fn i (x::xs) acc) ⟨.code (bdA c) :: .rnd c.s.fr.length (lvA c) (bdA c)::popK c,.normal,(mk i acc).st (lvA c)⟩)
 (hend:∀ i acc,L.drop i = []→I i acc→Ans T F e (fn i [] acc) ⟨.code (bdA c) :: .rnd c.s.fr.length (lvA c) (bdA c)::popK c,.normal,(mk i acc).st (lvA c)⟩)
 (hl:loopA c=some (lvA c,bdA c,mk 0 acc0):=by kernel_rfl):Ans T F e (fn 0 L acc0) c:=rgI0 I mk h0 hstep hend hl rfl rfl
theorem rg {β A:Type} (mk:Nat→A→LS) {L:List β} {fn:Nat→List β→A→α} {acc0:A}
 (hstep:∀ i x xs acc,L.drop i=x::xs→(∀ acc',Head T F e (fn (i+1) xs acc') c.s.fr.length (lvA c) (bdA c) (popK c) (mk (i+1) acc'))→Ans T F e (fn i (x::xs) acc) ⟨.code (bdA c) :: .rnd c.s.fr.length (lvA c) (bdA c)::popK c,.normal,(mk i acc).st (lvA c)⟩)
 (hend:∀ i acc,L.drop i = []→Ans T F e (fn i [] acc) ⟨.code (bdA c) :: .rnd c.s.fr.length (lvA c) (bdA c)::popK c,.normal,(mk i acc).st (lvA c)⟩)
 (hl:loopA c=some (lvA c,bdA c,mk 0 acc0):=by kernel_rfl):Ans T F e (fn 0 L acc0) c:=rg0 mk hstep hend hl rfl rfl
end
theorem sxw {f:FuncId} {F:VF} {α:Type} {l:List V} {sg:List Fr} {e:α→V × List Fr × Nat} {r:α} (hF:T.funs f=some F) (h:Ans T F e r ⟨[.code F.code],.normal,{ tm:=env l,fr:=[],sg,wd:=0 }⟩):∃ w,w≤(e r).2.2∧T.call f l sg=some ((e r).1,(e r).2.1,w):=call_funL hF h
theorem sx {f:FuncId} {F:VF} {α:Type} {l:List V} {sg:List Fr} {e:α→V × List Fr × Nat} {r:α} (hF:T.funs f=some F) (h:Ans T F e r ⟨[.code F.code],.normal,{ tm:=env l,fr:=[],sg,wd:=0 }⟩) (h0:(e r).2.2=0:=by rfl):T.call f l sg=some (e r):=by
 obtain⟨w,h1,h2⟩:=sxw hF h
 have:w=(e r).2.2:=by omega
 rw[h2,this]
theorem sy {f:FuncId} {F:VF} {α:Type} {l:List V} {e:α→V} {r:α} (hF:T.funs f=some F) (h:∀ sg,Ans T F (fun a=>(e a,sg,0)) r ⟨[.code F.code],.normal,{ tm:=env l,fr:=[],sg,wd:=0 }⟩):SaysT T f l (e r):=fun sg=>sx hF (h sg)
end
attribute [irreducible] Ans Head
end Go.Vm
/-
  The machine V: more words: loops that count, calls that write, regions whose order is open with what writes, arrays.
-/
namespace Go.Vm
open Go
section
attribute [local semireducible] Ans Head
variable {T:Tab} {F:VF} {α:Type} {e:α→V × List Fr × Nat} {r r1 r2:α} {c:Cf}
theorem veq_rfl:∀ v:V,veq v v=true:=veq_refl
theorem lp0 {A:Type} (I:A→Prop) (μ:A→Nat) (mk:A→LS) {fn:Nat→A→α} {acc0:A} {q:Nat} {n:Nat} {live:List Nat} {b:VC} {k:List Kn} (h0:I acc0) (hq:μ acc0<q)
  (hstep:∀ q acc,I acc→μ acc<q+1→(∀ acc',I acc'→μ acc'<q→Head T F e (fn q acc') n live b k (mk acc'))→Ans T F e (fn (q+1) acc) ⟨.code b :: .rnd n live b::k,.normal,(mk acc).st live⟩)
  (hl:loopA c=some (live,b,mk acc0):=by kernel_rfl) (hn:c.s.fr.length=n:=by kernel_rfl) (hk:popK c=k:=by kernel_rfl):Ans T F e (fn q acc0) c:=by
 have key:∀ (q:Nat) (acc:A),I acc→μ acc<q→Head T F e (fn q acc) n live b k (mk acc):=by
  intro q
  induction q with
  |zero=>intro acc _ h;omega
  |succ q ih=>intro acc hi hm;exact hd_in (hstep q acc hi hm fun acc' hi' hm'=>ih acc' hi' hm')
 subst hk
 exact hd_lp hl hn (key q acc0 h0 hq)
theorem lp {A:Type} (I:A→Prop) (μ:A→Nat) (mk:A→LS) {fn:Nat→A→α} {acc0:A} {q:Nat} (h0:I acc0) (hq:μ acc0<q)
 (hstep:∀ q acc,I acc→μ acc<q+1→(∀ acc',I acc'→μ acc'<q→Head T F e (fn q acc') c.s.fr.length (lvA c) (bdA c) (popK c) (mk acc'))→Ans T F e (fn (q+1) acc) ⟨.code (bdA c) :: .rnd c.s.fr.length (lvA c) (bdA c)::popK c,.normal,(mk acc).st (lvA c)⟩)
 (hl:loopA c=some (lvA c,bdA c,mk acc0):=by kernel_rfl):Ans T F e (fn q acc0) c:=lp0 I μ mk h0 hq hstep hl rfl rfl
def reN (C:Cfg) (all:List DOp) (s:St) (i:Nat):Option V:=match opAt all i with
 |some o=>match want s o.g with
  |some true=>opP C noC o.o s
  |some false=>some .und
  |none=>none
 |none=>none
def reW (all:List DOp) (s:St) (i:Nat):Option V:=match opAt all i with
 |some o=>match want s o.g with
  |some true=>o.d.map s.tm
  |some false=>some .und
  |none=>none
 |none=>none
theorem re_again {all:List DOp} {s:St} {i:Nat} {v:V} (h1:reN T.C all s i=some v) (h2:reW all s i=some v):againAt T.C T.call all s i=true:=by
 unfold reN at h1
 unfold reW at h2
 unfold againAt
 cases ho:opAt all i with
 |none=>rw[ho] at h1;cases h1
 |some o=>
  rw[ho] at h1 h2
  simp only at h1 h2
  show again T.C T.call s o=true
  unfold again
  cases hw:want s o.g with
  |none=>rw[hw] at h1;cases h1
  |some b=>
   cases b with
   |false=>rfl
   |true=>
    rw[hw] at h1 h2
    simp only at h1 h2
    have h3:opP T.C T.call o.o s=some v:=(good_opP (A:=fun _=>noC) (W:=noC) (C:=T.C) ⟨fun _ _ _=>.refl _,fun f as sg r h=>⟨0,h⟩⟩ o.o s).1 noC T.call (fun f as sg r h=>by cases h) v h1
    obtain⟨t,ht,hv⟩:=Option.map_eq_some_iff.1 h2
    simp only[h3,ht,hv,veq_rfl]
theorem re_all {all:List DOp} {s:St}:∀ {re:List Nat} {vs:List V},re.map (reN T.C all s)=vs.map some→re.map (reW all s)=vs.map some→re.all (againAt T.C T.call all s)=true
 | [],_,_,_=>rfl
 |i::re,[],h,_=>by cases h
 |i::re,v::vs,h1,h2=>by
  simp only[List.map_cons,List.cons.injEq] at h1 h2
  rw[List.all_cons,re_again h1.1 h2.1,re_all h1.2 h2.2];rfl
def mainA (C:Cfg) (c:Cf):Option (List Nat × List DOp × List DOp × St):=match c.k,c.x with
 | .drw all (o::l)::_,.normal=>bif o.main then(stepV C noC o.op c.s).map fun s=>(o.re,all,l,s) else none
 |_,_=>none
def setD (c:Cf) (all l:List DOp) (s:St):Cf:=match c.k with
 |_::k=>⟨.drw all l::k,.normal,s⟩
 | []=>c
def reVs (C:Cfg) (c:Cf):List V:=match mainA C c with
 |some (re,all,_,s)=>re.map fun i=>(reW all s i).getD .und
 |none=>[]
def mnA (C:Cfg) (c:Cf):List DOp:=match mainA C c with
 |some (_,all,_,_)=>all
 |none=>[]
def mnL (C:Cfg) (c:Cf):List DOp:=match mainA C c with
 |some (_,_,l,_)=>l
 |none=>[]
def mnR (C:Cfg) (c:Cf):List Nat:=match mainA C c with
 |some (re,_,_,_)=>re
 |none=>[]
def mnS (C:Cfg) (c:Cf):St:=match mainA C c with
 |some (_,_,_,s)=>s
 |none=>c.s
theorem dm0 {re:List Nat} {all l:List DOp} {s:St} {vs:List V} (h:Ans T F e r (setD c all l s)) (hm:mainA T.C c=some (re,all,l,s)) (h1:re.map (reN T.C all s)=vs.map some) (h2:re.map (reW all s)=vs.map some):Ans T F e r c:=by
 obtain⟨k,x,s0⟩:=c
 unfold mainA at hm
 split at hm
 ·rename_i all' o l' k' hk hx
  simp only at hk hx
  subst hk;subst hx
  cases hmn:o.main with
  |false=>rw[hmn] at hm;cases hm
  |true=>
   rw[hmn] at hm
   obtain⟨s1,hs1,he⟩:=Option.map_eq_some_iff.1 (show(stepV T.C noC o.op s0).map (fun s=>(o.re,all',l',s))=_ from hm)
   cases he
   obtain⟨ix,bf,op,mn,re'⟩:=o
   simp only at hmn
   subst hmn
   have h3:stepV T.C T.call op s0=some s:=(good_stepV (A:=fun _=>noC) (W:=noC) (C:=T.C) ⟨fun _ _ _=>.refl _,fun f as sg r h=>⟨0,h⟩⟩ op s0).1 noC T.call (fun f as sg r h=>by cases h) s hs1
   exact drw_main.2 ⟨s,h3,re_all h1 h2,h⟩
 ·cases hm
theorem dm (h:Ans T F e r (setD c (mnA T.C c) (mnL T.C c) (mnS T.C c))) (hm:mainA T.C c=some (mnR T.C c,mnA T.C c,mnL T.C c,mnS T.C c):=by kernel_rfl)
 (h1:(mnR T.C c).map (reN T.C (mnA T.C c) (mnS T.C c))=(reVs T.C c).map some:=by kernel_rfl) (h2:(mnR T.C c).map (reW (mnA T.C c) (mnS T.C c))=(reVs T.C c).map some:=by kernel_rfl):Ans T F e r c:=dm0 h hm h1 h2
def reP (T:Tab) (all:List DOp) (s:St):List Nat→Prop
 | []=>True
 |i::r=>againAt T.C T.call all s i=true∧reP T all s r
theorem reP_all {all:List DOp} {s:St}:∀ {re:List Nat},reP T all s re→re.all (againAt T.C T.call all s)=true
 | [],_=>rfl
 |i::re,h=>by rw[List.all_cons,h.1,reP_all h.2];rfl
theorem rr {all:List DOp} {s:St} {i:Nat} (h:reN T.C all s i=reW all s i:=by kernel_rfl) (hs:(reW all s i).isSome=true:=by kernel_rfl):againAt T.C T.call all s i=true:=by
 obtain⟨v,hv⟩:=Option.isSome_iff_exists.1 hs
 exact re_again (h.trans hv) hv
theorem rk {all:List DOp} {s:St} {i:Nat} {u v:V} (huv:u=v) (h1:reN T.C all s i=some u:=by kernel_rfl) (h2:reW all s i=some v:=by kernel_rfl):againAt T.C T.call all s i=true:=by
 subst huv;exact re_again h1 h2
def iaRe (all:List DOp) (s:St) (i:Nat):Option (List V × Nat):=match opAt all i with
 |some o=>match want s o.g with
  |some true=>match o.o with
   | .ia none sz x j=>match rd s.tm x,nat? (rd s.tm j) with
    | .sl _ z es,some n=>bif Nat.beq z sz then some (es,n) else none
    |_,_=>none
   |_=>none
  |_=>none
 |none=>none
theorem ri {all:List DOp} {s:St} {i n:Nat} {β:Type} {L:List β} {y:β} (en:β→V) (hy:L[n]? = some y) (hc:iaRe all s i=some (L.map en,n):=by kernel_rfl) (h2:reW all s i=some (.ep (cellsOf (en y)) 0):=by kernel_rfl):againAt T.C T.call all s i=true:=by
 refine re_again (v:=.ep (cellsOf (en y)) 0) ?_ h2
 unfold iaRe at hc
 unfold reN
 cases ho:opAt all i with
 |none=>rw[ho] at hc;cases hc
 |some o=>
  rw[ho] at hc
  simp only at hc ⊢
  cases hw:want s o.g with
  |none=>rw[hw] at hc;cases hc
  |some b=>
   cases b with
   |false=>rw[hw] at hc;cases hc
   |true=>
    rw[hw] at hc
    simp only at hc ⊢
    split at hc
    ·rename_i sz x j hoo
     split at hc
     ·rename_i t z es n' hx hj
      cases hz:Nat.beq z sz with
      |false=>rw[hz] at hc;cases hc
      |true=>
       rw[hz] at hc
       simp only[cond_true,Option.some.injEq,Prod.mk.injEq] at hc
       obtain⟨rfl,rfl⟩:=hc
       have e1:=Nat.eq_of_beq_eq_true hz
       subst e1
       rw[hoo]
       show(bif pureO (.ia none z x j) then(opV T.C noC (.ia none z x j) s).map (·.1) else none)=_
       have:opV T.C noC (.ia none z x j) s=some (.ep (cellsOf (en y)) 0,s):=by
        simp only[opV,hj,Option.bind_some,hx,get_map en hy,hz,cond_true,Option.map_some]
       rw[this];rfl
     ·cases hc
    ·cases hc
def mopA (c:Cf):Option (Option Nat × VO × List Nat × List DOp × List DOp):=match c.k,c.x with
 | .drw all (o::l)::_,.normal=>bif o.main then match want c.s o.op.g with
  |some true=>some (o.op.d,o.op.o,o.re,all,l)
  |_=>none else none
 |_,_=>none
theorem opD_s {d:Option Nat} {o:VO} {re:List Nat} {all l:List DOp} {v:V} {s1:St} (hm:mopA c=some (d,o,re,all,l)) (ho:opV T.C T.call o c.s=some (v,s1)) (hre:reP T all (put s1 d v) re) (h:Ans T F e r (setD c all l (put s1 d v))):Ans T F e r c:=by
 obtain⟨k,x,s0⟩:=c
 unfold mopA at hm
 split at hm
 ·rename_i all' o1 l' k' hk hx
  simp only at hk hx
  subst hk;subst hx
  obtain⟨ix,bf,⟨d1,oo,g⟩,mn,re'⟩:=o1
  cases mn with
  |false=>cases hm
  |true=>
   simp only[cond_true] at hm
   split at hm
   ·rename_i hw
    simp only[Option.some.injEq,Prod.mk.injEq] at hm
    obtain⟨rfl,rfl,rfl,rfl,rfl⟩:=hm
    simp only at hw ho hre h
    exact drw_main.2 ⟨put s1 d1 v,by simp only[stepV,hw,ho,Option.map_some],reP_all hre,h⟩
   ·cases hm
 ·cases hm
theorem dmr {re:List Nat} (hre:reP T (mnA T.C c) (mnS T.C c) re) (h:Ans T F e r (setD c (mnA T.C c) (mnL T.C c) (mnS T.C c))) (hm:mainA T.C c=some (re,mnA T.C c,mnL T.C c,mnS T.C c):=by kernel_rfl):Ans T F e r c:=by
 obtain⟨k,x,s0⟩:=c
 generalize mnA T.C ⟨k,x,s0⟩=A at *
 generalize mnL T.C ⟨k,x,s0⟩=B at *
 generalize mnS T.C ⟨k,x,s0⟩=S at *
 unfold mainA at hm
 split at hm
 ·rename_i all' o l' k' hk hx
  simp only at hk hx
  subst hk;subst hx
  cases hmn:o.main with
  |false=>rw[hmn] at hm;cases hm
  |true=>
   rw[hmn] at hm
   obtain⟨s1,hs1,he⟩:=Option.map_eq_some_iff.1 (show(stepV T.C noC o.op s0).map (fun s=>(o.re,all',l',s))=_ from hm)
   cases he
   obtain⟨ix,bf,op,mn,re'⟩:=o
   simp only at hmn
   subst hmn
   have h3:stepV T.C T.call op s0=some S:=(good_stepV (A:=fun _=>noC) (W:=noC) (C:=T.C) ⟨fun _ _ _=>.refl _,fun f as sg r h=>⟨0,h⟩⟩ op s0).1 noC T.call (fun f as sg r h=>by cases h) S hs1
   exact drw_main.2 ⟨S,h3,reP_all hre,h⟩
 ·cases hm
theorem app_opV {β:Type} {en:β→V} {L M:List β} {i z:Nat} {x y:O} {s:St} (hlen:(L++M).length≤lim) (hcel:∀ x∈M,cel (en x)=true) (hx:rd s.tm x = .sl (.at 0 i L.length) z (L.map en)) (hy:els z s (rd s.tm y)=some (M.map en)) (hg:s.get 0 i=some (.tok L.length)) :
  opV T.C T.call (.app z x y) s=some (.sl (.at 0 i (L++M).length) z ((L++M).map en),s.set 0 i (.tok (L++M).length)):=by
 show(els z s (rd s.tm y)).bind (fun l=>appV z s (rd s.tm x) l)=_
 rw[hx,hy]
 simp only[Option.bind_some,appV,List.length_map]
 have h1:Nat.beq z z=true:=Nat.beq_refl z
 have h2:Nat.ble (L.length+M.length) lim=true:=by
  rw[List.length_append] at hlen
  exact Nat.ble_eq_true_of_le hlen
 rw[h1,h2]
 simp only[Bool.and_self,cond_true]
 cases M with
 |nil=>
  simp only[List.map_nil,List.append_nil]
  have:=set_same s 0 i (.tok L.length) hg
  have e1:s.set 0 i (.tok L.length)=s:=this
  rw[e1]
 |cons m M=>
  simp only[List.map_cons,hg]
  have h3:Nat.beq L.length L.length=true:=Nat.beq_refl _
  have h4:(en m::M.map en).all cel=true:=by
   rw[← List.map_cons,List.all_eq_true]
   intro v hv
   obtain⟨x,hx,rfl⟩:=List.mem_map.1 hv
   exact hcel x hx
  rw[h3,h4]
  simp only[Bool.and_self,cond_true,List.length_cons,List.length_map,List.length_append,List.map_append,List.map_cons]
def apmA (c:Cf):Option (Nat × Nat × Nat × Nat × Nat × List V × List V × Nat × List Nat × List DOp × List DOp × Option Nat):=match mopA c with
 |some (dd,.app sz x y,re,all,l)=>match rd c.s.tm x,els sz c.s (rd c.s.tm y) with
  | .sl (.at d i ver) z es,some ys=>match c.s.get d i with
   |some (.tok ver')=>some (d,i,ver,ver',z,es,ys,sz,re,all,l,dd)
   |_=>none
  |_,_=>none
 |_=>none
def apmI (c:Cf):Nat:=match apmA c with
 |some (_,i,_)=>i
 |none=>0
def apmZ (c:Cf):Nat:=match apmA c with
 |some (_,_,_,_,z,_)=>z
 |none=>0
def apmD (c:Cf):List DOp × List DOp × Option Nat:=match apmA c with
 |some (_,_,_,_,_,_,_,_,_,x)=>x
 |none=>([],[],none)
def apmS {β:Type} (c:Cf) (en:β→V) (LM:List β):St:=put (c.s.set 0 (apmI c) (.tok LM.length)) (apmD c).2.2 (.sl (.at 0 (apmI c) LM.length) (apmZ c) (LM.map en))
theorem apm {β:Type} {en:β→V} {L M:List β} {re:List Nat} (hlen:(L++M).length≤lim) (hcel:∀ x∈M,cel (en x)=true) (hre:reP T (apmD c).1 (apmS c en (L++M)) re)
  (h:Ans T F e r (setD c (apmD c).1 (apmD c).2.1 (apmS c en (L++M))))
  (hc:apmA c=some (0,apmI c,L.length,L.length,apmZ c,L.map en,M.map en,apmZ c,re,(apmD c).1,(apmD c).2.1,(apmD c).2.2):=by kernel_rfl):Ans T F e r c:=by
 unfold apmS at h hre
 revert hc h hre
 generalize apmI c=I
 generalize apmZ c=Z
 generalize apmD c=D
 intro hre h hc
 obtain⟨D1,D2,D3⟩:=D
 unfold apmA at hc
 split at hc
 ·rename_i dd sz x y re' all l hm
  split at hc
  ·rename_i d' i' ver z' es ys hx hy
   split at hc
   ·rename_i ver' hg
    simp only[Option.some.injEq,Prod.mk.injEq] at hc
    obtain⟨rfl,rfl,rfl,rfl,rfl,rfl,rfl,rfl,rfl,rfl,rfl,rfl⟩:=hc
    exact opD_s hm (app_opV hlen hcel hx hy hg) hre h
   ·cases hc
  ·cases hc
 ·cases hc
def behind (s:St) (fr:Fr) (sg:List Fr) (wd:Nat):St:={ s with fr,sg,wd:=max s.wd (wd-1) }
theorem clw {f:FuncId} {l:List V} {v:V} {fr:Fr} {sg:List Fr} {wd:Nat} (hs:T.call f l (c.s.fr::c.s.sg)=some (v,fr::sg,wd)) (h:Ans T F e r (setF c v (behind c.s fr sg wd))) (hc:callA T.C c=some (f,l):=by kernel_rfl) (hr:inReg c=true:=by kernel_rfl):Ans T F e r c:=by
 unfold callA at hc
 split at hc
 ·rename_i d g as hn
  cases hc
  refine opF_s hr hn ?_ h
  show doCall T.C T.call f (as.map (rd c.s.tm)) c.s=_
  unfold doCall
  rw[hs]
  rfl
 ·rename_i d x as hn
  split at hc
  ·rename_i g a b hx
   cases hc
   refine opF_s hr hn ?_ h
   show doFn T.C T.call (rd c.s.tm x) (as.map (rd c.s.tm)) c.s=_
   rw[hx]
   unfold doFn doCall
   simp only
   rw[hs]
   rfl
  ·cases hc
 ·cases hc
def amA (c:Cf):Option (Nat × Nat × Nat × Nat × Nat × Nat × Nat × List V × List V × Nat):=match nextO c with
 |some (_,.am sz x y)=>match rd c.s.tm x,els sz c.s (rd c.s.tm y) with
  | .bs d i ver o len,some ys=>match c.s.get d i with
   |some (.arr ver' z es)=>some (d,i,ver,ver',z,o,len,es,ys,sz)
   |_=>none
  |_,_=>none
 |_=>none
theorem bT' {a b:Nat} (h:a≤b):Nat.ble a b=true:=Nat.ble_eq_true_of_le h
theorem apb0 {β:Type} {en:β→V} {L M:List β} {i z ver n:Nat} (hlen:(L++M).length≤lim) (hcel:∀ x∈M,cel (en x)=true) (hn:n=L.length)
  (h:Ans T F e r (setF c (.bs 0 i (ver+M.length) 0 (n+M.length)) (c.s.set 0 i (.arr (ver+M.length) z ((L++M).map en)))))
  (hc:amA c=some (0,i,ver,ver,z,0,n,L.map en,M.map en,z):=by kernel_rfl) (hr:inReg c=true:=by kernel_rfl):Ans T F e r c:=by
 unfold amA at hc
 split at hc
 ·rename_i d sz x y hno
  split at hc
  ·rename_i d' i' ver' o' len' ys hx hy
   split at hc
   ·rename_i ver'' z' es hg
    simp only[Option.some.injEq,Prod.mk.injEq] at hc
    obtain⟨rfl,rfl,rfl,rfl,rfl,rfl,rfl,rfl,rfl,e2⟩:=hc
    subst e2;subst hn
    refine opF_s hr hno ?_ h
    show(els sz c.s (rd c.s.tm y)).bind (fun l=>amV sz c.s (rd c.s.tm x) l)=_
    rw[hx,hy]
    simp only[Option.bind_some,amV,hg,List.length_map]
    have h1:Nat.beq sz sz=true:=Nat.beq_refl sz
    have h2:∀ q:Nat,Nat.beq q q=true:=fun q=>Nat.beq_refl q
    have h3:Nat.ble (0+L.length) L.length=true:=bT' (by omega)
    have h4:Nat.ble (L.length+M.length) lim=true:=by rw[List.length_append] at hlen;exact bT' hlen
    have h5:(M.map en).all cel=true:=by
     rw[List.all_eq_true]
     intro v hv
     obtain⟨x,hx,rfl⟩:=List.mem_map.1 hv
     exact hcel x hx
    simp only[h1,h2,h3,h4,h5,Bool.and_self,cond_true]
    have e0:(L.map en).take L.length=L.map en:=List.take_of_length_le (by simp)
    cases M with
    |nil=>
     simp only[List.map_nil,List.append_nil,List.length_nil,Nat.add_zero]
     have e1:=set_same c.s 0 _ _ hg
     exact congrArg some (Prod.ext rfl e1.symm)
    |cons m M=>
     simp only[List.map_cons,List.length_cons,List.drop_zero,e0,List.map_append]
   ·cases hc
  ·cases hc
 ·cases hc
def amI (c:Cf):Nat:=match amA c with
 |some (_,i,_)=>i
 |none=>0
def amZ (c:Cf):Nat:=match amA c with
 |some (_,_,_,_,z,_)=>z
 |none=>0
theorem apb {β:Type} {en:β→V} {L M:List β} (hlen:(L++M).length≤lim) (hcel:∀ x∈M,cel (en x)=true)
  (h:Ans T F e r (setF c (.bs 0 (amI c) (L++M).length 0 (L++M).length) (c.s.set 0 (amI c) (.arr (L++M).length (amZ c) ((L++M).map en)))))
  (hc:amA c=some (0,amI c,L.length,L.length,amZ c,0,L.length,L.map en,M.map en,amZ c):=by kernel_rfl) (hr:inReg c=true:=by kernel_rfl):Ans T F e r c:=
 apb0 hlen hcel rfl (by rw[List.length_append] at h;exact h) hc hr
def nxO (c:Cf):VO:=match nextO c with
 |some (_,o)=>o
 |none=>.bad
def isS (c:Cf):Bool:=(nextO c).isSome
theorem opq {v:V} (ho:opV T.C T.call (nxO c) c.s=some (v,c.s)) (hp:pureO (nxO c)=true) (h:Ans T F e r (setA c v)) (hs:isS c=true):Ans T F e r c:=by
 unfold isS at hs
 cases hn:nextO c with
 |none=>rw[hn] at hs;cases hs
 |some p=>
  obtain⟨d,o⟩:=p
  have e0:nxO c=o:=by unfold nxO;rw[hn]
  rw[e0] at ho hp
  refine op_s hn ho ?_ h
  have:opP T.C T.call o c.s=bif pureO o then(opV T.C T.call o c.s).map (·.1) else none:=by
   cases o<;>first|rfl|cases hp
  rw[this,hp,ho]
  rfl
def ibA (c:Cf):Option (Nat × Nat × Nat × Nat × Nat × Nat × Nat × List V × Nat × Nat):=match nextO c with
 |some (_,.ia none sz x i)=>match rd c.s.tm x,nat? (rd c.s.tm i) with
  | .bs d b ver o len,some n=>match c.s.get d b with
   |some (.arr ver' z es)=>some (d,b,ver,ver',z,o,len,es,n,sz)
   |_=>none
  |_,_=>none
 |_=>none
theorem iab0 {d b ver z o len n:Nat} {es:List V} (hlt:n<len) (h:Ans T F e r (setA c (.ap d b ver (o+n) 0))) (hc:ibA c=some (d,b,ver,ver,z,o,len,es,n,z):=by kernel_rfl):Ans T F e r c:=by
 unfold ibA at hc
 split at hc
 ·rename_i d0 sz x i hno
  split at hc
  ·rename_i d' b' ver' o' len' n' hx hi
   split at hc
   ·rename_i ver'' z' es' hg
    simp only[Option.some.injEq,Prod.mk.injEq] at hc
    obtain⟨rfl,rfl,rfl,rfl,rfl,rfl,rfl,rfl,rfl,e2⟩:=hc
    subst e2
    have e0:nxO c = .ia none sz x i:=by unfold nxO;rw[hno]
    refine opq ?_ (by rw[e0];rfl) h (by unfold isS;rw[hno];rfl)
    rw[e0]
    show((nat? (rd c.s.tm i)).bind fun i=>_)=_
    rw[hi,Option.bind_some,hx]
    simp only[hg]
    have h1:Nat.beq sz sz=true:=Nat.beq_refl sz
    have h2:Nat.beq ver'' ver''=true:=Nat.beq_refl _
    have h3:Nat.blt n' len'=true:=by simpa[Nat.blt_eq] using hlt
    rw[h1,h2,h3]
    rfl
   ·cases hc
  ·cases hc
 ·cases hc
theorem iaz {d b ver z len n:Nat} {es:List V} (hlt:n<len) (h:Ans T F e r (setA c (.ap d b ver n 0))) (hc:ibA c=some (d,b,ver,ver,z,0,len,es,n,z):=by kernel_rfl):Ans T F e r c:=
 iab0 hlt (by rw[Nat.zero_add];exact h) hc
theorem elx {β:Type} {L:List β} {n:Nat} {f:β→α} {d:α} (hlt:n<L.length) (h:∀ y,L[n]? = some y→Ans T F e (f y) c):Ans T F e (onS L[n]? f d) c:=by
 have hy:L[n]? = some L[n]:=List.getElem?_eq_getElem hlt
 rw[hy]
 exact h _ hy
def laA (c:Cf):Option (Bool × Nat × Nat × Nat × Nat × Nat × Nat × Nat × Nat × List V):=match nextO c with
 |some (_,.ld ag sz x)=>match rd c.s.tm x with
  | .ap d i ver j o=>match c.s.get d i with
   |some (.arr ver' z es)=>some (ag,sz,d,i,ver,ver',z,j,o,es)
   |_=>none
  |_=>none
 |_=>none
theorem lda {β:Type} {en:β→V} {L:List β} {ag:Bool} {sz d i ver z j o:Nat} {y:β} {v:V} (hy:L[j]? = some y) (hl:ldC ag sz (cellsOf (en y)) o=some v) (h:Ans T F e r (setA c v)) (hc:laA c=some (ag,sz,d,i,ver,ver,z,j,o,L.map en):=by kernel_rfl):Ans T F e r c:=by
 unfold laA at hc
 split at hc
 ·rename_i d0 ag' sz' x hno
  split at hc
  ·rename_i d' i' ver' j' o' hx
   split at hc
   ·rename_i ver'' z' es' hg
    simp only[Option.some.injEq,Prod.mk.injEq] at hc
    obtain⟨rfl,rfl,rfl,rfl,rfl,rfl,rfl,rfl,rfl,rfl⟩:=hc
    have e0:nxO c = .ld ag' sz' x:=by unfold nxO;rw[hno]
    refine opq ?_ (by rw[e0];rfl) h (by unfold isS;rw[hno];rfl)
    rw[e0]
    show(ldV ag' sz' (rd c.s.tm x) c.s).map (·,c.s)=_
    rw[hx]
    simp only[ldV,hg]
    have h2:Nat.beq ver'' ver''=true:=Nat.beq_refl _
    rw[h2,get_map en hy]
    simp only[cond_true,Option.bind_some,hl,Option.map_some]
   ·cases hc
  ·cases hc
 ·cases hc
def ctA (c:Cf):Option (Nat × Nat × Nat × Nat × List V):=match nextO c with
 |some (_,.cut false sz x lo hi none)=>match rd c.s.tm x with
  | .sl .no z es=>match onat c.s.tm 0 lo,onat c.s.tm es.length hi with
   |some l,some h=>some (sz,z,l,h,es)
   |_,_=>none
  |_=>none
 |_=>none
theorem ct {β:Type} {en:β→V} {L:List β} {z l hh:Nat} (h1:l≤hh) (h2:hh≤L.length) (h:Ans T F e r (setA c (.sl .no z (((L.drop l).take (hh-l)).map en)))) (hc:ctA c=some (z,z,l,hh,L.map en):=by kernel_rfl):Ans T F e r c:=by
 unfold ctA at hc
 split at hc
 ·rename_i d sz x lo hi hno
  split at hc
  ·rename_i z' es hx
   split at hc
   ·rename_i l' h' hl hh'
    simp only[Option.some.injEq,Prod.mk.injEq] at hc
    obtain⟨rfl,e1,rfl,rfl,rfl⟩:=hc
    subst e1
    have e0:nxO c = .cut false z' x lo hi none:=by unfold nxO;rw[hno]
    refine opq ?_ (by rw[e0];rfl) h (by unfold isS;rw[hno];rfl)
    rw[e0]
    show(bif isStr (rd c.s.tm x) == false then(cutV z' c.s lo hi none (rd c.s.tm x)).map (·,c.s) else none)=_
    rw[hx]
    have hh'':onat c.s.tm (L.map en).length hi=some h':=hh'
    simp only[isStr,cutV,hl,hh'',Option.bind_some]
    have h3:Nat.beq z' z'=true:=Nat.beq_refl _
    have h5:Nat.ble h' (L.map en).length=true:=bT' (by simpa using h2)
    rw[h3,bT' h1,h5]
    simp only[Bool.and_self,cond_true,beq_self_eq_true,Option.map_some,List.map_drop,List.map_take]
    congr 3
    cases (Nat.beq h' (L.map en).length&&((Tok.no == Tok.ex)||Nat.beq l' 0))<;>rfl
   ·cases hc
  ·cases hc
 ·cases hc
theorem toNat_v {n:Int} (h:0≤n):V.int .i64 n=V.int .i64 ((n.toNat:Nat):Int):=by rw[Int.toNat_of_nonneg h]
def endOk (c:Cf):Bool:=match c.k,c.x with
 | [],.ret=>true
 | [],.normal=>true
 |_,_=>false
theorem enb {β:Type} {en:β→V} {L:List β} (t:Nat) {i ver z k:Nat} (hk:k≤L.length) (hF:F.res = [(t,none)]:=by rfl) (hF2:F.keepR=false:=by rfl) (hx:endOk c=true:=by kernel_rfl) (ht:c.s.tm t = .bs 0 i ver 0 k:=by kernel_rfl) (hg:c.s.fr[i]? = some (.arr ver z (L.map en)):=by kernel_rfl)
  (hr:e r=(.sl .no z ((L.take k).map en),c.s.sg,c.s.wd):=by kernel_rfl):Ans T F e r c:=by
 have hl0:leave F c.s=some (e r):=by
  unfold leave
  rw[hF]
  simp only[List.mapM_cons,List.mapM_nil,resV,Option.pure_def,Option.bind_eq_bind,Option.bind_some,one,hF2,cond_false,ht,fz3,fz2,fz0,hg]
  have h1:Nat.beq ver ver=true:=Nat.beq_refl _
  have h2:Nat.ble (0+k) (L.map en).length=true:=bT' (by simpa using hk)
  rw[h1,h2]
  simp only[Bool.and_self,cond_true,List.drop_zero,pu3,pu2,pu1,pu0,hr,List.map_take]
 obtain⟨k',x,s⟩:=c
 unfold endOk at hx
 split at hx
 ·rename_i hk' hx'
  simp only at hk' hx'
  subst hk';subst hx'
  exact⟨_,Nat.le_refl _,hl0⟩
 ·rename_i hk' hx'
  simp only at hk' hx'
  subst hk';subst hx'
  exact⟨_,Nat.le_refl _,hl0⟩
 ·cases hx
end
end Go.Vm
