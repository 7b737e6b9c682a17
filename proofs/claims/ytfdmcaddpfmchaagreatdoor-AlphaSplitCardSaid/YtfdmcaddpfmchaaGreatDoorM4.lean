/-
  A part of a proof: the last text of the claim says what is proved, and under which conditions.
-/
import Derived.Test.YtfdmcaddpfmchaaGreatDoorM3
set_option linter.unusedSimpArgs false
set_option linter.unusedVariables false
set_option linter.unnecessarySimpa false
/-
  The machine V with numbers that are not known. Third part: what a text may bear; operations.
-/
namespace Go.Vm
open Go
mutual
def clV:V→Bool
 | .int k _=>!(k == .i16)
 | .ep cs _=>clL cs
 | .sl _ _ es=>clL es
 | .fn _ a b=>clL a&&clL b
 | .iface _ v=>clV v
 | .agg cs=>clL cs
 | .tup vs=>clL vs
 | .und | .bool _ | .str _ | .nilp | .bp _ _ _ | .ap _ _ _ _ _ | .bs _ _ _ _ _ | .nilm | .mp _ _ | .nilf | .nili=>true
def clL:List V→Bool
 | []=>true
 |v::vs=>clV v&&clL vs
end
mutual
theorem clV_su (σ:Int→V):∀ v:V,clV v=true→su σ v=v
 | .int k n,h=>su_ns h
 | .ep cs o,h=>by simp only[clV] at h;simp only[su,clL_su σ cs h]
 | .sl t z es,h=>by simp only[clV] at h;simp only[su,clL_su σ es h]
 | .fn f a b,h=>by simp only[clV,Bool.and_eq_true] at h;simp only[su,clL_su σ a h.1,clL_su σ b h.2]
 | .iface t v,h=>by simp only[clV] at h;simp only[su,clV_su σ v h]
 | .agg cs,h=>by simp only[clV] at h;simp only[su,clL_su σ cs h]
 | .tup cs,h=>by simp only[clV] at h;simp only[su,clL_su σ cs h]
 | .und,_ | .bool _,_ | .str _,_ | .nilp,_ | .bp _ _ _,_ | .ap _ _ _ _ _,_ | .bs _ _ _ _ _,_ | .nilm,_ | .mp _ _,_ | .nilf,_ | .nili,_=>by simp[su]
theorem clL_su (σ:Int→V):∀ l:List V,clL l=true→suL σ l=l
 | [],_=>by simp[suL]
 |v::vs,h=>by simp only[clL,Bool.and_eq_true] at h;simp only[suL,clV_su σ v h.1,clL_su σ vs h.2]
end
def clO:O→Bool
 | .t _=>true
 | .c v=>clV v
def clOo:Option O→Bool
 |none=>true
 |some o=>clO o
def clVO:VO→Bool
 | .wrp k x=>!(k == .i16)&&clO x
 | .mv x | .not x | .neg x | .ss x | .s2b x | .b2s x | .ld _ _ x | .nc x | .fa _ x | .fd _ _ _ x | .ex x _ | .bx x _ | .be x | .mi _ x | .len _ x | .cap x | .fz x | .ml x | .eqn _ _ x=>clO x
 | .nw _ | .nm _ | .mm | .bad=>true
 | .pick c a b=>clO c&&(clO a&&clO b)
 | .bin _ x y | .eqb _ x y | .eqs _ _ x y | .st _ _ x y | .ia _ _ x y | .ix x y | .iv _ _ _ x y | .app _ x y | .am _ x y=>clO x&&clO y
 | .al z _=>clL z
 | .bd z ps=>clL z&&ps.all fun p=>clO p.2.2
 | .bl _ es | .bm _ es | .mn es | .mx es | .call _ es=>es.all clO
 | .mk _ _ z n c=>clL z&&(clO n&&clO c)
 | .cut _ _ x lo hi mx=>clO x&&(clOo lo&&(clOo hi&&clOo mx))
 | .mf _ a b=>a.all clO&&b.all clO
 | .cv f as=>clO f&&as.all clO
 | .inv x _ as=>clO x&&as.all clO
 | .az _ z x n=>clL z&&(clO x&&clO n)
 | .clr z x=>clL z&&clO x
 | .mg _ K z m k=>!(K == some .i16)&&(clV z&&(clO m&&clO k))
 | .mu K m k v=>!(K == some .i16)&&(clO m&&(clO k&&clO v))
def nsO (r:O→V):Option O→Bool
 |none=>true
 |some o=>ns (r o)
def okS (o:VO) (r:O→V):Bool:=
 match o with
 | .bin _ x y=>ns (r x)&&ns (r y)
 | .eqs _ _ x y=>match r x,r y with
  | .agg as,.agg bs=>as.all ns&&bs.all ns
  |_,_=>true
 | .neg x | .wrp _ x=>ns (r x)
 | .ia _ _ _ i | .ix _ i | .iv _ _ _ _ i | .az _ _ _ i=>ns (r i)
 | .mk _ _ _ n c=>ns (r n)&&ns (r c)
 | .cut _ _ _ lo hi mx=>nsO r lo&&(nsO r hi&&nsO r mx)
 | .mn xs | .mx xs=>xs.all fun x=>ns (r x)
 | .mg _ _ _ _ k | .mu _ _ k _=>ns (r k)
 |_=>true
def CallS (σ:Int→V) (cs c:Call):Prop:=∀ f as sg v sg' wd,cs f as sg=some (v,sg',wd)→c f (suL σ as) (suG σ sg)=some (su σ v,suG σ sg',wd)
section
variable {σ:Int→V} {C:Cfg} {cs c:Call}
theorem rd_cl (s:St) {x:O} (h:clO x=true):rd (suS σ s).tm x=su σ (rd s.tm x):=rd_su _ _ fun v e=>by subst e;exact clV_su σ v h
theorem rdL_cl (s:St) {l:List O} (h:l.all clO=true):l.map (rd (suS σ s).tm)=suL σ (l.map (rd s.tm)):=by
 rw[suL_map,List.map_map]
 apply List.map_congr_left
 intro x hx
 exact rd_cl s (List.all_eq_true.1 h x hx)
theorem onat_cl (s:St) {x:Option O} (h:clOo x=true) (hn:nsO (rd s.tm) x=true) (d:Nat):onat (suS σ s).tm d x=onat s.tm d x:=by
 cases x with
 |none=>rfl
 |some o=>simp only[onat];rw[rd_cl s h,nat_su _ hn]
theorem doCall_su (hσ:Num σ) (hc:CallS σ cs c) {f:FuncId} {as:List V} {s:St} {v:V} {s':St} (h:doCall C cs f as s=some (v,s')):doCall C c f (suL σ as) (suS σ s)=some (su σ v,suS σ s'):=by
 unfold doCall at h ⊢
 have ea:(suL σ as).map (argV (C.keepA f))=suL σ (as.map (argV (C.keepA f))):=map_su (argV_su hσ _) as
 rw[ea]
 split at h
 ·rename_i u fr sg wd hcs
  have:=hc _ _ _ _ _ _ hcs
  simp only[suG,List.map_cons] at this
  simp only[Option.some.injEq,Prod.mk.injEq] at h
  obtain⟨rfl,rfl⟩:=h
  show(match c f (suL σ (as.map (argV (C.keepA f)))) (suF σ s.fr::s.sg.map (suF σ)) with|some (v,fr::sg,wd)=>_|_=>none)=_
  rw[this]
  rfl
 ·cases h
theorem findM_su (hσ:Num σ) {k:V} (hk:su σ k=k) (hn:ns k=true):∀ (es:List (V × V)) (i:Nat) (r:Option (Nat × V)),findM k es i=some r→findM k (es.map fun(a,b)=>(su σ a,su σ b)) i=some (r.map fun p=>(p.1,su σ p.2))
 | [],i,r,h=>by simp only[findM,Option.some.injEq] at h;subst h;rfl
 |(a,b)::es,i,r,h=>by
  simp only[findM] at h
  have key:∀ x,sk k a=some x→sk k (su σ a)=some x:=by
   intro x hx
   cases k with
   |int kk n=>
    cases a with
    |int j m=>
     simp only[sk] at hx
     have hkj:(kk == j)=true:=by
      cases hb:(kk == j)
      ·rw[hb] at hx;simp at hx
      ·rfl
     have hj:ns (.int j m)=true:=by
      have:kk=j:=by simpa using hkj
      subst this
      simpa[ns] using hn
     rw[su_ns hj];exact hx
    |_=>simp[sk] at hx
   |str s=>
    cases a with
    |str t=>simpa[su] using hx
    |_=>simp[sk] at hx
   |_=>simp[sk] at hx
  split at h
  ·rename_i h1
   simp only[Option.some.injEq] at h
   subst h
   simp only[List.map_cons,findM,key _ h1,Option.map_some]
  ·rename_i h1
   simp only[List.map_cons,findM,key _ h1]
   exact findM_su hσ hk hn es _ _ h
  ·cases h
theorem kK_ns {K:Option IntKind} {k:V} (h:kK K k=true) (hn:ns k=true):su σ k=k:=by
 cases k with
 |int j n=>exact su_ns hn
 |str s=>simp[su]
 |_=>cases K<;>simp[kK] at h
theorem lookM_su (hσ:Num σ) {ok:Bool} {z:V} (hz:su σ z=z) {s:St} {m k:V} (hk:su σ k=k) (hn:ns k=true) {v:V} (h:lookM ok z s m k=some v):lookM ok z (suS σ s) (su σ m) k=some (su σ v):=by
 cases m with
 |nilm=>
  simp only[lookM,Option.some.injEq] at h
  subst h
  cases ok<;>simp[lookM,su,suL,hz]
 |mp d i=>
  simp only[su,lookM,get_su] at h ⊢
  cases hb:s.get d i with
  |none=>rw[hb] at h;cases h
  |some b=>
   rw[hb] at h
   cases b with
   |map es=>
    simp only[Option.map_some,suB] at h ⊢
    obtain⟨r,h1,rfl⟩:=Option.map_eq_some_iff.1 h
    rw[findM_su hσ hk hn _ _ _ h1]
    cases r with
    |none=>cases ok<;>simp[su,suL,hz]
    |some p=>cases ok<;>simp[su,suL]
   |_=>cases h
 |_=>cases h
theorem ms1_su (hσ:Num σ) (v:V):ms1 (su σ v)=ms1 v:=by
 cases v with
 |int j n=>obtain⟨j',m,e⟩:=su_int hσ j n;rw[e];rfl
 |_=>rfl
theorem updM_su (hσ:Num σ) {s:St} {m k u:V} (hk:su σ k=k) (hn:ns k=true) {s':St} (h:updM s m k u=some s'):updM (suS σ s) (su σ m) k (su σ u)=some (suS σ s'):=by
 cases m with
 |mp d i=>
  simp only[su,updM,get_su] at h ⊢
  cases hb:s.get d i with
  |none=>rw[hb] at h;cases h
  |some b=>
   rw[hb] at h
   cases b with
   |map es=>
    simp only[Option.map_some,suB,ms1_su hσ] at h ⊢
    cases hm:ms1 u with
    |false=>rw[hm] at h;cases h
    |true=>
     rw[hm] at h
     simp only[cond_true] at h ⊢
     obtain⟨r,h1,rfl⟩:=Option.map_eq_some_iff.1 h
     rw[findM_su hσ hk hn _ _ _ h1]
     cases r with
     |none=>simp[set_su,suB,hk]
     |some p=>simp[set_su,suB,hk,List.map_set]
   |_=>cases h
 |_=>cases h
theorem mnV_su {f:Int→Int→Int} {l:List V} (hl:l.all ns=true) {v:V} (h:mnV f l=some v):mnV f (suL σ l)=some (su σ v):=by
 have hI:∀ (l:List V),l.all ns=true→∀ r,l.mapM intOf=some r→(suL σ l).mapM intOf=some r:=by
  intro l
  induction l with
  |nil=>intro _ r h;simpa[suL] using h
  |cons a l ih=>
   intro ha r h
   simp only[List.all_cons,Bool.and_eq_true] at ha
   simp only[List.mapM_cons] at h
   obtain⟨x,h1,h2⟩:=Option.bind_eq_some_iff.1 h
   obtain⟨y,h3,h4⟩:=Option.bind_eq_some_iff.1 h2
   have e:su σ a=a:=by
    cases a with
    |int k n=>exact su_ns ha.1
    |_=>simp[intOf] at h1
   simp only[suL,List.mapM_cons,e,h1,ih ha.2 y h3]
   exact h4
 cases l with
 |nil=>simp[mnV] at h
 |cons a l=>
  simp only[List.all_cons,Bool.and_eq_true] at hl
  cases a with
  |int k n=>
   simp only[mnV] at h
   obtain⟨r,h1,rfl⟩:=Option.map_eq_some_iff.1 h
   have e:su σ (.int k n) = .int k n:=su_ns hl.1
   simp only[suL,e]
   show((suL σ l).mapM intOf).map _=_
   rw[hI l hl.2 r h1]
   simp only[Option.map_some]
   rw[su_ns (by simpa[ns] using hl.1)]
  |_=>simp[mnV] at h
end
end Go.Vm
/-
  The machine V with numbers that are not known. Fourth part: one operation, for all numbers.
-/
namespace Go.Vm
open Go
section
variable {σ:Int→V} {C:Cfg} {cs c:Call}
theorem nat_cl (s:St) {x:O} (h:clO x=true) (hn:ns (rd s.tm x)=true):nat? (rd (suS σ s).tm x)=nat? (rd s.tm x):=by rw[rd_cl s h,nat_su _ hn]
theorem boxT_su (hσ:Num σ) (n:Nat) (l:List V) (tk:List Nat):boxT n (suL σ l) tk=suF σ (boxT n l tk):=by
 simp only[boxT,growC_su hσ,suF,List.map_cons,suB,List.map_map]
 congr 1
 apply List.map_congr_left
 intro k _
 exact(blkT_su k).symm
theorem mapM_el (hσ:Num σ) (sz:Nat) (l:List V):(suL σ l).mapM (elV sz)=(l.mapM (elV sz)).map (suL σ):=mapM_su (elV_su hσ sz) l
theorem opV_su (hσ:Num σ) (hc:CallS σ cs c) {o:VO} {s:St} {v:V} {s':St} (hl:clVO o=true) (hk:okS o (rd s.tm)=true) (h:opV C cs o s=some (v,s')) :
  opV C c o (suS σ s)=some (su σ v,suS σ s'):=by
 cases o with
 |mv x=>simp only[opV,Option.some.injEq,Prod.mk.injEq] at h ⊢;obtain⟨rfl,rfl⟩:=h;exact⟨rd_cl s hl,rfl⟩
 |nw sz=>
  simp only[opV,Option.some.injEq,Prod.mk.injEq] at h ⊢;obtain⟨rfl,rfl⟩:=h
  exact⟨by simp[su,suL,fr_su,suF_len],by simp[wf_su,suF_app,fr_su,suF,suB]⟩
 |pick x y z=>
  simp only[clVO,Bool.and_eq_true] at hl
  simp only[opV,rd_cl s hl.1,rd_cl s hl.2.1,rd_cl s hl.2.2] at h ⊢
  cases hx:rd s.tm x with
  |bool b=>rw[hx] at h;simp only[Option.some.injEq,Prod.mk.injEq] at h;obtain⟨rfl,rfl⟩:=h;cases b<;>rfl
  |_=>rw[hx] at h;cases h
 |bin op x y=>
  simp only[clVO,Bool.and_eq_true] at hl
  simp only[okS,Bool.and_eq_true] at hk
  simp only[opV,rd_cl s hl.1,rd_cl s hl.2] at h ⊢
  obtain⟨u,h1,h2⟩:=Option.map_eq_some_iff.1 h
  simp only[Prod.mk.injEq] at h2;obtain⟨rfl,rfl⟩:=h2
  rw[binV_ns hk.1 hk.2 h1];rfl
 |eqb n x y=>
  simp only[clVO,Bool.and_eq_true] at hl
  simp only[opV,rd_cl s hl.1,rd_cl s hl.2] at h ⊢
  cases hx:rd s.tm x with
  |bool a=>cases hy:rd s.tm y with
   |bool b=>rw[hx,hy] at h;simp only[Option.some.injEq,Prod.mk.injEq] at h;obtain⟨rfl,rfl⟩:=h;rfl
   |_=>rw[hx,hy] at h;cases h
  |_=>rw[hx] at h;cases h
 |eqs n ks x y=>
  simp only[clVO,Bool.and_eq_true] at hl
  simp only[opV,okS,rd_cl s hl.1,rd_cl s hl.2] at h hk ⊢
  cases hx:rd s.tm x with
  |agg as=>cases hy:rd s.tm y with
   |agg bs=>
    rw[hx,hy] at h hk
    simp only[Bool.and_eq_true] at hk
    obtain⟨b,h1,h2⟩:=Option.map_eq_some_iff.1 h
    simp only[Prod.mk.injEq] at h2;obtain⟨rfl,rfl⟩:=h2
    simp only[su,eqL_ns ks as bs b hk.1 hk.2 h1,Option.map_some]
   |_=>rw[hx,hy] at h;cases h
  |_=>rw[hx] at h;cases h
 |eqn k n x=>
  simp only[opV,rd_cl s hl,nilK_su hσ] at h ⊢
  obtain⟨b,h1,h2⟩:=Option.map_eq_some_iff.1 h
  simp only[Prod.mk.injEq] at h2;obtain⟨rfl,rfl⟩:=h2
  rw[h1];rfl
 |not x=>
  simp only[opV,rd_cl s hl] at h ⊢
  cases hx:rd s.tm x with
  |bool b=>rw[hx] at h;simp only[Option.some.injEq,Prod.mk.injEq] at h;obtain⟨rfl,rfl⟩:=h;rfl
  |_=>rw[hx] at h;cases h
 |neg x=>
  simp only[opV,okS,rd_cl s hl] at h hk ⊢
  cases hx:rd s.tm x with
  |int k n=>
   rw[hx] at h hk;simp only[Option.some.injEq,Prod.mk.injEq] at h;obtain⟨rfl,rfl⟩:=h
   rw[su_ns hk]
   have:∀ m,su σ (.int k m) = .int k m:=fun m=>su_ns (by simpa[ns] using hk)
   simp only[this]
  |_=>rw[hx] at h;cases h
 |wrp k x=>
  simp only[clVO,Bool.and_eq_true] at hl
  simp only[opV,okS,rd_cl s hl.2] at h hk ⊢
  cases hx:rd s.tm x with
  |int j n=>
   rw[hx] at h hk;simp only[Option.some.injEq,Prod.mk.injEq] at h;obtain⟨rfl,rfl⟩:=h
   rw[su_ns hk]
   have:∀ m,su σ (.int k m) = .int k m:=fun m=>su_ns (by simpa[ns] using hl.1)
   simp only[this]
  |_=>rw[hx] at h;cases h
 |ss x=>
  simp only[opV,rd_cl s hl] at h ⊢
  cases hx:rd s.tm x with
  |str b=>rw[hx] at h;simp only[Option.some.injEq,Prod.mk.injEq] at h;obtain⟨rfl,rfl⟩:=h;rfl
  |_=>rw[hx] at h;cases h
 |s2b x=>
  simp only[opV,rd_cl s hl] at h ⊢
  cases hx:rd s.tm x with
  |str b=>
   rw[hx] at h;simp only[Option.some.injEq,Prod.mk.injEq] at h;obtain⟨rfl,rfl⟩:=h
   simp only[su,Option.some.injEq,Prod.mk.injEq,V.sl.injEq,true_and,and_true,suL_map,List.map_map]
   apply List.map_congr_left
   intro a _
   rfl
  |_=>rw[hx] at h;cases h
 |b2s x=>
  simp only[opV,rd_cl s hl,els_su hσ,isStr_su hσ] at h ⊢
  cases hi:isStr (rd s.tm x) with
  |true=>rw[hi] at h;cases h
  |false=>
  rw[hi] at h
  simp only[cond_false] at h ⊢
  obtain⟨l,h1,h2⟩:=Option.bind_eq_some_iff.1 h
  obtain⟨b,h3,h4⟩:=Option.map_eq_some_iff.1 h2
  simp only[Prod.mk.injEq] at h4;obtain⟨rfl,rfl⟩:=h4
  simp only[h1,Option.map_some,Option.bind_some,b2sL_su l b h3,su]
 |ld ag sz a=>
  simp only[opV,rd_cl s hl,ldV_su hσ] at h ⊢
  obtain⟨u,h1,h2⟩:=Option.map_eq_some_iff.1 h
  simp only[Prod.mk.injEq] at h2;obtain⟨rfl,rfl⟩:=h2
  simp only[h1,Option.map_some]
 |st ag sz a x=>
  simp only[clVO,Bool.and_eq_true] at hl
  simp only[opV,rd_cl s hl.1,rd_cl s hl.2,stV_su hσ] at h ⊢
  obtain⟨u,h1,h2⟩:=Option.map_eq_some_iff.1 h
  simp only[Prod.mk.injEq] at h2;obtain⟨rfl,rfl⟩:=h2
  simp only[h1,Option.map_some,su]
 |nc x=>
  simp only[opV,rd_cl s hl] at h ⊢
  cases hx:rd s.tm x with
  |int k n=>rw[hx] at h;cases h
  |_=>
   rw[hx] at h
   first
    |(cases h;done)
    |(simp only[nil?,Option.some.injEq,Prod.mk.injEq] at h;obtain⟨rfl,rfl⟩:=h;rfl)
 |fa off a=>
  simp only[opV,rd_cl s hl] at h ⊢
  cases hx:rd s.tm a with
  |bp d i o=>rw[hx] at h;simp only[Option.some.injEq,Prod.mk.injEq] at h;obtain⟨rfl,rfl⟩:=h;rfl
  |ep cs o=>rw[hx] at h;simp only[Option.some.injEq,Prod.mk.injEq] at h;obtain⟨rfl,rfl⟩:=h;rfl
  |ap d i v j o=>rw[hx] at h;simp only[Option.some.injEq,Prod.mk.injEq] at h;obtain⟨rfl,rfl⟩:=h;rfl
  |_=>rw[hx] at h;cases h
 |ia n sz x i=>
  simp only[clVO,Bool.and_eq_true] at hl
  simp only[okS] at hk
  cases n with
  |none=>
   simp only[opV,rd_cl s hl.1,nat_cl s hl.2 hk] at h ⊢
   obtain⟨m,h1,h2⟩:=Option.bind_eq_some_iff.1 h
   rw[h1,Option.bind_some]
   cases hx:rd s.tm x with
   |sl t z es=>
    rw[hx] at h2
    simp only[su,suL_get] at h2 ⊢
    cases hb:Nat.beq z sz with
    |false=>rw[hb] at h2;cases h2
    |true=>
     rw[hb] at h2
     simp only[cond_true] at h2 ⊢
     obtain⟨e,h3,h4⟩:=Option.map_eq_some_iff.1 h2
     simp only[Prod.mk.injEq] at h4;obtain⟨rfl,rfl⟩:=h4
     simp only[h3,Option.map_some,cellsOf_su hσ,su]
   |bs d b ver o len=>
    rw[hx] at h2
    simp only[su,get_su] at h2 ⊢
    cases hg:s.get d b with
    |none=>rw[hg] at h2;cases h2
    |some bl=>
     rw[hg] at h2
     cases bl with
     |arr ver' z es=>
      simp only[Option.map_some,suB] at h2 ⊢
      cases hb:(Nat.beq z sz&&(Nat.beq ver ver'&&Nat.blt m len)) with
      |false=>rw[hb] at h2;cases h2
      |true=>rw[hb] at h2;simp only[cond_true,Option.some.injEq,Prod.mk.injEq] at h2;obtain⟨rfl,rfl⟩:=h2;rfl
     |_=>cases h2
   |_=>rw[hx] at h2;cases h2
  |some n=>
   simp only[opV,rd_cl s hl.1,nat_cl s hl.2 hk] at h ⊢
   obtain⟨m,h1,h2⟩:=Option.bind_eq_some_iff.1 h
   rw[h1,Option.bind_some]
   cases hb:Nat.blt m n with
   |false=>rw[hb] at h2;cases h2
   |true=>
    rw[hb] at h2
    simp only[cond_true] at h2 ⊢
    cases hx:rd s.tm x with
    |bp d i o=>rw[hx] at h2;simp only[Option.some.injEq,Prod.mk.injEq] at h2;obtain⟨rfl,rfl⟩:=h2;rfl
    |ep cs o=>rw[hx] at h2;simp only[Option.some.injEq,Prod.mk.injEq] at h2;obtain⟨rfl,rfl⟩:=h2;rfl
    |ap d i v j o=>rw[hx] at h2;simp only[Option.some.injEq,Prod.mk.injEq] at h2;obtain⟨rfl,rfl⟩:=h2;rfl
    |_=>rw[hx] at h2;cases h2
 |ix x i=>
  simp only[clVO,Bool.and_eq_true] at hl
  simp only[okS] at hk
  simp only[opV,rd_cl s hl.1,nat_cl s hl.2 hk] at h ⊢
  obtain⟨m,h1,h2⟩:=Option.bind_eq_some_iff.1 h
  rw[h1,Option.bind_some]
  cases hx:rd s.tm x with
  |str b=>
   rw[hx] at h2
   simp only[su] at h2 ⊢
   obtain⟨e,h3,h4⟩:=Option.map_eq_some_iff.1 h2
   simp only[Prod.mk.injEq] at h4;obtain⟨rfl,rfl⟩:=h4
   simp only[h3,Option.map_some,su];rfl
  |_=>rw[hx] at h2;cases h2
 |iv ag sz n x i=>
  simp only[clVO,Bool.and_eq_true] at hl
  simp only[okS] at hk
  simp only[opV,rd_cl s hl.1,nat_cl s hl.2 hk] at h ⊢
  obtain⟨m,h1,h2⟩:=Option.bind_eq_some_iff.1 h
  rw[h1,Option.bind_some]
  cases hx:rd s.tm x with
  |agg es=>
   rw[hx] at h2
   simp only[su,ldC_su] at h2 ⊢
   cases hb:Nat.blt m n with
   |false=>rw[hb] at h2;cases h2
   |true=>
    rw[hb] at h2
    simp only[cond_true] at h2 ⊢
    obtain⟨e,h3,h4⟩:=Option.map_eq_some_iff.1 h2
    simp only[Prod.mk.injEq] at h4;obtain⟨rfl,rfl⟩:=h4
    simp only[h3,Option.map_some,dt2_su hσ]
  |_=>rw[hx] at h2;cases h2
 |fd ag off sz x=>
  simp only[opV,rd_cl s hl] at h ⊢
  cases hx:rd s.tm x with
  |agg es=>
   rw[hx] at h
   simp only[su,ldC_su] at h ⊢
   obtain⟨e,h3,h4⟩:=Option.map_eq_some_iff.1 h
   simp only[Prod.mk.injEq] at h4;obtain⟨rfl,rfl⟩:=h4
   simp only[h3,Option.map_some,dt2_su hσ]
  |_=>rw[hx] at h;cases h
 |ex x i=>
  simp only[opV,rd_cl s hl] at h ⊢
  cases hx:rd s.tm x with
  |tup es=>
   rw[hx] at h
   simp only[su,suL_get] at h ⊢
   obtain⟨e,h3,h4⟩:=Option.map_eq_some_iff.1 h
   simp only[Prod.mk.injEq] at h4;obtain⟨rfl,rfl⟩:=h4
   simp only[h3,Option.map_some]
  |_=>rw[hx] at h;cases h
 |nm sz=>
  simp only[opV,Option.some.injEq,Prod.mk.injEq] at h ⊢;obtain⟨rfl,rfl⟩:=h
  exact⟨by simp[su,fr_su,suF_len],by simp[wf_su,suF_app,fr_su,suF,suB,suL]⟩
 |al z tk=>
  simp only[clVO] at hl
  simp only[opV,Option.some.injEq,Prod.mk.injEq] at h ⊢;obtain⟨rfl,rfl⟩:=h
  refine⟨by simp[su,fr_su,suF_len],?_⟩
  simp only[wf_su,suF_app,fr_su,suF_len]
  rw[← boxT_su hσ,clL_su σ z hl]
 |bx x tk=>
  simp only[opV,rd_cl s hl,whole_su hσ,cellsOf_su hσ] at h ⊢
  cases hb:whole (rd s.tm x) with
  |false=>rw[hb] at h;cases h
  |true=>
   rw[hb] at h
   simp only[cond_true,Option.some.injEq,Prod.mk.injEq] at h ⊢;obtain⟨rfl,rfl⟩:=h
   exact⟨by simp[su,fr_su,suF_len],by simp[wf_su,suF_app,fr_su,suF_len,boxT_su hσ]⟩
 |be x=>
  simp only[clVO] at hl
  simp only[opV,rd_cl s hl,whole_su hσ,cellsOf_su hσ] at h ⊢
  rw[all_su (pu1_su hσ)]
  cases hb:(whole (rd s.tm x)&&(cellsOf (rd s.tm x)).all pu1) with
  |false=>rw[hb] at h;cases h
  |true=>
   rw[hb] at h
   simp only[cond_true,Option.some.injEq,Prod.mk.injEq] at h ⊢;obtain⟨rfl,rfl⟩:=h
   exact⟨by simp[su],rfl⟩
 |bd z ps=>
  simp only[clVO,Bool.and_eq_true] at hl
  simp only[opV] at h ⊢
  have e1:(ps.all fun p=>whole (rd (suS σ s).tm p.2.2))=ps.all fun p=>whole (rd s.tm p.2.2):=by
   rw[Bool.eq_iff_iff,List.all_eq_true,List.all_eq_true]
   constructor
   ·intro h p hp
    have:=h p hp
    rwa [rd_cl s (List.all_eq_true.1 hl.2 p hp),whole_su hσ] at this
   ·intro h p hp
    have:=h p hp
    rwa [rd_cl s (List.all_eq_true.1 hl.2 p hp),whole_su hσ]
  have e2:(ps.map fun(o,n,x)=>(o,n,(cellsOf (rd (suS σ s).tm x)).map dx0))=(ps.map fun(o,n,x)=>(o,n,(cellsOf (rd s.tm x)).map dx0)).map fun p=>(p.1,p.2.1,suL σ p.2.2):=by
   rw[List.map_map]
   apply List.map_congr_left
   intro p hp
   have:=List.all_eq_true.1 hl.2 p hp
   simp only[Function.comp]
   rw[rd_cl s this,cellsOf_su hσ,map_su (dx0_su hσ)]
  rw[e1]
  cases hb:(ps.all fun p=>whole (rd s.tm p.2.2)) with
  |false=>rw[hb] at h;cases h
  |true=>
   rw[hb] at h
   simp only[cond_true] at h ⊢
   obtain⟨u,h1,h2⟩:=Option.map_eq_some_iff.1 h
   simp only[Prod.mk.injEq] at h2;obtain⟨rfl,rfl⟩:=h2
   rw[e2]
   have:=fillC_su σ (ps.map fun(o,n,x)=>(o,n,(cellsOf (rd s.tm x)).map dx0)) z
   rw[clL_su σ z hl.1] at this
   rw[this,h1]
   simp[su]
 |bl sz es=>
  simp only[opV,rdL_cl s hl,mapM_el hσ] at h ⊢
  obtain⟨u,h1,h2⟩:=Option.bind_eq_some_iff.1 h
  simp only[Option.some.injEq,Prod.mk.injEq] at h2;obtain⟨rfl,rfl⟩:=h2
  simp only[h1,Option.map_some,Option.bind_some,su]
 |bm sz es=>
  simp only[opV,rdL_cl s hl,mapM_el hσ] at h ⊢
  obtain⟨u,h1,h2⟩:=Option.bind_eq_some_iff.1 h
  simp only[Option.some.injEq,Prod.mk.injEq] at h2;obtain⟨rfl,rfl⟩:=h2
  simp only[h1,Option.map_some,Option.bind_some,suL_len,fr_su,suF_len]
  simp[su,wf_su,suF_app,suF,suB]
 |mk d ag z n x=>
  simp only[clVO,okS,Bool.and_eq_true] at hl hk
  simp only[opV,nat_cl s hl.2.1 hk.1,nat_cl s hl.2.2 hk.2] at h ⊢
  obtain⟨m,h1,h2⟩:=Option.bind_eq_some_iff.1 h
  obtain⟨m2,h3,h4⟩:=Option.bind_eq_some_iff.1 h2
  simp only[h1,h3,Option.bind_some]
  have e:mkEl ag z=su σ (mkEl ag z):=by rw[← mkEl_su hσ,clL_su σ z hl.1]
  have e2:suL σ (List.replicate m (mkEl ag z))=List.replicate m (mkEl ag z):=by rw[suL_map,List.map_replicate,← e]
  cases hb:(Nat.beq m m2&&Nat.ble m lim) with
  |false=>rw[hb] at h4;cases h4
  |true=>
   rw[hb] at h4
   cases d with
   |zero=>
    simp only[cond_true,Option.some.injEq,Prod.mk.injEq] at h4 ⊢;obtain⟨rfl,rfl⟩:=h4
    refine⟨by simp[su,fr_su,suF_len],?_⟩
    simp only[wf_su,suF_app,fr_su]
    simp[suF,suB,e2]
   |succ d=>
    simp only[cond_true] at h4 ⊢
    obtain⟨f,h5,h6⟩:=Option.map_eq_some_iff.1 h4
    simp only[Prod.mk.injEq] at h6;obtain⟨rfl,rfl⟩:=h6
    have e3:(suS σ s).sg[d]? = some (suF σ f):=by
     show(s.sg.map (suF σ))[d]? = _
     rw[List.getElem?_map,h5];rfl
    rw[e3]
    simp only[Option.map_some,Option.some.injEq,Prod.mk.injEq]
    refine⟨by simp[su,suF_len],?_⟩
    simp only[suS,suG,St.mk.injEq,true_and,and_true]
    apply List.ext_getElem?
    intro q
    simp only[List.getElem?_map,List.getElem?_modify]
    cases s.sg[q]? with
    |none=>rfl
    |some g=>
     by_cases hq:d=q
     ·simp[hq,suF,suB,e2]
     ·simp[hq]
 |cut st sz x lo hi mx=>
  simp only[clVO,okS,Bool.and_eq_true] at hl hk
  simp only[opV,rd_cl s hl.1,isStr_su hσ] at h ⊢
  cases hb:(isStr (rd s.tm x) == st) with
  |false=>rw[hb] at h;cases h
  |true=>
   rw[hb] at h
   simp only[cond_true] at h ⊢
   obtain⟨u,h1,h2⟩:=Option.map_eq_some_iff.1 h
   simp only[Prod.mk.injEq] at h2;obtain⟨rfl,rfl⟩:=h2
   rw[cutV_su hσ (.inr trivial) (onat_cl s hl.2.1 hk.1) (onat_cl s hl.2.2.1 hk.2.1) (fun o e=>by
    subst e
    exact nat_cl s hl.2.2.2 hk.2.2),h1]
   rfl
 |mf f a b=>
  simp only[clVO,Bool.and_eq_true] at hl
  simp only[opV,rdL_cl s hl.1,rdL_cl s hl.2,Option.some.injEq,Prod.mk.injEq] at h ⊢;obtain⟨rfl,rfl⟩:=h
  exact⟨by simp[su],rfl⟩
 |mi t x=>
  simp only[opV,rd_cl s hl,Option.some.injEq,Prod.mk.injEq] at h ⊢;obtain⟨rfl,rfl⟩:=h
  exact⟨by simp[su],rfl⟩
 |call f as=>
  simp only[opV,rdL_cl s hl] at h ⊢
  exact doCall_su hσ hc h
 |cv f as=>
  simp only[clVO,Bool.and_eq_true] at hl
  simp only[opV,rdL_cl s hl.2,rd_cl s hl.1] at h ⊢
  unfold doFn at h ⊢
  cases hx:rd s.tm f with
  |fn g a b=>
   rw[hx] at h
   simp only[su] at h ⊢
   have:=doCall_su hσ hc h
   simpa[suL_append] using this
  |_=>rw[hx] at h;cases h
 |inv x m as=>
  simp only[clVO,Bool.and_eq_true] at hl
  simp only[opV,rdL_cl s hl.2,rd_cl s hl.1] at h ⊢
  cases hx:rd s.tm x with
  |iface t u=>
   rw[hx] at h
   simp only[su] at h ⊢
   obtain⟨f,h1,h2⟩:=Option.bind_eq_some_iff.1 h
   rw[h1,Option.bind_some]
   have:=doCall_su hσ hc h2
   simpa[suL] using this
  |_=>rw[hx] at h;cases h
 |len st x=>
  simp only[opV,rd_cl s hl,isStr_su hσ,len_su hσ] at h ⊢
  cases hb:(isStr (rd s.tm x) == st) with
  |false=>rw[hb] at h;cases h
  |true=>
   rw[hb] at h
   simp only[cond_true] at h ⊢
   obtain⟨u,h1,h2⟩:=Option.map_eq_some_iff.1 h
   simp only[Prod.mk.injEq] at h2;obtain⟨rfl,rfl⟩:=h2
   rw[h1];rfl
 |cap x=>
  simp only[opV,rd_cl s hl] at h ⊢
  cases hx:rd s.tm x with
  |sl t z es=>
   rw[hx] at h
   cases t with
   |ex=>simp only[Option.some.injEq,Prod.mk.injEq] at h;obtain⟨rfl,rfl⟩:=h;simp only[su,suL_len];rfl
   |_=>cases h
  |_=>rw[hx] at h;cases h
 |app sz x y=>
  simp only[clVO,Bool.and_eq_true] at hl
  simp only[opV,rd_cl s hl.1,rd_cl s hl.2,els_su hσ] at h ⊢
  obtain⟨l,h1,h2⟩:=Option.bind_eq_some_iff.1 h
  simp only[h1,Option.map_some,Option.bind_some,appV_su hσ,h2,suR]
 |am sz x y=>
  simp only[clVO,Bool.and_eq_true] at hl
  simp only[opV,rd_cl s hl.1,rd_cl s hl.2,els_su hσ] at h ⊢
  obtain⟨l,h1,h2⟩:=Option.bind_eq_some_iff.1 h
  simp only[h1,Option.map_some,Option.bind_some,amV_su hσ,h2,suR]
 |az ag z x n=>
  simp only[clVO,okS,Bool.and_eq_true] at hl hk
  simp only[opV,rd_cl s hl.2.1,nat_cl s hl.2.2 hk] at h ⊢
  obtain⟨m,h1,h2⟩:=Option.bind_eq_some_iff.1 h
  rw[h1,Option.bind_some]
  have e:mkEl ag z=su σ (mkEl ag z):=by rw[← mkEl_su hσ,clL_su σ z hl.1]
  have e2:List.replicate m (mkEl ag z)=suL σ (List.replicate m (mkEl ag z)):=by rw[suL_map,List.map_replicate,← e]
  rw[e2,amV_su hσ,h2];rfl
 |mn xs=>
  simp only[clVO,okS] at hl hk
  simp only[opV,rdL_cl s hl] at h ⊢
  obtain⟨u,h1,h2⟩:=Option.map_eq_some_iff.1 h
  simp only[Prod.mk.injEq] at h2;obtain⟨rfl,rfl⟩:=h2
  rw[mnV_su (by rw[List.all_map];exact hk) h1];rfl
 |mx xs=>
  simp only[clVO,okS] at hl hk
  simp only[opV,rdL_cl s hl] at h ⊢
  obtain⟨u,h1,h2⟩:=Option.map_eq_some_iff.1 h
  simp only[Prod.mk.injEq] at h2;obtain⟨rfl,rfl⟩:=h2
  rw[mnV_su (by rw[List.all_map];exact hk) h1];rfl
 |clr z x=>
  simp only[clVO,Bool.and_eq_true] at hl
  simp only[opV,rd_cl s hl.2] at h ⊢
  cases hx:rd s.tm x with
  |bs d i ver o len=>
   rw[hx] at h
   simp only[su,get_su] at h ⊢
   cases hg:s.get d i with
   |none=>rw[hg] at h;cases h
   |some b=>
    rw[hg] at h
    cases b with
    |arr ver' sz es=>
     simp only[Option.map_some,suB,suL_len] at h ⊢
     cases hb:(Nat.beq sz z.length&&(Nat.beq ver ver'&&Nat.ble (o+len) es.length)) with
     |false=>rw[hb] at h;cases h
     |true=>
      rw[hb] at h
      simp only[cond_true,Option.some.injEq,Prod.mk.injEq] at h ⊢;obtain⟨rfl,rfl⟩:=h
      refine⟨by simp[su],?_⟩
      rw[set_su]
      simp only[suB,suL_append,suL_take]
      congr 2
      rw[← suL_drop]
      congr 1
      apply List.ext_getElem?
      intro j
      simp only[suL_get,List.getElem?_mapIdx]
      cases (List.drop o es)[j]? with
      |none=>rfl
      |some e=>
       simp only[Option.map_some]
       cases Nat.blt j len with
       |false=>rfl
       |true=>
        simp only[cond_true]
        have e1:mkEl false z=su σ (mkEl false z):=by rw[← mkEl_su hσ,clL_su σ z hl.1]
        cases e with
        |agg _=>simp[su,clL_su σ z hl.1]
        |int k n=>
         obtain⟨j',m,hh⟩:=su_int hσ k n
         rw[hh]
         simp only[Option.some.injEq]
         exact e1
        |_=>simpa[su] using e1
    |_=>cases h
  |sl t z2 es=>
   rw[hx] at h
   cases es with
   |nil=>simp only[Option.some.injEq,Prod.mk.injEq] at h;obtain⟨rfl,rfl⟩:=h;simp[su,suL]
   |cons a b=>cases h
  |_=>rw[hx] at h;cases h
 |fz x=>
  simp only[opV,rd_cl s hl] at h ⊢
  cases hx:rd s.tm x with
  |bs d i ver o len=>
   rw[hx] at h
   cases d with
   |succ d=>cases h
   |zero=>
    simp only[su,fr_su,suF_get] at h ⊢
    cases hg:s.fr[i]? with
    |none=>rw[hg] at h;cases h
    |some b=>
     rw[hg] at h
     cases b with
     |arr ver' z es=>
      simp only[Option.map_some,suB,suL_len] at h ⊢
      cases hb:(Nat.beq ver ver'&&Nat.ble (o+len) es.length) with
      |false=>rw[hb] at h;cases h
      |true=>
       rw[hb] at h
       simp only[cond_true,Option.some.injEq,Prod.mk.injEq] at h ⊢;obtain⟨rfl,rfl⟩:=h
       exact⟨by simp[su,suL_take,suL_drop],by simp[wf_su,suF,List.map_set,suB]⟩
     |_=>cases h
  |sl t z es=>
   rw[hx] at h
   simp only[Option.some.injEq,Prod.mk.injEq] at h;obtain⟨rfl,rfl⟩:=h
   simp[su]
  |_=>rw[hx] at h;cases h
 |mm=>
  simp only[opV,Option.some.injEq,Prod.mk.injEq] at h ⊢;obtain⟨rfl,rfl⟩:=h
  exact⟨by simp[su,fr_su,suF_len],by simp[wf_su,suF_app,fr_su,suF,suB]⟩
 |mg ok K z m k=>
  simp only[clVO,okS,Bool.and_eq_true] at hl hk
  simp only[opV,rd_cl s hl.2.2.1] at h ⊢
  cases hb:kK K (rd s.tm k) with
  |false=>rw[hb] at h;cases h
  |true=>
   rw[hb] at h
   have e:rd (suS σ s).tm k=rd s.tm k:=by rw[rd_cl s hl.2.2.2,kK_ns hb hk]
   rw[e,hb]
   simp only[cond_true] at h ⊢
   obtain⟨u,h1,h2⟩:=Option.map_eq_some_iff.1 h
   simp only[Prod.mk.injEq] at h2;obtain⟨rfl,rfl⟩:=h2
   rw[lookM_su hσ (clV_su σ z hl.2.1) (kK_ns hb hk) hk h1];rfl
 |mu K m k x=>
  simp only[clVO,okS,Bool.and_eq_true] at hl hk
  simp only[opV,rd_cl s hl.2.1,rd_cl s hl.2.2.2] at h ⊢
  cases hb:kK K (rd s.tm k) with
  |false=>rw[hb] at h;cases h
  |true=>
   rw[hb] at h
   have e:rd (suS σ s).tm k=rd s.tm k:=by rw[rd_cl s hl.2.2.1,kK_ns hb hk]
   rw[e,hb]
   simp only[cond_true] at h ⊢
   obtain⟨u,h1,h2⟩:=Option.map_eq_some_iff.1 h
   simp only[Prod.mk.injEq] at h2;obtain⟨rfl,rfl⟩:=h2
   rw[updM_su hσ (kK_ns hb hk) hk h1];simp[su]
 |ml m=>
  simp only[opV,rd_cl s hl] at h ⊢
  cases hx:rd s.tm m with
  |mp d i=>
   rw[hx] at h
   simp only[su,get_su] at h ⊢
   cases hg:s.get d i with
   |none=>rw[hg] at h;cases h
   |some b=>
    rw[hg] at h
    cases b with
    |map es=>simp only[Option.map_some,suB,Option.some.injEq,Prod.mk.injEq] at h ⊢;obtain⟨rfl,rfl⟩:=h;simp[su];rfl
    |_=>cases h
  |_=>rw[hx] at h;cases h
 |bad=>cases h
end
end Go.Vm
/-
  The machine V with numbers that are not known. Fifth part: its runs.
-/
namespace Go.Vm
open Go
structure Orc where
 B:BinOp→V→V→Option V
 W:IntKind→V→Option V
 E:List Nat→V→V→Option Bool
 K:FuncId→List V→Option V
def orcO (A:Orc) (o:VO) (r:O→V):Option V:=
 match o with
 | .bin op x y=>A.B op (r x) (r y)
 | .wrp k x=>A.W k (r x)
 | .eqs n ks x y=>(A.E ks (r x) (r y)).map fun b=>.bool (bif n then !b else b)
 |_=>none
def opS (C:Cfg) (A:Orc) (call:Call) (o:VO) (s:St):Option (V × St):=
 match orcO A o (rd s.tm) with
 |some v=>some (v,s)
 |none=>bif okS o (rd s.tm) then opV C call o s else none
def clVOp (o:VOp):Bool:=clVO o.o
def clC:VC→Bool
 | .reg ops=>ops.all clVOp
 | .drw ops=>ops.all fun x=>clVOp x.op
 | .seq a b=>clC a&&clC b
 | .cond c t e=>clO c&&(clC t&&clC e)
 | .block _ b=>clC b
 | .loop _ b=>clC b
 | .skip | .exit _ | .ret | .bad=>true
structure OrcOk (T:Tab) (σ:Int→V) (A:Orc):Prop where
 B:∀ op x y v,A.B op x y=some v→binV op (su σ x) (su σ y)=some (su σ v)
 W:∀ k x v,A.W k x=some v→∃ j n,su σ x = .int j n∧su σ v = .int k (k.wrap n)
 E:∀ ks x y b,A.E ks x y=some b→∃ as bs,su σ x = .agg as∧su σ y = .agg bs∧eqL ks as bs=some b
 K:∀ f as v sg,A.K f as=some v→T.call f (suL σ as) sg=some (su σ v,sg,0)
section
variable {σ:Int→V} {T:Tab} {A:Orc} {cs:Call}
theorem opS_su (hσ:Num σ) (hA:OrcOk T σ A) (hc:CallS σ cs T.call) {o:VO} {s:St} {v:V} {s':St} (hl:clVO o=true) (h:opS T.C A cs o s=some (v,s')) :
  opV T.C T.call o (suS σ s)=some (su σ v,suS σ s'):=by
 unfold opS at h
 split at h
 ·rename_i u hu
  simp only[Option.some.injEq,Prod.mk.injEq] at h;obtain⟨rfl,rfl⟩:=h
  cases o<;>simp only[orcO] at hu<;>first|(cases hu;done)|skip
  ·rename_i op x y
   simp only[clVO,Bool.and_eq_true] at hl
   simp only[opV,rd_cl s hl.1,rd_cl s hl.2,hA.B _ _ _ _ hu,Option.map_some]
  ·rename_i n ks x y
   simp only[clVO,Bool.and_eq_true] at hl
   obtain⟨b,h1,rfl⟩:=Option.map_eq_some_iff.1 hu
   obtain⟨as,bs,h2,h3,h4⟩:=hA.E _ _ _ _ h1
   simp only[opV,rd_cl s hl.1,rd_cl s hl.2,h2,h3,h4,Option.map_some,su]
  ·rename_i k x
   simp only[clVO,Bool.and_eq_true] at hl
   obtain⟨j,n,h1,h2⟩:=hA.W _ _ _ hu
   simp only[opV,rd_cl s hl.2,h1,h2]
 ·obtain⟨h1,h2⟩:=bif_opt h
  exact opV_su hσ hc hl h1 h2
theorem want_su (s:St) (g:Option (Nat × Bool)) {b:Bool} (h:want s g=some b) (hσ:Num σ):want (suS σ s) g=some b:=by
 cases g with
 |none=>exact h
 |some p=>
  obtain⟨t,w⟩:=p
  simp only[want,suS] at h ⊢
  cases hx:s.tm t with
  |bool c=>rw[hx] at h;simpa[su] using h
  |tup l=>
   rw[hx] at h
   cases l with
   |nil=>simpa[su,suL] using h
   |cons a b=>cases h
  |_=>rw[hx] at h;cases h
theorem opAt_cl {all:List DOp} (hl:(all.all fun x=>clVOp x.op)=true) {i:Nat} {o:VOp} (h:opAt all i=some o):clVOp o=true:=by
 induction all with
 |nil=>cases h
 |cons x l ih=>
  simp only[List.all_cons,Bool.and_eq_true] at hl
  simp only[opAt] at h
  cases hb:Nat.beq x.ix i with
  |true=>rw[hb] at h;simp only[cond_true,Option.some.injEq] at h;subst h;exact hl.1
  |false=>rw[hb] at h;exact ih hl.2 h
theorem trunc_su (hσ:Num σ) (n:Nat) (vals:List V) (fr:Fr):trunc n (suL σ vals) (suF σ fr)=suF σ (trunc n vals fr):=by
 unfold trunc
 rw[suF_len]
 cases Nat.beq fr.length n with
 |true=>rfl
 |false=>
  simp only[cond_false]
  have e1:(suL σ vals).all (lt3 n)=vals.all (lt3 n):=all_su (lt3_su hσ n) vals
  have e2:((suF σ fr).take n).all (ltB n)=(fr.take n).all (ltB n):=by
   rw[show(suF σ fr).take n=(fr.take n).map (suB σ) by simp[suF,List.map_take],List.all_map]
   congr 1;funext b;exact ltB_su hσ n b
  rw[e1,e2]
  cases (vals.all (lt3 n)&&(fr.take n).all (ltB n)) with
  |true=>simp[suF,List.map_take]
  |false=>rfl
def suLS (σ:Int→V) (l:LS):LS:={ vals:=suL σ l.vals,fr:=suF σ l.fr,sg:=suG σ l.sg,wd:=l.wd }
theorem LSst_su (live:List Nat) (l:LS):suS σ (l.st live)=(suLS σ l).st live:=by
 simp only[suS,LS.st,suLS,St.mk.injEq,and_true]
 funext u
 exact mkE_su live l.vals u
theorem LSnext_su (hσ:Num σ) (n:Nat) (live:List Nat) (s:St):suLS σ (LS.next n live s)=LS.next n live (suS σ s):=by
 have e:suL σ (live.map s.tm)=live.map (suS σ s).tm:=by rw[suL_map,List.map_map];rfl
 simp only[suLS,LS.next,LS.mk.injEq,← trunc_su hσ,e]
 exact⟨trivial,rfl,rfl,rfl⟩
theorem one_su:∀ l:List V,one (suL σ l)=su σ (one l)
 | []=>by simp[one,suL,su]
 | [v]=>by simp[one,suL]
 |_::_::_=>by simp[one,suL,su]
theorem dnK_su (hσ:Num σ) (b:Bool) (v:V):dnK b (su σ v)=(dnK b v).map (su σ):=by
 have h0:=dn1_su hσ 1 v
 cases v with
 |sl t z es=>
  cases t with
  | «at» d i ver=>
   cases d with
   |zero=>
    cases b with
    |true=>rfl
    |false=>exact h0
   |succ d=>exact h0
  |_=>exact h0
 |int j n=>obtain⟨j',m,e⟩:=su_int hσ j n;rw[e] at h0 ⊢;exact h0
 |_=>exact h0
def dnA (keep:Bool) (v:V):Option V:=match v with|V.agg cs=>(cs.mapM (dnK keep)).map V.agg|v=>dnK keep v
theorem dnA_su (hσ:Num σ) (b:Bool) (v:V):dnA b (su σ v)=(dnA b v).map (su σ):=by
 have h0:=dnK_su hσ b v
 cases v with
 |agg cs=>simp only[su,dnA,mapM_su (dnK_su hσ b)];cases cs.mapM (dnK b)<;>simp[su]
 |int j n=>obtain⟨j',m,e⟩:=su_int hσ j n;have:=dnK_su hσ b (.int j n);rw[e] at this ⊢;exact this
 |_=>exact h0
theorem dnR_su (hσ:Num σ) (b:Bool) (v:V):dnR b (su σ v)=(dnR b v).map (su σ):=by
 have h0:=dnK_su hσ b v
 cases v with
 |tup vs=>
  show((suL σ vs).mapM (dnA b)).map V.tup=((vs.mapM (dnA b)).map V.tup).map (su σ)
  rw[mapM_su (dnA_su hσ b)];cases vs.mapM (dnA b)<;>simp[su]
 |agg cs=>exact dnA_su hσ b (.agg cs)
 |int j n=>obtain⟨j',m,e⟩:=su_int hσ j n;have:=dnK_su hσ b (.int j n);rw[e] at this ⊢;exact this
 |_=>exact h0
theorem resV_su (hσ:Num σ) (s:St) (r:Nat × Option (Bool × Nat)):resV (suS σ s) r=(resV s r).map (su σ):=by
 obtain⟨t,o⟩:=r
 cases o with
 |none=>rfl
 |some p=>obtain⟨ag,sz⟩:=p;exact ldV_su hσ ag sz (s.tm t) s
theorem resVL_su (hσ:Num σ) (s:St) (l:List (Nat × Option (Bool × Nat))):l.mapM (resV (suS σ s))=(l.mapM (resV s)).map (suL σ):=by
 induction l with
 |nil=>simp[suL]
 |cons r l ih=>
  simp only[List.mapM_cons,resV_su hσ,ih]
  cases resV s r with
  |none=>rfl
  |some a=>cases l.mapM (resV s)<;>simp[suL]
theorem leave_su (hσ:Num σ) {F:VF} {s:St} {v:V} {sg:List Fr} {wd:Nat} (h:leave F s=some (v,sg,wd)):leave F (suS σ s)=some (su σ v,suG σ sg,wd):=by
 unfold leave at h ⊢
 rw[resVL_su hσ]
 obtain⟨vs,h1,h2⟩:=Option.bind_eq_some_iff.1 h
 rw[h1]
 simp only[Option.map_some,Option.bind_some,one_su] at h2 ⊢
 have e:(bif F.keepR then su σ (one vs) else fz3 (suS σ s).fr (su σ (one vs)))=su σ (bif F.keepR then one vs else fz3 s.fr (one vs)):=by
  cases F.keepR with
  |true=>rfl
  |false=>exact fz3_su hσ s.fr _
 rw[e,pu3_su hσ]
 generalize (bif F.keepR then one vs else fz3 s.fr (one vs))=u at h2 ⊢
 cases hp:pu3 u with
 |true=>
  rw[hp] at h2
  simp only[cond_true,Option.some.injEq,Prod.mk.injEq] at h2 ⊢
  obtain⟨rfl,rfl,rfl⟩:=h2
  exact⟨rfl,rfl,rfl⟩
 |false=>
  rw[hp] at h2
  simp only[cond_false] at h2 ⊢
  have eg:(suS σ s).sg=s.sg.map (suF σ):=rfl
  have ef:(suS σ s).fr=suF σ s.fr:=rfl
  have ew:(suS σ s).wd=s.wd:=rfl
  rw[eg,ef,ew]
  cases hsg:s.sg with
  |nil=>rw[hsg] at h2;cases h2
  |cons f r=>
   rw[hsg] at h2
   simp only[List.map_cons,dnR_su hσ] at h2 ⊢
   cases hd:dnR F.keepR u with
   |some v2=>
    rw[hd] at h2
    simp only[Option.map_some,Option.some.injEq,Prod.mk.injEq] at h2 ⊢
    obtain⟨rfl,rfl,rfl⟩:=h2
    exact⟨rfl,rfl,rfl⟩
   |none=>
    rw[hd] at h2
    simp only[Option.map_none,Option.some.injEq,Prod.mk.injEq] at h2 ⊢
    obtain⟨rfl,rfl,rfl⟩:=h2
    refine⟨by rw[suF_len];exact mg3_su hσ _ _,?_,rfl⟩
    simp only[suG,List.map_cons,List.cons.injEq,and_true]
    rw[suF_app,suF_len]
    congr 1
    simp only[suF,List.map_map]
    apply List.map_congr_left
    intro b _
    exact mgB_su hσ _ b
end
end Go.Vm
/-
  The machine V, for the kernel: each operation a constant of its own. Printed by kgen.py out of Vm0.
-/
namespace Go.Vm
open Go
noncomputable def kMv (x:O) (C:Cfg) (A:Orc) (call:Call) (s:St):Option (V × St):=
 let r:=rd s.tm
 some (r x,s)
noncomputable def kNw (sz:Nat) (C:Cfg) (A:Orc) (call:Call) (s:St):Option (V × St):=
 let r:=rd s.tm
 some (.sl (.at 0 s.fr.length 0) sz [],{ s with fr:=s.fr ++ [.tok 0] })
noncomputable def kPick (c:O) (a:O) (b:O) (C:Cfg) (A:Orc) (call:Call) (s:St):Option (V × St):=
 let r:=rd s.tm
 match r c with
  | .bool c=>some (bif c then r a else r b,s)
  |_=>none
noncomputable def kBin (op:BinOp) (x:O) (y:O) (C:Cfg) (A:Orc) (call:Call) (s:St):Option (V × St):=
 let r:=rd s.tm
 match A.B op (r x) (r y) with|some v=>some (v,s)|none=>bif ns (r x)&&ns (r y) then(binV op (r x) (r y)).map (·,s) else none
noncomputable def kEqb (n:Bool) (x:O) (y:O) (C:Cfg) (A:Orc) (call:Call) (s:St):Option (V × St):=
 let r:=rd s.tm
 match r x,r y with
  | .bool a,.bool b=>some (.bool (bif n then !(a == b) else(a == b)),s)
  |_,_=>none
noncomputable def kEqs (n:Bool) (ks:List Nat) (x:O) (y:O) (C:Cfg) (A:Orc) (call:Call) (s:St):Option (V × St):=
 let r:=rd s.tm
 match (A.E ks (r x) (r y)).map fun b=>V.bool (bif n then !b else b) with|some v=>some (v,s)|none=>bif (match r x,r y with | .agg as,.agg bs=>as.all ns&&bs.all ns|_,_=>true) then(match r x,r y with
  | .agg as,.agg bs=>(eqL ks as bs).map fun b=>(.bool (bif n then !b else b),s)
  |_,_=>none) else none
noncomputable def kEqn (k:Nat) (n:Bool) (x:O) (C:Cfg) (A:Orc) (call:Call) (s:St):Option (V × St):=
 let r:=rd s.tm
 (nilK k (r x)).map fun b=>(.bool (bif n then !b else b),s)
noncomputable def kNot (x:O) (C:Cfg) (A:Orc) (call:Call) (s:St):Option (V × St):=
 let r:=rd s.tm
 match r x with
  | .bool b=>some (.bool !b,s)
  |_=>none
noncomputable def kNeg (x:O) (C:Cfg) (A:Orc) (call:Call) (s:St):Option (V × St):=
 let r:=rd s.tm
 bif ns (r x) then(match r x with
  | .int k n=>some (.int k (k.wrap (0-n)),s)
  |_=>none) else none
noncomputable def kWrp (k:IntKind) (x:O) (C:Cfg) (A:Orc) (call:Call) (s:St):Option (V × St):=
 let r:=rd s.tm
 match A.W k (r x) with|some v=>some (v,s)|none=>bif ns (r x) then(match r x with
  | .int _ n=>some (.int k (k.wrap n),s)
  |_=>none) else none
noncomputable def kSs (x:O) (C:Cfg) (A:Orc) (call:Call) (s:St):Option (V × St):=
 let r:=rd s.tm
 match r x with
  | .str b=>some (.str b,s)
  |_=>none
noncomputable def kS2b (x:O) (C:Cfg) (A:Orc) (call:Call) (s:St):Option (V × St):=
 let r:=rd s.tm
 match r x with
  | .str b=>some (.sl .no 1 (b.map fun c=>.int .u8 c.toNat),s)
  |_=>none
noncomputable def kB2s (x:O) (C:Cfg) (A:Orc) (call:Call) (s:St):Option (V × St):=
 let r:=rd s.tm
 bif isStr (r x) then none else(els 1 s (r x)).bind fun l=>(b2sL l).map fun b=>(.str b,s)
noncomputable def kLd (ag:Bool) (sz:Nat) (a:O) (C:Cfg) (A:Orc) (call:Call) (s:St):Option (V × St):=
 let r:=rd s.tm
 (ldV ag sz (r a) s).map (·,s)
noncomputable def kSt (ag:Bool) (sz:Nat) (a:O) (v:O) (C:Cfg) (A:Orc) (call:Call) (s:St):Option (V × St):=
 let r:=rd s.tm
 (stV ag sz (r a) (r v) s).map (.und,·)
noncomputable def kNc (x:O) (C:Cfg) (A:Orc) (call:Call) (s:St):Option (V × St):=
 let r:=rd s.tm
 match r x with
  | .fn _ _ _=>none
  |v=>match nil? v with
   |some false=>some (v,s)
   |_=>none
noncomputable def kFa (off:Nat) (a:O) (C:Cfg) (A:Orc) (call:Call) (s:St):Option (V × St):=
 let r:=rd s.tm
 match r a with
  | .bp d i o=>some (.bp d i (o+off),s)
  | .ep cs o=>some (.ep cs (o+off),s)
  | .ap d i v j o=>some (.ap d i v j (o+off),s)
  |_=>none
noncomputable def kIa0 (sz:Nat) (x i:O) (C:Cfg) (A:Orc) (call:Call) (s:St):Option (V × St):=
 let r:=rd s.tm
 bif ns (r i) then(nat? (r i)).bind fun i=>match r x with
  | .sl _ z es=>bif Nat.beq z sz then(es[i]?).map fun e=>(.ep (cellsOf e) 0,s) else none
  | .bs d b ver o len=>match s.get d b with
   |some (.arr ver' z _)=>bif Nat.beq z sz&&(Nat.beq ver ver'&&Nat.blt i len) then some (.ap d b ver (o+i) 0,s) else none
   |_=>none
  |_=>none else none
noncomputable def kIa1 (n sz:Nat) (x i:O) (C:Cfg) (A:Orc) (call:Call) (s:St):Option (V × St):=
 let r:=rd s.tm
 bif ns (r i) then(nat? (r i)).bind fun i=>bif Nat.blt i n then match r x with
  | .bp d b o=>some (.bp d b (o+i*sz),s)
  | .ep cs o=>some (.ep cs (o+i*sz),s)
  | .ap d b v j o=>some (.ap d b v j (o+i*sz),s)
  |_=>none else none else none
noncomputable def kIa (n:Option Nat) (sz:Nat) (x i:O) (C:Cfg) (A:Orc) (call:Call) (s:St):Option (V × St):=match n with|none=>kIa0 sz x i C A call s|some n=>kIa1 n sz x i C A call s
noncomputable def kIx (x:O) (i:O) (C:Cfg) (A:Orc) (call:Call) (s:St):Option (V × St):=
 let r:=rd s.tm
 bif ns (r i) then((nat? (r i)).bind fun i=>match r x with
  | .str b=>(b[i]?).map fun c=>(.int .u8 c.toNat,s)
  |_=>none) else none
noncomputable def kIv (ag:Bool) (sz:Nat) (n:Nat) (x:O) (i:O) (C:Cfg) (A:Orc) (call:Call) (s:St):Option (V × St):=
 let r:=rd s.tm
 bif ns (r i) then((nat? (r i)).bind fun i=>match r x with
  | .agg cs=>bif Nat.blt i n then(ldC ag sz cs (i*sz)).map fun v=>(dt2 v,s) else none
  |_=>none) else none
noncomputable def kFd (ag:Bool) (off:Nat) (sz:Nat) (x:O) (C:Cfg) (A:Orc) (call:Call) (s:St):Option (V × St):=
 let r:=rd s.tm
 match r x with
  | .agg cs=>(ldC ag sz cs off).map fun v=>(dt2 v,s)
  |_=>none
noncomputable def kEx (x:O) (i:Nat) (C:Cfg) (A:Orc) (call:Call) (s:St):Option (V × St):=
 let r:=rd s.tm
 match r x with
  | .tup vs=>(vs[i]?).map (·,s)
  |_=>none
noncomputable def kNm (sz:Nat) (C:Cfg) (A:Orc) (call:Call) (s:St):Option (V × St):=
 let r:=rd s.tm
 some (.bs 0 s.fr.length 0 0 0,{ s with fr:=s.fr ++ [.arr 0 sz []] })
noncomputable def kAl (z:List V) (tk:List Nat) (C:Cfg) (A:Orc) (call:Call) (s:St):Option (V × St):=
 let r:=rd s.tm
 some (.bp 0 s.fr.length 0,{ s with fr:=s.fr++boxT s.fr.length z tk })
noncomputable def kBx (x:O) (tk:List Nat) (C:Cfg) (A:Orc) (call:Call) (s:St):Option (V × St):=
 let r:=rd s.tm
 bif whole (r x) then some (.bp 0 s.fr.length 0,{ s with fr:=s.fr++boxT s.fr.length (cellsOf (r x)) tk }) else none
noncomputable def kBe (x:O) (C:Cfg) (A:Orc) (call:Call) (s:St):Option (V × St):=
 let r:=rd s.tm
 bif whole (r x)&&(cellsOf (r x)).all pu1 then some (.ep (cellsOf (r x)) 0,s) else none
noncomputable def kBd (z:List V) (ps:List (Nat × Nat × O)) (C:Cfg) (A:Orc) (call:Call) (s:St):Option (V × St):=
 let r:=rd s.tm
 bif ps.all (fun p=>whole (r p.2.2)) then(fillC z (ps.map fun(o,n,x)=>(o,n,(cellsOf (r x)).map dx0))).map fun cs=>(.agg cs,s) else none
noncomputable def kBl (sz:Nat) (es:List O) (C:Cfg) (A:Orc) (call:Call) (s:St):Option (V × St):=
 let r:=rd s.tm
 ((es.map r).mapM (elV sz)).bind fun l=>some (.sl .ex sz l,s)
noncomputable def kBm (sz:Nat) (es:List O) (C:Cfg) (A:Orc) (call:Call) (s:St):Option (V × St):=
 let r:=rd s.tm
 ((es.map r).mapM (elV sz)).bind fun l=>some (.bs 0 s.fr.length l.length 0 l.length,{ s with fr:=s.fr ++ [.arr l.length sz l] })
noncomputable def kMk (d:Nat) (ag:Bool) (z:List V) (n:O) (c:O) (C:Cfg) (A:Orc) (call:Call) (s:St):Option (V × St):=
 let r:=rd s.tm
 bif ns (r n)&&ns (r c) then((nat? (r n)).bind fun n=>(nat? (r c)).bind fun c=>
  bif Nat.beq n c&&Nat.ble n lim then(match d with
   |0=>some (.bs 0 s.fr.length 1 0 n,{ s with fr:=s.fr ++ [.arr 1 z.length (List.replicate n (mkEl ag z))] })
   |d+1=>(s.sg[d]?).map fun f=>(.bs (d+1) f.length 1 0 n,{ s with sg:=s.sg.modify d (· ++ [.arr 1 z.length (List.replicate n (mkEl ag z))]),wd:=max s.wd (d+1) })) else none) else none
noncomputable def kCut (st:Bool) (sz:Nat) (x:O) (lo:Option O) (hi:Option O) (mx:Option O) (C:Cfg) (A:Orc) (call:Call) (s:St):Option (V × St):=
 let r:=rd s.tm
 bif nsO r lo&&(nsO r hi&&nsO r mx) then(bif isStr (r x) == st then(cutV sz s lo hi mx (r x)).map (·,s) else none) else none
noncomputable def kMf (f:FuncId) (a:List O) (b:List O) (C:Cfg) (A:Orc) (call:Call) (s:St):Option (V × St):=
 let r:=rd s.tm
 some (.fn f (a.map r) (b.map r),s)
noncomputable def kMi (t:TypeId) (x:O) (C:Cfg) (A:Orc) (call:Call) (s:St):Option (V × St):=
 let r:=rd s.tm
 some (.iface t (r x),s)
noncomputable def kCall (f:FuncId) (as:List O) (C:Cfg) (A:Orc) (call:Call) (s:St):Option (V × St):=
 let r:=rd s.tm
 doCall C call f (as.map r) s
noncomputable def kCv (f:O) (as:List O) (C:Cfg) (A:Orc) (call:Call) (s:St):Option (V × St):=
 let r:=rd s.tm
 doFn C call (r f) (as.map r) s
noncomputable def kInv (x:O) (m:List (TypeId × FuncId)) (as:List O) (C:Cfg) (A:Orc) (call:Call) (s:St):Option (V × St):=
 let r:=rd s.tm
 match r x with
  | .iface t v=>(methF t m).bind fun f=>doCall C call f (v::as.map r) s
  |_=>none
noncomputable def kLen (st:Bool) (x:O) (C:Cfg) (A:Orc) (call:Call) (s:St):Option (V × St):=
 let r:=rd s.tm
 bif isStr (r x) == st then(len? (r x)).map fun(n:Nat)=>(V.int .i64 (n:Int),s) else none
noncomputable def kCap (x:O) (C:Cfg) (A:Orc) (call:Call) (s:St):Option (V × St):=
 let r:=rd s.tm
 match r x with
  | .sl .ex _ es=>some (.int .i64 es.length,s)
  |_=>none
noncomputable def kApp (sz:Nat) (x:O) (y:O) (C:Cfg) (A:Orc) (call:Call) (s:St):Option (V × St):=
 let r:=rd s.tm
 (els sz s (r y)).bind fun l=>appV sz s (r x) l
noncomputable def kAm (sz:Nat) (x:O) (y:O) (C:Cfg) (A:Orc) (call:Call) (s:St):Option (V × St):=
 let r:=rd s.tm
 (els sz s (r y)).bind fun l=>amV sz s (r x) l
noncomputable def kAz (ag:Bool) (z:List V) (x:O) (n:O) (C:Cfg) (A:Orc) (call:Call) (s:St):Option (V × St):=
 let r:=rd s.tm
 bif ns (r n) then((nat? (r n)).bind fun n=>amV z.length s (r x) (List.replicate n (mkEl ag z))) else none
noncomputable def kMn (xs:List O) (C:Cfg) (A:Orc) (call:Call) (s:St):Option (V × St):=
 let r:=rd s.tm
 bif xs.all fun x=>ns (r x) then((mnV (fun a b=>bif decide (b<a) then b else a) (xs.map r)).map (·,s)) else none
noncomputable def kMx (xs:List O) (C:Cfg) (A:Orc) (call:Call) (s:St):Option (V × St):=
 let r:=rd s.tm
 bif xs.all fun x=>ns (r x) then((mnV (fun a b=>bif decide (b>a) then b else a) (xs.map r)).map (·,s)) else none
noncomputable def kClr (z:List V) (x:O) (C:Cfg) (A:Orc) (call:Call) (s:St):Option (V × St):=
 let r:=rd s.tm
 match r x with
  | .bs d i ver o len=>match s.get d i with
   |some (.arr ver' sz es)=>bif Nat.beq sz z.length&&(Nat.beq ver ver'&&Nat.ble (o+len) es.length) then
    some (.und,s.set d i (.arr ver sz (es.take o++(es.drop o).mapIdx (fun j e=>bif Nat.blt j len then(match e with | .agg _=>.agg z|_=>mkEl false z) else e)))) else none
   |_=>none
  | .sl _ _ []=>some (.und,s)
  |_=>none
noncomputable def kFz (x:O) (C:Cfg) (A:Orc) (call:Call) (s:St):Option (V × St):=
 let r:=rd s.tm
 match r x with
  | .bs 0 i ver o len=>match s.fr[i]? with
   |some (.arr ver' z es)=>bif Nat.beq ver ver'&&Nat.ble (o+len) es.length then some (.sl .no z ((es.drop o).take len),{ s with fr:=s.fr.set i .dead }) else none
   |_=>none
  | .sl _ z es=>some (.sl .no z es,s)
  |_=>none
noncomputable def kMm  (C:Cfg) (A:Orc) (call:Call) (s:St):Option (V × St):=
 let r:=rd s.tm
 some (.mp 0 s.fr.length,{ s with fr:=s.fr ++ [.map []] })
noncomputable def kMg (ok:Bool) (K:Option IntKind) (z:V) (m:O) (k:O) (C:Cfg) (A:Orc) (call:Call) (s:St):Option (V × St):=
 let r:=rd s.tm
 bif ns (r k) then(bif kK K (r k) then(lookM ok z s (r m) (r k)).map (·,s) else none) else none
noncomputable def kMu (K:Option IntKind) (m:O) (k:O) (v:O) (C:Cfg) (A:Orc) (call:Call) (s:St):Option (V × St):=
 let r:=rd s.tm
 bif ns (r k) then(bif kK K (r k) then(updM s (r m) (r k) (r v)).map (.und,·) else none) else none
noncomputable def kMl (m:O) (C:Cfg) (A:Orc) (call:Call) (s:St):Option (V × St):=
 let r:=rd s.tm
 match r m with
  | .mp d i=>match s.get d i with
   |some (.map es)=>some (.int .i64 (es.length:Int),s)
   |_=>none
  |_=>none
noncomputable def kBad  (C:Cfg) (A:Orc) (call:Call) (s:St):Option (V × St):=
 let r:=rd s.tm
 none
noncomputable def opK (o:VO):Cfg→Orc→Call→St→Option (V × St):=@VO.rec (fun _=>Cfg→Orc→Call→St→Option (V × St)) kMv kNw kPick kBin kEqb kEqs kEqn kNot kNeg kWrp kSs kS2b kB2s kLd kSt kNc kFa kIa kIx kIv kFd kEx kNm kAl kBx kBe kBd kBl kBm kMk kCut kMf kMi kCall kCv kInv kLen kCap kApp kAm kAz kMn kMx kClr kFz kMm kMg kMu kMl kBad o
theorem opK_eq (o:VO) (C:Cfg) (A:Orc) (call:Call) (s:St):opK o C A call s=opS C A call o s:=by
 cases o with
 |ia n sz x i=>cases n<;>rfl
 |_=>rfl
end Go.Vm
/-
  The machine V, for the kernel: its runs.
-/
namespace Go.Vm
open Go
section
variable {σ:Int→V} {T:Tab} {A:Orc}
end
end Go.Vm
/-
  The machine V with numbers that are not known: routines without a body, and a call from outside.
-/
namespace Go.Vm
open Go Go.RowKit
section
variable {σ:Int→V}
theorem primX_su (K:FuncId→Option Nat):CallS σ (primX K) (primX K):=by
 intro f as sg v sg' wd h
 unfold primX at h
 split at h
 ·rename_i a b hK
  simp only[Option.some.injEq,Prod.mk.injEq] at h
  obtain⟨rfl,rfl,rfl⟩:=h
  simp only[suL,su]
  unfold primX
  rw[hK];rfl
 ·rename_i a c hK
  simp only[Option.some.injEq,Prod.mk.injEq] at h
  obtain⟨rfl,rfl,rfl⟩:=h
  have e:su σ (.int .u8 c) = .int .u8 c:=su_ns rfl
  simp only[suL,su]
  unfold primX
  rw[hK];rfl
 ·cases h
theorem cloneR_su {z:Nat} {es:List V} {sg:List Fr} {m:Bool} {v:V} {sg':List Fr} {wd:Nat} (h:cloneR z es sg m=some (v,sg',wd)):cloneR z (suL σ es) (suG σ sg) m=some (su σ v,suG σ sg',wd):=by
 cases m with
 |false=>
  simp only[cloneR,Option.some.injEq,Prod.mk.injEq] at h ⊢;obtain⟨rfl,rfl,rfl⟩:=h;exact⟨by simp[su],rfl,rfl⟩
 |true=>
  cases sg with
  |nil=>cases h
  |cons f r=>
   simp only[cloneR,suG,List.map_cons,Option.some.injEq,Prod.mk.injEq] at h ⊢
   obtain⟨rfl,rfl,rfl⟩:=h
   exact⟨by simp[su,suF_len,suL_len],by simp[suF,suB,suL_len],rfl⟩
theorem cloneX_su (hσ:Num σ) (L:FuncId→Option (Nat × Bool)):CallS σ (cloneX L) (cloneX L):=by
 intro f as sg v sg' wd h
 unfold cloneX at h
 split at h
 ·rename_i z m t z' es hL
  cases hb:(Nat.beq z z'&&(Nat.ble es.length lim&&(!m||es.all cel))) with
  |false=>rw[hb] at h;cases h
  |true=>
   rw[hb] at h
   simp only[cond_true] at h
   have e:(suL σ es).all cel=es.all cel:=all_su (cel_su hσ) es
   simp only[suL,su]
   unfold cloneX
   rw[hL]
   simp only[suL_len,e,hb,cond_true]
   exact cloneR_su h
 ·cases h
theorem primAll_su (hσ:Num σ) (K:FuncId→Option Nat) (L:FuncId→Option (Nat × Bool)):CallS σ (primAll K L) (primAll K L):=by
 intro f as sg v sg' wd h
 unfold primAll at h ⊢
 split at h
 ·exact primX_su K f as sg v sg' wd h
 ·exact cloneX_su hσ L f as sg v sg' wd h
end
def sg0:Int→V:=fun n=>.int .i16 n
theorem num0:Num sg0:=fun n=>⟨_,_,rfl⟩
mutual
theorem su0:∀ v:V,su sg0 v=v
 | .int k n=>by
  simp only[su]
  cases h:k == IntKind.i16 with
  |false=>rfl
  |true=>simp only[cond_true,sg0];rw[show k = .i16 by simpa using h]
 | .ep cs o=>by simp only[su,suL0 cs]
 | .sl t z es=>by simp only[su,suL0 es]
 | .fn f a b=>by simp only[su,suL0 a,suL0 b]
 | .iface t v=>by simp only[su,su0 v]
 | .agg cs=>by simp only[su,suL0 cs]
 | .tup cs=>by simp only[su,suL0 cs]
 | .und | .bool _ | .str _ | .nilp | .bp _ _ _ | .ap _ _ _ _ _ | .bs _ _ _ _ _ | .nilm | .mp _ _ | .nilf | .nili=>by simp[su]
theorem suL0:∀ l:List V,suL sg0 l=l
 | []=>by simp[suL]
 |v::vs=>by simp only[suL,su0 v,suL0 vs]
end
end Go.Vm
/-
  The machine V, for the kernel, quicker: what is done next is handed on; few steps for what is frequent.
-/
namespace Go.Vm
open Go
abbrev Kt:=(Nat→V)→Fr→List Fr→Nat→Bool
abbrev Kv:=V→Kt
abbrev Kc:=V→List Fr→Nat→Bool
abbrev CallC:=FuncId→List V→List Fr→Kc→Bool
structure Env where
 C:Cfg
 A:Orc
 call:CallC
 n:Nat
noncomputable def ifK (b:Bool) (x y:Bool):Bool:=@Bool.rec (fun _=>Bool) y x b
noncomputable def updK (t:Nat) (v:V) (e:Nat→V) (u:Nat):V:=@Bool.rec (fun _=>V) (e u) v (Nat.beq u t)
noncomputable def rdK (tm:Nat→V) (x:O):V:=@O.rec (fun _=>V) (fun n=>tm n) (fun v=>v) x
noncomputable def envK (l:List V):Nat→V:=@List.rec V (fun _=>Nat→V) (fun _=>.und) (fun v _ ih u=>@Nat.rec (fun _=>V) v (fun m _=>ih m) u) l
noncomputable def mkK (l:List Nat) (vs:List V) (u:Nat):V:=
 @List.rec Nat (fun _=>List V→V) (fun _=>.und) (fun t _ ih vs=>@List.rec V (fun _=>V) .und (fun v vs _=>@Bool.rec (fun _=>V) (ih vs) v (Nat.beq u t)) vs) l vs
theorem ifK_eq (b x y:Bool):ifK b x y=bif b then x else y:=by cases b<;>rfl
theorem updK_eq (t:Nat) (v:V) (e:Nat→V):updK t v e=upd e t v:=by
 funext u;unfold updK upd;cases Nat.beq u t<;>rfl
theorem rdK_eq (tm:Nat→V) (x:O):rdK tm x=rd tm x:=by cases x<;>rfl
theorem envK_eq:∀ l:List V,envK l=env l
 | []=>by funext u;cases u<;>rfl
 |v::l=>by
  funext u
  cases u with
  |zero=>rfl
  |succ u=>show envK l u=env l u;rw[envK_eq l]
theorem mkK_eq (u:Nat):∀ (l:List Nat) (vs:List V),mkK l vs u=mkE l vs u
 | [],vs=>by cases vs<;>rfl
 |t::l,[]=>rfl
 |t::l,v::vs=>by
  show @Bool.rec (fun _=>V) (mkK l vs u) v (Nat.beq u t)=_
  simp only[mkE]
  cases Nat.beq u t
  ·exact mkK_eq u l vs
  ·rfl
noncomputable def vInt (v:V) (k:IntKind→Int→Bool) (z:Bool):Bool:=
 @V.rec (fun _=>Bool) (fun _=>Unit) z (fun _=>z) k (fun _=>z) z (fun _ _ _=>z) (fun _ _ _=>z) (fun _ _ _ _ _=>z) (fun _ _ _ _=>z) (fun _ _ _ _ _=>z) z (fun _ _=>z) (fun _ _ _ _ _=>z) z (fun _ _ _=>z) z (fun _ _=>z) (fun _ _=>z) () (fun _ _ _ _=>()) v
noncomputable def vBool (v:V) (k:Bool→Bool):Bool:=
 @V.rec (fun _=>Bool) (fun _=>Unit) false k (fun _ _=>false) (fun _=>false) false (fun _ _ _=>false) (fun _ _ _=>false) (fun _ _ _ _ _=>false) (fun _ _ _ _=>false) (fun _ _ _ _ _=>false) false (fun _ _=>false) (fun _ _ _ _ _=>false) false (fun _ _ _=>false) false (fun _ _=>false) (fun _ _=>false) () (fun _ _ _ _=>()) v
theorem vInt_eq (v:V) (k:IntKind→Int→Bool) (z:Bool):vInt v k z=match v with | .int j n=>k j n|_=>z:=by cases v<;>rfl
theorem vBool_eq (v:V) (k:Bool→Bool):vBool v k=match v with | .bool b=>k b|_=>false:=by cases v<;>rfl
noncomputable def nonNeg (n:Int) (k:Nat→Bool) (z:Bool):Bool:=@Int.rec (fun _=>Bool) k (fun _=>z) n
noncomputable def ikA (k:IntKind):Nat:=@IntKind.rec (fun _=>Nat) 0 100 2 3 4 5 6 7 k
noncomputable def ikB (k:IntKind):Nat:=@IntKind.rec (fun _=>Nat) 0 200 2 3 4 5 6 7 k
theorem ik_s {k j:IntKind} (h:Nat.beq (ikA k) (ikB j)=true):k=j∧(k == IntKind.i16)=false:=by
 cases k<;>cases j<;>first|exact⟨rfl,rfl⟩|(exfalso;revert h;decide)
noncomputable def bAdd (k:IntKind) (m n:Nat) (kk:V→Bool) (z:Bool):Bool:=ifK (Nat.blt (m+n) 9223372036854775808) (ifK (Nat.beq (ikA k) 3) (kk (.int .i64 (.ofNat (m+n)))) z) z
noncomputable def bSub (k:IntKind) (m n:Nat) (kk:V→Bool) (z:Bool):Bool:=ifK (Nat.ble n m) (ifK (Nat.blt m 9223372036854775808) (ifK (Nat.beq (ikA k) 3) (kk (.int .i64 (.ofNat (m-n)))) z) z) z
noncomputable def bEql (_:IntKind) (m n:Nat) (kk:V→Bool) (_:Bool):Bool:=kk (.bool (Nat.beq m n))
noncomputable def bNeq (_:IntKind) (m n:Nat) (kk:V→Bool) (_:Bool):Bool:=kk (.bool (@Bool.rec (fun _=>Bool) true false (Nat.beq m n)))
noncomputable def bLss (_:IntKind) (m n:Nat) (kk:V→Bool) (_:Bool):Bool:=kk (.bool (Nat.blt m n))
noncomputable def bLeq (_:IntKind) (m n:Nat) (kk:V→Bool) (_:Bool):Bool:=kk (.bool (Nat.ble m n))
noncomputable def bGtr (_:IntKind) (m n:Nat) (kk:V→Bool) (_:Bool):Bool:=kk (.bool (Nat.blt n m))
noncomputable def bGeq (_:IntKind) (m n:Nat) (kk:V→Bool) (_:Bool):Bool:=kk (.bool (Nat.ble n m))
noncomputable def bElse (_:IntKind) (_ _:Nat) (_:V→Bool) (z:Bool):Bool:=z
noncomputable def bOp (op:BinOp):IntKind→Nat→Nat→(V→Bool)→Bool→Bool:=
 @BinOp.rec (fun _=>IntKind→Nat→Nat→(V→Bool)→Bool→Bool) bAdd bSub bElse bElse bElse bElse bElse bElse bElse bElse bElse bEql bNeq bLss bLeq bGtr bGeq op
noncomputable def binC (op:BinOp) (a b:V) (kk:V→Bool) (z:Bool):Bool:=
 vInt a (fun ka ia=>vInt b (fun kb ib=>ifK (Nat.beq (ikA ka) (ikB kb)) (nonNeg ia (fun m=>nonNeg ib (fun n=>bOp op ka m n kk z) z) z) z) z) z
theorem wrap_i64 {n:Nat} (h:n<9223372036854775808):IntKind.i64.wrap (n:Int)=n:=by
 unfold IntKind.wrap
 have e1:(2 ^ IntKind.i64.bits:Int)=18446744073709551616:=by decide
 have e2:(2 ^ (IntKind.i64.bits-1):Int)=9223372036854775808:=by decide
 simp only[e1,e2]
 have h1:((n:Int) % 18446744073709551616)=n:=Int.emod_eq_of_lt (by omega) (by omega)
 split
 ·rename_i hh
  simp only[Bool.and_eq_true,decide_eq_true_eq] at hh
  omega
 ·exact h1
theorem beq_of (m n:Nat):((m:Int) == (n:Int))=Nat.beq m n:=by
 rw[Bool.eq_iff_iff];simp;omega
theorem binC_s {σ:Int→V} {op:BinOp} {a b:V} {kk:V→Bool} {z:Bool} (h:binC op a b kk z=true):z=true∨∃ v,binV op (su σ a) (su σ b)=some (su σ v)∧kk v=true:=by
 unfold binC at h
 rw[vInt_eq] at h
 split at h
 ·rename_i ka ia
  rw[vInt_eq] at h
  split at h
  ·rename_i kb ib
   rw[ifK_eq] at h
   cases hk:Nat.beq (ikA ka) (ikB kb) with
   |false=>rw[hk] at h;exact .inl h
   |true=>
    rw[hk] at h
    obtain⟨rfl,hns⟩:=ik_s hk
    simp only[cond_true] at h
    cases ia with
    |negSucc _=>exact .inl h
    |ofNat m=>
     cases ib with
     |negSucc _=>exact .inl h
     |ofNat n=>
      have h:bOp op ka m n kk z=true:=h
      have na:ns (.int ka (Int.ofNat m))=true:=by simp[ns,hns]
      have nb:ns (.int ka (Int.ofNat n))=true:=by simp[ns,hns]
      have key:∀ v,binV op (.int ka (Int.ofNat m)) (.int ka (Int.ofNat n))=some v→kk v=true→z=true∨∃ v,binV op (su σ (.int ka (Int.ofNat m))) (su σ (.int ka (Int.ofNat n)))=some (su σ v)∧kk v=true:=
       fun v h1 h2=>.inr ⟨v,binV_ns na nb h1,h2⟩
      cases op<;>try exact .inl h
      ·
       have g:bAdd ka m n kk z=true:=h
       clear h
       unfold bAdd at g
       simp only[ifK_eq] at g
       cases h1:Nat.blt (m+n) 9223372036854775808 with
       |false=>rw[h1] at g;exact .inl g
       |true=>
        rw[h1] at g
        cases h2:Nat.beq (ikA ka) 3 with
        |false=>rw[h2] at g;exact .inl g
        |true=>
         rw[h2] at g
         have e:ka = .i64:=by cases ka<;>first|rfl|(exfalso;revert h2;decide)
         subst e
         refine key _ ?_ g
         simp only[binV,binI,beq_self_eq_true,cond_true,Option.some.injEq,V.int.injEq,true_and]
         have:=wrap_i64 (n:=m+n) (by simpa[Nat.blt_eq] using h1)
         simpa using this
      ·
       have g:bSub ka m n kk z=true:=h
       clear h
       unfold bSub at g
       simp only[ifK_eq] at g
       cases h0:Nat.ble n m with
       |false=>rw[h0] at g;exact .inl g
       |true=>
        rw[h0] at g
        cases h1:Nat.blt m 9223372036854775808 with
        |false=>rw[h1] at g;exact .inl g
        |true=>
         rw[h1] at g
         cases h2:Nat.beq (ikA ka) 3 with
         |false=>rw[h2] at g;exact .inl g
         |true=>
          rw[h2] at g
          have e:ka = .i64:=by cases ka<;>first|rfl|(exfalso;revert h2;decide)
          subst e
          refine key _ ?_ g
          simp only[binV,binI,beq_self_eq_true,cond_true,Option.some.injEq,V.int.injEq,true_and]
          have hle:=Nat.le_of_ble_eq_true h0
          have hlt:m<9223372036854775808:=by simpa[Nat.blt_eq] using h1
          have:=wrap_i64 (n:=m-n) (by omega)
          have e2:(Int.ofNat m-Int.ofNat n)=((m-n:Nat):Int):=by simp only[Int.ofNat_eq_natCast];omega
          rw[e2];simpa using this
      ·refine key _ ?_ h
       simp only[binV,binI,beq_self_eq_true,cond_true,Option.some.injEq,V.bool.injEq]
       exact beq_of m n
      ·refine key _ ?_ h
       simp only[binV,binI,beq_self_eq_true,cond_true,Option.some.injEq,V.bool.injEq]
       show(!((m:Int) == (n:Int)))=_
       rw[beq_of];cases Nat.beq m n<;>rfl
      ·refine key _ ?_ h
       simp only[binV,binI,beq_self_eq_true,cond_true,Option.some.injEq,V.bool.injEq]
       rw[Bool.eq_iff_iff];simp[Nat.blt_eq]
      ·refine key _ ?_ h
       simp only[binV,binI,beq_self_eq_true,cond_true,Option.some.injEq,V.bool.injEq]
       rw[Bool.eq_iff_iff];simp
      ·refine key _ ?_ h
       simp only[binV,binI,beq_self_eq_true,cond_true,Option.some.injEq,V.bool.injEq]
       rw[Bool.eq_iff_iff];simp[Nat.blt_eq]
      ·refine key _ ?_ h
       simp only[binV,binI,beq_self_eq_true,cond_true,Option.some.injEq,V.bool.injEq]
       rw[Bool.eq_iff_iff];simp
  ·exact .inl h
 ·exact .inl h
end Go.Vm
/-
  The machine V, for the kernel, quicker: operations, code, calls. (The table of operations is printed by gen50.py.)
-/
namespace Go.Vm
open Go
noncomputable def cG (f:Cfg→Orc→Call→St→Option (V × St)) (E:Env) (kk:Kv):Kt:=fun tm fr sg wd=>
 match f E.C E.A (fun _ _ _=>none) { tm,fr,sg,wd } with
 |some (v,s)=>@St.rec (fun _=>Bool) (fun _ fr sg wd=>kk v tm fr sg wd) s
 |none=>false
noncomputable def cMv (x:O) (_:Env) (kk:Kv):Kt:=fun tm fr sg wd=>kk (rdK tm x) tm fr sg wd
noncomputable def cBin (op:BinOp) (x y:O) (E:Env) (kk:Kv):Kt:=fun tm fr sg wd=>
 binC op (rdK tm x) (rdK tm y) (fun v=>kk v tm fr sg wd) (cG (kBin op x y) E kk tm fr sg wd)
noncomputable def cNot (x:O) (_:Env) (kk:Kv):Kt:=fun tm fr sg wd=>vBool (rdK tm x) fun b=>kk (.bool (@Bool.rec (fun _=>Bool) true false b)) tm fr sg wd
noncomputable def backC (kk:Kv) (tm:Nat→V) (wd:Nat):Kc:=fun v sgs wd'=>@List.rec Fr (fun _=>Bool) false (fun fr sg _=>kk v tm fr sg (max wd (wd'-1))) sgs
noncomputable def cCall (f:FuncId) (as:List O) (E:Env) (kk:Kv):Kt:=fun tm fr sg wd=>
 E.call f (as.map fun x=>argV (E.C.keepA f) (rdK tm x)) (fr::sg) (backC kk tm wd)
noncomputable def cCv (f:O) (as:List O) (E:Env) (kk:Kv):Kt:=fun tm fr sg wd=>
 match rdK tm f with
 | .fn g a b=>E.call g ((a++as.map (rdK tm)++b).map (argV (E.C.keepA g))) (fr::sg) (backC kk tm wd)
 |_=>false
noncomputable def cInv (x:O) (m:List (TypeId × FuncId)) (as:List O) (E:Env) (kk:Kv):Kt:=fun tm fr sg wd=>
 match rdK tm x with
 | .iface t v=>match methF t m with
  |some g=>E.call g ((v::as.map (rdK tm)).map (argV (E.C.keepA g))) (fr::sg) (backC kk tm wd)
  |none=>false
 |_=>false
noncomputable def cOp (o:VO):Env→Kv→Kt:=@VO.rec (fun _=>Env→Kv→Kt) cMv (fun sz=>cG (kNw sz)) (fun c a b=>cG (kPick c a b)) cBin (fun neg x y=>cG (kEqb neg x y)) (fun neg ks x y=>cG (kEqs neg ks x y)) (fun k neg x=>cG (kEqn k neg x)) cNot (fun x=>cG (kNeg x)) (fun k x=>cG (kWrp k x)) (fun x=>cG (kSs x)) (fun x=>cG (kS2b x)) (fun x=>cG (kB2s x)) (fun ag sz a=>cG (kLd ag sz a)) (fun ag sz a v=>cG (kSt ag sz a v)) (fun x=>cG (kNc x)) (fun off a=>cG (kFa off a)) (fun n sz x i=>cG (kIa n sz x i)) (fun x i=>cG (kIx x i)) (fun ag sz n x i=>cG (kIv ag sz n x i)) (fun ag off sz x=>cG (kFd ag off sz x)) (fun x i=>cG (kEx x i)) (fun sz=>cG (kNm sz)) (fun z tk=>cG (kAl z tk)) (fun x tk=>cG (kBx x tk)) (fun x=>cG (kBe x)) (fun z ps=>cG (kBd z ps)) (fun sz es=>cG (kBl sz es)) (fun sz es=>cG (kBm sz es)) (fun d ag z n c=>cG (kMk d ag z n c)) (fun st sz x lo hi mx=>cG (kCut st sz x lo hi mx)) (fun f first captured=>cG (kMf f first captured)) (fun t x=>cG (kMi t x)) cCall cCv cInv (fun st x=>cG (kLen st x)) (fun x=>cG (kCap x)) (fun sz x y=>cG (kApp sz x y)) (fun sz x y=>cG (kAm sz x y)) (fun ag z x n=>cG (kAz ag z x n)) (fun xs=>cG (kMn xs)) (fun xs=>cG (kMx xs)) (fun z x=>cG (kClr z x)) (fun x=>cG (kFz x)) (cG (kMm)) (fun ok K z m k=>cG (kMg ok K z m k)) (fun K m k v=>cG (kMu K m k v)) (fun m=>cG (kMl m)) (cG (kBad)) o
noncomputable def putC (d:Option Nat) (k:Kt) (v:V):Kt:=@Option.rec Nat (fun _=>Kt) k (fun t tm fr sg wd=>k (updK t v tm) fr sg wd) d
noncomputable def gC (g:Option (Nat × Bool)) (run skip:Kt):Kt:=@Option.rec (Nat × Bool) (fun _=>Kt) run (fun p tm fr sg wd=>
 match want { tm,fr,sg,wd } (some p) with
 |some true=>run tm fr sg wd
 |some false=>skip tm fr sg wd
 |none=>false) g
noncomputable def stepC (o:VOp) (E:Env) (k:Kt):Kt:=@VOp.rec (fun _=>Kt) (fun d op g=>gC g (cOp op E (putC d k)) (putC d k (.tup []))) o
noncomputable def regC (l:List VOp) (E:Env) (k:Kt):Kt:=@List.rec VOp (fun _=>Kt) k (fun o _ ih=>stepC o E ih) l
noncomputable def pureK (o:VO) (E:Env) (k:V→Bool) (tm:Nat→V) (fr:Fr) (sg:List Fr) (wd:Nat):Bool:=
 match o with
 | .call f as=>E.call f (as.map fun x=>argV (E.C.keepA f) (rdK tm x)) (fr::sg) fun v _ wd'=>Nat.beq wd' 0&&k v
 | .cv f as=>match rdK tm f with
  | .fn g a b=>E.call g ((a++as.map (rdK tm)++b).map (argV (E.C.keepA g))) (fr::sg) fun v _ wd'=>Nat.beq wd' 0&&k v
  |_=>false
 |o=>pureO o&&cOp o E (fun v _ _ _ _=>k v) tm fr sg wd
noncomputable def stepPC (o:VOp) (E:Env) (k:Kt):Kt:=fun tm fr sg wd=>
 match want { tm,fr,sg,wd } o.g with
 |some true=>pureK o.o E (fun v=>putC o.d k v tm fr sg wd) tm fr sg wd
 |some false=>putC o.d k (.tup []) tm fr sg wd
 |none=>false
noncomputable def againC (E:Env) (o:VOp) (tm:Nat→V) (fr:Fr) (sg:List Fr) (wd:Nat):Bool:=
 match want { tm,fr,sg,wd } o.g with
 |some true=>match o.d with
  |some t=>pureK o.o E (fun v=>veq v (tm t)) tm fr sg wd
  |none=>false
 |some false=>true
 |none=>false
noncomputable def againAtC (E:Env) (all:List DOp) (tm:Nat→V) (fr:Fr) (sg:List Fr) (wd:Nat) (i:Nat):Bool:=
 match opAt all i with
 |some o=>againC E o tm fr sg wd
 |none=>false
noncomputable def drwC (all l:List DOp) (E:Env) (k:Kt):Kt:=@List.rec DOp (fun _=>Kt) k (fun x _ ih=>
 @Bool.rec (fun _=>Kt) (stepPC x.op E ih) (stepC x.op E fun tm fr sg wd=>ifK (x.re.all (againAtC E all tm fr sg wd)) (ih tm fr sg wd) false) x.main) l
abbrev Den:=Env→Kt→(Ex→Kt)→Kt
noncomputable def iterC (b:Kt→Kt) (live:List Nat) (n0:Nat) (fuel:Nat):List V→Fr→List Fr→Nat→Bool:=
 @Nat.rec (fun _=>List V→Fr→List Fr→Nat→Bool) (fun _ _ _ _=>false)
  (fun _ ih vals fr sg wd=>b (fun tm fr sg wd=>ih (live.map tm) (trunc n0 (live.map tm) fr) sg wd) (mkK live vals) fr sg wd) fuel
noncomputable def dSkip:Den:=fun _ kn _=>kn
noncomputable def dReg (l:List VOp):Den:=fun E kn _=>regC l E kn
noncomputable def dDrw (l:List DOp):Den:=fun E kn _=>drwC l l E kn
noncomputable def dSeq (_ _:VC) (a b:Den):Den:=fun E kn kx=>a E (b E kn kx) kx
noncomputable def dCond (c:O) (_ _:VC) (t e:Den):Den:=fun E kn kx tm fr sg wd=>vBool (rdK tm c) fun b=>@Bool.rec (fun _=>Bool) (e E kn kx tm fr sg wd) (t E kn kx tm fr sg wd) b
noncomputable def dBlock (id:Nat) (_:VC) (b:Den):Den:=fun E kn kx=>b E kn fun x=>@Ex.rec (fun _=>Kt) (kx .normal) (fun j=>@Bool.rec (fun _=>Kt) (kx (.exit j)) kn (Nat.beq j id)) (kx .ret) x
noncomputable def dLoop (live:List Nat) (_:VC) (b:Den):Den:=fun E _ kx tm fr sg wd=>iterC (fun k=>b E k kx) live fr.length E.n (live.map tm) fr sg wd
noncomputable def dExit (id:Nat):Den:=fun _ _ kx=>kx (.exit id)
noncomputable def dRet:Den:=fun _ _ kx=>kx .ret
noncomputable def dBad:Den:=fun _ _ _ _ _ _ _=>false
noncomputable def den (c:VC):Den:=@VC.rec (fun _=>Den) dSkip dReg dDrw dSeq dCond dBlock dLoop dExit dRet dBad c
noncomputable def leaveC (F:VF) (k:Kc):Kt:=fun tm fr sg wd=>
 match leave F { tm,fr,sg,wd } with
 |some (v,sg,wd)=>k v sg wd
 |none=>false
noncomputable def callC (C:Cfg) (A:Orc) (funs:FuncId→Option VF) (prim:Call) (n:Nat):CallC:=
 @Nat.rec (fun _=>CallC) (fun _ _ _ _=>false) (fun n ih f as sg k=>
  match A.K f as with
  |some v=>k v sg 0
  |none=>match funs f with
   |some F=>den F.code { C,A,call:=ih,n } (leaveC F k) (fun x=>@Ex.rec (fun _=>Kt) (leaveC F k) (fun _ _ _ _ _=>false) (leaveC F k) x) (envK as) [] sg 0
   |none=>match prim f as sg with
    |some (v,sg,wd)=>k v sg wd
    |none=>false) n
structure EnvOk (T:Tab) (σ:Int→V) (E:Env):Prop where
 C:E.C=T.C
 A:OrcOk T σ E.A
 call:∀ f as sg k,E.call f as sg k=true→∃ v sg' wd,T.call f (suL σ as) (suG σ sg)=some (su σ v,suG σ sg',wd)∧k v sg' wd=true
section
variable {T:Tab} {σ:Int→V} {E:Env}
theorem callS_none:CallS σ (fun _ _ _=>none) T.call:=fun _ _ _ _ _ _ h=>by cases h
theorem cG_s (hσ:Num σ) (hE:EnvOk T σ E) {o:VO} {f:Cfg→Orc→Call→St→Option (V × St)} (hf:∀ C A c s,f C A c s=opK o C A c s) (hl:clVO o=true) {kk:Kv} {tm:Nat→V} {fr:Fr} {sg:List Fr} {wd:Nat} (h:cG f E kk tm fr sg wd=true) :
  ∃ v s',opV T.C T.call o (suS σ { tm,fr,sg,wd })=some (su σ v,suS σ s')∧kk v s'.tm s'.fr s'.sg s'.wd=true:=by
 unfold cG at h
 rw[hf,opK_eq] at h
 split at h
 ·rename_i v s hv
  rw[hE.C] at hv
  have h1:=opS_su hσ hE.A callS_none hl hv
  have h2:=opV_tm h1
  refine⟨v,{ s with tm },?_,h⟩
  rw[h1]
  have e:suS σ s=suS σ { s with tm }:=by
   simp only[suS,St.mk.injEq,and_true]
   exact h2
  rw[e]
 ·cases h
theorem back_s {f:FuncId} {as:List V} {kk:Kv} {tm:Nat→V} {fr:Fr} {sg:List Fr} {wd:Nat} (hσ:Num σ) (hE:EnvOk T σ E) (h:E.call f (as.map (argV (E.C.keepA f))) (fr::sg) (backC kk tm wd)=true) :
  ∃ v s',doCall T.C T.call f (suL σ as) (suS σ { tm,fr,sg,wd })=some (su σ v,suS σ s')∧kk v s'.tm s'.fr s'.sg s'.wd=true:=by
 obtain⟨v,sgs,wd',h1,h2⟩:=hE.call _ _ _ _ h
 cases sgs with
 |nil=>cases h2
 |cons fr' sg'=>
  refine⟨v,{ tm,fr:=fr',sg:=sg',wd:=max wd (wd'-1) },?_,h2⟩
  unfold doCall
  rw[map_su (argV_su hσ _),← hE.C]
  show(match T.call f (suL σ (as.map (argV (E.C.keepA f)))) (suG σ (fr::sg)) with|some (v,fr::sg,wd')=>some (v,{ suS σ { tm,fr:=fr,sg,wd } with fr,sg,wd:=max wd (wd'-1) })|_=>none)=_
  rw[h1]
  rfl
theorem cOp_s (hσ:Num σ) (hE:EnvOk T σ E) {o:VO} (hl:clVO o=true) {kk:Kv} {tm:Nat→V} {fr:Fr} {sg:List Fr} {wd:Nat} (h:cOp o E kk tm fr sg wd=true) :
  ∃ v s',opV T.C T.call o (suS σ { tm,fr,sg,wd })=some (su σ v,suS σ s')∧kk v s'.tm s'.fr s'.sg s'.wd=true:=by
 cases o
 case mv x=>
  have h:kk (rdK tm x) tm fr sg wd=true:=h
  rw[rdK_eq] at h
  exact⟨rd tm x,{ tm,fr,sg,wd },by simp only[opV];rw[rd_cl _ hl],h⟩
 case bin op x y=>
  rcases binC_s (σ:=σ) (show binC op (rdK tm x) (rdK tm y) (fun v=>kk v tm fr sg wd) (cG (kBin op x y) E kk tm fr sg wd)=true from h) with h|⟨v,h1,h2⟩
  ·exact cG_s hσ hE (o:=.bin op x y) (fun _ _ _ _=>rfl) hl h
  ·simp only[clVO,Bool.and_eq_true] at hl
   rw[rdK_eq,rdK_eq] at h1
   exact⟨v,{ tm,fr,sg,wd },by simp only[opV];rw[rd_cl _ hl.1,rd_cl _ hl.2,h1];rfl,h2⟩
 case not x=>
  have h:vBool (rdK tm x) (fun b=>kk (.bool (@Bool.rec (fun _=>Bool) true false b)) tm fr sg wd)=true:=h
  rw[vBool_eq,rdK_eq] at h
  split at h
  ·rename_i b hb
   refine⟨_,{ tm,fr,sg,wd },?_,h⟩
   simp only[opV]
   rw[rd_cl _ hl,hb]
   cases b<;>rfl
  ·cases h
 case call f as=>
  have h:E.call f (as.map fun x=>argV (E.C.keepA f) (rdK tm x)) (fr::sg) (backC kk tm wd)=true:=h
  have e:(as.map fun x=>argV (E.C.keepA f) (rdK tm x))=(as.map (rd tm)).map (argV (E.C.keepA f)):=by
   rw[List.map_map];apply List.map_congr_left;intro x _;simp only[Function.comp,rdK_eq]
  rw[e] at h
  obtain⟨v,s',h1,h2⟩:=back_s hσ hE h
  exact⟨v,s',by simp only[opV];rw[rdL_cl _ hl];exact h1,h2⟩
 case cv f as=>
  simp only[clVO,Bool.and_eq_true] at hl
  have h:(match rdK tm f with
   | .fn g a b=>E.call g ((a++as.map (rdK tm)++b).map (argV (E.C.keepA g))) (fr::sg) (backC kk tm wd)
   |_=>false)=true:=h
  rw[rdK_eq,funext (rdK_eq tm)] at h
  split at h
  ·rename_i g a b hb
   obtain⟨v,s',h1,h2⟩:=back_s hσ hE h
   refine⟨v,s',?_,h2⟩
   simp only[opV]
   rw[rdL_cl _ hl.2,rd_cl _ hl.1,hb]
   unfold doFn
   simpa[su,suL_append] using h1
  ·cases h
 case inv x m as=>
  simp only[clVO,Bool.and_eq_true] at hl
  have h:(match rdK tm x with
   | .iface t v=>match methF t m with
    |some g=>E.call g ((v::as.map (rdK tm)).map (argV (E.C.keepA g))) (fr::sg) (backC kk tm wd)
    |none=>false
   |_=>false)=true:=h
  rw[rdK_eq,funext (rdK_eq tm)] at h
  split at h
  ·rename_i t u hb
   split at h
   ·rename_i g hg
    obtain⟨v,s',h1,h2⟩:=back_s hσ hE h
    refine⟨v,s',?_,h2⟩
    simp only[opV]
    rw[rdL_cl _ hl.2,rd_cl _ hl.1,hb]
    simp only[su]
    rw[← hE.C,hg,Option.bind_some,hE.C]
    simpa[suL] using h1
   ·cases h
  ·cases h
 all_goals exact cG_s hσ hE (fun _ _ _ _=>rfl) hl h
theorem putC_eq (d:Option Nat) (k:Kt) (v:V) (s:St):putC d k v s.tm s.fr s.sg s.wd=k (put s d v).tm (put s d v).fr (put s d v).sg (put s d v).wd:=by
 cases d with
 |none=>rfl
 |some t=>show k (updK t v s.tm) s.fr s.sg s.wd=_;rw[updK_eq];rfl
theorem stepC_s (hσ:Num σ) (hE:EnvOk T σ E) {o:VOp} (hl:clVOp o=true) {k:Kt} {s:St} (h:stepC o E k s.tm s.fr s.sg s.wd=true) :
  ∃ s',stepV T.C T.call o (suS σ s)=some (suS σ s')∧k s'.tm s'.fr s'.sg s'.wd=true:=by
 obtain⟨d,op,g⟩:=o
 have hrun:cOp op E (putC d k) s.tm s.fr s.sg s.wd=true→∃ s',(opV T.C T.call op (suS σ s)).map (fun(v,s)=>put s d v)=some (suS σ s')∧k s'.tm s'.fr s'.sg s'.wd=true:=fun h=>by
  obtain⟨v,s',h1,h2⟩:=cOp_s hσ hE (o:=op) hl h
  rw[putC_eq] at h2
  exact⟨put s' d v,by rw[h1];simp only[Option.map_some,put_su],h2⟩
 cases g with
 |none=>
  obtain⟨s',h1,h2⟩:=hrun h
  exact⟨s',by unfold stepV;simpa[want] using h1,h2⟩
 |some p=>
  have h:(match want s (some p) with
   |some true=>cOp op E (putC d k) s.tm s.fr s.sg s.wd
   |some false=>putC d k (.tup []) s.tm s.fr s.sg s.wd
   |none=>false)=true:=h
  unfold stepV
  split at h
  ·rename_i hw
   rw[want_su s _ hw hσ]
   exact hrun h
  ·rename_i hw
   rw[want_su s _ hw hσ]
   rw[putC_eq] at h
   exact⟨_,by simp[put_su,su,suL],h⟩
  ·cases h
theorem regC_s (hσ:Num σ) (hE:EnvOk T σ E):∀ {l:List VOp} {k:Kt} {s:St},l.all clVOp=true→regC l E k s.tm s.fr s.sg s.wd=true→∃ s',runL T.C T.call l (suS σ s)=some (suS σ s')∧k s'.tm s'.fr s'.sg s'.wd=true
 | [],k,s,_,h=>⟨s,rfl,h⟩
 |o::l,k,s,hl,h=>by
  simp only[List.all_cons,Bool.and_eq_true] at hl
  obtain⟨s1,h1,h2⟩:=stepC_s hσ hE hl.1 (show stepC o E (regC l E k) s.tm s.fr s.sg s.wd=true from h)
  obtain⟨s2,h3,h4⟩:=regC_s hσ hE hl.2 h2
  exact⟨s2,by simp only[runL,h1,Option.bind_some,h3],h4⟩
theorem pureK_s (hσ:Num σ) (hE:EnvOk T σ E) {o:VO} (hl:clVO o=true) {k:V→Bool} {s:St} (h:pureK o E k s.tm s.fr s.sg s.wd=true) :
  ∃ v,opP T.C T.call o (suS σ s)=some (su σ v)∧k v=true:=by
 have hcall:∀ (f:FuncId) (as:List V),E.call f (as.map (argV (E.C.keepA f))) (s.fr::s.sg) (fun v _ wd'=>Nat.beq wd' 0&&k v)=true→∃ v,callP T.C T.call f (suL σ as) (suS σ s)=some (su σ v)∧k v=true:=by
  intro f as h
  obtain⟨v,sgs,wd',h1,h2⟩:=hE.call _ _ _ _ h
  simp only[Bool.and_eq_true] at h2
  refine⟨v,?_,h2.2⟩
  unfold callP
  rw[map_su (argV_su hσ _),← hE.C]
  show(match T.call f (suL σ (as.map (argV (E.C.keepA f)))) (suG σ (s.fr::s.sg)) with|some (v,_,wd)=>bif Nat.beq wd 0 then some v else none|_=>none)=_
  rw[h1]
  simp only[h2.1,cond_true]
 have hpure:(pureO o&&cOp o E (fun v _ _ _ _=>k v) s.tm s.fr s.sg s.wd)=true→∃ v,(bif pureO o then(opV T.C T.call o (suS σ s)).map (·.1) else none)=some (su σ v)∧k v=true:=by
  intro h
  simp only[Bool.and_eq_true] at h
  obtain⟨v,s',h1,h2⟩:=cOp_s hσ hE hl h.2
  refine⟨v,?_,h2⟩
  have h1:opV T.C T.call o (suS σ s)=some (su σ v,suS σ s'):=h1
  rw[h.1,h1];rfl
 cases o
 case call f as=>
  have h:E.call f (as.map fun x=>argV (E.C.keepA f) (rdK s.tm x)) (s.fr::s.sg) (fun v _ wd'=>Nat.beq wd' 0&&k v)=true:=h
  have e:(as.map fun x=>argV (E.C.keepA f) (rdK s.tm x))=(as.map (rd s.tm)).map (argV (E.C.keepA f)):=by
   rw[List.map_map];apply List.map_congr_left;intro x _;simp only[Function.comp,rdK_eq]
  rw[e] at h
  simp only[opP]
  rw[rdL_cl _ hl]
  exact hcall f _ h
 case cv f as=>
  simp only[clVO,Bool.and_eq_true] at hl
  have h:(match rdK s.tm f with
   | .fn g a b=>E.call g ((a++as.map (rdK s.tm)++b).map (argV (E.C.keepA g))) (s.fr::s.sg) fun v _ wd'=>Nat.beq wd' 0&&k v
   |_=>false)=true:=h
  rw[rdK_eq,funext (rdK_eq s.tm)] at h
  simp only[opP]
  rw[rdL_cl _ hl.2,rd_cl _ hl.1]
  split at h
  ·rename_i g a b hb
   rw[hb]
   unfold fnP
   obtain⟨v,h1,h2⟩:=hcall g _ h
   exact⟨v,by simpa[su,suL_append] using h1,h2⟩
  ·cases h
 all_goals exact hpure h
theorem stepPC_s (hσ:Num σ) (hE:EnvOk T σ E) {o:VOp} (hl:clVOp o=true) {k:Kt} {s:St} (h:stepPC o E k s.tm s.fr s.sg s.wd=true) :
  ∃ s',stepP T.C T.call o (suS σ s)=some (suS σ s')∧k s'.tm s'.fr s'.sg s'.wd=true:=by
 unfold stepPC at h
 unfold stepP
 split at h
 ·rename_i hw
  rw[want_su s _ hw hσ]
  obtain⟨v,h1,h2⟩:=pureK_s hσ hE hl h
  rw[putC_eq] at h2
  exact⟨_,by rw[h1];simp only[Option.map_some,put_su],h2⟩
 ·rename_i hw
  rw[want_su s _ hw hσ]
  rw[putC_eq] at h
  exact⟨_,by simp[put_su,su,suL],h⟩
 ·cases h
theorem againC_s (hσ:Num σ) (hE:EnvOk T σ E) {o:VOp} (hl:clVOp o=true) {s:St} (h:againC E o s.tm s.fr s.sg s.wd=true):again T.C T.call (suS σ s) o=true:=by
 unfold againC at h
 unfold again
 split at h
 ·rename_i hw
  rw[want_su s _ hw hσ]
  split at h
  ·rename_i t ht
   obtain⟨v,h1,h2⟩:=pureK_s hσ hE hl h
   simp only[h1,ht]
   have:=veq_sound _ _ h2
   show veq (su σ v) (su σ (s.tm t))=true
   rw[this];exact veq_refl _
  ·cases h
 ·rename_i hw
  rw[want_su s _ hw hσ]
 ·cases h
theorem againAtC_s (hσ:Num σ) (hE:EnvOk T σ E) {all:List DOp} (hl:(all.all fun x=>clVOp x.op)=true) {s:St} {i:Nat} (h:againAtC E all s.tm s.fr s.sg s.wd i=true):againAt T.C T.call all (suS σ s) i=true:=by
 unfold againAtC at h
 unfold againAt
 split at h
 ·rename_i o ho
  rw[ho];exact againC_s hσ hE (opAt_cl hl ho) h
 ·cases h
theorem drwC_s (hσ:Num σ) (hE:EnvOk T σ E) {all:List DOp} (ha:(all.all fun x=>clVOp x.op)=true):∀ {l:List DOp} {k:Kt} {s:St},(l.all fun x=>clVOp x.op)=true→drwC all l E k s.tm s.fr s.sg s.wd=true →
  ∃ s',drwV T.C T.call all l (suS σ s)=some (suS σ s')∧k s'.tm s'.fr s'.sg s'.wd=true
 | [],k,s,_,h=>⟨s,rfl,h⟩
 |x::l,k,s,hl,h=>by
  simp only[List.all_cons,Bool.and_eq_true] at hl
  have h:@Bool.rec (fun _=>Kt) (stepPC x.op E (drwC all l E k)) (stepC x.op E fun tm fr sg wd=>ifK (x.re.all (againAtC E all tm fr sg wd)) (drwC all l E k tm fr sg wd) false) x.main s.tm s.fr s.sg s.wd=true:=h
  simp only[drwV]
  cases hm:x.main with
  |true=>
   rw[hm] at h
   obtain⟨s1,h1,h2⟩:=stepC_s hσ hE hl.1 h
   simp only[ifK_eq] at h2
   cases hb:x.re.all (againAtC E all s1.tm s1.fr s1.sg s1.wd) with
   |false=>rw[hb] at h2;cases h2
   |true=>
    rw[hb] at h2
    obtain⟨s2,h3,h4⟩:=drwC_s hσ hE ha hl.2 h2
    have:x.re.all (againAt T.C T.call all (suS σ s1))=true:=List.all_eq_true.2 fun i hi=>againAtC_s hσ hE ha (List.all_eq_true.1 hb i hi)
    exact⟨s2,by simp only[cond_true,h1,Option.bind_some,this,h3],h4⟩
  |false=>
   rw[hm] at h
   obtain⟨s1,h1,h2⟩:=stepPC_s hσ hE hl.1 h
   obtain⟨s2,h3,h4⟩:=drwC_s hσ hE ha hl.2 h2
   exact⟨s2,by simp only[cond_false,h1,Option.bind_some,h3],h4⟩
def Aft (kn:Kt) (kx:Ex→Kt) (x:Ex) (s:St):Prop:=match x with
 | .normal=>kn s.tm s.fr s.sg s.wd=true
 |x=>kx x s.tm s.fr s.sg s.wd=true
theorem iterC_s (hσ:Num σ) {b:Kt→Kt} {kx:Ex→Kt} {bV:St→Option (Ex × St)} (hb:∀ k s,b k s.tm s.fr s.sg s.wd=true→∃ x s',bV (suS σ s)=some (x,suS σ s')∧Aft k kx x s') (live:List Nat) (n0:Nat) :
  ∀ (fuel:Nat) (l:LS),iterC b live n0 fuel l.vals l.fr l.sg l.wd=true→∃ x s',iter bV n0 live fuel (suLS σ l)=some (x,suS σ s')∧x≠.normal∧kx x s'.tm s'.fr s'.sg s'.wd=true
 |0,l,h=>by cases h
 |n+1,l,h=>by
  have h:b (fun tm fr sg wd=>iterC b live n0 n (live.map tm) (trunc n0 (live.map tm) fr) sg wd) (mkK live l.vals) l.fr l.sg l.wd=true:=h
  rw[show mkK live l.vals=mkE live l.vals from funext fun u=>mkK_eq u live l.vals] at h
  obtain⟨x,s1,h1,h2⟩:=hb _ (l.st live) h
  simp only[iter]
  rw[← LSst_su,h1]
  cases x with
  |normal=>
   obtain⟨x,s2,h3,h4,h5⟩:=iterC_s hσ hb live n0 n (LS.next n0 live s1) h2
   exact⟨x,s2,by simp only;rw[← LSnext_su hσ];exact h3,h4,h5⟩
  |exit j=>exact⟨_,s1,rfl,by simp,h2⟩
  |ret=>exact⟨_,s1,rfl,by simp,h2⟩
theorem den_s (hσ:Num σ) (hE:EnvOk T σ E):∀ (c:VC) (kn:Kt) (kx:Ex→Kt) (s:St),clC c=true→den c E kn kx s.tm s.fr s.sg s.wd=true→∃ x s',execF T.C T.call E.n c (suS σ s)=some (x,suS σ s')∧Aft kn kx x s':=by
 intro c
 induction c with
 |skip=>intro kn kx s _ h;exact⟨.normal,s,rfl,h⟩
 |reg l=>
  intro kn kx s hl h
  obtain⟨s',h1,h2⟩:=regC_s hσ hE hl (show regC l E kn s.tm s.fr s.sg s.wd=true from h)
  exact⟨.normal,s',by simp only[execF,h1,Option.map_some],h2⟩
 |drw l=>
  intro kn kx s hl h
  obtain⟨s',h1,h2⟩:=drwC_s hσ hE hl hl (show drwC l l E kn s.tm s.fr s.sg s.wd=true from h)
  exact⟨.normal,s',by simp only[execF,h1,Option.map_some],h2⟩
 |seq a b iha ihb=>
  intro kn kx s hl h
  simp only[clC,Bool.and_eq_true] at hl
  obtain⟨x,s1,h1,h2⟩:=iha (den b E kn kx) kx s hl.1 h
  cases x with
  |normal=>
   obtain⟨x,s2,h3,h4⟩:=ihb kn kx s1 hl.2 h2
   exact⟨x,s2,by simp only[execF,h1,h3],h4⟩
  |exit j=>exact⟨.exit j,s1,by simp only[execF,h1],h2⟩
  |ret=>exact⟨.ret,s1,by simp only[execF,h1],h2⟩
 |cond o a b iha ihb=>
  intro kn kx s hl h
  simp only[clC,Bool.and_eq_true] at hl
  have h:vBool (rdK s.tm o) (fun c=>@Bool.rec (fun _=>Bool) (den b E kn kx s.tm s.fr s.sg s.wd) (den a E kn kx s.tm s.fr s.sg s.wd) c)=true:=h
  rw[vBool_eq,rdK_eq] at h
  simp only[execF,rd_cl s hl.1]
  split at h
  ·rename_i c hc
   rw[hc]
   cases c with
   |true=>
    obtain⟨x,s1,h1,h2⟩:=iha kn kx s hl.2.1 h
    exact⟨x,s1,by simpa[su] using h1,h2⟩
   |false=>
    obtain⟨x,s1,h1,h2⟩:=ihb kn kx s hl.2.2 h
    exact⟨x,s1,by simpa[su] using h1,h2⟩
  ·cases h
 |block i a iha=>
  intro kn kx s hl h
  obtain⟨x,s1,h1,h2⟩:=iha kn (fun x=>@Ex.rec (fun _=>Kt) (kx .normal) (fun j=>@Bool.rec (fun _=>Kt) (kx (.exit j)) kn (Nat.beq j i)) (kx .ret) x) s hl h
  simp only[execF,h1]
  cases x with
  |normal=>exact⟨_,s1,rfl,h2⟩
  |ret=>exact⟨_,s1,rfl,h2⟩
  |exit j=>
   have h2:(@Bool.rec (fun _=>Kt) (kx (.exit j)) kn (Nat.beq j i)) s1.tm s1.fr s1.sg s1.wd=true:=h2
   simp only
   cases hb:Nat.beq j i with
   |true=>rw[hb] at h2;exact⟨_,s1,rfl,h2⟩
   |false=>rw[hb] at h2;exact⟨_,s1,rfl,h2⟩
 |loop live a iha=>
  intro kn kx s hl h
  have h:iterC (fun k=>den a E k kx) live s.fr.length E.n (live.map s.tm) s.fr s.sg s.wd=true:=h
  obtain⟨x,s1,h1,h2,h3⟩:=iterC_s hσ (kx:=kx) (bV:=execF T.C T.call E.n a) (fun k s h=>iha k kx s hl h) live s.fr.length E.n { vals:=live.map s.tm,fr:=s.fr,sg:=s.sg,wd:=s.wd } h
  refine⟨x,s1,?_,?_⟩
  ·simp only[execF]
   have e:suL σ (live.map s.tm)=live.map (suS σ s).tm:=by rw[suL_map,List.map_map];rfl
   have el:(suS σ s).fr.length=s.fr.length:=suF_len _
   rw[el]
   simp only[suLS,e] at h1
   exact h1
  ·cases x with
   |normal=>exact absurd rfl h2
   |exit j=>exact h3
   |ret=>exact h3
 |exit i=>intro kn kx s _ h;exact⟨.exit i,s,rfl,h⟩
 |ret=>intro kn kx s _ h;exact⟨.ret,s,rfl,h⟩
 |bad=>intro kn kx s _ h;cases h
theorem callC_s {A:Orc} (hσ:Num σ) (hA:OrcOk T σ A) (hp:CallS σ T.prim T.prim) (hl:∀ f F,T.funs f=some F→clC F.code=true):∀ (n:Nat) f as sg k,callC T.C A T.funs T.prim n f as sg k=true →
  ∃ v sg' wd,T.call f (suL σ as) (suG σ sg)=some (su σ v,suG σ sg',wd)∧k v sg' wd=true
 |0,f,as,sg,k,h=>by cases h
 |n+1,f,as,sg,k,h=>by
  have h:(match A.K f as with
   |some v=>k v sg 0
   |none=>match T.funs f with
    |some F=>den F.code { C:=T.C,A,call:=callC T.C A T.funs T.prim n,n } (leaveC F k) (fun x=>@Ex.rec (fun _=>Kt) (leaveC F k) (fun _ _ _ _ _=>false) (leaveC F k) x) (envK as) [] sg 0
    |none=>match T.prim f as sg with
     |some (v,sg,wd)=>k v sg wd
     |none=>false)=true:=h
  cases hK:A.K f as with
  |some u=>
   rw[hK] at h
   exact⟨u,sg,0,hA.K _ _ _ _ hK,h⟩
  |none=>
   rw[hK] at h
   cases hF:T.funs f with
   |none=>
    rw[hF] at h
    simp only at h
    split at h
    ·rename_i v sg' wd hv
     exact⟨v,sg',wd,call_prim hF (hp _ _ _ _ _ _ hv),h⟩
    ·cases h
   |some F=>
    rw[hF] at h
    simp only[envK_eq] at h
    have hE:EnvOk T σ { C:=T.C,A,call:=callC T.C A T.funs T.prim n,n }:=⟨rfl,hA,callC_s hσ hA hp hl n⟩
    obtain⟨x,s1,h1,h2⟩:=den_s hσ hE F.code _ _ { tm:=env as,fr:=[],sg,wd:=0 } (hl f F hF) h
    have e:suS σ { tm:=env as,fr:=[],sg,wd:=0 } = { tm:=env (suL σ as),fr:=[],sg:=suG σ sg,wd:=0 }:=by
     simp only[suS,suF,List.map_nil,St.mk.injEq,and_true]
     funext u;exact env_su as u
    rw[e] at h1
    have hend:leaveC F k s1.tm s1.fr s1.sg s1.wd=true→∃ v sg' wd,leave F (suS σ s1)=some (su σ v,suG σ sg',wd)∧k v sg' wd=true:=by
     intro h
     unfold leaveC at h
     split at h
     ·rename_i v sg' wd hv
      exact⟨v,sg',wd,leave_su hσ hv,h⟩
     ·cases h
    cases x with
    |exit j=>cases h2
    |normal=>
     obtain⟨v,sg',wd,h3,h4⟩:=hend h2
     exact⟨v,sg',wd,call_fun hF ⟨n,.normal,_,h1,h3⟩,h4⟩
    |ret=>
     obtain⟨v,sg',wd,h3,h4⟩:=hend h2
     exact⟨v,sg',wd,call_fun hF ⟨n,.ret,_,h1,h3⟩,h4⟩
end
end Go.Vm
/-
  The machine V: going through a code by rewriting.
-/
namespace Go.Vm
open Go
section
variable {T:Tab} {Q:Ex→St→Prop} {s:St}
def IfV (v:V) (p q:Prop):Prop:=match v with
 | .bool true=>p
 | .bool false=>q
 |_=>False
def IfW (w:Option Bool) (p q:Prop):Prop:=match w with
 |some true=>p
 |some false=>q
 |none=>False
def OnR {α:Type} (r:Option (α × St)) (k:α→St→Prop):Prop:=match r with
 |some (v,s)=>k v s
 |none=>False
def OnS (r:Option St) (k:St→Prop):Prop:=match r with
 |some s=>k s
 |none=>False
theorem W_nil:Wp T (.reg []) s Q↔Q .normal s:=reg_nil
theorem W_drw {ops:List DOp}:Wp T (.drw ops) s Q↔WpD T ops ops s Q:=drw_all
theorem WD_nil {all:List DOp}:WpD T all [] s Q↔Q .normal s:=drw_nil
theorem upd_at (e:Nat→V) (t u:Nat) (v:V):upd e t v u=if u=t then v else e u:=by
 unfold upd
 by_cases h:u=t
 ·simp[h]
 ·have:Nat.beq u t=false:=by
   cases hb:Nat.beq u t with
   |false=>rfl
   |true=>exact absurd (Nat.eq_of_beq_eq_true hb) h
  rw[this,if_neg h];rfl
variable {C:Cfg} {call:Call}
end
@[congr] theorem OnR_congr {α:Type} {r r':Option (α × St)} (k:α→St→Prop) (h:r=r'):OnR r k=OnR r' k:=by rw[h]
@[congr] theorem OnS_congr {r r':Option St} (k:St→Prop) (h:r=r'):OnS r k=OnS r' k:=by rw[h]
@[congr] theorem IfW_congr {w w':Option Bool} (p q:Prop) (h:w=w'):IfW w p q=IfW w' p q:=by rw[h]
@[congr] theorem IfV_congr {w w':V} (p q:Prop) (h:w=w'):IfV w p q=IfV w' p q:=by rw[h]
@[congr] theorem Wp_congr {T:Tab} (c:VC) {s s':St} (Q:Ex→St→Prop) (h:s=s'):Wp T c s Q=Wp T c s' Q:=by rw[h]
@[congr] theorem WpD_congr {T:Tab} (a l:List DOp) {s s':St} (Q:Ex→St→Prop) (h:s=s'):WpD T a l s Q=WpD T a l s' Q:=by rw[h]
attribute [go_sem] Wp_seq Wp_block W_nil Wp_ret Wp_exit Wp_skip W_drw WD_nil upd_at Option.map_some Option.bind_some Option.map_none Option.bind_none
end Go.Vm
