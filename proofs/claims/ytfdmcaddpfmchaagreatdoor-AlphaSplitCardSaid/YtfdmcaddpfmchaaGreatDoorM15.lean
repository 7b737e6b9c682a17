/-
  A part of a proof: the last text of the claim says what is proved, and under which conditions.
-/
import Derived.Test.YtfdmcaddpfmchaaGreatDoorM8
import Derived.Test.YtfdmcaddpfmchaaGreatDoorM14
import Derived.Shelf.Slices.In.SortNone
import Derived.KernelRfl
import Derived.Test.YtfdmcaddpfmchaaGreatDoorM4
import Derived.Test.YtfdmcaddpfmchaaGreatDoorTie
import Derived.Test.YtfdmcaddpfmchaaGreatDoorCards
import Derived.ProofKit
import Derived.Below
import Derived.ChangeSame
import Derived.LaidMore
import Derived.OpenShut
import Derived.Lay
import Derived.SevenTiedAt
import Derived.Stop.Joined
import Derived.Test.YtfdmcaddpfmchaaGreatDoorM7
import Derived.Test.YtfdmcaddpfmchaaGreatDoorM9
set_option linter.unusedSimpArgs false
set_option linter.unusedVariables false
set_option linter.unnecessarySimpa false
/-
  slices.Sort, slices.Compact at strings: what the routines of V want.
-/
namespace Go.Proofs
open Go.RowKit Go.Shelf Go.Sort Go.Vm
theorem Row.grow_nil (w:World):grow w #[]=w:=by
 unfold grow
 simp
theorem Row.sort_ok:RowFn Tryz.prog false 143 where
 enter A w:=enters_of Tryz.func143 (by kernel_rfl) rfl A w
 some blk off cap ss w hH hb h0 hl hc:=by
  refine(Any.slices_Sort_string Tryz.lays190 blk off cap ss w hH hb hl).mono ?_
  rintro e w' ⟨rfl,n,os,rfl⟩
  refine⟨rfl,n,os,?_⟩
  show _=grow (putRow encStr (Sort.ahead w n) blk off (sortT ss).toArray) os
  rw[sortT_eq]
 none a cap w:=by
  refine(Any.slices_Sort_string_none Tryz.lays190 a cap w).mono ?_
  rintro e w' ⟨rfl,rfl⟩
  exact⟨rfl,rfl⟩
theorem Row.compact_ok:RowFn Tryz.prog true 144 where
 enter A w:=enters_of Tryz.func144 (by kernel_rfl) rfl A w
 some blk off cap ss w hH hb h0 hl hc:=by
  refine(Any.slices_Compact_string Tryz.lays194 blk off cap ss w hH (by omega) hc).mono ?_
  rintro e w' ⟨rfl,n,rfl⟩
  refine⟨?_,n,#[],?_⟩
  ·rw[← cmpT_eq];rfl
  ·rw[Row.grow_nil]
   show _=putRow encStr (Sort.ahead w n) blk off (cmpT ss++List.replicate (ss.length-(cmpT ss).length) []).toArray
   rw[cmpT_eq]
 none a cap w:=(Any.slices_Compact_string_empty Tryz.lays194 a cap w).mono fun e w' h=>h
end Go.Proofs
/- The functions of the translation as programs of the machine V. Written by gen.py out of the loaded functions. -/
namespace Go.Vm
set_option maxRecDepth 100000
open Go Go.RowKit
def KX:FuncId→Option Nat:=fun f=>bif Nat.beq f 296 then some 0 else bif Nat.beq f 305 then some 1 else none
def LX:FuncId→Option (Nat × Bool):=fun f=>bif Nat.beq f 108 then some (4,false) else bif Nat.beq f 177 then some (3,false) else bif Nat.beq f 247 then some (4,false) else bif Nat.beq f 257 then some (6,true) else none
def C0:Cfg:={ keepA:=fun f=>Nat.beq f 123||Nat.beq f 127||Nat.beq f 294 }
def RX:FuncId→Option Bool:=fun f=>bif Nat.beq f 143 then some false else bif Nat.beq f 144 then some true else none
def TX:Tab:={ C:=C0,funs:=ftab.get,prim:=primR RX (primAll KX LX) }
theorem KX_ok:Prims Go.Proofs.Tryz.prog KX:=by
 intro f
 unfold KX
 cases h296:Nat.beq f 296 with
 |true=>
  have:=Nat.eq_of_beq_eq_true h296;subst this
  exact⟨fun _=>⟨_,Go.Proofs.Tryz.func296,by kernel_rfl,by kernel_rfl,by kernel_rfl,by kernel_rfl⟩,(fun h=>by cases h)⟩
 |false=>
  cases h305:Nat.beq f 305 with
  |true=>
   have:=Nat.eq_of_beq_eq_true h305;subst this
   exact⟨(fun h=>by cases h),fun _=>⟨_,Go.Proofs.Tryz.func305,by kernel_rfl,by kernel_rfl,by kernel_rfl,by kernel_rfl⟩⟩
  |false=>
   exact⟨(fun h=>by cases h),(fun h=>by cases h)⟩
theorem LX_ok:∀ f z m,LX f=some (z,m)→∃ fn,Go.Proofs.Tryz.prog.funcs[f]? = some fn∧CloneFn Go.Proofs.Tryz.prog z m fn:=by
 intro f z m h
 unfold LX at h
 cases h108:Nat.beq f 108 with
 |true=>
  have:=Nat.eq_of_beq_eq_true h108;subst this
  rw[h108] at h
  simp only[cond_true,Option.some.injEq,Prod.mk.injEq] at h
  obtain⟨rfl,rfl⟩:=h
  exact⟨_,Go.Proofs.Tryz.func108,by kernel_rfl,⟨_,_,_,_,_,_,_,_,_,159,rfl,by kernel_rfl,by kernel_rfl,rfl,rfl,rfl,by decide +kernel,by kernel_rfl,by kernel_rfl,by kernel_rfl⟩,by kernel_rfl⟩
 |false=>
  rw[h108] at h
  simp only[cond_false] at h
  cases h177:Nat.beq f 177 with
  |true=>
   have:=Nat.eq_of_beq_eq_true h177;subst this
   rw[h177] at h
   simp only[cond_true,Option.some.injEq,Prod.mk.injEq] at h
   obtain⟨rfl,rfl⟩:=h
   exact⟨_,Go.Proofs.Tryz.func177,by kernel_rfl,⟨_,_,_,_,_,_,_,_,_,57,rfl,by kernel_rfl,by kernel_rfl,rfl,rfl,rfl,by decide +kernel,by kernel_rfl,by kernel_rfl,by kernel_rfl⟩,by kernel_rfl⟩
  |false=>
   rw[h177] at h
   simp only[cond_false] at h
   cases h247:Nat.beq f 247 with
   |true=>
    have:=Nat.eq_of_beq_eq_true h247;subst this
    rw[h247] at h
    simp only[cond_true,Option.some.injEq,Prod.mk.injEq] at h
    obtain⟨rfl,rfl⟩:=h
    exact⟨_,Go.Proofs.Tryz.func247,by kernel_rfl,⟨_,_,_,_,_,_,_,_,_,59,rfl,by kernel_rfl,by kernel_rfl,rfl,rfl,rfl,by decide +kernel,by kernel_rfl,by kernel_rfl,by kernel_rfl⟩,by kernel_rfl⟩
   |false=>
    rw[h247] at h
    simp only[cond_false] at h
    cases h257:Nat.beq f 257 with
    |true=>
     have:=Nat.eq_of_beq_eq_true h257;subst this
     rw[h257] at h
     simp only[cond_true,Option.some.injEq,Prod.mk.injEq] at h
     obtain⟨rfl,rfl⟩:=h
     exact⟨_,Go.Proofs.Tryz.func257,by kernel_rfl,⟨_,_,_,_,_,_,_,_,_,62,rfl,by kernel_rfl,by kernel_rfl,rfl,rfl,rfl,by decide +kernel,by kernel_rfl,by kernel_rfl,by kernel_rfl⟩,by kernel_rfl⟩
    |false=>
     rw[h257] at h
     simp only[cond_false] at h
     cases h
theorem funs_ok:Funs Go.Proofs.Tryz.prog TX.funs:=funs_of ftab_ok
theorem RX_ok:∀ f k,RX f=some k→RowFn Go.Proofs.Tryz.prog k f:=by
 intro f k h
 unfold RX at h
 cases h143:Nat.beq f 143 with
 |true=>
  have:=Nat.eq_of_beq_eq_true h143;subst this
  rw[h143] at h;cases h;exact Go.Proofs.Row.sort_ok
 |false=>
  rw[h143] at h
  simp only[cond_false] at h
  cases h144:Nat.beq f 144 with
  |true=>
   have:=Nat.eq_of_beq_eq_true h144;subst this
   rw[h144] at h;cases h;exact Go.Proofs.Row.compact_ok
  |false=>
   rw[h144] at h
   simp only[cond_false] at h
   cases h
abbrev KWX:World→Prop:=KW0
theorem keepsX {w:World} (hw:KWX w):∀ w1 w2:World,Below w.heap.size w1 w2→KWX w1→KWX w2:=fun _ _ _ h=>h
theorem prim_ok:CallOk KWX Go.Proofs.Tryz.prog TX.prim:=primR_ok RX_ok (primAll_ok (by kernel_rfl) KX_ok LX_ok)
theorem prim_q:CallQ TX.prim:=primR_q (primAll_q KX LX)
theorem prim_su {σ:Int→V} (hσ:Num σ):CallS σ TX.prim TX.prim:=primR_su (primAll_su hσ KX LX)
def clT:FT→Bool
 | .leaf=>true
 | .node _ F l r=>clC F.code&&(clT l&&clT r)
theorem clT_s:∀ {t:FT},clT t=true→t.All fun _ F=>clC F.code=true
 | .leaf,_=>trivial
 | .node _ F l r,h=>by
  simp only[clT,Bool.and_eq_true] at h
  exact⟨h.1,clT_s h.2.1,clT_s h.2.2⟩
theorem cl_ok:∀ f F,TX.funs f=some F→clC F.code=true:=fun _ _ h=>FT.get_all (clT_s (t:=ftab) (by decide +kernel)) h
end Go.Vm
/-
  From runs to rows and cards.
-/
namespace Go.Proofs.YtfdmcaddpfmchaaGreatDoor
open Go Go.Vm Go.ChangeShapes Go.WideShapes Go.ChangeAt Go.RowKit
section
variable {H:Type} {enc:TypeId × Value→H} {P:Program}
theorem post_of_below {f:Func} {s:ChangeSpec} {apart fresh handsOn again:Bool} {W W':World} {args:Array Value} {v:Value} {ds gs:List (DataW H)} {before pa pv:List MemPlace}
  (hW:DataW.Whole enc P f.params.toList s.vars apart W args.toList ds gs before)
  (hres:∀ (b:Nat) (sp:Nat→Bool) (hd:Bool),DataW.TrodAll enc P W' b sp hd f.resultTypes.toList (v.resultList f.resultTypes.size) (s.fn H (ds++gs)).results [])
  (hargs:∀ sp:Nat→Bool,(∀ p∈before,sp p.block=true)→DataW.TrodAll enc P W' 0 sp true f.params.toList args.toList (s.fn H (ds++gs)).args pa)
  (hvars:∀ sp:Nat→Bool,(∀ p∈before,sp p.block=true)→DataW.TrodVars enc P W' sp s.vars (s.fn H (ds++gs)).vars pv)
  (hps:before=pa++pv) (hb:Below W.heap.size W W')
  (hok:∀ (j:Nat) (t:TypeId) (r:Value),f.resultTypes[j]? = some t→(v.resultList f.resultTypes.size)[j]? = some r→Value.okWide P W' .any 0 t r) :
  s.post enc P f apart fresh handsOn again W args v W':=by
 have hlt:∀ p∈before,p.block<W.heap.size:=fun p hp=>hW.lt p hp
 have hold:∀ p∈before,(fun b=>decide (b<W.heap.size)) p.block=true:=fun p hp=>by simpa using hlt p hp
 refine⟨ds,gs,before,[],pa,pv,hW,hres _ _ _,hargs _ hold,hvars _ hold,World.keptBut_mono (fun p hp=>⟨hp,?_⟩) (hb.frame (·∈before)),fun _=>?_⟩
 ·rw[hps,List.mem_append] at hp
  exact Or.inr hp
 ·obtain⟨_,_,_,_,_,hz,hn⟩:=hW
  refine⟨hok,_,_,([]++pa)++pv,⟨[]++pa,pv,trodAll_append (hargs _ (fun _ _=>rfl)) (hres _ _ _),hvars _ (fun _ _=>rfl),rfl,?_,?_⟩,?_⟩
  ·intro b off hp
   have hin:MemPlace.cell b off∈before:=by rw[hps];simpa using hp
   rw[hb.frozen (hlt _ hin)]
   exact hz b off hin
  ·intro ha
   have:=hn ha
   rw[hps] at this
   simpa using this
  ·intro p hp _
   rw[hps]
   simpa using hp
end
theorem own:ownKnob Tryz.prog.godebug=none:=by kernel_rfl
theorem orders:Tryz.prog.follows .mixedOrders=true:=by kernel_rfl
end Go.Proofs.YtfdmcaddpfmchaaGreatDoor
/-
  What Go's routines without a body answer.
-/
namespace Go.Vm
open Go Go.Sp
def cmpBytes (a b:Txt):Int:=Lib.compareBytes a b
theorem cmpBytes_says (a b:Txt):SaysT TX 296 [eS a,eS b] (eI (cmpBytes a b)):=fun sg=>call_prim rfl rfl
def indexByte (a:Txt) (c:UInt8):Int:=Lib.indexByte a c
end Go.Vm
/-
  slices.Clone, as a routine: what it answers.
-/
namespace Go.Vm
open Go Go.Sp
theorem clone_no {f:FuncId} {z:Nat} {β:Type} {en:β→V} (l:List β) (hl:l.length≤lim) (hf:TX.funs f=none) (hp:TX.prim f=cloneX LX f) (hL:LX f=some (z,false)):SaysT TX f [.sl .no z (l.map en)] (.sl .no z (l.map en)):=fun sg=>call_prim hf (by
 rw[hp]
 unfold cloneX
 rw[hL]
 have h1:(Nat.beq z z&&(Nat.ble (l.map en).length lim&&(!false||(l.map en).all cel)))=true:=by
  rw[Nat.beq_refl,List.length_map,Nat.ble_eq_true_of_le hl];rfl
 show(bif (Nat.beq z z&&(Nat.ble (l.map en).length lim&&(!false||(l.map en).all cel))) then cloneR z (l.map en) sg false else none)=_
 rw[h1];rfl)
theorem clone_mu {f:FuncId} {z:Nat} {β:Type} {en:β→V} (l:List β) (hl:l.length≤lim) (hc:∀ x∈l,cel (en x)=true) {f0:Fr} {sg:List Fr} (hf:TX.funs f=none) (hp:TX.prim f=cloneX LX f) (hL:LX f=some (z,true)) :
  ∃ w,w≤1∧TX.call f [.sl .no z (l.map en)] (f0::sg)=some (.bs 0 f0.length l.length 0 l.length,(f0 ++ [.arr l.length z (l.map en)])::sg,w):=⟨1,Nat.le_refl _,call_prim hf (by
 rw[hp]
 unfold cloneX
 rw[hL]
 have h0:(l.map en).all cel=true:=by
  rw[List.all_eq_true]
  intro v hv
  obtain⟨x,hx,rfl⟩:=List.mem_map.1 hv
  exact hc x hx
 have h1:(Nat.beq z z&&(Nat.ble (l.map en).length lim&&(!true||(l.map en).all cel)))=true:=by
  rw[Nat.beq_refl,List.length_map,Nat.ble_eq_true_of_le hl,h0];rfl
 show(bif (Nat.beq z z&&(Nat.ble (l.map en).length lim&&(!true||(l.map en).all cel))) then cloneR z (l.map en) (f0::sg) true else none)=_
 rw[h1]
 simp only[cond_true,cloneR,List.length_map])⟩
def cloneBind (l:List Sp.Bind):List Sp.Bind:=l
theorem cloneBind_says (l:List Sp.Bind) (hl:l.length≤1000000):SaysT TX 108 [eL 4 eBind l] (eL 4 eBind (cloneBind l)):=clone_no l (Nat.le_trans hl (by decide)) rfl rfl rfl
def cloneVal (l:List Sp.Val):List Sp.Val:=l
theorem cloneVal_says (l:List Sp.Val) (hl:l.length≤1000000):SaysT TX 177 [eL 3 eVal l] (eL 3 eVal (cloneVal l)):=clone_no l (Nat.le_trans hl (by decide)) rfl rfl rfl
def cloneTerm (l:List Sp.Term):List Sp.Term:=l
theorem cloneTerm_says (l:List Sp.Term) (hl:l.length≤1000000):SaysT TX 247 [eL 4 eTerm l] (eL 4 eTerm (cloneTerm l)):=clone_no l (Nat.le_trans hl (by decide)) rfl rfl rfl
def cloneCond (l:List Sp.Cond):List Sp.Cond × Nat × Nat:=(l,l.length,l.length)
theorem cloneCond_in (l:List Sp.Cond) (hl:l.length≤1000000) {f0:Fr} {sg:List Fr}:(fun(r:List Sp.Cond × Nat × Nat)=>∃ w,w≤1∧TX.call 257 [eL 6 eCond l] (f0::sg)=some (.bs 0 (f0.length+0) r.2.1 0 r.2.2,(f0 ++ [.arr r.2.1 6 (r.1.map eCond)])::sg,w)) (cloneCond l):=clone_mu l (Nat.le_trans hl (by decide)) (fun _ _=>rfl) rfl rfl rfl
end Go.Vm
