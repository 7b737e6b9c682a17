/-
  A part of a proof: the last text of the claim says what is proved, and under which conditions.
-/
import Derived.Calls
import Derived.Below
import Derived.Laws.Strings
import Derived.Laws.StructEq
import Derived.Laws.Tables
import Derived.Lib.IndexBytes
import Derived.Laws.BitsLemmas
set_option linter.unusedSimpArgs false
set_option linter.unusedVariables false
set_option linter.unnecessarySimpa false
/-
  The machine V: definitions. Values without memory for what does not change, boxes and arrays in a stack of frames for what does;
  no tape, no capacities, no order of evaluation. (What it says of Go is shown in the texts Vm1 ..)
-/
namespace Go.Vm
inductive Tok where
 |no|ex|at (d i ver:Nat)
 deriving DecidableEq,Repr,Inhabited
inductive V where
 |und
 |bool (b:Bool)
 |int (k:IntKind) (n:Int)
 |str (s:List UInt8)
 |nilp
 |bp (d i o:Nat)
 |ep (cs:List V) (o:Nat)
 |ap (d i ver j o:Nat)
 |sl (t:Tok) (sz:Nat) (es:List V)
 |bs (d i ver o len:Nat)
 |nilm
 |mp (d i:Nat)
 |fn (f:FuncId) (first captured:List V)
 |nilf
 |iface (t:TypeId) (v:V)
 |nili
 |agg (cs:List V)
 |tup (vs:List V)
 deriving Inhabited,Repr
inductive Blk where
 |box (cs:List V)
 |arr (ver sz:Nat) (es:List V)
 |tok (ver:Nat)
 |map (es:List (V × V))
 |dead
 deriving Inhabited,Repr
abbrev Fr:=List Blk
inductive O where
 |t (n:Nat)
 |c (v:V)
 deriving Inhabited,Repr
inductive VO where
 |mv (x:O)
 |nw (sz:Nat)
 |pick (c a b:O)
 |bin (op:BinOp) (x y:O)
 |eqb (neg:Bool) (x y:O)
 |eqs (neg:Bool) (ks:List Nat) (x y:O)
 |eqn (k:Nat) (neg:Bool) (x:O)
 |not (x:O)
 |neg (x:O)
 |wrp (k:IntKind) (x:O)
 |ss (x:O)
 |s2b (x:O)
 |b2s (x:O)
 |ld (ag:Bool) (sz:Nat) (a:O)
 |st (ag:Bool) (sz:Nat) (a v:O)
 |nc (x:O)
 |fa (off:Nat) (a:O)
 |ia (n:Option Nat) (sz:Nat) (x i:O)
 |ix (x i:O)
 |iv (ag:Bool) (sz n:Nat) (x i:O)
 |fd (ag:Bool) (off sz:Nat) (x:O)
 |ex (x:O) (i:Nat)
 |nm (sz:Nat)
 |al (z:List V) (tk:List Nat)
 |bx (x:O) (tk:List Nat)
 |be (x:O)
 |bd (z:List V) (ps:List (Nat × Nat × O))
 |bl (sz:Nat) (es:List O)
 |bm (sz:Nat) (es:List O)
 |mk (d:Nat) (ag:Bool) (z:List V) (n c:O)
 |cut (st:Bool) (sz:Nat) (x:O) (lo hi mx:Option O)
 |mf (f:FuncId) (first captured:List O)
 |mi (t:TypeId) (x:O)
 |call (f:FuncId) (as:List O)
 |cv (f:O) (as:List O)
 |inv (r:O) (ms:List (TypeId × FuncId)) (as:List O)
 |len (st:Bool) (x:O)
 |cap (x:O)
 |app (sz:Nat) (x y:O)
 |am (sz:Nat) (x y:O)
 |az (ag:Bool) (z:List V) (x n:O)
 |mn (xs:List O)
 |mx (xs:List O)
 |clr (z:List V) (x:O)
 |fz (x:O)
 |mm
 |mg (ok:Bool) (K:Option IntKind) (z:V) (m k:O)
 |mu (K:Option IntKind) (m k v:O)
 |ml (m:O)
 |bad
 deriving Inhabited,Repr
structure VOp where
 d:Option Nat
 o:VO
 g:Option (Nat × Bool)
 deriving Inhabited,Repr
structure DOp where
 ix:Nat
 bf:List Nat
 op:VOp
 main:Bool
 re:List Nat
 deriving Inhabited,Repr
inductive VC where
 |skip
 |reg (ops:List VOp)
 |drw (ops:List DOp)
 |seq (a b:VC)
 |cond (c:O) (t e:VC)
 |block (id:Nat) (b:VC)
 |loop (live:List Nat) (b:VC)
 |exit (id:Nat)
 |ret
 |bad
 deriving Inhabited,Repr
structure VF where
 code:VC
 res:List (Nat × Option (Bool × Nat))
 keepR:Bool:=false
 deriving Inhabited,Repr
def upd (e:Nat→V) (t:Nat) (v:V):Nat→V:=fun u=>bif Nat.beq u t then v else e u
def env:List V→Nat→V
 | [],_=>.und
 |v::_,0=>v
 |_::vs,n+1=>env vs n
def mkE:List Nat→List V→Nat→V
 |t::ts,v::vs,u=>bif Nat.beq u t then v else mkE ts vs u
 |_,_,_=>.und
def rd (e:Nat→V):O→V
 | .t n=>e n
 | .c v=>v
def cellsOf:V→List V
 | .agg cs=>cs
 |v=>[v]
def pu0:V→Bool
 | .bool _ | .int _ _ | .str _ | .nilp | .ep _ _ | .sl .no _ _ | .sl .ex _ _ | .nilm | .nilf | .nili=>true
 |_=>false
def pu1:V→Bool
 | .fn _ a b=>a.all pu0&&b.all pu0
 | .iface _ v=>pu0 v
 |v=>pu0 v
def pu2:V→Bool
 | .agg cs=>cs.all pu1
 |v=>pu1 v
def pu3:V→Bool
 | .tup vs=>vs.all pu2
 |v=>pu2 v
def sh0 (k:Nat):V→V
 | .bp d i o=>.bp (d+k) i o
 | .ap d i v j o=>.ap (d+k) i v j o
 | .bs d i v o l=>.bs (d+k) i v o l
 | .mp d i=>.mp (d+k) i
 | .sl (.at d i v) z es=>.sl (.at (d+k) i v) z es
 | .fn _ _ _ | .iface _ _ | .agg _ | .tup _=>.und
 |v=>v
def sh1 (k:Nat):V→V
 | .fn f a b=>.fn f (a.map (sh0 k)) (b.map (sh0 k))
 | .iface t v=>.iface t (sh0 k v)
 |v=>sh0 k v
def sh2 (k:Nat):V→V
 | .agg cs=>.agg (cs.map (sh1 k))
 |v=>sh1 k v
def dn0 (k:Nat):V→Option V
 | .bp d i o=>bif Nat.ble k d then some (.bp (d-k) i o) else none
 | .ap d i v j o=>bif Nat.ble k d then some (.ap (d-k) i v j o) else none
 | .bs d i v o l=>bif Nat.ble k d then some (.bs (d-k) i v o l) else none
 | .mp d i=>bif Nat.ble k d then some (.mp (d-k) i) else none
 | .sl (.at d i v) z es=>bif Nat.ble k d then some (.sl (.at (d-k) i v) z es) else some (.sl .no z es)
 | .fn _ _ _ | .iface _ _ | .agg _ | .tup _=>none
 |v=>some v
def dn1 (k:Nat):V→Option V
 | .fn f a b=>(a.mapM (dn0 k)).bind fun a=>(b.mapM (dn0 k)).map fun b=>.fn f a b
 | .iface t v=>(dn0 k v).map (.iface t)
 |v=>dn0 k v
def lt0 (n:Nat):V→Bool
 | .bp 0 i _ | .ap 0 i _ _ _ | .bs 0 i _ _ _ | .mp 0 i | .sl (.at 0 i _) _ _=>Nat.blt i n
 | .fn _ _ _ | .iface _ _ | .agg _ | .tup _=>false
 |_=>true
def lt1 (n:Nat):V→Bool
 | .fn _ a b=>a.all (lt0 n)&&b.all (lt0 n)
 | .iface _ v=>lt0 n v
 |v=>lt0 n v
def lt2 (n:Nat):V→Bool
 | .agg cs=>cs.all (lt1 n)
 |v=>lt1 n v
def lt3 (n:Nat):V→Bool
 | .tup vs=>vs.all (lt2 n)
 |v=>lt2 n v
def ltB (n:Nat):Blk→Bool
 | .box cs=>cs.all (lt1 n)
 |_=>true
def dt0:V→V
 | .sl _ z es=>.sl .no z es
 |v=>v
def dx0:V→V
 | .sl (.at _ _ _) z es=>.sl .no z es
 |v=>v
def dt2:V→V
 | .agg cs=>.agg (cs.map dt0)
 |v=>dt0 v
def fz0 (fr:Fr):V→V
 | .sl _ z es=>.sl .no z es
 | .bs 0 i ver o len=>match fr[i]? with
  |some (.arr ver' z es)=>bif Nat.beq ver ver'&&Nat.ble (o+len) es.length then .sl .no z ((es.drop o).take len) else .und
  |_=>.und
 |v=>v
def fz2 (fr:Fr):V→V
 | .agg cs=>.agg (cs.map (fz0 fr))
 |v=>fz0 fr v
def fz3 (fr:Fr):V→V
 | .tup vs=>.tup (vs.map (fz2 fr))
 |v=>fz2 fr v
def mg0 (n:Nat):V→V
 | .bp 0 i o=>.bp 0 (n+i) o
 | .bp (d+1) i o=>.bp d i o
 | .ap 0 i v j o=>.ap 0 (n+i) v j o
 | .ap (d+1) i v j o=>.ap d i v j o
 | .bs 0 i v o l=>.bs 0 (n+i) v o l
 | .bs (d+1) i v o l=>.bs d i v o l
 | .mp 0 i=>.mp 0 (n+i)
 | .mp (d+1) i=>.mp d i
 | .sl (.at 0 i v) z es=>.sl (.at 0 (n+i) v) z es
 | .sl (.at (d+1) i v) z es=>.sl (.at d i v) z es
 | .fn _ _ _ | .iface _ _ | .agg _ | .tup _=>.und
 |v=>v
def mg1 (n:Nat):V→V
 | .fn f a b=>.fn f (a.map (mg0 n)) (b.map (mg0 n))
 | .iface t v=>.iface t (mg0 n v)
 |v=>mg0 n v
def mg2 (n:Nat):V→V
 | .agg cs=>.agg (cs.map (mg1 n))
 |v=>mg1 n v
def mg3 (n:Nat):V→V
 | .tup vs=>.tup (vs.map (mg2 n))
 |v=>mg2 n v
def mgB (n:Nat):Blk→Blk
 | .box cs=>.box (cs.map (mg1 n))
 |b=>b
structure St where
 tm:Nat→V
 fr:Fr
 sg:List Fr
 wd:Nat
def getB (fr:Fr) (sg:List Fr):Nat→Nat→Option Blk
 |0,i=>fr[i]?
 |d+1,i=>(sg[d]?).bind (·[i]?)
def St.get (s:St) (d i:Nat):Option Blk:=getB s.fr s.sg d i
def St.set (s:St) (d i:Nat) (b:Blk):St:=
 match d with
 |0=>{ s with fr:=s.fr.set i b }
 |d+1=>{ s with sg:=s.sg.modify d (·.set i b),wd:=max s.wd (d+1) }
def ldC (ag:Bool) (sz:Nat) (cs:List V) (o:Nat):Option V:=
 bif ag then(bif Nat.ble (o+sz) cs.length then some (.agg ((cs.drop o).take sz)) else none) else cs[o]?
def scal:V→Bool
 | .agg _ | .tup _ | .und=>false
 |_=>true
def whole (v:V):Bool:=scal v||(match v with | .agg _=>true|_=>false)
def stC (ag:Bool) (sz:Nat) (cs:List V) (o:Nat) (v:V):Option (List V):=
 bif ag then
  match v with
  | .agg vs=>bif Nat.beq vs.length sz&&(Nat.ble (o+sz) cs.length&&vs.all scal) then some (cs.take o++vs++cs.drop (o+sz)) else none
  |_=>none
 else bif scal v&&Nat.blt o cs.length then some (cs.set o v) else none
def mkEl (ag:Bool) (cs:List V):V:=
 bif ag then .agg cs else match cs with | [v]=>bif scal v then v else .und|_=>.und
def reEl (e:V) (cs:List V):V:=
 match e with
 | .agg _=>.agg cs
 |_=>mkEl false cs
def dnS (d:Nat) (v:V):Option V:=
 match d with
 |0=>some v
 |d+1=>match v with
  | .agg cs=>(cs.mapM (dn1 (d+1))).map V.agg
  |v=>dn1 (d+1) v
def ldV (ag:Bool) (sz:Nat) (a:V) (s:St):Option V:=
 match a with
 | .bp d i o=>match s.get d i with
  |some (.box cs)=>(ldC ag sz cs o).map (match d with|0=>id|d+1=>sh2 (d+1))
  |_=>none
 | .ap d i ver j o=>match s.get d i with
  |some (.arr ver' _ es)=>bif Nat.beq ver ver' then(es[j]?).bind fun e=>ldC ag sz (cellsOf e) o else none
  |_=>none
 | .ep cs o=>ldC ag sz cs o
 |_=>none
def stV (ag:Bool) (sz:Nat) (a v:V) (s:St):Option St:=
 match a with
 | .bp d i o=>match s.get d i with
  |some (.box cs)=>(dnS d v).bind fun v=>(stC ag sz cs o v).map fun cs=>s.set d i (.box cs)
  |_=>none
 | .ap d i ver j o=>match s.get d i with
  |some (.arr ver' z es)=>bif Nat.beq ver ver' then
    (es[j]?).bind fun e=>(stC ag sz (cellsOf e) o (dt2 v)).bind fun cs=>
     let e':=reEl e cs
     bif pu2 e' then some (s.set d i (.arr ver z (es.set j e'))) else none
   else none
  |_=>none
 |_=>none
def len? : V→Option Nat
 | .sl _ _ es=>some es.length
 | .str s=>some s.length
 | .bs _ _ _ _ n=>some n
 |_=>none
def isStr:V→Bool
 | .str _=>true
 |_=>false
def els (sz:Nat) (s:St):V→Option (List V)
 | .sl _ z es=>bif Nat.beq z sz then some es else none
 | .bs d i ver o len=>match s.get d i with
  |some (.arr ver' z es)=>bif Nat.beq z sz&&(Nat.beq ver ver'&&Nat.ble (o+len) es.length) then some ((es.drop o).take len) else none
  |_=>none
 | .str s=>bif Nat.beq sz 1 then some (s.map fun b=>.int .u8 b.toNat) else none
 |_=>none
def binI (op:BinOp) (k:IntKind) (a b:Int):Option V:=
 match op with
 | .add=>some (.int k (k.wrap (a+b)))
 | .sub=>some (.int k (k.wrap (a-b)))
 | .mul=>some (.int k (k.wrap (a*b)))
 | .quo=>bif b == 0 then none else some (.int k (k.wrap (a.tdiv b)))
 | .rem=>bif b == 0 then none else some (.int k (a.tmod b))
 | .and=>some (.int k (k.wrap (BitVec.ofInt k.bits a &&& BitVec.ofInt k.bits b).toNat))
 | .eql=>some (.bool (a == b))
 | .neq=>some (.bool (a != b))
 | .lss=>some (.bool (decide (a<b)))
 | .leq=>some (.bool (decide (a≤b)))
 | .gtr=>some (.bool (decide (a>b)))
 | .geq=>some (.bool (decide (a≥b)))
 |_=>none
def bLess:List UInt8→List UInt8→Bool
 |_,[]=>false
 | [],_::_=>true
 |a::x,b::y=>a<b||(a == b&&bLess x y)
def maxL:Nat:=9223372036854775807
def binS (op:BinOp) (a b:List UInt8):Option V:=
 match op with
 | .add=>bif Nat.ble (a.length+b.length) maxL then some (.str (a++b)) else none
 | .eql=>some (.bool (a == b))
 | .neq=>some (.bool (!(a == b)))
 | .lss=>some (.bool (bLess a b))
 | .leq=>some (.bool (bLess a b||a == b))
 | .gtr=>some (.bool (!(bLess a b||a == b)))
 | .geq=>some (.bool (!(bLess a b)))
 |_=>none
def binV (op:BinOp):V→V→Option V
 | .int k a,.int j b=>match op with
  | .shl=>bif decide (b<0) then none else some (.int k (k.wrap (a*2 ^ min b.toNat k.bits)))
  | .shr=>bif decide (b<0) then none else some (.int k (a.fdiv (2 ^ min b.toNat k.bits)))
  |_=>bif k == j then binI op k a b else none
 | .str a,.str b=>binS op a b
 |_,_=>none
def eqK:Nat→V→V→Option Bool
 |0,.bool a,.bool b=>some (a == b)
 |1,.int k a,.int j b=>bif k == j then some (a == b) else none
 |2,.str a,.str b=>some (a == b)
 |_,_,_=>none
def eqL:List Nat→List V→List V→Option Bool
 | [],[],[]=>some true
 |k::ks,a::as,b::bs=>(eqK k a b).bind fun x=>(eqL ks as bs).map fun y=>x&&y
 |_,_,_=>none
def nil? : V→Option Bool
 | .nilp | .nili | .nilf | .nilm=>some true
 | .bp _ _ _ | .ep _ _ | .ap _ _ _ _ _ | .iface _ _ | .fn _ _ _ | .mp _ _=>some false
 |_=>none
def nilK:Nat→V→Option Bool
 |0,.nilp|1,.nili|2,.nilf|3,.nilm=>some true
 |0,.bp _ _ _|0,.ep _ _|0,.ap _ _ _ _ _|1,.iface _ _|2,.fn _ _ _|3,.mp _ _=>some false
 |_,_=>none
def nat? : V→Option Nat
 | .int _ n=>match n with | .ofNat m=>some m|_=>none
 |_=>none
def onat (e:Nat→V) (dflt:Nat):Option O→Option Nat
 |none=>some dflt
 |some o=>nat? (rd e o)
def fillC (cs:List V):List (Nat × Nat × List V)→Option (List V)
 | []=>some cs
 |(o,z,vs)::r=>bif Nat.beq vs.length z&&Nat.ble (o+z) cs.length then fillC (cs.take o++vs++cs.drop (o+z)) r else none
def cutV (sz:Nat) (s:St) (lo hi mx:Option O):V→Option V
 | .str b=>bif mx.isNone then
   (onat s.tm 0 lo).bind fun l=>(onat s.tm b.length hi).bind fun h=>
    bif Nat.ble l h&&Nat.ble h b.length then some (.str ((b.drop l).take (h-l))) else none
  else none
 | .sl t z es=>
   (onat s.tm 0 lo).bind fun l=>(onat s.tm es.length hi).bind fun h=>
    bif Nat.beq z sz&&(Nat.ble l h&&Nat.ble h es.length) then
     match mx with
     |none=>some (.sl (bif Nat.beq h es.length&&(t == .ex||Nat.beq l 0) then t else .no) z ((es.drop l).take (h-l)))
     |some m=>(nat? (rd s.tm m)).bind fun m=>
      bif hi.isSome&&(Nat.ble h m&&Nat.ble m es.length) then some (.sl (bif Nat.beq h m then .ex else .no) z ((es.drop l).take (h-l))) else none
    else none
 | .bs d i ver o len=>match s.get d i with
  |some (.arr ver' z _)=>bif mx.isNone&&(Nat.beq z sz&&Nat.beq ver ver') then
   (onat s.tm 0 lo).bind fun l=>(onat s.tm len hi).bind fun h=>
    bif Nat.ble l h&&Nat.ble h len then some (.bs d i ver (o+l) (h-l)) else none
   else none
  |_=>none
 |_=>none
def b2sL:List V→Option (List UInt8)
 | []=>some []
 | .int .u8 n::vs=>(b2sL vs).map (UInt8.ofNat n.toNat :: ·)
 |_=>none
def intOf:V→Option Int
 | .int _ n=>some n
 |_=>none
def mnV (f:Int→Int→Int):List V→Option V
 | []=>none
 | .int k n::vs=>(vs.mapM intOf).map fun l=>.int k (l.foldl f n)
 |_=>none
def elV (sz:Nat) (v:V):Option V:=let v:=dt2 v;bif pu2 v&&Nat.beq (cellsOf v).length sz then some v else none
abbrev Call:=FuncId→List V→List Fr→Option (V × List Fr × Nat)
structure Cfg where
 keepA:FuncId→Bool
def methF (t:TypeId):List (TypeId × FuncId)→Option FuncId
 | []=>none
 |(u,f)::r=>bif Nat.beq t u then some f else methF t r
def argV (keep:Bool) (v:V):V:=sh2 1 (bif keep then v else dt2 v)
def doCall (C:Cfg) (call:Call) (f:FuncId) (as:List V) (s:St):Option (V × St):=
 match call f (as.map (argV (C.keepA f))) (s.fr::s.sg) with
 |some (v,fr::sg,wd)=>some (v,{ s with fr,sg,wd:=max s.wd (wd-1) })
 |_=>none
def doFn (C:Cfg) (call:Call) (f:V) (as:List V) (s:St):Option (V × St):=
 match f with
 | .fn g first captured=>doCall C call g (first++as++captured) s
 |_=>none
def lim:Nat:=1073741824
def cel (e:V):Bool:=(cellsOf e).all scal
def appV (sz:Nat) (s:St) (x:V) (ys:List V):Option (V × St):=
 match x with
 | .sl t z es=>
  bif Nat.beq z sz&&Nat.ble (es.length+ys.length) lim then match ys with
  | []=>some (x,s)
  |_=>match t with
   | .no=>none
   | .ex=>some (.sl (.at 0 s.fr.length (es.length+ys.length)) z (es++ys),{ s with fr:=s.fr ++ [.tok (es.length+ys.length)] })
   | .at d i ver=>match s.get d i with
    |some (.tok ver')=>bif Nat.beq ver ver'&&ys.all cel then some (.sl (.at d i (ver+ys.length)) z (es++ys),s.set d i (.tok (ver+ys.length))) else none
    |_=>none
  else none
 |_=>none
def amV (sz:Nat) (s:St) (x:V) (ys:List V):Option (V × St):=
 match x with
 | .sl .ex z es=>
  bif Nat.beq z sz&&Nat.ble (es.length+ys.length) lim then match ys with
  | []=>some (x,s)
  |_=>some (.bs 0 s.fr.length (es.length+ys.length) 0 (es.length+ys.length),{ s with fr:=s.fr ++ [.arr (es.length+ys.length) z (es++ys)] })
  else none
 | .bs d i ver o len=>match s.get d i with
  |some (.arr ver' z es)=>bif Nat.beq z sz&&(Nat.beq ver ver'&&(Nat.ble (o+len) es.length&&(Nat.ble (len+ys.length) lim&&ys.all cel))) then
    (match ys with
    | []=>some (x,s)
    |_=>some (.bs d i (ver+ys.length) 0 (len+ys.length),s.set d i (.arr (ver+ys.length) z ((es.drop o).take len++ys))))
   else none
  |_=>none
 |_=>none
def growS (n j k:Nat) (cs:List V):List V:=
 match cs[k % 1000]? with
 |some (.sl .ex z [])=>bif Nat.blt k 1000 then cs.set (k % 1000) (.sl (.at 0 (n+1+j) 0) z []) else bif Nat.beq z (k / 1000) then cs.set (k % 1000) (.bs 0 (n+1+j) 0 0 0) else cs
 |_=>cs
def growC (n:Nat):List V→Nat→List Nat→List V
 |cs,_,[]=>cs
 |cs,j,k::ks=>growC n (growS n j k cs) (j+1) ks
def blkT (k:Nat):Blk:=bif Nat.blt k 1000 then .tok 0 else .arr 0 (k / 1000) []
def boxT (n:Nat) (cs:List V) (tk:List Nat):Fr:=.box (growC n cs 0 tk)::tk.map blkT
def ms1:V→Bool
 | .bool _ | .int _ _ | .str _=>true
 |_=>false
def kK:Option IntKind→V→Bool
 |some j,.int k _=>k == j
 |none,.str _=>true
 |_,_=>false
def sk:V→V→Option Bool
 | .int k a,.int j b=>bif k == j then some (a == b) else none
 | .str a,.str b=>some (a == b)
 |_,_=>none
def findM (k:V):List (V × V)→Nat→Option (Option (Nat × V))
 | [],_=>some none
 |(a,b)::r,i=>match sk k a with
  |some true=>some (some (i,b))
  |some false=>findM k r (i+1)
  |none=>none
def lookM (ok:Bool) (z:V) (s:St) (m k:V):Option V:=
 match m with
 | .nilm=>some (bif ok then .tup [z,.bool false] else z)
 | .mp d i=>match s.get d i with
  |some (.map es)=>(findM k es 0).map fun r=>let u:=(r.map (·.2)).getD z;bif ok then .tup [u,.bool r.isSome] else u
  |_=>none
 |_=>none
def updM (s:St) (m k v:V):Option St:=
 match m with
 | .mp d i=>match s.get d i with
  |some (.map es)=>bif ms1 v then(findM k es 0).map fun r=>s.set d i (.map (match r with|some (j,_)=>es.set j (k,v)|none=>es ++ [(k,v)])) else none
  |_=>none
 |_=>none
def opV (C:Cfg) (call:Call) (o:VO) (s:St):Option (V × St):=
 let r:=rd s.tm
 match o with
 | .mv x=>some (r x,s)
 | .nw sz=>some (.sl (.at 0 s.fr.length 0) sz [],{ s with fr:=s.fr ++ [.tok 0] })
 | .pick c a b=>match r c with
  | .bool c=>some (bif c then r a else r b,s)
  |_=>none
 | .bin op x y=>(binV op (r x) (r y)).map (·,s)
 | .eqb n x y=>match r x,r y with
  | .bool a,.bool b=>some (.bool (bif n then !(a == b) else(a == b)),s)
  |_,_=>none
 | .eqs n ks x y=>match r x,r y with
  | .agg as,.agg bs=>(eqL ks as bs).map fun b=>(.bool (bif n then !b else b),s)
  |_,_=>none
 | .eqn k n x=>(nilK k (r x)).map fun b=>(.bool (bif n then !b else b),s)
 | .not x=>match r x with
  | .bool b=>some (.bool !b,s)
  |_=>none
 | .neg x=>match r x with
  | .int k n=>some (.int k (k.wrap (0-n)),s)
  |_=>none
 | .wrp k x=>match r x with
  | .int _ n=>some (.int k (k.wrap n),s)
  |_=>none
 | .ss x=>match r x with
  | .str b=>some (.str b,s)
  |_=>none
 | .s2b x=>match r x with
  | .str b=>some (.sl .no 1 (b.map fun c=>.int .u8 c.toNat),s)
  |_=>none
 | .b2s x=>bif isStr (r x) then none else(els 1 s (r x)).bind fun l=>(b2sL l).map fun b=>(.str b,s)
 | .ld ag sz a=>(ldV ag sz (r a) s).map (·,s)
 | .st ag sz a v=>(stV ag sz (r a) (r v) s).map (.und,·)
 | .nc x=>match r x with
  | .fn _ _ _=>none
  |v=>match nil? v with
   |some false=>some (v,s)
   |_=>none
 | .fa off a=>match r a with
  | .bp d i o=>some (.bp d i (o+off),s)
  | .ep cs o=>some (.ep cs (o+off),s)
  | .ap d i v j o=>some (.ap d i v j (o+off),s)
  |_=>none
 | .ia none sz x i=>(nat? (r i)).bind fun i=>match r x with
  | .sl _ z es=>bif Nat.beq z sz then(es[i]?).map fun e=>(.ep (cellsOf e) 0,s) else none
  | .bs d b ver o len=>match s.get d b with
   |some (.arr ver' z _)=>bif Nat.beq z sz&&(Nat.beq ver ver'&&Nat.blt i len) then some (.ap d b ver (o+i) 0,s) else none
   |_=>none
  |_=>none
 | .ia (some n) sz x i=>(nat? (r i)).bind fun i=>bif Nat.blt i n then match r x with
  | .bp d b o=>some (.bp d b (o+i*sz),s)
  | .ep cs o=>some (.ep cs (o+i*sz),s)
  | .ap d b v j o=>some (.ap d b v j (o+i*sz),s)
  |_=>none else none
 | .ix x i=>(nat? (r i)).bind fun i=>match r x with
  | .str b=>(b[i]?).map fun c=>(.int .u8 c.toNat,s)
  |_=>none
 | .iv ag sz n x i=>(nat? (r i)).bind fun i=>match r x with
  | .agg cs=>bif Nat.blt i n then(ldC ag sz cs (i*sz)).map fun v=>(dt2 v,s) else none
  |_=>none
 | .fd ag off sz x=>match r x with
  | .agg cs=>(ldC ag sz cs off).map fun v=>(dt2 v,s)
  |_=>none
 | .ex x i=>match r x with
  | .tup vs=>(vs[i]?).map (·,s)
  |_=>none
 | .nm sz=>some (.bs 0 s.fr.length 0 0 0,{ s with fr:=s.fr ++ [.arr 0 sz []] })
 | .al z tk=>some (.bp 0 s.fr.length 0,{ s with fr:=s.fr++boxT s.fr.length z tk })
 | .bx x tk=>bif whole (r x) then some (.bp 0 s.fr.length 0,{ s with fr:=s.fr++boxT s.fr.length (cellsOf (r x)) tk }) else none
 | .be x=>bif whole (r x)&&(cellsOf (r x)).all pu1 then some (.ep (cellsOf (r x)) 0,s) else none
 | .bd z ps=>bif ps.all (fun p=>whole (r p.2.2)) then(fillC z (ps.map fun(o,n,x)=>(o,n,(cellsOf (r x)).map dx0))).map fun cs=>(.agg cs,s) else none
 | .bl sz es=>((es.map r).mapM (elV sz)).bind fun l=>some (.sl .ex sz l,s)
 | .bm sz es=>((es.map r).mapM (elV sz)).bind fun l=>some (.bs 0 s.fr.length l.length 0 l.length,{ s with fr:=s.fr ++ [.arr l.length sz l] })
 | .mk d ag z n c=>(nat? (r n)).bind fun n=>(nat? (r c)).bind fun c=>
   bif Nat.beq n c&&Nat.ble n lim then(match d with
    |0=>some (.bs 0 s.fr.length 1 0 n,{ s with fr:=s.fr ++ [.arr 1 z.length (List.replicate n (mkEl ag z))] })
    |d+1=>(s.sg[d]?).map fun f=>(.bs (d+1) f.length 1 0 n,{ s with sg:=s.sg.modify d (· ++ [.arr 1 z.length (List.replicate n (mkEl ag z))]),wd:=max s.wd (d+1) })) else none
 | .cut st sz x lo hi mx=>bif isStr (r x) == st then(cutV sz s lo hi mx (r x)).map (·,s) else none
 | .mf f a b=>some (.fn f (a.map r) (b.map r),s)
 | .mi t x=>some (.iface t (r x),s)
 | .call f as=>doCall C call f (as.map r) s
 | .cv f as=>doFn C call (r f) (as.map r) s
 | .inv x m as=>match r x with
  | .iface t v=>(methF t m).bind fun f=>doCall C call f (v::as.map r) s
  |_=>none
 | .len st x=>bif isStr (r x) == st then(len? (r x)).map fun(n:Nat)=>(V.int .i64 (n:Int),s) else none
 | .cap x=>match r x with
  | .sl .ex _ es=>some (.int .i64 es.length,s)
  |_=>none
 | .app sz x y=>(els sz s (r y)).bind fun l=>appV sz s (r x) l
 | .am sz x y=>(els sz s (r y)).bind fun l=>amV sz s (r x) l
 | .az ag z x n=>(nat? (r n)).bind fun n=>amV z.length s (r x) (List.replicate n (mkEl ag z))
 | .mn xs=>(mnV (fun a b=>bif decide (b<a) then b else a) (xs.map r)).map (·,s)
 | .mx xs=>(mnV (fun a b=>bif decide (b>a) then b else a) (xs.map r)).map (·,s)
 | .clr z x=>match r x with
  | .bs d i ver o len=>match s.get d i with
   |some (.arr ver' sz es)=>bif Nat.beq sz z.length&&(Nat.beq ver ver'&&Nat.ble (o+len) es.length) then
     some (.und,s.set d i (.arr ver sz (es.take o++(es.drop o).mapIdx (fun j e=>bif Nat.blt j len then(match e with | .agg _=>.agg z|_=>mkEl false z) else e)))) else none
   |_=>none
  | .sl _ _ []=>some (.und,s)
  |_=>none
 | .fz x=>match r x with
  | .bs 0 i ver o len=>match s.fr[i]? with
   |some (.arr ver' z es)=>bif Nat.beq ver ver'&&Nat.ble (o+len) es.length then some (.sl .no z ((es.drop o).take len),{ s with fr:=s.fr.set i .dead }) else none
   |_=>none
  | .sl _ z es=>some (.sl .no z es,s)
  |_=>none
 | .mm=>some (.mp 0 s.fr.length,{ s with fr:=s.fr ++ [.map []] })
 | .mg ok K z m k=>bif kK K (r k) then(lookM ok z s (r m) (r k)).map (·,s) else none
 | .mu K m k v=>bif kK K (r k) then(updM s (r m) (r k) (r v)).map (.und,·) else none
 | .ml m=>match r m with
  | .mp d i=>match s.get d i with
   |some (.map es)=>some (.int .i64 (es.length:Int),s)
   |_=>none
  |_=>none
 | .bad=>none
def put (s:St) (d:Option Nat) (v:V):St:=
 match d with
 |some t=>{ s with tm:=upd s.tm t v }
 |none=>s
def want (s:St):Option (Nat × Bool)→Option Bool
 |none=>some true
 |some (t,b)=>match s.tm t with
  | .bool c=>some (c == b)
  | .tup []=>some false
  |_=>none
def stepV (C:Cfg) (call:Call) (o:VOp) (s:St):Option St:=
 match want s o.g with
 |some true=>(opV C call o.o s).map fun(v,s)=>put s o.d v
 |some false=>some (put s o.d (.tup []))
 |none=>none
def runL (C:Cfg) (call:Call):List VOp→St→Option St
 | [],s=>some s
 |o::os,s=>(stepV C call o s).bind fun s=>runL C call os s
mutual
def veq:V→V→Bool
 | .und,.und | .nilp,.nilp | .nilm,.nilm | .nilf,.nilf | .nili,.nili=>true
 | .bool a,.bool b=>a == b
 | .int k n,.int j m=>k == j&&n == m
 | .str a,.str b=>a == b
 | .bp a b c,.bp d e f=>Nat.beq a d&&(Nat.beq b e&&Nat.beq c f)
 | .ep cs o,.ep ds p=>Nat.beq o p&&veqL cs ds
 | .ap a b c d e,.ap f g h i j=>Nat.beq a f&&(Nat.beq b g&&(Nat.beq c h&&(Nat.beq d i&&Nat.beq e j)))
 | .sl t z es,.sl u y fs=>t == u&&(Nat.beq z y&&veqL es fs)
 | .bs a b c d e,.bs f g h i j=>Nat.beq a f&&(Nat.beq b g&&(Nat.beq c h&&(Nat.beq d i&&Nat.beq e j)))
 | .mp a b,.mp c d=>Nat.beq a c&&Nat.beq b d
 | .fn f a b,.fn g c d=>f == g&&(veqL a c&&veqL b d)
 | .iface t v,.iface u w=>t == u&&veq v w
 | .agg as,.agg bs=>veqL as bs
 | .tup as,.tup bs=>veqL as bs
 |_,_=>false
def veqL:List V→List V→Bool
 | [],[]=>true
 |a::as,b::bs=>veq a b&&veqL as bs
 |_,_=>false
end
def freeO:VO→Bool
 | .mv _ | .pick _ _ _ | .bin _ _ _ | .eqb _ _ _ | .eqs _ _ _ _ | .eqn _ _ _ | .not _ | .neg _ | .wrp _ _ | .ss _ | .nc _ | .fa _ _ | .ia (some _) _ _ _ | .ix _ _ | .iv _ _ _ _ _ | .fd _ _ _ _ | .ex _ _
 | .be _ | .bd _ _ | .bl _ _ | .mf _ _ _ | .mi _ _ | .len _ _ | .mn _ | .mx _=>true
 |_=>false
def pureO:VO→Bool
 | .ld _ _ _ | .ia none _ _ _ | .cut _ _ _ _ _ _=>true
 |o=>freeO o
def callP (C:Cfg) (call:Call) (f:FuncId) (as:List V) (s:St):Option V:=
 match call f (as.map (argV (C.keepA f))) (s.fr::s.sg) with
 |some (v,_,wd)=>bif Nat.beq wd 0 then some v else none
 |_=>none
def fnP (C:Cfg) (call:Call) (f:V) (as:List V) (s:St):Option V:=
 match f with
 | .fn g first captured=>callP C call g (first++as++captured) s
 |_=>none
def opP (C:Cfg) (call:Call) (o:VO) (s:St):Option V:=
 match o with
 | .call f as=>callP C call f (as.map (rd s.tm)) s
 | .cv f as=>fnP C call (rd s.tm f) (as.map (rd s.tm)) s
 |o=>bif pureO o then(opV C call o s).map (·.1) else none
def stepP (C:Cfg) (call:Call) (o:VOp) (s:St):Option St:=
 match want s o.g with
 |some true=>(opP C call o.o s).map fun v=>put s o.d v
 |some false=>some (put s o.d (.tup []))
 |none=>none
def again (C:Cfg) (call:Call) (s:St) (o:VOp):Bool:=
 match want s o.g with
 |some true=>match opP C call o.o s,o.d with
  |some v,some t=>veq v (s.tm t)
  |_,_=>false
 |some false=>true
 |none=>false
def opAt (all:List DOp) (i:Nat):Option VOp:=
 match all with
 | []=>none
 |y::l=>bif Nat.beq y.ix i then some y.op else opAt l i
def againAt (C:Cfg) (call:Call) (all:List DOp) (s:St) (i:Nat):Bool:=
 match opAt all i with
 |some o=>again C call s o
 |none=>false
def drwV (C:Cfg) (call:Call) (all:List DOp):List DOp→St→Option St
 | [],s=>some s
 |x::l,s=>bif x.main then
   (stepV C call x.op s).bind fun s=>bif x.re.all (againAt C call all s) then drwV C call all l s else none
  else(stepP C call x.op s).bind fun s=>drwV C call all l s
inductive Ex where
 |normal|exit (id:Nat)|ret
 deriving DecidableEq,Repr,Inhabited
def trunc (n:Nat) (vals:List V) (fr:Fr):Fr:=
 bif Nat.beq fr.length n then fr
 else bif vals.all (lt3 n)&&(fr.take n).all (ltB n) then fr.take n else fr
structure LS where
 vals:List V
 fr:Fr
 sg:List Fr
 wd:Nat
def LS.st (live:List Nat) (l:LS):St:={ tm:=mkE live l.vals,fr:=l.fr,sg:=l.sg,wd:=l.wd }
def LS.next (n:Nat) (live:List Nat) (s:St):LS:=
 { vals:=live.map s.tm,fr:=trunc n (live.map s.tm) s.fr,sg:=s.sg,wd:=s.wd }
def iter (body:St→Option (Ex × St)) (n:Nat) (live:List Nat):Nat→LS→Option (Ex × St)
 |0,_=>none
 |k+1,l=>match body (l.st live) with
  |some (.normal,s)=>iter body n live k (LS.next n live s)
  |r=>r
def execF (C:Cfg) (call:Call) (fuel:Nat):VC→St→Option (Ex × St)
 | .skip,s=>some (.normal,s)
 | .reg ops,s=>(runL C call ops s).map (.normal,·)
 | .drw ops,s=>(drwV C call ops ops s).map (.normal,·)
 | .seq a b,s=>match execF C call fuel a s with
  |some (.normal,s)=>execF C call fuel b s
  |r=>r
 | .cond c t e,s=>match rd s.tm c with
  | .bool b=>bif b then execF C call fuel t s else execF C call fuel e s
  |_=>none
 | .block id b,s=>match execF C call fuel b s with
  |some (.exit j,s)=>bif Nat.beq j id then some (.normal,s) else some (.exit j,s)
  |r=>r
 | .loop live b,s=>iter (execF C call fuel b) s.fr.length live fuel { vals:=live.map s.tm,fr:=s.fr,sg:=s.sg,wd:=s.wd }
 | .exit id,s=>some (.exit id,s)
 | .ret,s=>some (.ret,s)
 | .bad,_=>none
def resV (s:St):Nat × Option (Bool × Nat)→Option V
 |(t,none)=>some (s.tm t)
 |(t,some (ag,sz))=>ldV ag sz (s.tm t) s
def one:List V→V
 | [v]=>v
 |vs=>.tup vs
def dnK (keep:Bool) (v:V):Option V:=
 match v with
 | .sl (.at 0 _ _) _ _=>bif keep then none else dn1 1 v
 |v=>dn1 1 v
def dnR (keep:Bool) (v:V):Option V:=
 match v with
 | .tup vs=>(vs.mapM fun(v:V)=>match v with|V.agg cs=>(cs.mapM (dnK keep)).map V.agg|v=>dnK keep v).map .tup
 | .agg cs=>(cs.mapM (dnK keep)).map V.agg
 |v=>dnK keep v
def leave (F:VF) (s:St):Option (V × List Fr × Nat):=
 (F.res.mapM (resV s)).bind fun vs=>
  let v:=bif F.keepR then one vs else fz3 s.fr (one vs)
  let sg:=s.sg
  bif pu3 v then some (v,sg,s.wd)
  else match sg with
   | []=>none
   |f::r=>match dnR F.keepR v with
    |some v=>some (v,f::r,s.wd)
    |none=>some (mg3 f.length (one vs),(f++s.fr.map (mgB f.length))::r,max s.wd 1)
def callF (C:Cfg) (funs:FuncId→Option VF) (prim:FuncId→List V→List Fr→Option (V × List Fr × Nat)):Nat→Call
 |0,_,_,_=>none
 |n+1,f,as,sg=>
  match funs f with
  |some F=>match execF C (callF C funs prim n) n F.code { tm:=env as,fr:=[],sg,wd:=0 } with
   |some (.normal,s)|some (.ret,s)=>leave F s
   |_=>none
  |none=>prim f as sg
end Go.Vm
/-
  The machine V and memory: when a value of V is a value of Go, when V's frames are Go's memory; first lemmas.
-/
namespace Go.Vm
open Go Go.RowKit
inductive Loc where
 |box (c o:Nat)
 |arr (ver c o sz cap:Nat)
 |arrN (ver:Nat)
 |tok (ver sz:Nat) (cur:Value)
 |map (c:Nat)
 |rsv (b:Blk)
 |gone
def Loc.cur:Loc→Option Nat
 | .arr v _ _ _ _ | .arrN v | .tok v _ _=>some v
 | .rsv _=>some 0
 |_=>none
structure Gh where
 im:Nat→Nat→Option Value
 ow:Nat→Nat→Option (Nat × Nat)
 ph:Nat→Nat→Option Loc
inductive PR (im:Nat→Nat→Option Value):V→Value→Prop
 |bool (b:Bool):PR im (.bool b) (.bool b)
 |int (k:IntKind) (n:Int):PR im (.int k n) (.int k n)
 |str (s:ByteArray) (l:List UInt8) (h:l=s.data.toList):PR im (.str l) (.string s)
 |nilp:PR im .nilp (.pointer none)
 |nilm:PR im .nilm (.map none)
 |nilf:PR im .nilf .nilFunc
 |nili:PR im .nili .nilIface
 |ep (cs:List V) (c o0 o:Nat) (f:Nat→Value) (hi:∀ q:Nat,q<cs.length→im c (o0+q)=some (f q))
  (hr:∀ (q:Nat) (x:V),cs[q]? = some x→PR im x (f q)):PR im (.ep cs o) (.pointer (some ⟨c,o0+o,none⟩))
 |sl (t:Tok) (z:Nat) (es:List V) (a:Option Addr) (cap:Nat) (f:Nat→Nat→Value) (ht:t = .no∨(t = .ex∧cap=es.length)) (hc:es.length≤cap) (ha:a=none→cap=0)
  (hsp:∀ x:Addr,a=some x→cap≠0→x.spot=none)
  (hi:∀ (x:Addr) (j q:Nat),a=some x→j<es.length→q<z→im x.block (x.off+(j*z+q))=some (f j q))
  (hz:∀ (j:Nat) (e:V),es[j]? = some e→(cellsOf e).length=z)
  (hr:∀ (j:Nat) (e:V) (q:Nat) (x:V),es[j]? = some e→(cellsOf e)[q]? = some x→PR im x (f j q)):PR im (.sl t z es) (.slice a es.length cap)
 |fn (f:FuncId) (a b:List V) (A B:Array Value) (ha:A.size=a.length) (hb:B.size=b.length)
  (ra:∀ (j:Nat) (x:V) (y:Value),a[j]? = some x→A[j]? = some y→PR im x y) (rb:∀ (j:Nat) (x:V) (y:Value),b[j]? = some x→B[j]? = some y→PR im x y) :
  PR im (.fn f a b) (.func (.func f) A B)
 |iface (t:TypeId) (v:V) (cv:Value) (h:PR im v cv):PR im (.iface t v) (.iface t cv)
 |agg (cs:List V) (A:Array Value) (hl:A.size=cs.length) (h:∀ (j:Nat) (x:V) (y:Value),cs[j]? = some x→A[j]? = some y→PR im x y):PR im (.agg cs) (.agg A)
inductive VR (im:Nat→Nat→Option Value) (ph:Nat→Nat→Option Loc) (l:Nat):V→Value→Prop
 |und (cv:Value):VR im ph l .und cv
 |pr (v:V) (cv:Value) (h:PR im v cv):VR im ph l v cv
 |bp (d i o c o0:Nat) (hd:d≤l) (hp:ph (l-d) i=some (.box c o0)):VR im ph l (.bp d i o) (.pointer (some ⟨c,o0+o,none⟩))
 |ap (d i ver j o:Nat) (loc:Loc) (cv:Value) (hd:d≤l) (hp:ph (l-d) i=some loc) (hv:∀ v,loc.cur=some v→ver≤v)
  (h:∀ c o0 sz cap,loc = .arr ver c o0 sz cap→cv = .pointer (some ⟨c,o0+(j*sz+o),none⟩)) (hk:∃ p,cv = .pointer (some p)):VR im ph l (.ap d i ver j o) cv
 |bs (d i ver o len:Nat) (a:Option Addr) (cp:Nat) (loc:Loc) (hd:d≤l) (hp:ph (l-d) i=some loc) (hv:∀ v,loc.cur=some v→ver≤v)
  (hc:len≤cp) (ha:a=none→cp=0) (hsp:∀ x:Addr,a=some x→cp≠0→x.spot=none)
  (h:∀ c o0 sz cap,loc = .arr ver c o0 sz cap→cp=0∨(a=some ⟨c,o0+o*sz,none⟩∧o+cp≤cap))
  (hn:loc = .arrN ver→cp=0):VR im ph l (.bs d i ver o len) (.slice a len cp)
 |mp (d i c:Nat) (hd:d≤l) (hp:ph (l-d) i=some (.map c)):VR im ph l (.mp d i) (.map (some c))
 |slat (d i ver z:Nat) (es:List V) (loc:Loc) (cv:Value) (hd:d≤l) (hp:ph (l-d) i=some loc) (hv:∀ v,loc.cur=some v→ver≤v)
  (hs:PR im (.sl .no z es) cv) (h:∀ sz cur,loc = .tok ver sz cur→cv=cur∧sz=z):VR im ph l (.sl (.at d i ver) z es) cv
 |fn (f:FuncId) (a b:List V) (A B:Array Value) (ha:A.size=a.length) (hb:B.size=b.length)
  (ra:∀ (j:Nat) (x:V) (y:Value),a[j]? = some x→A[j]? = some y→VR im ph l x y) (rb:∀ (j:Nat) (x:V) (y:Value),b[j]? = some x→B[j]? = some y→VR im ph l x y) :
  VR im ph l (.fn f a b) (.func (.func f) A B)
 |iface (t:TypeId) (v:V) (cv:Value) (h:VR im ph l v cv):VR im ph l (.iface t v) (.iface t cv)
 |agg (cs:List V) (A:Array Value) (hl:A.size=cs.length) (h:∀ (j:Nat) (x:V) (y:Value),cs[j]? = some x→A[j]? = some y→VR im ph l x y):VR im ph l (.agg cs) (.agg A)
 |tup (cs:List V) (A:Array Value) (hl:A.size=cs.length) (h:∀ (j:Nat) (x:V) (y:Value),cs[j]? = some x→A[j]? = some y→VR im ph l x y):VR im ph l (.tup cs) (.tuple A)
def LocLe:Loc→Loc→Prop
 | .box c o,.box c' o'=>c=c'∧o=o'
 | .map c,.map c'=>c=c'
 | .rsv z,.rsv z'=>z=z'
 | .tok v z x,.tok v' z' x'=>z=z'∧v≤v'∧(v=v'→x=x')
 | .arr v c o z n,.arr v' c' o' z' n'=>v≤v'∧(v=v'→c=c'∧o=o'∧z=z'∧n=n')
 | .arrN v,.arrN v'=>v=v'
 | .arrN v,.arr v' _ _ _ _=>v<v'
 | .arr _ _ _ _ _,.gone | .arrN _,.gone | .tok _ _ _,.gone | .gone,.gone=>True
 |_,_=>False
theorem LocLe.refl (x:Loc):LocLe x x:=by cases x<;>simp[LocLe]
theorem LocLe.trans {x y z:Loc} (h:LocLe x y) (k:LocLe y z):LocLe x z:=by
 cases x<;>cases y<;>cases z<;>simp only[LocLe] at *<;>try trivial
 case box=>exact⟨h.1.trans k.1,h.2.trans k.2⟩
 case arr.arr.arr=>
  refine⟨Nat.le_trans h.1 k.1,fun e=>?_⟩
  obtain⟨a,b,c,d⟩:=h.2 (by have:=h.1;have:=k.1;omega)
  obtain⟨a',b',c',d'⟩:=k.2 (by have:=h.1;have:=k.1;omega)
  exact⟨a.trans a',b.trans b',c.trans c',d.trans d'⟩
 case arrN.arr.arr=>have:=k.1;omega
 case arrN.arrN.arr=>omega
 case arrN.arrN.arrN=>omega
 case tok=>
  refine⟨h.1.trans k.1,Nat.le_trans h.2.1 k.2.1,fun e=>?_⟩
  rw[h.2.2 (by have:=h.2.1;have:=k.2.1;omega),k.2.2 (by have:=h.2.1;have:=k.2.1;omega)]
 case map=>exact h.trans k
 case rsv=>exact h.trans k
def ImLe (a b:Nat→Nat→Option Value):Prop:=∀ c k x,a c k=some x→b c k=some x
def PhLe (l:Nat) (a b:Nat→Nat→Option Loc):Prop:=∀ m i x,m≤l→a m i=some x→∃ y,b m i=some y∧LocLe x y
theorem ImLe.refl (a):ImLe a a:=fun _ _ _ h=>h
theorem ImLe.trans {a b c} (h:ImLe a b) (k:ImLe b c):ImLe a c:=fun x y z q=>k x y z (h x y z q)
theorem PhLe.refl (l a):PhLe l a a:=fun _ _ x _ h=>⟨x,h,LocLe.refl x⟩
theorem PhLe.trans {l a b c} (h:PhLe l a b) (k:PhLe l b c):PhLe l a c:=fun m i x hm q=>
 let ⟨_,h1,h2⟩:=h m i x hm q;let ⟨z,k1,k2⟩:=k m i _ hm h1;⟨z,k1,h2.trans k2⟩
theorem PhLe.mono {l l' a b} (h:PhLe l a b) (hl:l'≤l):PhLe l' a b:=fun m i x hm q=>h m i x (Nat.le_trans hm hl) q
theorem PR.mono {im im' v cv} (hm:ImLe im im') (h:PR im v cv):PR im' v cv:=by
 induction h with
 |bool b=>exact .bool b
 |int k n=>exact .int k n
 |str s l h=>exact .str s l h
 |nilp=>exact .nilp
 |nilm=>exact .nilm
 |nilf=>exact .nilf
 |nili=>exact .nili
 |ep cs c o0 o f hi _ ih=>exact .ep cs c o0 o f (fun q hq=>hm _ _ _ (hi q hq)) ih
 |sl t z es a cap f ht hc ha hsp hi hz _ ih=>exact .sl t z es a cap f ht hc ha hsp (fun x j q h1 h2 h3=>hm _ _ _ (hi x j q h1 h2 h3)) hz ih
 |fn f a b A B ha hb _ _ iha ihb=>exact .fn f a b A B ha hb iha ihb
 |iface t v cv _ ih=>exact .iface t v cv ih
 |agg cs A hl _ ih=>exact .agg cs A hl ih
theorem LocLe.cur {x y:Loc} (h:LocLe x y) {v v':Nat} (hx:x.cur=some v) (hy:y.cur=some v'):v≤v':=by
 cases x<;>cases y<;>simp_all [LocLe,Loc.cur]<;>omega
theorem LocLe.cur_some {x y:Loc} (h:LocLe x y) {v':Nat} (hy:y.cur=some v'):∃ v,x.cur=some v:=by
 cases x<;>cases y<;>simp_all [LocLe,Loc.cur]
theorem VR.mono {im im' ph ph' l v cv} (hm:ImLe im im') (hp:PhLe l ph ph') (h:VR im ph l v cv):VR im' ph' l v cv:=by
 induction h with
 |und cv=>exact .und cv
 |pr v cv h=>exact .pr v cv (h.mono hm)
 |bp d i o c o0 hd h=>
  obtain⟨y,h1,h2⟩:=hp _ _ _ (by omega) h
  cases y<;>simp only[LocLe] at h2
  obtain⟨rfl,rfl⟩:=h2
  exact .bp d i o _ _ hd h1
 |ap d i ver j o loc cv hd h hv hh hk=>
  obtain⟨y,h1,h2⟩:=hp _ _ _ (by omega) h
  refine .ap d i ver j o y cv hd h1 (fun v' hv'=>?_) ?_ hk
  ·obtain⟨v,hx⟩:=h2.cur_some hv'
   exact Nat.le_trans (hv v hx) (h2.cur hx hv')
  ·rintro c o0 sz cap rfl
   cases loc<;>simp only[LocLe] at h2
   case arr v c' o' z' n'=>
    have hvv:=hv v rfl
    have:v=ver:=by have:=h2.1;omega
    obtain⟨rfl,rfl,rfl,rfl⟩:=h2.2 this
    subst this
    exact hh _ _ _ _ rfl
   case arrN v=>
    have:=hv v rfl
    omega
 |bs d i ver o len a cp loc hd h hv hc ha hsp hh hn=>
  obtain⟨y,h1,h2⟩:=hp _ _ _ (by omega) h
  refine .bs d i ver o len a cp y hd h1 (fun v' hv'=>?_) hc ha hsp ?_ ?_
  ·obtain⟨v,hx⟩:=h2.cur_some hv'
   exact Nat.le_trans (hv v hx) (h2.cur hx hv')
  ·rintro c o0 sz cap rfl
   cases loc<;>simp only[LocLe] at h2
   case arr v c' o' z' n'=>
    have hvv:=hv v rfl
    have:v=ver:=by have:=h2.1;omega
    obtain⟨rfl,rfl,rfl,rfl⟩:=h2.2 this
    subst this
    exact hh _ _ _ _ rfl
   case arrN v=>
    have:=hv v rfl
    omega
  ·rintro rfl
   cases loc<;>simp only[LocLe] at h2
   case arrN v=>subst h2;exact hn rfl
 |mp d i c hd h=>
  obtain⟨y,h1,h2⟩:=hp _ _ _ (by omega) h
  cases y<;>simp only[LocLe] at h2
  subst h2
  exact .mp d i _ hd h1
 |slat d i ver z es loc cv hd h hv hs hh=>
  obtain⟨y,h1,h2⟩:=hp _ _ _ (by omega) h
  refine .slat d i ver z es y cv hd h1 (fun v' hv'=>?_) (hs.mono hm) ?_
  ·obtain⟨v,hx⟩:=h2.cur_some hv'
   exact Nat.le_trans (hv v hx) (h2.cur hx hv')
  ·rintro sz cur rfl
   cases loc<;>simp only[LocLe] at h2
   case tok v z' x'=>
    have hvv:=hv v rfl
    have:v=ver:=by have:=h2.2.1;omega
    obtain rfl:=h2.2.2 this
    subst this
    obtain⟨rfl,_⟩:=h2
    exact hh _ _ rfl
 |fn f a b A B ha hb _ _ iha ihb=>exact .fn f a b A B ha hb iha ihb
 |iface t v cv _ ih=>exact .iface t v cv ih
 |agg cs A hl _ ih=>exact .agg cs A hl ih
 |tup cs A hl _ ih=>exact .tup cs A hl ih
theorem VR.pr0 {im ph l v cv} (h:VR im ph l v cv) (hp:pu0 v=true):PR im v cv:=by
 cases h<;>first|assumption|simp[pu0] at hp
theorem VR.pr1 {im ph l v cv} (h:VR im ph l v cv) (hp:pu1 v=true):PR im v cv:=by
 cases h with
 |pr _ _ h=>exact h
 |fn f a b A B ha hb ra rb=>
  simp only[pu1,Bool.and_eq_true,List.all_eq_true] at hp
  exact .fn f a b A B ha hb (fun j x y hx hy=>(ra j x y hx hy).pr0 (hp.1 x (List.mem_of_getElem? hx))) (fun j x y hx hy=>(rb j x y hx hy).pr0 (hp.2 x (List.mem_of_getElem? hx)))
 |iface t v cv h=>exact .iface t v cv (h.pr0 (by simpa[pu1] using hp))
 |_=>simp[pu1,pu0] at hp
theorem VR.pr2 {im ph l v cv} (h:VR im ph l v cv) (hp:pu2 v=true):PR im v cv:=by
 cases h with
 |pr _ _ h=>exact h
 |agg cs A hl h=>
  simp only[pu2,List.all_eq_true] at hp
  exact .agg cs A hl fun j x y hx hy=>(h j x y hx hy).pr1 (hp x (List.mem_of_getElem? hx))
 |fn f a b A B ha hb ra rb=>exact(VR.fn f a b A B ha hb ra rb).pr1 (by simpa[pu2] using hp)
 |iface t v cv h=>exact(VR.iface (ph:=ph) (l:=l) t v cv h).pr1 (by simpa[pu2] using hp)
 |_=>simp[pu2,pu1,pu0] at hp
theorem VR.pu3 {im ph l v cv} (h:VR im ph l v cv) (hp:pu3 v=true) (ph' l'):VR im ph' l' v cv:=by
 cases h with
 |pr _ _ h=>exact .pr _ _ h
 |tup cs A hl h=>
  simp only[Vm.pu3,List.all_eq_true] at hp
  exact .tup cs A hl fun j x y hx hy=>.pr _ _ ((h j x y hx hy).pr2 (hp x (List.mem_of_getElem? hx)))
 |agg cs A hl h=>exact .pr _ _ ((VR.agg cs A hl h).pr2 (by simpa[Vm.pu3] using hp))
 |fn f a b A B ha hb ra rb=>exact .pr _ _ ((VR.fn f a b A B ha hb ra rb).pr2 (by simpa[Vm.pu3] using hp))
 |iface t v cv h=>exact .pr _ _ ((VR.iface (ph:=ph) (l:=l) t v cv h).pr2 (by simpa[Vm.pu3] using hp))
 |_=>simp[Vm.pu3,pu2,pu1,pu0] at hp
theorem PR.dt0 {im v cv} (h:PR im v cv):PR im (dt0 v) cv:=by
 cases h with
 |sl t z es a cap f ht hc ha hsp hi hz hr=>exact .sl .no z es a cap f (.inl rfl) hc ha hsp hi hz hr
 |bool b=>exact .bool b
 |int a b=>exact .int a b
 |str s l h=>exact .str s l h
 |nilp=>exact .nilp
 |nilm=>exact .nilm
 |nilf=>exact .nilf
 |nili=>exact .nili
 |ep cs c o0 o f hi hr=>exact .ep cs c o0 o f hi hr
 |fn f a b A B ha hb ra rb=>exact .fn f a b A B ha hb ra rb
 |iface t v cv h=>exact .iface t v cv h
 |agg cs A hl h=>exact .agg cs A hl h
theorem VR.dx0 {im ph l v cv} (h:VR im ph l v cv):VR im ph l (dx0 v) cv:=by
 cases h with
 |pr _ _ h=>
  cases h with
  |sl t z es a cap f ht hc ha hsp hi hz hr=>
   cases t with
   |no=>exact .pr _ _ (.sl .no z es a cap f ht hc ha hsp hi hz hr)
   |ex=>exact .pr _ _ (.sl .ex z es a cap f ht hc ha hsp hi hz hr)
   | «at»=>exact .pr _ _ (.sl .no z es a cap f (.inl rfl) hc ha hsp hi hz hr)
  |bool b=>exact .pr _ _ (.bool b)
  |int a b=>exact .pr _ _ (.int a b)
  |str s l h=>exact .pr _ _ (.str s l h)
  |nilp=>exact .pr _ _ .nilp
  |nilm=>exact .pr _ _ .nilm
  |nilf=>exact .pr _ _ .nilf
  |nili=>exact .pr _ _ .nili
  |ep cs c o0 o f hi hr=>exact .pr _ _ (.ep cs c o0 o f hi hr)
  |fn f a b A B ha hb ra rb=>exact .pr _ _ (.fn f a b A B ha hb ra rb)
  |iface t v cv h=>exact .pr _ _ (.iface t v cv h)
  |agg cs A hl h=>exact .pr _ _ (.agg cs A hl h)
 |und=>exact .und _
 |slat d i ver z es loc cv hd hp hv hs hh=>exact .pr _ _ hs
 |bp d i o c o0 hd hp=>exact .bp d i o c o0 hd hp
 |ap d i ver j o loc cv hd hp hv h hk=>exact .ap d i ver j o loc cv hd hp hv h hk
 |bs d i ver o len a cp loc hd hp hv hc ha hsp h hn=>exact .bs d i ver o len a cp loc hd hp hv hc ha hsp h hn
 |mp d i c hd hp=>exact .mp d i c hd hp
 |fn f a b A B ha hb ra rb=>exact .fn f a b A B ha hb ra rb
 |iface t v cv h=>exact .iface t v cv h
 |agg cs A hl h=>exact .agg cs A hl h
 |tup cs A hl h=>exact .tup cs A hl h
theorem VR.dt0 {im ph l v cv} (h:VR im ph l v cv):VR im ph l (dt0 v) cv:=by
 cases h with
 |pr _ _ h=>exact .pr _ _ h.dt0
 |und=>exact .und _
 |slat d i ver z es loc cv hd hp hv hs hh=>exact .pr _ _ hs
 |bp d i o c o0 hd hp=>exact .bp d i o c o0 hd hp
 |ap d i ver j o loc cv hd hp hv h hk=>exact .ap d i ver j o loc cv hd hp hv h hk
 |bs d i ver o len a cp loc hd hp hv hc ha hsp h hn=>exact .bs d i ver o len a cp loc hd hp hv hc ha hsp h hn
 |mp d i c hd hp=>exact .mp d i c hd hp
 |fn f a b A B ha hb ra rb=>exact .fn f a b A B ha hb ra rb
 |iface t v cv h=>exact .iface t v cv h
 |agg cs A hl h=>exact .agg cs A hl h
 |tup cs A hl h=>exact .tup cs A hl h
theorem map_get {α β:Type} {f:α→β} {l:List α} {j:Nat} {y:β} (h:(l.map f)[j]? = some y):∃ x,l[j]? = some x∧f x=y:=by
 rw[List.getElem?_map] at h
 cases hx:l[j]? with
 |none=>simp[hx] at h
 |some x=>exact⟨x,rfl,by simpa[hx] using h⟩
theorem VR.agg_inv {im ph l cs cv} (h:VR im ph l (.agg cs) cv):∃ A:Array Value,cv = .agg A∧A.size=cs.length∧∀ (j:Nat) (x:V) (y:Value),cs[j]? = some x→A[j]? = some y→VR im ph l x y:=by
 cases h with
 |pr _ _ h=>cases h with|agg _ A hl h=>exact⟨A,rfl,hl,fun j x y hx hy=>.pr _ _ (h j x y hx hy)⟩
 |agg _ A hl h=>exact⟨A,rfl,hl,h⟩
theorem VR.tup_inv {im ph l cs cv} (h:VR im ph l (.tup cs) cv):∃ A:Array Value,cv = .tuple A∧A.size=cs.length∧∀ (j:Nat) (x:V) (y:Value),cs[j]? = some x→A[j]? = some y→VR im ph l x y:=by
 cases h with
 |pr _ _ h=>cases h
 |tup _ A hl h=>exact⟨A,rfl,hl,h⟩
theorem VR.dt2 {im ph l v cv} (h:VR im ph l v cv):VR im ph l (dt2 v) cv:=by
 cases v with
 |agg cs=>
  obtain⟨A,rfl,hl,h⟩:=h.agg_inv
  refine .agg _ A (by simpa using hl) fun j x y hx hy=>?_
  obtain⟨x',hx',rfl⟩:=map_get hx
  exact(h j x' y hx' hy).dt0
 |_=>exact h.dt0
theorem VR.sh0 {im ph l v cv} (k:Nat) (h:VR im ph l v cv):VR im ph (l+k) (sh0 k v) cv:=by
 have e:∀ d,d≤l→l+k-(d+k)=l-d:=fun d hd=>by omega
 cases h with
 |pr _ _ h=>
  cases h with
  |sl t z es a cap f ht hc ha hsp hi hz hr=>
   rcases ht with rfl|⟨rfl,hcap⟩
   ·exact .pr _ _ (.sl .no z es a cap f (.inl rfl) hc ha hsp hi hz hr)
   ·exact .pr _ _ (.sl .ex z es a cap f (.inr ⟨rfl,hcap⟩) hc ha hsp hi hz hr)
  |bool b=>exact .pr _ _ (.bool b)
  |int a b=>exact .pr _ _ (.int a b)
  |str s l h=>exact .pr _ _ (.str s l h)
  |nilp=>exact .pr _ _ .nilp
  |nilm=>exact .pr _ _ .nilm
  |nilf=>exact .pr _ _ .nilf
  |nili=>exact .pr _ _ .nili
  |ep cs c o0 o f hi hr=>exact .pr _ _ (.ep cs c o0 o f hi hr)
  |fn=>exact .und _
  |iface=>exact .und _
  |agg=>exact .und _
 |und=>exact .und _
 |slat d i ver z es loc cv hd hp hv hs hh=>exact .slat _ i ver z es loc cv (by omega) (by rw[e d hd];exact hp) hv hs hh
 |bp d i o c o0 hd hp=>exact .bp _ i o c o0 (by omega) (by rw[e d hd];exact hp)
 |ap d i ver j o loc cv hd hp hv h hk=>exact .ap _ i ver j o loc cv (by omega) (by rw[e d hd];exact hp) hv h hk
 |bs d i ver o len a cp loc hd hp hv hc ha hsp h hn=>exact .bs _ i ver o len a cp loc (by omega) (by rw[e d hd];exact hp) hv hc ha hsp h hn
 |mp d i c hd hp=>exact .mp _ i c (by omega) (by rw[e d hd];exact hp)
 |fn=>exact .und _
 |iface=>exact .und _
 |agg=>exact .und _
 |tup=>exact .und _
theorem VR.fn_inv {im ph l f a b cv} (h:VR im ph l (.fn f a b) cv):∃ A B:Array Value,cv = .func (.func f) A B∧A.size=a.length∧B.size=b.length ∧
  (∀ (j:Nat) (x:V) (y:Value),a[j]? = some x→A[j]? = some y→VR im ph l x y)∧∀ (j:Nat) (x:V) (y:Value),b[j]? = some x→B[j]? = some y→VR im ph l x y:=by
 cases h with
 |pr _ _ h=>cases h with|fn _ _ _ A B ha hb ra rb=>exact⟨A,B,rfl,ha,hb,fun j x y hx hy=>.pr _ _ (ra j x y hx hy),fun j x y hx hy=>.pr _ _ (rb j x y hx hy)⟩
 |fn _ _ _ A B ha hb ra rb=>exact⟨A,B,rfl,ha,hb,ra,rb⟩
theorem VR.iface_inv {im ph l t v cv} (h:VR im ph l (.iface t v) cv):∃ x,cv = .iface t x∧VR im ph l v x:=by
 cases h with
 |pr _ _ h=>cases h with|iface _ _ x h=>exact⟨x,rfl,.pr _ _ h⟩
 |iface _ _ x h=>exact⟨x,rfl,h⟩
theorem VR.sh1 {im ph l v cv} (k:Nat) (h:VR im ph l v cv):VR im ph (l+k) (sh1 k v) cv:=by
 cases v with
 |fn f a b=>
  obtain⟨A,B,rfl,ha,hb,ra,rb⟩:=h.fn_inv
  refine .fn f _ _ A B (by simpa using ha) (by simpa using hb) (fun j x y hx hy=>?_) (fun j x y hx hy=>?_)
  ·obtain⟨x',hx',rfl⟩:=map_get hx;exact(ra j x' y hx' hy).sh0 k
  ·obtain⟨x',hx',rfl⟩:=map_get hx;exact(rb j x' y hx' hy).sh0 k
 |iface t v=>obtain⟨x,rfl,h'⟩:=h.iface_inv;exact .iface t _ x (h'.sh0 k)
 |_=>exact h.sh0 k
theorem VR.sh2 {im ph l v cv} (k:Nat) (h:VR im ph l v cv):VR im ph (l+k) (sh2 k v) cv:=by
 cases v with
 |agg cs=>
  obtain⟨A,rfl,hl,h⟩:=h.agg_inv
  refine .agg _ A (by simpa using hl) fun j x y hx hy=>?_
  obtain⟨x',hx',rfl⟩:=map_get hx
  exact(h j x' y hx' hy).sh1 k
 |_=>exact h.sh1 k
theorem bif_some {α:Type} {b:Bool} {x y:α} (h:(bif b then some x else none)=some y):b=true∧x=y:=by
 cases b<;>simp at h;exact⟨rfl,h⟩
theorem VR.dn0 {im ph l v v' cv} (k:Nat) (hk:k≤l) (h:VR im ph l v cv) (e:dn0 k v=some v'):VR im ph (l-k) v' cv:=by
 have el:∀ d,k≤d→d≤l→l-k-(d-k)=l-d:=fun d h1 h2=>by omega
 cases h with
 |pr _ _ h=>
  cases h with
  |sl t z es a cap f ht hc ha hsp hi hz hr=>
   rcases ht with rfl|⟨rfl,hcap⟩<;>(simp only[Vm.dn0,Option.some.injEq] at e;subst e)
   ·exact .pr _ _ (.sl .no z es a cap f (.inl rfl) hc ha hsp hi hz hr)
   ·exact .pr _ _ (.sl .ex z es a cap f (.inr ⟨rfl,hcap⟩) hc ha hsp hi hz hr)
  |bool b=>simp only[Vm.dn0,Option.some.injEq] at e;subst e;exact .pr _ _ (.bool b)
  |int a b=>simp only[Vm.dn0,Option.some.injEq] at e;subst e;exact .pr _ _ (.int a b)
  |str s l h=>simp only[Vm.dn0,Option.some.injEq] at e;subst e;exact .pr _ _ (.str s _ h)
  |nilp=>simp only[Vm.dn0,Option.some.injEq] at e;subst e;exact .pr _ _ .nilp
  |nilm=>simp only[Vm.dn0,Option.some.injEq] at e;subst e;exact .pr _ _ .nilm
  |nilf=>simp only[Vm.dn0,Option.some.injEq] at e;subst e;exact .pr _ _ .nilf
  |nili=>simp only[Vm.dn0,Option.some.injEq] at e;subst e;exact .pr _ _ .nili
  |ep cs c o0 o f hi hr=>simp only[Vm.dn0,Option.some.injEq] at e;subst e;exact .pr _ _ (.ep cs c o0 o f hi hr)
  |fn=>simp[Vm.dn0] at e
  |iface=>simp[Vm.dn0] at e
  |agg=>simp[Vm.dn0] at e
 |und=>simp only[Vm.dn0,Option.some.injEq] at e;subst e;exact .und _
 |slat d i ver z es loc cv hd hp hv hs hh=>
  simp only[Vm.dn0] at e
  cases hb:Nat.ble k d with
  |true=>simp[hb] at e;subst e;have:=Nat.le_of_ble_eq_true hb;exact .slat _ i ver z es loc cv (by omega) (by rw[el d this hd];exact hp) hv hs hh
  |false=>simp[hb] at e;subst e;exact .pr _ _ hs
 |bp d i o c o0 hd hp=>obtain⟨hb,rfl⟩:=bif_some e;have:=Nat.le_of_ble_eq_true hb;exact .bp _ i o c o0 (by omega) (by rw[el d this hd];exact hp)
 |ap d i ver j o loc cv hd hp hv h hk=>obtain⟨hb,rfl⟩:=bif_some e;have:=Nat.le_of_ble_eq_true hb;exact .ap _ i ver j o loc cv (by omega) (by rw[el d this hd];exact hp) hv h hk
 |bs d i ver o len a cp loc hd hp hv hc ha hsp h hn=>obtain⟨hb,rfl⟩:=bif_some e;have:=Nat.le_of_ble_eq_true hb;exact .bs _ i ver o len a cp loc (by omega) (by rw[el d this hd];exact hp) hv hc ha hsp h hn
 |mp d i c hd hp=>obtain⟨hb,rfl⟩:=bif_some e;have:=Nat.le_of_ble_eq_true hb;exact .mp _ i c (by omega) (by rw[el d this hd];exact hp)
 |fn=>simp[Vm.dn0] at e
 |iface=>simp[Vm.dn0] at e
 |agg=>simp[Vm.dn0] at e
 |tup=>simp[Vm.dn0] at e
theorem mapM_get {α β:Type} {f:α→Option β}:∀ {l:List α} {l':List β},l.mapM f=some l'→l'.length=l.length∧∀ (j:Nat) (y:β),l'[j]? = some y→∃ x,l[j]? = some x∧f x=some y
 | [],l',h=>by
  simp only[List.mapM_nil,Option.pure_def,Option.some.injEq] at h;subst h
  exact⟨rfl,fun j y hy=>by simp at hy⟩
 |a::l,l',h=>by
  simp only[List.mapM_cons,Option.bind_eq_bind,Option.pure_def] at h
  cases hf:f a with
  |none=>simp[hf] at h
  |some b=>
   cases hl:l.mapM f with
   |none=>simp[hf,hl] at h
   |some bs=>
    simp only[hf,hl,Option.bind_some,Option.some.injEq] at h
    subst h
    obtain⟨h1,h2⟩:=mapM_get hl
    refine⟨by simp[h1],fun j y hy=>?_⟩
    cases j with
    |zero=>simp at hy;subst hy;exact⟨a,rfl,hf⟩
    |succ j=>simpa using h2 j y (by simpa using hy)
theorem VR.dn1 {im ph l v v' cv} (k:Nat) (hk:k≤l) (h:VR im ph l v cv) (e:dn1 k v=some v'):VR im ph (l-k) v' cv:=by
 cases v with
 |fn f a b=>
  obtain⟨A,B,rfl,ha,hb,ra,rb⟩:=h.fn_inv
  simp only[Vm.dn1] at e
  cases h1:a.mapM (Vm.dn0 k) with
  |none=>simp[h1] at e
  |some a'=>
   cases h2:b.mapM (Vm.dn0 k) with
   |none=>simp[h1,h2] at e
   |some b'=>
    simp[h1,h2] at e;subst e
    obtain⟨l1,g1⟩:=mapM_get h1
    obtain⟨l2,g2⟩:=mapM_get h2
    refine .fn f _ _ A B (by omega) (by omega) (fun j x y hx hy=>?_) (fun j x y hx hy=>?_)
    ·obtain⟨x',hx',e⟩:=g1 j x hx;exact(ra j x' y hx' hy).dn0 k hk e
    ·obtain⟨x',hx',e⟩:=g2 j x hx;exact(rb j x' y hx' hy).dn0 k hk e
 |iface t v=>
  obtain⟨x,rfl,h'⟩:=h.iface_inv
  simp only[Vm.dn1] at e
  cases h1:Vm.dn0 k v with
  |none=>simp[h1] at e
  |some w=>simp[h1] at e;subst e;exact .iface t _ x (h'.dn0 k hk h1)
 |_=>exact h.dn0 k hk e
end Go.Vm
/-
  The machine V and memory: frames that are Go's memory, and how they stay so.
-/
namespace Go.Vm
open Go Go.RowKit
def mapAt (w:World) (c:Nat):Option (Array MapEntry × Nat):=match w.heap[c]? with
 |some (.map es k)=>some (es,k)
 |_=>none
def MS:V→Value→Prop
 | .bool b,v=>v = .bool b
 | .int k n,v=>v = .int k n
 | .str l,v=>∃ s,v = .string s∧l=s.data.toList
 |_,_=>False
def Fz (w' w:World) (c k:Nat):Prop:=w'.frozen? ⟨c,k,none⟩=w.frozen? ⟨c,k,none⟩∧mapAt w' c=mapAt w c
theorem Fz.refl (w:World) (c k:Nat):Fz w w c k:=⟨rfl,rfl⟩
def Own (G:Gh) (w:World) (l i c k:Nat):Prop:=
 G.ow c k=some (l,i)∧w.frozen? ⟨c,k,none⟩=false∧∃ cv,w.cell? ⟨c,k,none⟩=some cv
def rsvOk:Blk→Bool
 | .box z=>z.all pu1
 | .arr 1 _ es=>es.all pu2
 |_=>false
def BR (G:Gh) (w:World) (l i:Nat):Loc→Blk→Prop
 | .box c o,.box cs=>∀ (k:Nat) (x:V),cs[k]? = some x→G.ow c (o+k)=some (l,i)∧w.frozen? ⟨c,o+k,none⟩=false ∧
  ∃ cv,w.cell? ⟨c,o+k,none⟩=some cv∧VR G.im G.ph l x cv
 | .arr ver c o sz cap,.arr ver' sz' es=>ver'=ver∧sz'=sz∧es.length≤cap∧(∀ k,k<cap*sz→Own G w l i c (o+k)) ∧
  ∀ (j:Nat) (e:V),es[j]? = some e→(cellsOf e).length=sz∧∀ (q:Nat) (x:V),(cellsOf e)[q]? = some x→∃ cv,w.cell? ⟨c,o+(j*sz+q),none⟩=some cv∧PR G.im x cv
 | .arrN ver,.arr ver' _ es=>ver'=ver∧es = []
 | .tok ver sz cur,.tok ver'=>ver'=ver∧∃ a len cap,cur = .slice a len cap∧(a=none→cap=0) ∧
  ∀ x,a=some x→∀ k,len*sz≤k→k<cap*sz→Own G w l i x.block (x.off+k)
 | .map c,.map es=>(∀ k,G.ow c k=some (l,i))∧∃ E k,mapAt w c=some (E,k)∧E.size=es.length ∧
  ∀ (j:Nat) (x:V × V) (e:MapEntry),es[j]? = some x→E[j]? = some e→MS x.1 e.key∧MS x.2 e.val
 | .rsv z,b=>b=z∧rsvOk z=true
 | .gone,.dead=>True
 |_,_=>False
theorem BR_rsv {G:Gh} {w:World} {l i:Nat} {z b:Blk} (h:BR G w l i (.rsv z) b):b=z∧rsvOk z=true:=by cases b<;>exact h
theorem BR_rsv' {G:Gh} {w:World} {l i:Nat} {z:Blk} (h:rsvOk z=true):BR G w l i (.rsv z) z:=by cases z<;>exact⟨rfl,h⟩
theorem BR_rsvA {G:Gh} {w:World} {l i ver sz:Nat} {z:Blk} {es:List V} (h:BR G w l i (.rsv z) (.arr ver sz es)) (hv:∀ v,(Loc.rsv z).cur=some v→ver≤v):False:=by
 obtain⟨rfl,h2⟩:=BR_rsv h
 have h0:ver≤0:=hv 0 rfl
 have:ver=0:=by omega
 subst this
 cases h2
structure Bd (KW:World→Prop) where
 n:Nat
 mono:∀ w w':World,Below n w w'→KW w→KW w'
instance {KW:World→Prop}:CoeOut (Bd KW) Nat:=⟨Bd.n⟩
structure WR {KW:World→Prop} (G:Gh) (B:Bd KW) (fr:Fr) (sg:List Fr) (w:World):Prop where
 im:∀ c k x,G.im c k=some x→w.cell? ⟨c,k,none⟩=some x
 io:∀ c k x,G.im c k=some x→G.ow c k=none
 ob:∀ c k o,G.ow c k=some o→B≤c∧c<w.heap.size
 bl:∀ d i b loc,d≤sg.length→getB fr sg d i=some b→G.ph (sg.length-d) i=some loc→BR G w (sg.length-d) i loc b
 dm:∀ l i loc,G.ph l i=some loc→l≤sg.length∧∃ b,getB fr sg (sg.length-l) i=some b
 hB:B≤w.heap.size
 kn:KW w
structure Mv {KW:World→Prop} (G G':Gh) (B:Bd KW) (w w':World) (l i:Nat):Prop where
 sz:w.heap.size≤w'.heap.size
 im:ImLe G.im G'.im
 io:∀ c k x,G'.im c k=some x→w'.cell? ⟨c,k,none⟩=some x∧G'.ow c k=none
 ob:∀ c k o,G'.ow c k=some o→B≤c∧c<w'.heap.size
 ow:∀ c k l' i',(l',i')≠(l,i)→G.ow c k=some (l',i')→G'.ow c k=some (l',i') ∧
  w'.cell? ⟨c,k,none⟩=w.cell? ⟨c,k,none⟩∧Fz w' w c k
 ph:∀ l' i',(l',i')≠(l,i)→G'.ph l' i'=G.ph l' i'
 be:Below B.n w w'
theorem mapAt_setCell (w:World) (a:Addr) (v:Value) (c:Nat):mapAt (w.setCell a v) c=mapAt w c:=by
 unfold mapAt World.setCell
 simp only[Array.getElem?_modify]
 by_cases h:a.block=c
 ·rw[if_pos h]
  cases w.heap[c]? with
  |none=>rfl
  |some o=>cases o<;>rfl
 ·rw[if_neg h]
theorem mapAt_alloc (w:World) (o:Obj) {c:Nat} (h:c<w.heap.size):mapAt (w.alloc o) c=mapAt w c:=by
 unfold mapAt
 have:(w.alloc o).heap[c]? = w.heap[c]?:=by
  show(w.heap.push o)[c]? = _
  rw[Array.getElem?_push,if_neg (by omega)]
 rw[this]
theorem Fz.alloc (w:World) (o:Obj) {c:Nat} (k:Nat) (h:c<w.heap.size):Fz (w.alloc o) w c k:=⟨World.frozen?_alloc_old _ _ _ (by simp;omega),mapAt_alloc w o h⟩
theorem Own.keep {G G' w w' l i c k} (h:Own G w l i c k) (ho:G'.ow c k=some (l,i)) (hc:w'.cell? ⟨c,k,none⟩=w.cell? ⟨c,k,none⟩)
 (hf:w'.frozen? ⟨c,k,none⟩=w.frozen? ⟨c,k,none⟩):Own G' w' l i c k:=⟨ho,by rw[hf];exact h.2.1,by rw[hc];exact h.2.2⟩
theorem BR.keep' {G G' w w' l i loc b} (h:BR G w l i loc b) (him:ImLe G.im G'.im) (hph:∀ x cv,VR G.im G.ph l x cv→VR G'.im G'.ph l x cv)
  (hk:∀ c k,G.ow c k=some (l,i)→G'.ow c k=some (l,i)∧w'.cell? ⟨c,k,none⟩=w.cell? ⟨c,k,none⟩∧Fz w' w c k) :
  BR G' w' l i loc b:=by
 cases loc with
 |box c o=>
  cases b with
  |box cs=>
   intro k x hx
   obtain⟨h1,h2,cv,h3,h4⟩:=h k x hx
   obtain⟨k1,k2,k3,_⟩:=hk _ _ h1
   exact⟨k1,by rw[k3];exact h2,cv,by rw[k2];exact h3,hph _ _ h4⟩
  |_=>exact h.elim
 |arr ver c o sz cap=>
  cases b with
  |arr ver' sz' es=>
   obtain⟨h1,h2,h3,h4,h5⟩:=h
   refine⟨h1,h2,h3,fun k hkk=>?_,fun j e he=>?_⟩
   ·obtain⟨k1,k2,k3,_⟩:=hk _ _ (h4 k hkk).1
    exact(h4 k hkk).keep k1 k2 k3
   ·obtain⟨g1,g2⟩:=h5 j e he
    refine⟨g1,fun q x hx=>?_⟩
    obtain⟨cv,g3,g4⟩:=g2 q x hx
    have hq:q<sz:=by rw[← g1];exact(List.getElem?_eq_some_iff.1 hx).1
    have hj:j<cap:=Nat.lt_of_lt_of_le (List.getElem?_eq_some_iff.1 he).1 h3
    have hlt:j*sz+q<cap*sz:=by
     have:(j+1)*sz≤cap*sz:=Nat.mul_le_mul_right _ hj
     rw[Nat.succ_mul] at this;omega
    obtain⟨_,k2,_⟩:=hk _ _ (h4 _ hlt).1
    exact⟨cv,by rw[k2];exact g3,g4.mono him⟩
  |_=>exact h.elim
 |arrN ver=>cases b<;>first|exact h|exact h.elim
 |tok ver sz cur=>
  cases b with
  |tok ver'=>
   obtain⟨h1,a,len,cap,h2,h3,h4⟩:=h
   refine⟨h1,a,len,cap,h2,h3,fun x hx k hk1 hk2=>?_⟩
   obtain⟨k1,k2,k3,_⟩:=hk _ _ (h4 x hx k hk1 hk2).1
   exact(h4 x hx k hk1 hk2).keep k1 k2 k3
  |_=>exact h.elim
 |map c=>
  cases b with
  |map es=>
   obtain⟨h1,E,k,h2,h3⟩:=h
   exact⟨fun k=>(hk _ _ (h1 k)).1,E,k,(hk _ _ (h1 0)).2.2.2.trans h2,h3⟩
  |_=>exact h.elim
 |rsv z=>cases b<;>exact h
 |gone=>cases b<;>first|trivial|exact h.elim
theorem BR.keep {G G' w w' l i loc b} (h:BR G w l i loc b) (him:ImLe G.im G'.im) (hph:PhLe l G.ph G'.ph)
 (hk:∀ c k,G.ow c k=some (l,i)→G'.ow c k=some (l,i)∧w'.cell? ⟨c,k,none⟩=w.cell? ⟨c,k,none⟩∧Fz w' w c k) :
 BR G' w' l i loc b:=h.keep' him (fun _ _ hv=>hv.mono him hph) hk
theorem Mv.keep {G G' w w' l i l' i' loc b} {KW:World→Prop} {B:Bd KW} (m:Mv G G' B w w' l i) (hne:(l',i')≠(l,i)) (hph:PhLe l' G.ph G'.ph) (h:BR G w l' i' loc b) :
 BR G' w' l' i' loc b:=h.keep m.im hph fun c k ho=>m.ow c k l' i' hne ho
def PhUp (G G':Gh):Prop:=∀ l,PhLe l G.ph G'.ph
theorem Mv.up {G G' w w' l i} {KW:World→Prop} {B:Bd KW} (m:Mv G G' B w w' l i) (h:∀ x,G.ph l i=some x→∃ y,G'.ph l i=some y∧LocLe x y):PhUp G G':=by
 intro _ a b x _ hx
 by_cases e:(a,b)=(l,i)
 ·cases e;exact h x hx
 ·exact⟨x,by rw[m.ph a b e];exact hx,LocLe.refl x⟩
theorem getB_zero (fr:Fr) (sg:List Fr) (i:Nat):getB fr sg 0 i=fr[i]?:=rfl
theorem getB_succ (fr:Fr) (sg:List Fr) (d i:Nat):getB fr sg (d+1) i=(sg[d]?).bind (·[i]?):=rfl
theorem getB_push {fr:Fr} {sg:List Fr} {b x:Blk} {d i:Nat} (h:getB (fr ++ [b]) sg d i=some x) :
  (d=0∧i=fr.length∧x=b)∨(getB fr sg d i=some x∧¬ (d=0∧i=fr.length)):=by
 cases d with
 |zero=>
  simp only[getB_zero] at h ⊢
  rcases Nat.lt_trichotomy i fr.length with hl|hl|hl
  ·right;rw[List.getElem?_append_left hl] at h;exact⟨h,by omega⟩
  ·left;subst hl;rw[List.getElem?_append_right (Nat.le_refl _),Nat.sub_self] at h;exact⟨trivial,rfl,(Option.some.inj h).symm⟩
  ·rw[List.getElem?_eq_none (by simp;omega)] at h;cases h
 |succ d=>right;exact⟨h,by omega⟩
theorem getB_push_old {fr:Fr} {sg:List Fr} {b x:Blk} {d i:Nat} (h:getB fr sg d i=some x):getB (fr ++ [b]) sg d i=some x:=by
 cases d with
 |zero=>
  simp only[getB_zero] at h ⊢
  rw[List.getElem?_append_left (List.getElem?_eq_some_iff.1 h).1];exact h
 |succ d=>exact h
theorem getB_push_new {fr:Fr} {sg:List Fr} {b:Blk}:getB (fr ++ [b]) sg 0 fr.length=some b:=by simp[getB_zero]
theorem WR.new {G G' fr sg w w'} {KW:World→Prop} {B:Bd KW} (h:WR G B fr sg w) (b:Blk) (loc:Loc) (m:Mv G G' B w w' sg.length fr.length)
  (hp:G'.ph sg.length fr.length=some loc) (hb:BR G' w' sg.length fr.length loc b):WR G' B (fr ++ [b]) sg w'∧PhUp G G':=by
 have hn:G.ph sg.length fr.length=none:=by
  cases e:G.ph sg.length fr.length with
  |none=>rfl
  |some x=>
   obtain⟨_,b,hb⟩:=h.dm _ _ _ e
   simp[getB_zero] at hb
 have up:PhUp G G':=m.up (fun x hx=>by rw[hn] at hx;cases hx)
 refine⟨⟨fun c k x hx=>(m.io c k x hx).1,fun c k x hx=>(m.io c k x hx).2,m.ob,?_,?_,Nat.le_trans h.hB m.sz,B.mono _ _ m.be h.kn⟩,up⟩
 ·intro d i b' loc' hd hg hl
  rcases getB_push hg with⟨rfl,rfl,rfl⟩|⟨hg,hne⟩
  ·simp only[Nat.sub_zero] at hl ⊢
   rw[hp] at hl;cases hl;exact hb
  ·have hne':(sg.length-d,i)≠(sg.length,fr.length):=fun e=>hne (by injection e;omega)
   rw[m.ph _ _ hne'] at hl
   exact m.keep hne' (up _) (h.bl d i b' loc' hd hg hl)
 ·intro l i loc' hl
  by_cases e:(l,i)=(sg.length,fr.length)
  ·cases e;exact⟨Nat.le_refl _,b,by rw[Nat.sub_self];exact getB_push_new⟩
  ·rw[m.ph _ _ e] at hl
   obtain⟨h1,b',h2⟩:=h.dm l i loc' hl
   exact⟨h1,b',getB_push_old h2⟩
theorem getB_up {fr:Fr} {sg:List Fr} {d:Nat} {f:Fr} {b x:Blk} {d' i:Nat} (hf:sg[d]? = some f) (h:getB fr (sg.modify d (· ++ [b])) d' i=some x) :
  (d'=d+1∧i=f.length∧x=b)∨(getB fr sg d' i=some x∧¬ (d'=d+1∧i=f.length)):=by
 cases d' with
 |zero=>exact .inr ⟨h,by omega⟩
 |succ e=>
  by_cases he:d=e
  ·subst he
   simp only[getB_succ,List.getElem?_modify,if_true,hf,Option.map_eq_map,Option.map_some,Option.bind_some] at h ⊢
   rcases Nat.lt_trichotomy i f.length with hl|hl|hl
   ·right;rw[List.getElem?_append_left hl] at h;exact⟨h,by omega⟩
   ·left;subst hl;rw[List.getElem?_append_right (Nat.le_refl _),Nat.sub_self] at h;exact⟨trivial,rfl,(Option.some.inj h).symm⟩
   ·rw[List.getElem?_eq_none (by simp;omega)] at h;cases h
  ·refine .inr ⟨?_,by omega⟩
   simp only[getB_succ,List.getElem?_modify] at h ⊢
   cases hs:sg[e]? with
   |none=>simp[hs] at h
   |some g=>simpa[hs,he] using h
theorem getB_up_old {fr:Fr} {sg:List Fr} {d:Nat} {b x:Blk} {d' i:Nat} (h:getB fr sg d' i=some x):getB fr (sg.modify d (· ++ [b])) d' i=some x:=by
 cases d' with
 |zero=>exact h
 |succ e=>
  simp only[getB_succ,List.getElem?_modify] at h ⊢
  cases hs:sg[e]? with
  |none=>simp[hs] at h
  |some g=>
   simp only[hs,Option.bind_some] at h
   have hl:=(List.getElem?_eq_some_iff.1 h).1
   by_cases he:d=e
   ·simp[he,List.getElem?_append_left hl,h]
   ·simp[he,h]
theorem getB_up_new {fr:Fr} {sg:List Fr} {d:Nat} {f:Fr} {b:Blk} (hf:sg[d]? = some f):getB fr (sg.modify d (· ++ [b])) (d+1) f.length=some b:=by
 simp[getB_succ,List.getElem?_modify,hf]
theorem WR.newUp {G G' fr sg w w'} {KW:World→Prop} {B:Bd KW} (h:WR G B fr sg w) {d:Nat} {f:Fr} (hf:sg[d]? = some f) (b:Blk) (loc:Loc) (m:Mv G G' B w w' (sg.length-(d+1)) f.length)
  (hp:G'.ph (sg.length-(d+1)) f.length=some loc) (hb:BR G' w' (sg.length-(d+1)) f.length loc b):WR G' B fr (sg.modify d (· ++ [b])) w'∧PhUp G G':=by
 have hd1:d<sg.length:=(List.getElem?_eq_some_iff.1 hf).1
 have hn:G.ph (sg.length-(d+1)) f.length=none:=by
  cases e:G.ph (sg.length-(d+1)) f.length with
  |none=>rfl
  |some x=>
   obtain⟨_,b,hb⟩:=h.dm _ _ _ e
   rw[show sg.length-(sg.length-(d+1))=d+1 by omega,getB_succ,hf] at hb
   simp at hb
 have up:PhUp G G':=m.up (fun x hx=>by rw[hn] at hx;cases hx)
 have hlen:(sg.modify d (· ++ [b])).length=sg.length:=by simp
 refine⟨⟨fun c k x hx=>(m.io c k x hx).1,fun c k x hx=>(m.io c k x hx).2,m.ob,?_,?_,Nat.le_trans h.hB m.sz,B.mono _ _ m.be h.kn⟩,up⟩
 ·intro d' i b' loc' hd hg hl
  rw[hlen] at hd hl ⊢
  rcases getB_up hf hg with⟨rfl,rfl,rfl⟩|⟨hg,hne⟩
  ·rw[hp] at hl;cases hl;exact hb
  ·have hne':(sg.length-d',i)≠(sg.length-(d+1),f.length):=fun e=>hne (by injection e;omega)
   rw[m.ph _ _ hne'] at hl
   exact m.keep hne' (up _) (h.bl d' i b' loc' hd hg hl)
 ·intro l i loc' hl
  rw[hlen]
  by_cases e:(l,i)=(sg.length-(d+1),f.length)
  ·cases e;exact⟨by omega,b,by rw[show sg.length-(sg.length-(d+1))=d+1 by omega];exact getB_up_new hf⟩
  ·rw[m.ph _ _ e] at hl
   obtain⟨h1,b',h2⟩:=h.dm l i loc' hl
   exact⟨h1,b',getB_up_old h2⟩
def setB (fr:Fr) (sg:List Fr) (d i:Nat) (b:Blk):Fr × List Fr:=
 match d with
 |0=>(fr.set i b,sg)
 |d+1=>(fr,sg.modify d (·.set i b))
theorem setB_len (fr:Fr) (sg:List Fr) (d i:Nat) (b:Blk):(setB fr sg d i b).2.length=sg.length:=by cases d<;>simp[setB]
theorem St.set_fr (s:St) (d i:Nat) (b:Blk):(s.set d i b).fr=(setB s.fr s.sg d i b).1:=by cases d<;>rfl
theorem St.set_sg (s:St) (d i:Nat) (b:Blk):(s.set d i b).sg=(setB s.fr s.sg d i b).2:=by cases d<;>rfl
theorem St.set_tm (s:St) (d i:Nat) (b:Blk):(s.set d i b).tm=s.tm:=by cases d<;>rfl
theorem getB_set_same {fr:Fr} {sg:List Fr} {d i:Nat} {b x:Blk} (h:getB fr sg d i=some x):getB (setB fr sg d i b).1 (setB fr sg d i b).2 d i=some b:=by
 cases d with
 |zero=>
  simp only[getB_zero,setB] at *
  have:=(List.getElem?_eq_some_iff.1 h).1
  simp[this]
 |succ d=>
  simp only[getB_succ,setB] at *
  cases hs:sg[d]? with
  |none=>simp[hs] at h
  |some f=>
   simp only[hs,Option.bind_some] at h
   have:=(List.getElem?_eq_some_iff.1 h).1
   simp[hs,this]
theorem getB_set_ne {fr:Fr} {sg:List Fr} {d i d' i':Nat} {b:Blk} (h:¬ (d'=d∧i'=i)):getB (setB fr sg d i b).1 (setB fr sg d i b).2 d' i'=getB fr sg d' i':=by
 cases d with
 |zero=>
  cases d' with
  |zero=>simp only[getB_zero,setB];rw[List.getElem?_set_ne (fun e=>h ⟨rfl,e.symm⟩)]
  |succ d'=>rfl
 |succ d=>
  cases d' with
  |zero=>rfl
  |succ d'=>
   simp only[getB_succ,setB]
   by_cases e:d'=d
   ·subst e
    cases hs:sg[d']? with
    |none=>simp[hs]
    |some f=>simp[hs,List.getElem?_set_ne (fun e:i=i'=>h ⟨rfl,e.symm⟩)]
   ·rw[List.getElem?_modify];simp only[if_neg (fun e':d=d'=>e e'.symm)];cases sg[d']?<;>rfl
theorem WR.upd {G G' fr sg w w'} {KW:World→Prop} {B:Bd KW} (h:WR G B fr sg w) {d i:Nat} {b0:Blk} {loc:Loc} (b:Blk) (loc':Loc) (hd:d≤sg.length) (hg:getB fr sg d i=some b0)
  (hl:G.ph (sg.length-d) i=some loc) (hle:LocLe loc loc') (m:Mv G G' B w w' (sg.length-d) i)
  (hp:G'.ph (sg.length-d) i=some loc') (hb:BR G' w' (sg.length-d) i loc' b):WR G' B (setB fr sg d i b).1 (setB fr sg d i b).2 w'∧PhUp G G':=by
 have up:PhUp G G':=m.up (fun x hx=>by rw[hl] at hx;cases hx;exact⟨loc',hp,hle⟩)
 refine⟨⟨fun c k x hx=>(m.io c k x hx).1,fun c k x hx=>(m.io c k x hx).2,m.ob,?_,?_,Nat.le_trans h.hB m.sz,B.mono _ _ m.be h.kn⟩,up⟩
 ·intro d' i' b' l' hd' hg' hl'
  rw[setB_len] at hd' hl' ⊢
  by_cases e:d'=d∧i'=i
  ·obtain⟨rfl,rfl⟩:=e
   rw[getB_set_same hg] at hg';cases hg'
   rw[hp] at hl';cases hl';exact hb
  ·rw[getB_set_ne e] at hg'
   have hne:(sg.length-d',i')≠(sg.length-d,i):=fun q=>e (by injection q;omega)
   rw[m.ph _ _ hne] at hl'
   exact m.keep hne (up _) (h.bl d' i' b' l' hd' hg' hl')
 ·intro l i' x hx
  rw[setB_len]
  by_cases e:(l,i')=(sg.length-d,i)
  ·cases e
   refine⟨by omega,b,?_⟩
   rw[show sg.length-(sg.length-d)=d by omega]
   exact getB_set_same hg
  ·rw[m.ph _ _ e] at hx
   obtain⟨h1,b',h2⟩:=h.dm l i' x hx
   refine⟨h1,b',?_⟩
   rw[getB_set_ne (fun q=>e (by rw[← q.2];congr 1;omega))];exact h2
theorem WR.same {G} {KW:World→Prop} {B:Bd KW} {fr sg w w'} (h:WR G B fr sg w) (hb:Below B.n w w') (hs:w.heap.size≤w'.heap.size) (hc:∀ c k,c<w.heap.size→w'.cell? ⟨c,k,none⟩=w.cell? ⟨c,k,none⟩)
  (hf:∀ c k o,G.ow c k=some o→Fz w' w c k):WR G B fr sg w':=by
 have hc':∀ c k x,w.cell? ⟨c,k,none⟩=some x→w'.cell? ⟨c,k,none⟩=some x:=fun c k x hx=>by
  rw[hc c k (World.block_lt_of_cell? w _ hx)];exact hx
 refine⟨fun c k x hx=>hc' c k x (h.im c k x hx),h.io,fun c k o ho=>⟨(h.ob c k o ho).1,Nat.lt_of_lt_of_le (h.ob c k o ho).2 hs⟩,?_,h.dm,Nat.le_trans h.hB hs,B.mono _ _ hb h.kn⟩
 intro d i b loc hd hg hl
 exact(h.bl d i b loc hd hg hl).keep (ImLe.refl _) (PhLe.refl _ _) fun c k ho=>⟨ho,hc c k (h.ob c k _ ho).2,hf c k _ ho⟩
theorem WR.drew {G fr sg w} {KW:World→Prop} {B:Bd KW} (h:WR G B fr sg w):WR G B fr sg w.drew:=h.same ((Below.refl _ _).drew) (Nat.le_refl _) (fun _ _ _=>rfl) (fun _ _ _ _=>⟨rfl,rfl⟩)
end Go.Vm
/-
  The machine V and Go's operations: which operation of V stands for which of Go's; the relation of states.
-/
namespace Go.Vm
open Go Go.RowKit
def isAggT (P:Program) (t:TypeId):Bool:=
 match P.underlying t with
 |some (.struct _)|some (.array _ _)=>true
 |_=>false
def sizeT (P:Program) (t:TypeId):Option Nat:=(P.info? t).map (·.size)
def cst0:Value→V→Bool
 | .bool a,.bool b=>a == b
 | .int k n,.int j m=>k == j&&n == m
 | .string s,.str l=>s.data.toList == l
 | .pointer none,.nilp | .map none,.nilm | .nilFunc,.nilf | .nilIface,.nili=>true
 | .slice none 0 0,.sl .ex _ []=>true
 | .slice none 0 0,.sl .no _ []=>true
 | .func (.func f) A B,.fn g [] []=>f == g&&A.isEmpty&&B.isEmpty
 |_,_=>false
def cstL:List Value→List V→Bool
 | [],[]=>true
 |a::as,b::bs=>cst0 a b&&cstL as bs
 |_,_=>false
def cst:Value→V→Bool
 | .agg A,.agg l=>cstL A.toList l
 |v,x=>cst0 v x
def trO:Operand→O→Bool
 | .tmp t,.t u=>t == u
 | .const v,.c x=>cst v x
 | .func f,.c (.fn g [] [])=>f == g
 |_,_=>false
def trL:List Operand→List O→Bool
 | [],[]=>true
 |a::as,b::bs=>trO a b&&trL as bs
 |_,_=>false
def trM:Option Operand→Option O→Bool
 |none,none=>true
 |some a,some b=>trO a b
 |_,_=>false
theorem cst0_PR {im v x} (h:cst0 v x=true):PR im x v:=by
 unfold cst0 at h
 split at h<;>first|cases h;done|skip
 case h_1=>simp at h;subst h;exact .bool _
 case h_2=>simp at h;obtain⟨rfl,rfl⟩:=h;exact .int _ _
 case h_3 s l=>simp at h;exact .str _ _ h.symm
 case h_4=>exact .nilp
 case h_5=>exact .nilm
 case h_6=>exact .nilf
 case h_7=>exact .nili
 case h_8 z=>exact .sl .ex z [] none 0 (fun _ _=>undef) (.inr ⟨rfl,rfl⟩) (Nat.le_refl _) (fun _=>rfl) (fun x hx=>by cases hx) (fun x j q hx=>by cases hx) (fun j e he=>by simp at he) (fun j e q x he=>by simp at he)
 case h_9 z=>exact .sl .no z [] none 0 (fun _ _=>undef) (.inl rfl) (Nat.le_refl _) (fun _=>rfl) (fun x hx=>by cases hx) (fun x j q hx=>by cases hx) (fun j e he=>by simp at he) (fun j e q x he=>by simp at he)
 case h_10 f A B g=>
  simp at h
  obtain⟨⟨rfl,hA⟩,hB⟩:=h
  exact .fn f [] [] A B (by simp[hA]) (by simp[hB]) (fun j x y hx=>by simp at hx) (fun j x y hx=>by simp at hx)
theorem cstL_get {im}:∀ {as:List Value} {bs:List V},cstL as bs=true→as.length=bs.length∧∀ (j:Nat) (x:V) (y:Value),bs[j]? = some x→as[j]? = some y→PR im x y
 | [],[],_=>⟨rfl,fun j x y hx=>by simp at hx⟩
 | [],_::_,h=>by simp[cstL] at h
 |_::_,[],h=>by simp[cstL] at h
 |a::as,b::bs,h=>by
  simp only[cstL,Bool.and_eq_true] at h
  obtain⟨h1,h2⟩:=cstL_get (im:=im) h.2
  refine⟨by simp[h1],fun j x y hx hy=>?_⟩
  cases j with
  |zero=>simp at hx hy;subst hx;subst hy;exact cst0_PR h.1
  |succ j=>exact h2 j x y (by simpa using hx) (by simpa using hy)
theorem cst_PR {im v x} (h:cst v x=true):PR im x v:=by
 unfold cst at h
 split at h
 ·rename_i A l
  obtain⟨h1,h2⟩:=cstL_get (im:=im) h
  exact .agg l A (by simpa using h1) fun j x y hx hy=>h2 j x y hx (by simpa using hy)
 ·exact cst0_PR h
structure SR {KW:World→Prop} (G:Gh) (B:Bd KW) (s:St) (a:Act) (w:World):Prop where
 wr:WR G B s.fr s.sg w
 tr:∀ t,VR G.im G.ph s.sg.length (s.tm t) (a.tmps.getD t undef)
theorem SR.rd {G s a w x y} {KW:World→Prop} {B:Bd KW} (h:SR G B s a w) (e:trO x y=true):VR G.im G.ph s.sg.length (rd s.tm y) (a.eval x):=by
 unfold trO at e
 split at e
 ·simp at e;subst e;exact h.tr _
 ·exact .pr _ _ (cst_PR e)
 ·simp at e;subst e
  exact .pr _ _ (.fn _ [] [] #[] #[] rfl rfl (fun j x y hx=>by simp at hx) (fun j x y hx=>by simp at hx))
 ·cases e
theorem SR.rdL {G s a w} {KW:World→Prop} {B:Bd KW} (h:SR G B s a w):∀ {xs:List Operand} {ys:List O},trL xs ys=true →
  xs.length=ys.length∧∀ (j:Nat) (x:V) (y:Value),(ys.map (Vm.rd s.tm))[j]? = some x→(xs.map a.eval)[j]? = some y→VR G.im G.ph s.sg.length x y
 | [],[],_=>⟨rfl,fun j x y hx=>by simp at hx⟩
 | [],_::_,h=>by simp[trL] at h
 |_::_,[],h=>by simp[trL] at h
 |x::xs,y::ys,e=>by
  simp only[trL,Bool.and_eq_true] at e
  obtain⟨h1,h2⟩:=h.rdL e.2
  refine⟨by simp[h1],fun j u v hx hy=>?_⟩
  cases j with
  |zero=>simp at hx hy;subst hx;subst hy;exact h.rd e.1
  |succ j=>exact h2 j u v (by simpa using hx) (by simpa using hy)
structure Res {KW:World→Prop} (G:Gh) (B:Bd KW) (s s':St) (v:V) (w:World) (G':Gh) (cv:Value) (w':World):Prop where
 wr:WR G' B s'.fr s'.sg w'
 im:ImLe G.im G'.im
 up:PhLe s.sg.length G.ph G'.ph
 v:VR G'.im G'.ph s.sg.length v cv
 tm:s'.tm=s.tm
 ln:s'.sg.length=s.sg.length
 be:Below B w w'
theorem Res.quiet {G s v w cv} {KW:World→Prop} {B:Bd KW} (h:WR G B s.fr s.sg w) (hv:VR G.im G.ph s.sg.length v cv):Res G B s s v w G cv w:=
 ⟨h,ImLe.refl _,PhLe.refl _ _,hv,rfl,rfl,Below.refl _ _⟩
section
variable {P:Program} {w:World}
theorem run_underlying {t:TypeId} {d:TypeDesc} (h:P.underlying t=some d):(underlying t).run P w = .ok d w:=by
 simp[underlying,h]
theorem run_typeInfo {t:TypeId} {i:TypeInfo} (h:P.info? t=some i):(typeInfo t).run P w = .ok i w:=by
 simp[typeInfo,h]
theorem sizeT_info {t n} (h:sizeT P t=some n):∃ i,P.info? t=some i∧i.size=n:=by
 unfold sizeT at h
 cases hi:P.info? t with
 |none=>simp[hi] at h
 |some i=>simp[hi] at h;exact⟨i,rfl,h⟩
theorem run_sizeOf {t n} (h:sizeT P t=some n):(sizeOf t).run P w = .ok n w:=by
 obtain⟨i,hi,rfl⟩:=sizeT_info h
 simp[sizeOf,run_typeInfo hi]
theorem run_isAgg {t d} (h:P.underlying t=some d):(isAgg t).run P w = .ok (isAggT P t) w:=by
 unfold isAggT
 simp only[isAgg,Sem.run_bind,run_underlying h,Result.andThen_ok,h]
 cases d<;>rfl
end
end Go.Vm
/-
  The machine V and Go's operations, one by one: those that make no lists grow.
-/
namespace Go.Vm
open Go Go.RowKit
section inv
variable {im:Nat→Nat→Option Value} {ph:Nat→Nat→Option Loc} {l:Nat} {cv:Value}
theorem VR.int_inv {k n} (h:VR im ph l (.int k n) cv):cv = .int k n:=by cases h with|pr _ _ h=>cases h;rfl
theorem VR.bool_inv {b} (h:VR im ph l (.bool b) cv):cv = .bool b:=by cases h with|pr _ _ h=>cases h;rfl
theorem VR.str_inv {b} (h:VR im ph l (.str b) cv):∃ s:ByteArray,cv = .string s∧b=s.data.toList:=by cases h with|pr _ _ h=>cases h with|str s _ h=>exact⟨s,rfl,h⟩
theorem VR.bp_inv {d i o} (h:VR im ph l (.bp d i o) cv):∃ c o0,d≤l∧ph (l-d) i=some (.box c o0)∧cv = .pointer (some ⟨c,o0+o,none⟩):=by
 cases h with
 |pr _ _ h=>cases h
 |bp _ _ _ c o0 hd hp=>exact⟨c,o0,hd,hp,rfl⟩
theorem VR.ep_inv {cs o} (h:VR im ph l (.ep cs o) cv):∃ c o0,∃ f:Nat→Value,cv = .pointer (some ⟨c,o0+o,none⟩)∧(∀ q:Nat,q<cs.length→im c (o0+q)=some (f q)) ∧
  ∀ (q:Nat) (x:V),cs[q]? = some x→PR im x (f q):=by
 cases h with|pr _ _ h=>cases h with|ep _ c o0 _ f hi hr=>exact⟨c,o0,f,rfl,hi,hr⟩
theorem VR.ap_inv {d i ver j o} (h:VR im ph l (.ap d i ver j o) cv):∃ loc,d≤l∧ph (l-d) i=some loc∧(∀ v,loc.cur=some v→ver≤v) ∧
  (∀ c o0 sz cap,loc = .arr ver c o0 sz cap→cv = .pointer (some ⟨c,o0+(j*sz+o),none⟩))∧∃ p,cv = .pointer (some p):=by
 cases h with
 |pr _ _ h=>cases h
 |ap _ _ _ _ _ loc _ hd hp hv h hk=>exact⟨loc,hd,hp,hv,h,hk⟩
theorem VR.bs_inv {d i ver o len} (h:VR im ph l (.bs d i ver o len) cv):∃ a cp loc,cv = .slice a len cp∧d≤l∧ph (l-d) i=some loc∧(∀ v,loc.cur=some v→ver≤v)∧len≤cp ∧
  (a=none→cp=0)∧(∀ x:Addr,a=some x→cp≠0→x.spot=none) ∧
  (∀ c o0 sz cap,loc = .arr ver c o0 sz cap→cp=0∨(a=some ⟨c,o0+o*sz,none⟩∧o+cp≤cap))∧(loc = .arrN ver→cp=0):=by
 cases h with
 |pr _ _ h=>cases h
 |bs _ _ _ _ _ a cp loc hd hp hv hc ha hsp h hn=>exact⟨a,cp,loc,rfl,hd,hp,hv,hc,ha,hsp,h,hn⟩
theorem VR.mp_inv {d i} (h:VR im ph l (.mp d i) cv):∃ c,d≤l∧ph (l-d) i=some (.map c)∧cv = .map (some c):=by
 cases h with
 |pr _ _ h=>cases h
 |mp _ _ c hd hp=>exact⟨c,hd,hp,rfl⟩
theorem VR.sl_inv {t z es} (h:VR im ph l (.sl t z es) cv):PR im (.sl .no z es) cv:=by
 cases h with
 |pr _ _ h=>exact h.dt0
 |slat _ _ _ _ _ _ _ _ _ _ hs _=>exact hs
theorem PR.sl_inv {t z es} (h:PR im (.sl t z es) cv):∃ a cap,∃ f:Nat→Nat→Value,cv = .slice a es.length cap∧(t = .no∨(t = .ex∧cap=es.length))∧es.length≤cap∧(a=none→cap=0) ∧
  (∀ x:Addr,a=some x→cap≠0→x.spot=none)∧(∀ (x:Addr) (j q:Nat),a=some x→j<es.length→q<z→im x.block (x.off+(j*z+q))=some (f j q)) ∧
  (∀ (j:Nat) (e:V),es[j]? = some e→(cellsOf e).length=z)∧∀ (j:Nat) (e:V) (q:Nat) (x:V),es[j]? = some e→(cellsOf e)[q]? = some x→PR im x (f j q):=by
 cases h with|sl _ _ _ a cap f ht hc ha hsp hi hz hr=>exact⟨a,cap,f,rfl,ht,hc,ha,hsp,hi,hz,hr⟩
end inv
theorem addr_add (c k n:Nat):(⟨c,k,none⟩:Addr).add n=⟨c,k+n,none⟩:=by
 unfold Addr.add
 split
 ·rename_i h;subst h;rfl
 ·rfl
theorem addr_eta (x:Addr) (h:x.spot=none):x=⟨x.block,x.off,none⟩:=by cases x;simp_all
section ops
variable {P:Program} {KW:World→Prop} {B:Bd KW} {G:Gh} {s:St} {a:Act} {w:World}
def Ok {KW:World→Prop} (P:Program) (B:Bd KW) (o:Oper) (a:Act) (w:World) (G:Gh) (s s':St) (v:V):Prop:=
 ∃ cv w' G',((execOp a.eval o).run P w = .ok (.value cv) w'∨((execOp a.eval o).run P w = .ok .skip w'∧cv=undef))∧Res G B s s' v w G' cv w'
theorem Ok.quiet {o:Oper} {v:V} {cv:Value} (h:SR G B s a w) (hr:(execOp a.eval o).run P w = .ok (.value cv) w) (hv:VR G.im G.ph s.sg.length v cv):Ok P B o a w G s s v:=
 ⟨cv,w,G,.inl hr,.quiet h.wr hv⟩
theorem ok_mv {o:Oper} {x:Operand} {y:O} (ho:o.op = .move x∨o.op = .assign x) (e:trO x y=true) (h:SR G B s a w):Ok P B o a w G s s (rd s.tm y):=by
 refine .quiet h ?_ (h.rd e)
 rcases ho with ho|ho<;>simp[execOp,ho]
theorem ok_pick {o:Oper} {c x y:Operand} {c' x' y':O} {b:Bool} (ho:o.op = .pick c x y) (e0:trO c c'=true) (e1:trO x x'=true) (e2:trO y y'=true) (h:SR G B s a w)
  (hb:rd s.tm c' = .bool b):Ok P B o a w G s s (bif b then rd s.tm x' else rd s.tm y'):=by
 have h0:=h.rd e0;rw[hb] at h0
 refine .quiet h (cv:=if b then a.eval x else a.eval y) ?_ ?_
 ·simp[execOp,ho,h0.bool_inv,asBool]
 ·cases b
  ·exact h.rd e2
  ·exact h.rd e1
theorem bytesLess_eq:∀ a b,Op.bytesLess a b=bLess a b
 |_,[]=>by unfold Op.bytesLess bLess;rfl
 | [],_::_=>by unfold Op.bytesLess bLess;rfl
 |a::x,b::y=>by unfold Op.bytesLess bLess;rw[bytesLess_eq x y]
theorem eqGuard_int {op t x y k n j m}:(eqGuard op t x y (.int k n) (.int j m)).run P w = .ok () w:=by
 unfold eqGuard;split<;>rfl
theorem eqGuard_str {op t x y n m}:(eqGuard op t x y (.string n) (.string m)).run P w = .ok () w:=by
 unfold eqGuard;split<;>rfl
theorem eqGuard_bool {op t x y n m}:(eqGuard op t x y (.bool n) (.bool m)).run P w = .ok () w:=by
 unfold eqGuard;split<;>rfl
theorem binI_run {im} {op:BinOp} {t:TypeId} {k:IntKind} {n m:Int} {v:V} (h:binI op k n m=some v) :
  ∃ cv,(binOp op t (.int k n) (.int k m)).run P w = .ok cv w∧PR im v cv:=by
 cases op<;>simp only[binI,reduceCtorEq] at h
 case add=>cases h;exact⟨_,by simp[binOp,Op.intArith],.int _ _⟩
 case sub=>cases h;exact⟨_,by simp[binOp,Op.intArith],.int _ _⟩
 case mul=>cases h;exact⟨_,by simp[binOp,Op.intArith],.int _ _⟩
 case quo=>
  by_cases hz:m=0
  ·simp[hz] at h
  ·have hz':(m == 0)=false:=by simpa using hz
   rw[hz'] at h;cases h;exact⟨_,by simp[binOp,Op.intDiv,hz],.int _ _⟩
 case rem=>
  by_cases hz:m=0
  ·simp[hz] at h
  ·have hz':(m == 0)=false:=by simpa using hz
   rw[hz'] at h;cases h;exact⟨_,by simp[binOp,Op.intDiv,hz],.int _ _⟩
 case and=>cases h;exact⟨_,by simp[binOp,Op.intBits],.int _ _⟩
 all_goals cases h;exact⟨_,by simp[binOp,Op.intCmp],.bool _⟩
theorem ok_bin {o:Oper} {op:BinOp} {t t':TypeId} {x y:Operand} {x' y':O} {v:V} (ho:o.op = .binOp op t x y t') (e1:trO x x'=true) (e2:trO y y'=true) (h:SR G B s a w)
  (hv:binV op (rd s.tm x') (rd s.tm y')=some v):Ok P B o a w G s s v:=by
 have h1:=h.rd e1
 have h2:=h.rd e2
 unfold binV at hv
 split at hv
 ·rename_i k n j m hx hy
  rw[hx] at h1;rw[hy] at h2
  have g1:=h1.int_inv
  have g2:=h2.int_inv
  have hex:∀ r,(binOp op t (.int k n) (.int j m)).run P w = .ok r w→(execOp a.eval o).run P w = .ok (.value r) w:=fun r hr=>by
   simp[execOp,ho,g1,g2,eqGuard_int,hr]
  split at hv
  ·obtain⟨hb,rfl⟩:decide (m<0)=false∧_:=by
    cases hb:decide (m<0)<;>simp[hb] at hv;exact⟨rfl,hv⟩
   have hb':¬ m<0:=by simpa using hb
   exact .quiet h (hex _ (by simp[binOp,Op.shift,hb'])) (.pr _ _ (.int _ _))
  ·obtain⟨hb,rfl⟩:decide (m<0)=false∧_:=by
    cases hb:decide (m<0)<;>simp[hb] at hv;exact⟨rfl,hv⟩
   have hb':¬ m<0:=by simpa using hb
   exact .quiet h (hex _ (by simp[binOp,Op.shift,hb'])) (.pr _ _ (.int _ _))
  ·obtain⟨hk,hv'⟩:k=j∧binI op k n m=some v:=by
    by_cases hkj:k=j
    ·subst hkj;have:(k == k)=true:=by simp
     rw[this] at hv;exact⟨rfl,hv⟩
    ·have:(k == j)=false:=by simpa using hkj
     simp[this] at hv
   subst hk
   obtain⟨r,hr,hp⟩:=binI_run (im:=G.im) (P:=P) (w:=w) (t:=t) hv'
   exact .quiet h (hex r hr) (.pr _ _ hp)
 ·rename_i p q hx hy
  rw[hx] at h1;rw[hy] at h2
  obtain⟨s1,g1,rfl⟩:=h1.str_inv
  obtain⟨s2,g2,rfl⟩:=h2.str_inv
  have hex:∀ r,(Op.stringOp op s1 s2).run P w = .ok r w→(execOp a.eval o).run P w = .ok (.value r) w:=fun r hr=>by
   have hb:(binOp op t (.string s1) (.string s2))=Op.stringOp op s1 s2:=by cases op<;>rfl
   simp[execOp,ho,g1,g2,eqGuard_str,hb,hr]
  unfold binS at hv
  split at hv<;>first|cases hv;done|skip
  ·obtain⟨hb,rfl⟩:=bif_some hv
   have hlen:¬ (((s1.size+s2.size:Nat):Int)>IntKind.i64.max):=by
    have:=Nat.le_of_ble_eq_true hb
    have e1:s1.data.toList.length=s1.size:=rfl
    have e2:s2.data.toList.length=s2.size:=rfl
    rw[e1,e2] at this
    have hm:IntKind.i64.max=((maxL:Nat):Int):=by rfl
    rw[hm];omega
   refine .quiet h (hex (.string (s1++s2)) ?_) (.pr _ _ (.str _ _ (by simp)))
   unfold Op.stringOp
   simp only[if_neg hlen,Sem.run_pure]
  all_goals
   simp only[Option.some.injEq] at hv;subst hv
   refine .quiet h (hex (.bool _) (by unfold Op.stringOp;simp only[ByteArray.toList_eq,bytesLess_eq];exact Sem.run_pure _ _ _)) (.pr _ _ (.bool _))
 ·cases hv
end ops
end Go.Vm
/-
  The machine V and Go's operations, one by one: loads, stores, addresses, structs.
-/
namespace Go.Vm
open Go Go.RowKit
section ops
variable {P:Program} {KW:World→Prop} {B:Bd KW} {G:Gh} {s:St} {a:Act} {w:World}
theorem ok_not {o:Oper} {t:TypeId} {x:Operand} {y:O} {b:Bool} (ho:o.op = .unOp .not t x) (e:trO x y=true) (h:SR G B s a w) (hb:rd s.tm y = .bool b):Ok P B o a w G s s (.bool !b):=by
 have h0:=h.rd e;rw[hb] at h0
 exact .quiet h (cv:=.bool !b) (by simp[execOp,ho,h0.bool_inv,Op.unary]) (.pr _ _ (.bool _))
theorem ok_neg {o:Oper} {t:TypeId} {x:Operand} {y:O} {k:IntKind} {n:Int} (ho:o.op = .unOp .neg t x) (e:trO x y=true) (h:SR G B s a w) (hb:rd s.tm y = .int k n):Ok P B o a w G s s (.int k (k.wrap (0-n))):=by
 have h0:=h.rd e;rw[hb] at h0
 exact .quiet h (cv:=.int k (k.wrap (0-n))) (by simp[execOp,ho,h0.int_inv,Op.unary,Op.intArith]) (.pr _ _ (.int _ _))
theorem ok_wrp {o:Oper} {t u:TypeId} {x:Operand} {y:O} {k j k0:IntKind} {n:Int} (ho:o.op = .convert t u x) (ht:P.underlying t=some (.int k0)) (hu:P.underlying u=some (.int k)) (e:trO x y=true) (h:SR G B s a w)
  (hb:rd s.tm y = .int j n):Ok P B o a w G s s (.int k (k.wrap n)):=by
 have h0:=h.rd e;rw[hb] at h0
 exact .quiet h (cv:=.int k (k.wrap n)) (by simp[execOp,ho,h0.int_inv,convert,run_underlying ht,run_underlying hu,Conv.intToInt]) (.pr _ _ (.int _ _))
theorem ok_strstr {o:Oper} {t u:TypeId} {x:Operand} {y:O} {b:List UInt8} (ho:o.op = .convert t u x) (ht:P.underlying t=some .string) (hu:P.underlying u=some .string) (e:trO x y=true) (h:SR G B s a w)
  (hb:rd s.tm y = .str b):Ok P B o a w G s s (rd s.tm y):=by
 have h0:=h.rd e
 have h1:=h0;rw[hb] at h1
 obtain⟨b',hb',_⟩:=h1.str_inv
 exact .quiet h (by simp[execOp,ho,hb',convert,run_underlying ht,run_underlying hu]) (hb'▸h0)
theorem run_loadVar_agg {t:TypeId} {d:TypeDesc} {sz c k:Nat} (ht:P.underlying t=some d) (hag:isAggT P t=true) (hsz:sizeT P t=some sz) (f:Nat→Value)
  (hf:∀ q,q<sz→w.cell? ⟨c,k+q,none⟩=some (f q)):(loadVar t ⟨c,k,none⟩).run P w = .ok (.agg ((List.range sz).map f).toArray) w:=by
 have hl:=run_loadCells (P:=P) w ⟨c,k,none⟩ sz f (fun j hj=>by rw[addr_add];exact hf j hj)
 simp[loadVar,run_isAgg ht,hag,run_sizeOf hsz,hl]
theorem run_loadVar_one {t:TypeId} {d:TypeDesc} {c k:Nat} {v:Value} (ht:P.underlying t=some d) (hag:isAggT P t=false) (hf:w.cell? ⟨c,k,none⟩=some v) :
  (loadVar t ⟨c,k,none⟩).run P w = .ok v w:=by
 simp[loadVar,run_isAgg ht,hag,hf]
theorem ldC_run {R:V→Value→Prop} {t:TypeId} {d:TypeDesc} {ag:Bool} {sz c o0 o:Nat} {cs:List V} {v:V} (ht:P.underlying t=some d) (hag:isAggT P t=ag) (hsz:sizeT P t=some sz)
  (hc:∀ (q:Nat) (x:V),cs[q]? = some x→∃ cv,w.cell? ⟨c,o0+q,none⟩=some cv∧R x cv) (e:ldC ag sz cs o=some v) :
  ∃ cv,(loadVar t ⟨c,o0+o,none⟩).run P w = .ok cv w ∧
   ((ag=false∧R v cv)∨(ag=true∧∃ l A,v = .agg l∧cv = .agg A∧A.size=l.length∧∀ (j:Nat) (x:V) (y:Value),l[j]? = some x→A[j]? = some y→R x y)):=by
 unfold ldC at e
 cases ag with
 |false=>
  simp only[cond_false] at e
  obtain⟨cv,h1,h2⟩:=hc _ _ e
  exact⟨cv,run_loadVar_one ht hag h1,.inl ⟨rfl,h2⟩⟩
 |true=>
  simp only[cond_true] at e
  obtain⟨hb,rfl⟩:=bif_some e
  have hlen:=Nat.le_of_ble_eq_true hb
  have hex:∀ q,q<sz→∃ x cv,cs[o+q]? = some x∧w.cell? ⟨c,o0+(o+q),none⟩=some cv∧R x cv:=fun q hq=>by
   have:o+q<cs.length:=by omega
   obtain⟨cv,h1,h2⟩:=hc (o+q) _ (List.getElem?_eq_getElem this)
   exact⟨_,cv,List.getElem?_eq_getElem this,h1,h2⟩
  let f:Nat→Value:=fun q=>(w.cell? ⟨c,o0+(o+q),none⟩).getD undef
  refine⟨_,run_loadVar_agg ht hag hsz f (fun q hq=>?_),.inr ⟨rfl,_,_,rfl,rfl,?_,?_⟩⟩
  ·obtain⟨x,cv,_,h1,_⟩:=hex q hq
   simp only[f,Nat.add_assoc,h1,Option.getD_some]
  ·simp;omega
  ·intro j x y hx hy
   have hj:j<sz:=by
    have:=(List.getElem?_eq_some_iff.1 hx).1
    simp at this;omega
   obtain⟨x',cv,g1,g2,g3⟩:=hex j hj
   have hx':x=x':=by
    rw[List.getElem?_take,if_pos hj,List.getElem?_drop,g1] at hx
    exact(Option.some.inj hx).symm
   have hy':y=cv:=by
    simp[f,g2,hj] at hy
    exact hy.symm
   rw[hx',hy'];exact g3
theorem SR.box {d i c o0:Nat} {cs:List V} (h:SR G B s a w) (hd:d≤s.sg.length) (hp:G.ph (s.sg.length-d) i=some (.box c o0)) (hg:s.get d i=some (.box cs)) :
  ∀ (q:Nat) (x:V),cs[q]? = some x→∃ cv,w.cell? ⟨c,o0+q,none⟩=some cv∧VR G.im G.ph (s.sg.length-d) x cv:=fun q x hx=>by
 have:=h.wr.bl d i _ _ hd hg hp
 obtain⟨_,_,cv,h1,h2⟩:=this q x hx
 exact⟨cv,h1,h2⟩
theorem SR.arr {d i ver sz c o0 z cap:Nat} {es:List V} (h:SR G B s a w) (hd:d≤s.sg.length) (hp:G.ph (s.sg.length-d) i=some (.arr ver c o0 z cap)) (hg:s.get d i=some (.arr ver sz es)) :
  sz=z∧es.length≤cap∧(∀ k,k<cap*z→Own G w (s.sg.length-d) i c (o0+k)) ∧
  ∀ (j:Nat) (e:V),es[j]? = some e→(cellsOf e).length=sz∧∀ (q:Nat) (x:V),(cellsOf e)[q]? = some x→∃ cv,w.cell? ⟨c,o0+(j*sz+q),none⟩=some cv∧PR G.im x cv:=by
 have:=h.wr.bl d i _ _ hd hg hp
 obtain⟨_,rfl,h3,h4,h5⟩:=this
 exact⟨rfl,h3,h4,h5⟩
theorem SR.arr_loc {d i ver sz:Nat} {es:List V} {loc:Loc} (h:SR G B s a w) (hd:d≤s.sg.length) (hp:G.ph (s.sg.length-d) i=some loc) (hg:s.get d i=some (.arr ver sz es)) (hv:∀ v,loc.cur=some v→ver≤v) :
  (∃ c o0 cap,loc = .arr ver c o0 sz cap)∨(loc = .arrN ver∧es = []):=by
 have:=h.wr.bl d i _ _ hd hg hp
 cases loc with
 |arr ver' c o0 z cap=>obtain⟨rfl,rfl,_⟩:=this;exact .inl ⟨c,o0,cap,rfl⟩
 |arrN ver'=>obtain⟨rfl,rfl⟩:=this;exact .inr ⟨rfl,rfl⟩
 |rsv z=>exact(BR_rsvA this hv).elim
 |_=>exact this.elim
theorem map_some {α β:Type} {f:α→β} {x:Option α} {y:β} (h:x.map f=some y):∃ z,x=some z∧f z=y:=by
 cases x with
 |none=>simp at h
 |some z=>exact⟨z,rfl,by simpa using h⟩
theorem bind_some' {α β:Type} {f:α→Option β} {x:Option α} {y:β} (h:x.bind f=some y):∃ z,x=some z∧f z=some y:=by
 cases x with
 |none=>simp at h
 |some z=>exact⟨z,rfl,h⟩
theorem VR.sh_id {im ph l v cv} (d:Nat) (hd:d≤l) (h:VR im ph (l-d) v cv):VR im ph l ((match d with|0=>id|d+1=>Vm.sh2 (d+1)) v) cv:=by
 cases d with
 |zero=>exact h
 |succ d=>
  have:=h.sh2 (d+1)
  rwa [show l-(d+1)+(d+1)=l by omega] at this
theorem ld_core {t:TypeId} {d:TypeDesc} {ag:Bool} {sz:Nat} {y:V} {yv:Value} {v:V} (ht:P.underlying t=some d) (hag:isAggT P t=ag) (hsz:sizeT P t=some sz)
  (h0:VR G.im G.ph s.sg.length y yv) (h:SR G B s a w) (hv:ldV ag sz y s=some v):∃ p cv,yv = .pointer (some p)∧(loadVar t p).run P w = .ok cv w∧VR G.im G.ph s.sg.length v cv:=by
 unfold ldV at hv
 split at hv
 ·rename_i d i o'
  obtain⟨c,o0,hd,hp,hcv⟩:=h0.bp_inv
  split at hv
  ·rename_i cs hg
   obtain⟨u,hu,rfl⟩:=map_some hv
   obtain⟨cv,hr,hR⟩:=ldC_run (R:=VR G.im G.ph (s.sg.length-d)) ht hag hsz (h.box hd hp hg) hu
   refine⟨_,cv,hcv,hr,?_⟩
   refine VR.sh_id d hd ?_
   rcases hR with⟨_,hR⟩|⟨_,l,A,rfl,rfl,hl,hR⟩
   ·exact hR
   ·exact .agg _ _ hl hR
  ·cases hv
 ·rename_i d i ver j o'
  obtain⟨loc,hd,hp,hvr,hloc,_⟩:=h0.ap_inv
  split at hv
  ·rename_i ver' z es hg
   cases hvv:Nat.beq ver ver' with
   |false=>simp[hvv] at hv
   |true=>
    have:=Nat.eq_of_beq_eq_true hvv;subst this
    simp only[hvv,cond_true] at hv
    obtain⟨el,he,hu⟩:=bind_some' hv
    rcases h.arr_loc hd hp hg hvr with⟨c,o0,cap,rfl⟩|⟨_,rfl⟩
    ·obtain⟨_,_,_,h5⟩:=h.arr hd hp hg
     obtain⟨g1,g2⟩:=h5 j el he
     have hcv:=hloc _ _ _ _ rfl
     obtain⟨cv,hr,hR⟩:=ldC_run (R:=PR G.im) (c:=c) (o0:=o0+j*z) ht hag hsz (fun q x hx=>by
      obtain⟨cv,k1,k2⟩:=g2 q x hx
      exact⟨cv,by rw[Nat.add_assoc];exact k1,k2⟩) hu
     refine⟨_,cv,hcv,by rw[← Nat.add_assoc];exact hr,?_⟩
     rcases hR with⟨_,hR⟩|⟨_,l,A,rfl,rfl,hl,hR⟩
     ·exact .pr _ _ hR
     ·exact .pr _ _ (.agg _ _ hl hR)
    ·simp at he
  ·cases hv
 ·rename_i cs o'
  obtain⟨c,o0,f,hcv,hi,hr⟩:=h0.ep_inv
  obtain⟨cv,hrun,hR⟩:=ldC_run (R:=PR G.im) (c:=c) (o0:=o0) ht hag hsz (fun q x hx=>⟨f q,h.wr.im _ _ _ (hi q (List.getElem?_eq_some_iff.1 hx).1),hr q x hx⟩) hv
  refine⟨_,cv,hcv,hrun,?_⟩
  rcases hR with⟨_,hR⟩|⟨_,l,A,rfl,rfl,hl,hR⟩
  ·exact .pr _ _ hR
  ·exact .pr _ _ (.agg _ _ hl hR)
 ·cases hv
theorem ok_ld {o:Oper} {t:TypeId} {d:TypeDesc} {ag:Bool} {sz:Nat} {x:Operand} {y:O} {v:V} (ho:o.op = .load t x) (ht:P.underlying t=some d) (hag:isAggT P t=ag) (hsz:sizeT P t=some sz)
  (e:trO x y=true) (h:SR G B s a w) (hv:ldV ag sz (rd s.tm y) s=some v):Ok P B o a w G s s v:=by
 obtain⟨p,cv,h1,h2,h3⟩:=ld_core (P:=P) ht hag hsz (h.rd e) h hv
 exact .quiet h (by simp[execOp,ho,h1,Instr.loadAt,Instr.sureAddr,h2]) h3
end ops
end Go.Vm
/-
  The machine V and Go's operations, one by one: stores.
-/
namespace Go.Vm
open Go Go.RowKit
theorem PR.one {im x y} (h:PR im x y) (hs:scal x=true):y.oneCell'=true:=by
 cases h<;>simp[scal] at hs<;>rfl
theorem VR.one {im ph l x y} (h:VR im ph l x y) (hs:scal x=true):y.oneCell'=true:=by
 cases h with
 |pr _ _ h=>exact h.one hs
 |bp=>rfl
 |ap d i ver j o loc cv hd hp hv h hk=>obtain⟨p,rfl⟩:=hk;rfl
 |bs=>rfl
 |mp=>rfl
 |slat d i ver z es loc cv hd hp hv hs' h=>exact hs'.one rfl
 |fn=>rfl
 |iface=>rfl
 |_=>simp[scal] at hs
theorem cells_one {v:Value} (h:v.oneCell'=true):v.cells = #[v]:=by
 cases v<;>first|rfl|simp[Value.oneCell'] at h
structure Wrote (c k:Nat) (vs:List Value) (w w':World):Prop where
 size:w'.heap.size=w.heap.size
 new:∀ (j:Nat) (v:Value),vs[j]? = some v→w'.cell? ⟨c,k+j,none⟩=some v
 old:∀ c' k',(c'≠c∨k'<k∨k+vs.length≤k')→w'.cell? ⟨c',k',none⟩=w.cell? ⟨c',k',none⟩
 frz:∀ x,w'.frozen? x=w.frozen? x
 mp:∀ x,mapAt w' x=mapAt w x
 be:∀ B,B≤c→Below B w w'
theorem run_storeCells {P:Program} (c k:Nat):∀ (vs:List Value) (i:Nat) (w:World),(∀ v∈vs,v.oneCell'=true) →
  (∀ j,j<vs.length→(∃ cv,w.cell? ⟨c,k+i+j,none⟩=some cv)∧w.frozen? ⟨c,k+i+j,none⟩=false) →
  ∃ w',(storeCells ⟨c,k,none⟩ vs i).run P w = .ok () w'∧Wrote c (k+i) vs w w'
 | [],i,w,_,_=>⟨w,by simp[storeCells],rfl,fun j v h=>by simp at h,fun _ _ _=>rfl,fun _=>rfl,fun _=>rfl,fun B _=>Below.refl B w⟩
 |v::vs,i,w,hv,hw=>by
  obtain⟨⟨u,hu⟩,hf⟩:=hw 0 (by simp)
  simp only[Nat.add_zero] at hu hf
  let w1:=w.setCell ⟨c,k+i,none⟩ v
  have h1:(store ((⟨c,k,none⟩:Addr).add i) v).run P w = .ok () w1:=by
   rw[addr_add,run_store P w _ v .plain (hv v (by simp)),hu]
   simp[hf,w1]
  obtain⟨w',h2,hs,hn,ho,hfr,hmp,hb⟩:=run_storeCells c k vs (i+1) w1 (fun v hv'=>hv v (by simp[hv'])) (fun j hj=>by
   obtain⟨⟨u',hu'⟩,hf'⟩:=hw (j+1) (by simp;omega)
   have e:k+(i+1)+j=k+i+(j+1):=by omega
   rw[e]
   refine⟨⟨u',?_⟩,?_⟩
   ·rw[World.cell?_setCell_other _ _ _ _ (by simp)];exact hu'
   ·rw[World.frozen?_setCell];exact hf')
  refine⟨w',by simp only[storeCells,Sem.run_bind,h1,Result.andThen_ok];exact h2,?_,?_,?_,?_,?_,?_⟩
  ·rw[hs];simp[w1]
  ·intro j x hx
   cases j with
   |zero=>
    simp at hx;subst hx
    rw[Nat.add_zero,ho c (k+i) (by omega)]
    exact World.cell?_setCell_same _ _ _ hu
   |succ j=>
    have:=hn j x (by simpa using hx)
    rwa [show k+(i+1)+j=k+i+(j+1) by omega] at this
  ·intro c' k' hck
   rw[ho c' k' (by simp at hck;omega)]
   exact World.cell?_setCell_other _ _ _ _ (by simp at hck ⊢;omega)
  ·intro x;rw[hfr];simp[w1]
  ·intro x;rw[hmp];exact mapAt_setCell w _ v x
  ·intro B hB
   exact((Below.refl B w).setCell (p:=⟨c,k+i,none⟩) hB v).trans (hb B hB)
theorem pu2_cells {e:V} (h:pu2 e=true):∀ x∈cellsOf e,pu1 x=true:=by
 intro x hx
 cases e with
 |agg cs=>exact List.all_eq_true.1 h x hx
 |_=>simp only[cellsOf,List.mem_singleton] at hx;subst hx;exact h
theorem mkEl_cells {cs:List V} (h:pu2 (mkEl false cs)=true):cellsOf (mkEl false cs)=cs:=by
 unfold mkEl at h ⊢
 simp only[cond_false] at h ⊢
 split at h
 ·rename_i v
  cases hs:scal v with
  |false=>simp[hs,pu2,pu1,pu0] at h
  |true=>simp only[cond_true];cases v<;>first|rfl|simp[scal] at hs
 ·simp[pu2,pu1,pu0] at h
theorem reEl_cells {e:V} {cs:List V} (h:pu2 (reEl e cs)=true):cellsOf (reEl e cs)=cs:=by
 cases e with
 |agg _=>rfl
 |_=>exact mkEl_cells h
section ops
variable {P:Program} {KW:World→Prop} {B:Bd KW} {G:Gh} {s:St} {a:Act} {w:World}
def RV (R:V→Value→Prop) (v:V) (cv:Value):Prop:=
 match v with
 | .agg l=>∃ A,cv = .agg A∧A.size=l.length∧∀ (j:Nat) (x:V) (y:Value),l[j]? = some x→A[j]? = some y→R x y
 |_=>R v cv
theorem VR.rv {im ph l v cv} (h:VR im ph l v cv):RV (VR im ph l) v cv:=by
 cases v<;>first|exact h|exact h.agg_inv
theorem stC_run {R:V→Value→Prop} (hone:∀ x y,scal x=true→R x y→y.oneCell'=true) {t:TypeId} {ag:Bool} {sz c o0 o:Nat} {cs cs':List V} {v:V} {cv:Value}
  (hsz:sizeT P t=some sz) (hag:ag=false→sz=1)
  (hc:∀ (q:Nat) (x:V),cs[q]? = some x→∃ cv,w.cell? ⟨c,o0+q,none⟩=some cv∧R x cv) (hw:∀ q,q<cs.length→w.frozen? ⟨c,o0+q,none⟩=false)
  (hv:RV R v cv) (e:stC ag sz cs o v=some cs') :
  ∃ w',(storeVar t ⟨c,o0+o,none⟩ cv).run P w = .ok () w'∧Wrote c (o0+o) cv.cells.toList w w'∧cs'.length=cs.length∧o+cv.cells.size≤cs.length ∧
   ∀ (q:Nat) (x:V),cs'[q]? = some x→∃ cv,w'.cell? ⟨c,o0+q,none⟩=some cv∧R x cv:=by
 have main:∀ (vs:List V) (A:Array Value),cv.cells=A→A.size=vs.length→vs.all scal=true→(∀ (j:Nat) (x:V) (y:Value),vs[j]? = some x→A[j]? = some y→R x y) →
   vs.length=sz→o+sz≤cs.length→cs'=cs.take o++vs++cs.drop (o+sz) →
   ∃ w',(storeVar t ⟨c,o0+o,none⟩ cv).run P w = .ok () w'∧Wrote c (o0+o) cv.cells.toList w w'∧cs'.length=cs.length∧o+cv.cells.size≤cs.length ∧
   ∀ (q:Nat) (x:V),cs'[q]? = some x→∃ cv,w'.cell? ⟨c,o0+q,none⟩=some cv∧R x cv:=by
  intro vs A hA hAl hsc hR hl hle hcs
  subst hA
  have hone':∀ y∈cv.cells.toList,y.oneCell'=true:=by
   intro y hy
   obtain⟨j,hj,rfl⟩:=List.getElem_of_mem hy
   simp only[Array.length_toList] at hj
   have hjl:j<vs.length:=by omega
   have:=List.all_eq_true.1 hsc _ (List.getElem_mem hjl)
   exact hone _ _ this (hR j _ _ (List.getElem?_eq_getElem hjl) (by simp[hj]))
  obtain⟨w',hrun,hwr⟩:=run_storeCells (P:=P) c (o0+o) cv.cells.toList 0 w hone' (fun j hj=>by
   simp only[Array.length_toList] at hj
   have hq:o+j<cs.length:=by omega
   obtain⟨u,hu,_⟩:=hc (o+j) _ (List.getElem?_eq_getElem hq)
   have:=hw (o+j) hq
   rw[Nat.add_zero,Nat.add_assoc]
   exact⟨⟨u,hu⟩,this⟩)
  rw[Nat.add_zero] at hwr
  refine⟨w',?_,hwr,?_,by omega,?_⟩
  ·have:cv.cells.size=sz:=by omega
   simp[storeVar,run_sizeOf hsz,this,hrun]
  ·rw[hcs];simp;omega
  ·intro q x hx
   rw[hcs] at hx
   by_cases h1:q<o
   ·rw[List.append_assoc,List.getElem?_append_left (by simp;omega),List.getElem?_take,if_pos h1] at hx
    obtain⟨u,hu,hr⟩:=hc q x hx
    exact⟨u,by rw[hwr.old c _ (by omega)];exact hu,hr⟩
   ·by_cases h2:q<o+sz
    ·rw[List.append_assoc,List.getElem?_append_right (by simp;omega),List.length_take,Nat.min_eq_left (by omega),List.getElem?_append_left (by omega)] at hx
     have hqa:q-o<cv.cells.size:=by omega
     refine⟨cv.cells[q-o],?_,hR _ x _ hx (by simp[hqa])⟩
     have:=hwr.new (q-o) cv.cells[q-o] (by simp[hqa])
     rwa [show o0+o+(q-o)=o0+q by omega] at this
    ·rw[List.getElem?_append_right (by simp;omega),List.getElem?_drop] at hx
     simp only[List.length_append,List.length_take] at hx
     rw[show o+sz+(q-(min o cs.length+vs.length))=q by omega] at hx
     obtain⟨u,hu,hr⟩:=hc q x hx
     exact⟨u,by rw[hwr.old c _ (by simp;omega)];exact hu,hr⟩
 unfold stC at e
 cases ag with
 |true=>
  simp only[cond_true] at e
  split at e
  ·rename_i vs
   obtain⟨hb,rfl⟩:=bif_some e
   simp only[Bool.and_eq_true] at hb
   obtain⟨h1,h2,h3⟩:=hb
   obtain⟨A,rfl,hl,hR⟩:=hv
   exact main vs A rfl hl h3 hR (Nat.eq_of_beq_eq_true h1) (Nat.le_of_ble_eq_true h2) rfl
  ·cases e
 |false=>
  simp only[cond_false] at e
  obtain⟨hb,rfl⟩:=bif_some e
  simp only[Bool.and_eq_true] at hb
  obtain⟨h1,h2⟩:=hb
  have h2':o<cs.length:=by simpa[Nat.blt_eq] using h2
  have hz:=hag rfl
  have hv':R v cv:=by cases v<;>first|exact hv|simp[scal] at h1
  have hce:=cells_one (hone v cv h1 hv')
  refine main [v] #[cv] hce rfl (by simp[h1]) (fun j x y hx hy=>?_) (by simp[hz]) (by omega) ?_
  ·cases j with
   |zero=>simp at hx hy;subst hx;subst hy;exact hv'
   |succ j=>simp at hx
  ·rw[hz,List.set_eq_take_append_cons_drop,if_pos h2'];simp
theorem stC_len {ag:Bool} {sz o:Nat} {cs cs':List V} {v:V} (e:stC ag sz cs o v=some cs'):cs'.length=cs.length∧o+(bif ag then sz else 1)≤cs.length:=by
 unfold stC at e
 cases ag with
 |true=>
  simp only[cond_true] at e ⊢
  split at e
  ·obtain⟨hb,rfl⟩:=bif_some e
   simp only[Bool.and_eq_true] at hb
   have h1:=Nat.eq_of_beq_eq_true hb.1
   have h2:=Nat.le_of_ble_eq_true hb.2.1
   exact⟨by simp;omega,h2⟩
  ·cases e
 |false=>
  simp only[cond_false] at e ⊢
  obtain⟨hb,rfl⟩:=bif_some e
  simp only[Bool.and_eq_true] at hb
  have h2':o<cs.length:=by simpa[Nat.blt_eq] using hb.2
  exact⟨by simp,h2'⟩
theorem SR.wrote {l i c k:Nat} {vs:List Value} {w':World} (h:WR G B s.fr s.sg w) (hwr:Wrote c k vs w w') (hbe:Below B.n w w') (hown:∀ k',k≤k'→k'<k+vs.length→G.ow c k'=some (l,i)):Mv G G B w w' l i:=by
 have key:∀ c' k',(G.ow c' k'≠some (l,i))→w'.cell? ⟨c',k',none⟩=w.cell? ⟨c',k',none⟩:=fun c' k' hne=>hwr.old c' k' (by
  by_cases hc:c'=c
  ·subst hc
   by_cases hlt:k'<k
   ·exact .inr (.inl hlt)
   ·by_cases hge:k+vs.length≤k'
    ·exact .inr (.inr hge)
    ·exact absurd (hown k' (by omega) (by omega)) hne
  ·exact .inl hc)
 exact⟨by rw[hwr.size];exact Nat.le_refl _,ImLe.refl _,fun c' k' x hx=>⟨by rw[key c' k' (by rw[h.io _ _ _ hx];simp)];exact h.im _ _ _ hx,h.io _ _ _ hx⟩,
  fun c' k' o ho=>by rw[hwr.size];exact h.ob _ _ _ ho,fun c' k' l' i' hne ho=>⟨ho,key c' k' (by rw[ho];exact fun e=>hne (Option.some.inj e)),hwr.frz _,hwr.mp _⟩,fun _ _ _=>rfl,hbe⟩
theorem dnS_some {im ph} {l d:Nat} {v v':V} {cv:Value} (hd:d≤l) (h:VR im ph l v cv) (e:dnS d v=some v'):VR im ph (l-d) v' cv:=by
 unfold dnS at e
 split at e
 ·cases e;exact h
 ·rename_i d
  split at e
  ·rename_i cs
   obtain⟨A,rfl,hl,hR⟩:=h.agg_inv
   obtain⟨cs',h1,rfl⟩:=map_some e
   obtain⟨l1,g1⟩:=mapM_get h1
   exact .agg _ A (by omega) fun j x y hx hy=>by
    obtain⟨x',hx',e'⟩:=g1 j x hx
    exact(hR j x' y hx' hy).dn1 (d+1) hd e'
  ·exact h.dn1 (d+1) hd e
theorem ok_st {o:Oper} {t:TypeId} {ag:Bool} {sz:Nat} {x x2:Operand} {y y2:O} {s':St} (ho:o.op = .store t x x2) (hag:ag=false→sz=1) (hsz0:0<sz) (hsz:sizeT P t=some sz)
  (e:trO x y=true) (e2:trO x2 y2=true) (h:SR G B s a w) (hv:stV ag sz (rd s.tm y) (rd s.tm y2) s=some s'):Ok P B o a w G s s' .und:=by
 have h0:=h.rd e
 have h2:=h.rd e2
 unfold stV at hv
 split at hv
 ·rename_i d i o' hx
  rw[hx] at h0
  obtain⟨c,o0,hd,hp,hcv⟩:=h0.bp_inv
  split at hv
  ·rename_i cs hg
   obtain⟨u,hu,hv⟩:=bind_some' hv
   obtain⟨cs',hcs',rfl⟩:=map_some hv
   have hbr:=h.wr.bl d i _ _ hd hg hp
   obtain⟨w',hr,hwr,hlen,hle,hrel⟩:=stC_run (P:=P) (R:=VR G.im G.ph (s.sg.length-d)) (fun x y hs hx=>hx.one hs) hsz hag (h.box hd hp hg)
    (fun q hq=>(hbr q _ (List.getElem?_eq_getElem hq)).2.1) (dnS_some hd h2 hu).rv hcs'
   have hown:∀ k',o0+o'≤k'→k'<o0+o'+(a.eval x2).cells.toList.length→G.ow c k'=some (s.sg.length-d,i):=fun k' h1 h2=>by
    simp only[Array.length_toList] at h2
    have:=hbr (k'-o0) _ (List.getElem?_eq_getElem (show k'-o0<cs.length by omega))
    rw[show o0+(k'-o0)=k' by omega] at this
    exact this.1
   have hB:B≤c:=by
    have hne:0<cs.length:=by
     have:=stC_len hcs'
     have:=hag
     cases ag with
     |true=>simp only[cond_true] at *;omega
     |false=>simp only[cond_false] at *;omega
    exact(h.wr.ob _ _ _ (hbr 0 _ (List.getElem?_eq_getElem hne)).1).1
   have hm:Mv G G B w w' (s.sg.length-d) i:=SR.wrote h.wr hwr (hwr.be _ hB) hown
   obtain⟨hwr',up⟩:=h.wr.upd (.box cs') (.box c o0) hd hg hp (LocLe.refl _) hm hp (fun q x hx=>by
    have hq:q<cs.length:=by rw[← hlen];exact(List.getElem?_eq_some_iff.1 hx).1
    obtain⟨cv,g1,g2⟩:=hrel q x hx
    obtain⟨k1,k2,_⟩:=hbr q _ (List.getElem?_eq_getElem hq)
    exact⟨k1,by rw[hwr.frz];exact k2,cv,g1,g2⟩)
   refine⟨undef,w',G,.inr ⟨by simp[execOp,ho,hcv,Instr.storeAt,Instr.sureAddr,hr],rfl⟩,?_,ImLe.refl _,PhLe.refl _ _,.und _,St.set_tm _ _ _ _,by rw[St.set_sg,setB_len],hwr.be B hB⟩
   rw[St.set_fr,St.set_sg];exact hwr'
  ·cases hv
 ·rename_i d i ver j o' hx
  rw[hx] at h0
  obtain⟨loc,hd,hp,hvr,hloc,_⟩:=h0.ap_inv
  split at hv
  ·rename_i ver' z es hg
   cases hvv:Nat.beq ver ver' with
   |false=>simp[hvv] at hv
   |true=>
    have:=Nat.eq_of_beq_eq_true hvv;subst this
    simp only[hvv,cond_true] at hv
    obtain⟨el,he,hv⟩:=bind_some' hv
    obtain⟨cs',hcs',hv⟩:=bind_some' hv
    obtain⟨hpu,rfl⟩:=bif_some hv
    have hjl:=(List.getElem?_eq_some_iff.1 he).1
    rcases h.arr_loc hd hp hg hvr with⟨c,o0,cap,rfl⟩|⟨_,rfl⟩
    ·obtain⟨_,hcap,hownA,h5⟩:=h.arr hd hp hg
     obtain⟨g1,g2⟩:=h5 j el he
     have hcv:=hloc _ _ _ _ rfl
     have hjz:j*z+z≤cap*z:=by
      have:(j+1)*z≤cap*z:=Nat.mul_le_mul_right _ (by omega)
      rwa [Nat.succ_mul] at this
     obtain⟨w',hr,hwr,hlen,hle,hrel⟩:=stC_run (P:=P) (R:=fun x cv=>VR G.im G.ph s.sg.length x cv) (c:=c) (o0:=o0+j*z) (fun x y hs hx=>hx.one hs) hsz hag
      (fun q x hx=>by obtain⟨cv,k1,k2⟩:=g2 q x hx;exact⟨cv,by rw[Nat.add_assoc];exact k1,.pr _ _ k2⟩)
      (fun q hq=>by rw[Nat.add_assoc];exact(hownA _ (by omega)).2.1) h2.dt2.rv hcs'
     have hown:∀ k',o0+j*z+o'≤k'→k'<o0+j*z+o'+(a.eval x2).cells.toList.length→G.ow c k'=some (s.sg.length-d,i):=fun k' h1 h2=>by
      simp only[Array.length_toList] at h2
      have:=(hownA (k'-o0) (by omega)).1
      rwa [show o0+(k'-o0)=k' by omega] at this
     have hcap0:0<cap*z:=by
      have:=(stC_len hcs').2
      cases ag with
      |true=>simp only[cond_true] at this;omega
      |false=>simp only[cond_false] at this;omega
     have hB:B≤c:=(h.wr.ob _ _ _ (hownA 0 hcap0).1).1
     have hm:Mv G G B w w' (s.sg.length-d) i:=SR.wrote h.wr hwr (hwr.be _ hB) hown
     have hcell:cellsOf (reEl el cs')=cs':=reEl_cells hpu
     obtain⟨hwr',up⟩:=h.wr.upd (.arr ver z (es.set j (reEl el cs'))) (.arr ver c o0 z cap) hd hg hp (LocLe.refl _) hm hp (by
      refine⟨rfl,rfl,by simpa using hcap,fun k hk=>?_,fun j' e' he'=>?_⟩
      ·obtain⟨k1,k2,cv,k3⟩:=hownA k hk
       refine⟨k1,by rw[hwr.frz];exact k2,?_⟩
       by_cases hin:o0+j*z+o'≤o0+k∧o0+k<o0+j*z+o'+(a.eval x2).cells.toList.length
       ·have:=hwr.new (o0+k-(o0+j*z+o')) _ (List.getElem?_eq_getElem (by omega))
        rw[show o0+j*z+o'+(o0+k-(o0+j*z+o'))=o0+k by omega] at this
        exact⟨_,this⟩
       ·exact⟨cv,by rw[hwr.old c _ (by omega)];exact k3⟩
      ·by_cases hj:j'=j
       ·subst hj
        rw[List.getElem?_set_self hjl] at he';cases he'
        rw[hcell]
        refine⟨by rw[hlen,g1],fun q x hx=>?_⟩
        obtain⟨cv,m1,m2⟩:=hrel q x hx
        exact⟨cv,by rw[← Nat.add_assoc];exact m1,m2.pr1 (pu2_cells hpu x (by rw[hcell];exact List.mem_of_getElem? hx))⟩
       ·rw[List.getElem?_set_ne (fun e=>hj e.symm)] at he'
        obtain⟨q1,q2⟩:=h5 j' e' he'
        refine⟨q1,fun q x hx=>?_⟩
        obtain⟨cv,m1,m2⟩:=q2 q x hx
        have hq:q<z:=by rw[← q1];exact(List.getElem?_eq_some_iff.1 hx).1
        refine⟨cv,?_,m2⟩
        rw[hwr.old c _ ?_];exact m1
        have hsz':o'+(a.eval x2).cells.toList.length≤z:=by rw[← g1];simpa using hle
        rcases Nat.lt_or_gt_of_ne hj with hlt|hgt
        ·have:(j'+1)*z≤j*z:=Nat.mul_le_mul_right _ hlt
         rw[Nat.succ_mul] at this;omega
        ·have:(j+1)*z≤j'*z:=Nat.mul_le_mul_right _ hgt
         rw[Nat.succ_mul] at this;omega)
     refine⟨undef,w',G,.inr ⟨by simp[execOp,ho,hcv,Instr.storeAt,Instr.sureAddr,← Nat.add_assoc,hr],rfl⟩,?_,ImLe.refl _,PhLe.refl _ _,.und _,St.set_tm _ _ _ _,by rw[St.set_sg,setB_len],hwr.be B hB⟩
     rw[St.set_fr,St.set_sg];exact hwr'
    ·simp at he
  ·cases hv
 ·cases hv
end ops
end Go.Vm
/-
  The machine V and Go's operations, one by one: addresses, fields, elements, what is made.
-/
namespace Go.Vm
open Go Go.RowKit
section ops
variable {P:Program} {KW:World→Prop} {B:Bd KW} {G:Gh} {s:St} {a:Act} {w:World}
theorem ok_nc {o:Oper} {x:Operand} {y:O} (ho:o.op = .nilCheck x) (e:trO x y=true) (h:SR G B s a w) (hb:nil? (rd s.tm y)=some false) (hf:∀ f A C,rd s.tm y≠.fn f A C):Ok P B o a w G s s (rd s.tm y):=by
 have h0:=h.rd e
 refine .quiet h (cv:=a.eval x) ?_ h0
 cases hv:rd s.tm y with
 |bp d i o'=>rw[hv] at h0;obtain⟨c,o0,_,_,hc⟩:=h0.bp_inv;simp[execOp,ho,hc]
 |ep cs o'=>rw[hv] at h0;obtain⟨c,o0,f,hc,_⟩:=h0.ep_inv;simp[execOp,ho,hc]
 |iface t v=>rw[hv] at h0;obtain⟨x',hc,_⟩:=h0.iface_inv;simp[execOp,ho,hc]
 |mp d i=>rw[hv] at h0;obtain⟨c,_,_,hc⟩:=h0.mp_inv;simp[execOp,ho,hc]
 |fn f A C=>exact absurd hv (hf f A C)
 |ap d i ver j o'=>rw[hv] at h0;obtain⟨_,_,_,_,_,p,hc⟩:=h0.ap_inv;simp[execOp,ho,hc]
 |_=>rw[hv] at hb;simp[nil?] at hb
theorem run_fieldAt {t:TypeId} {fs:Array Field} {f:Field} {j c k n:Nat} (ht:P.underlying t=some (.struct fs)) (hf:fs[j]? = some f) (hsz:sizeT P f.type=some n) (hn:n≠0) :
  (Instr.fieldAt t (.pointer (some ⟨c,k,none⟩)) j).run P w = .ok (.pointer (some ⟨c,k+f.offset,none⟩)) w:=by
 simp[Instr.fieldAt,run_underlying ht,hf,Instr.sureAddr,fieldPlace,run_sizeOf hsz,hn,addr_add]
theorem ok_fa {o:Oper} {t:TypeId} {x:Operand} {y:O} {fs:Array Field} {f:Field} {j n:Nat} {v:V} {s':St} (ho:o.op = .fieldAddr t x j) (ht:P.underlying t=some (.struct fs)) (hf:fs[j]? = some f) (hsz:sizeT P f.type=some n) (hn:n≠0)
  (e:trO x y=true) (h:SR G B s a w) {C:Cfg} {call:Call} (hv:opV C call (.fa f.offset y) s=some (v,s')):Ok P B o a w G s s' v:=by
 have h0:=h.rd e
 simp only[opV] at hv
 split at hv<;>first|cases hv;done|skip
 ·rename_i d i o' hx
  cases hv
  rw[hx] at h0;obtain⟨c,o0,hd,hp,hc⟩:=h0.bp_inv
  exact .quiet h (by simp[execOp,ho,hc,run_fieldAt ht hf hsz hn];rfl) (by rw[Nat.add_assoc];exact .bp _ _ _ _ _ hd hp)
 ·rename_i cs o' hx
  cases hv
  rw[hx] at h0;obtain⟨c,o0,g,hc,hi,hr⟩:=h0.ep_inv
  exact .quiet h (by simp[execOp,ho,hc,run_fieldAt ht hf hsz hn];rfl) (by rw[Nat.add_assoc];exact .pr _ _ (.ep _ _ _ _ g hi hr))
 ·rename_i d i ver j' o' hx
  cases hv
  rw[hx] at h0;obtain⟨loc,hd,hp,hvv,hloc,p,hc⟩:=h0.ap_inv
  have hrun:(Instr.fieldAt t (.pointer (some p)) j).run P w = .ok (.pointer (some (p.add f.offset))) w:=by
   simp[Instr.fieldAt,run_underlying ht,hf,Instr.sureAddr,fieldPlace,run_sizeOf hsz,hn]
  refine .quiet h (cv:=.pointer (some (p.add f.offset))) (by simp[execOp,ho,hc,hrun]) (.ap _ _ _ _ _ loc _ hd hp hvv (fun c o0 sz cap e=>?_) ⟨_,rfl⟩)
  have:=hloc c o0 sz cap e
  rw[hc] at this
  cases this
  rw[addr_add,Nat.add_assoc,Nat.add_assoc]
theorem ok_ex {o:Oper} {x:Operand} {y:O} {i:Nat} {vs:List V} {v:V} (ho:o.op = .extract x i) (e:trO x y=true) (h:SR G B s a w) (hb:rd s.tm y = .tup vs) (hv:vs[i]? = some v):Ok P B o a w G s s v:=by
 have h0:=h.rd e;rw[hb] at h0
 obtain⟨A,hA,hl,hR⟩:=h0.tup_inv
 have hi:i<A.size:=by rw[hl];exact(List.getElem?_eq_some_iff.1 hv).1
 exact .quiet h (cv:=A[i]) (by simp[execOp,ho,hA,Instr.extract,hi]) (hR i v _ hv (by simp[hi]))
theorem ok_mi {o:Oper} {t:TypeId} {d:TypeDesc} {x:Operand} {y:O} (ho:o.op = .makeInterface t x) (ht:P.underlying t=some d) (hd:∀ m,d≠.interface m) (e:trO x y=true) (h:SR G B s a w):Ok P B o a w G s s (.iface t (rd s.tm y)):=by
 refine .quiet h (cv:=.iface t (a.eval x)) ?_ (.iface _ _ _ (h.rd e))
 have:(Instr.makeInterface t (a.eval x)).run P w = .ok (.iface t (a.eval x)) w:=by
  simp only[Instr.makeInterface,Sem.run_bind,run_underlying ht,Result.andThen_ok]
  cases d<;>first|rfl|exact absurd rfl (hd _)
 simp[execOp,ho,this]
theorem ok_mf {o:Oper} {f:FuncId} {fa fb:Array Operand} {ya yb:List O} (ho:o.op = .makeFunc (.func f) fa fb) (ea:trL fa.toList ya=true) (eb:trL fb.toList yb=true) (h:SR G B s a w) :
  Ok P B o a w G s s (.fn f (ya.map (rd s.tm)) (yb.map (rd s.tm))):=by
 obtain⟨l1,r1⟩:=h.rdL ea
 obtain⟨l2,r2⟩:=h.rdL eb
 refine .quiet h (cv:=.func (.func f) (fa.map a.eval) (fb.map a.eval)) (by simp[execOp,ho,Instr.makeFunc]) (.fn _ _ _ _ _ ?_ ?_ ?_ ?_)
 ·simp[← l1]
 ·simp[← l2]
 ·intro j x y hx hy;exact r1 j x y hx (by simpa using hy)
 ·intro j x y hx hy;exact r2 j x y hx (by simpa using hy)
end ops
end Go.Vm
/-
  The machine V and Go's operations, one by one: elements, parts of structs, what is made, comparisons.
-/
namespace Go.Vm
open Go Go.RowKit
section ops
variable {P:Program} {KW:World→Prop} {B:Bd KW} {G:Gh} {s:St} {a:Act} {w:World}
theorem nat_some {v:V} {n:Nat} (h:nat? v=some n):∃ k,v = .int k (n:Int):=by
 unfold nat? at h
 split at h
 ·rename_i k m
  split at h
  ·cases h;exact⟨k,rfl⟩
  ·cases h
 ·cases h
theorem cv_int {im ph l v cv n} (h:VR im ph l v cv) (hn:nat? v=some n):∃ k,cv = .int k (n:Int):=by
 obtain⟨k,rfl⟩:=nat_some hn
 exact⟨k,h.int_inv⟩
theorem run_indexAt_slice {t e:TypeId} {ad:Addr} {len cap sz n:Nat} {k:IntKind} (ht:P.underlying t=some (.slice e)) (hsz:sizeT P e=some sz) (hn:n<len) :
  (Instr.indexAt t (.slice (some ad) len cap) (.int k n)).run P w = .ok (.pointer (some (ad.add (n*sz)))) w:=by
 simp[Instr.indexAt,asIntOf,run_underlying ht,run_sizeOf hsz]
 intro h1;omega
theorem run_indexAt_array {t e:TypeId} {ad:Addr} {len sz n:Nat} {k:IntKind} (ht:P.underlying t=some (.array len e)) (hsz:sizeT P e=some sz) (hn:n<len) :
  (Instr.indexAt t (.pointer (some ad)) (.int k n)).run P w = .ok (.pointer (some (ad.add (n*sz)))) w:=by
 simp[Instr.indexAt,asIntOf,run_underlying ht,run_sizeOf hsz,Instr.sureAddr]
 intro h1;omega
theorem ok_ia {o:Oper} {t e:TypeId} {x i:Operand} {y j:O} {sz:Nat} {v:V} {s':St} (ho:o.op = .indexAddr t x i) (ht:P.underlying t=some (.slice e)) (hsz:sizeT P e=some sz)
  (e1:trO x y=true) (e2:trO i j=true) (h:SR G B s a w) {C:Cfg} {call:Call} (hv:opV C call (.ia none sz y j) s=some (v,s')):Ok P B o a w G s s' v:=by
 have h1:=h.rd e1
 have h2:=h.rd e2
 simp only[opV] at hv
 obtain⟨n,hn,hv⟩:=bind_some' hv
 obtain⟨k,hk⟩:=cv_int h2 hn
 split at hv<;>first|cases hv;done|skip
 ·rename_i t' z es hx
  obtain⟨hz,hv'⟩:Nat.beq z sz=true∧(es[n]?).map (fun e=>(V.ep (cellsOf e) 0,s))=some (v,s'):=by
   cases hb:Nat.beq z sz<;>simp[hb] at hv;exact⟨rfl,by simpa using hv⟩
  have:=Nat.eq_of_beq_eq_true hz;subst this
  obtain⟨el,hel,hv''⟩:=map_some hv'
  cases hv''
  rw[hx] at h1
  obtain⟨ad,cap,f,hc,_,hcap,ha,hsp,hi,hzz,hr⟩:=h1.sl_inv.sl_inv
  have hlt:=(List.getElem?_eq_some_iff.1 hel).1
  cases ad with
  |none=>have:=ha rfl;omega
  |some ad=>
   have hrun:=run_indexAt_slice (P:=P) (w:=w) (ad:=ad) (cap:=cap) (k:=k) ht hsz hlt
   have hsp0:=hsp _ rfl (by omega)
   rw[addr_eta ad hsp0,addr_add] at hrun
   have hl:=hzz n el hel
   refine .quiet h (cv:=.pointer (some ⟨ad.block,ad.off+n*z,none⟩)) ?_ (.pr _ _ (.ep _ ad.block (ad.off+n*z) 0 (f n) (fun q hq=>?_) (fun q x hx=>hr n el q x hel hx)))
   ·have e':a.eval x = .slice (some ⟨ad.block,ad.off,none⟩) es.length cap:=by rw[hc,addr_eta ad hsp0]
    simp[execOp,ho,hk,e',hrun]
   ·rw[Nat.add_assoc];exact hi ad n q rfl hlt (by omega)
 ·rename_i d b ver o' len hx
  rw[hx] at h1
  obtain⟨ad,cp,loc,hc,hd,hp,hvv,hcp,ha,hsp,hloc,hnn⟩:=h1.bs_inv
  split at hv<;>first|cases hv;done|skip
  rename_i ver' z es hg
  obtain⟨hb,hv⟩:=bif_some hv
  cases hv
  simp only[Bool.and_eq_true] at hb
  have h3:=Nat.eq_of_beq_eq_true hb.1
  have h4:=Nat.eq_of_beq_eq_true hb.2.1
  have h5:n<len:=by simpa[Nat.blt_eq] using hb.2.2
  subst h3;subst h4
  have hp':=h.arr_loc hd hp hg hvv
  cases ad with
  |none=>have:=ha rfl;omega
  |some ad=>
   have hrun:=run_indexAt_slice (P:=P) (w:=w) (ad:=ad) (cap:=cp) (k:=k) ht hsz h5
   refine .quiet h (cv:=.pointer (some (ad.add (n*z)))) (by simp[execOp,ho,hk,hc,hrun]) (.ap _ _ _ _ _ loc _ hd hp hvv (fun c o0 sz cap e=>?_) ⟨_,rfl⟩)
   rcases hp' with⟨c',o0',cap',rfl⟩|⟨rfl,_⟩
   ·cases e
    rcases hloc _ _ _ _ rfl with h0|⟨h0,_⟩
    ·omega
    ·cases h0;rw[addr_add];congr 3;rw[Nat.add_mul];omega
   ·cases e
theorem ok_iaa {o:Oper} {t e:TypeId} {x i:Operand} {y j:O} {len sz:Nat} {v:V} {s':St} (ho:o.op = .indexAddr t x i) (ht:P.underlying t=some (.array len e)) (hsz:sizeT P e=some sz)
  (e1:trO x y=true) (e2:trO i j=true) (h:SR G B s a w) {C:Cfg} {call:Call} (hv:opV C call (.ia (some len) sz y j) s=some (v,s')):Ok P B o a w G s s' v:=by
 have h1:=h.rd e1
 have h2:=h.rd e2
 simp only[opV] at hv
 obtain⟨n,hn,hv⟩:=bind_some' hv
 obtain⟨k,hk⟩:=cv_int h2 hn
 obtain⟨hlt,hv⟩:Nat.blt n len=true∧_:=by
  cases hb:Nat.blt n len with
  |false=>simp[hb] at hv
  |true=>simp only[hb,cond_true] at hv;exact⟨rfl,hv⟩
 have hlt:n<len:=by simpa[Nat.blt_eq] using hlt
 split at hv<;>first|cases hv;done|skip
 ·rename_i d b o' hx
  cases hv
  rw[hx] at h1;obtain⟨c,o0,hd,hp,hc⟩:=h1.bp_inv
  have hrun:=run_indexAt_array (P:=P) (w:=w) (ad:=⟨c,o0+o',none⟩) (k:=k) ht hsz hlt
  rw[addr_add] at hrun
  exact .quiet h (cv:=.pointer (some ⟨c,o0+o'+n*sz,none⟩)) (by simp[execOp,ho,hk,hc,hrun]) (by rw[Nat.add_assoc];exact .bp _ _ _ _ _ hd hp)
 ·rename_i cs o' hx
  cases hv
  rw[hx] at h1;obtain⟨c,o0,g,hc,hi,hr⟩:=h1.ep_inv
  have hrun:=run_indexAt_array (P:=P) (w:=w) (ad:=⟨c,o0+o',none⟩) (k:=k) ht hsz hlt
  rw[addr_add] at hrun
  exact .quiet h (cv:=.pointer (some ⟨c,o0+o'+n*sz,none⟩)) (by simp[execOp,ho,hk,hc,hrun]) (by rw[Nat.add_assoc];exact .pr _ _ (.ep _ _ _ _ g hi hr))
 ·rename_i d b ver j' o' hx
  cases hv
  rw[hx] at h1;obtain⟨loc,hd,hp,hvv,hloc,p,hc⟩:=h1.ap_inv
  have hrun:=run_indexAt_array (P:=P) (w:=w) (ad:=p) (k:=k) ht hsz hlt
  refine .quiet h (cv:=.pointer (some (p.add (n*sz)))) (by simp[execOp,ho,hk,hc,hrun]) (.ap _ _ _ _ _ loc _ hd hp hvv (fun c o0 sz' cap e=>?_) ⟨_,rfl⟩)
  have:=hloc c o0 sz' cap e
  rw[hc] at this
  cases this
  rw[addr_add,Nat.add_assoc,Nat.add_assoc]
theorem ok_ix {o:Oper} {t:TypeId} {x i:Operand} {y j:O} {v:V} {s':St} (ho:o.op = .index t x i) (ht:P.underlying t=some .string)
  (e1:trO x y=true) (e2:trO i j=true) (h:SR G B s a w) {C:Cfg} {call:Call} (hv:opV C call (.ix y j) s=some (v,s')):Ok P B o a w G s s' v:=by
 have h1:=h.rd e1
 have h2:=h.rd e2
 simp only[opV] at hv
 obtain⟨n,hn,hv⟩:=bind_some' hv
 obtain⟨k,hk⟩:=cv_int h2 hn
 split at hv<;>first|cases hv;done|skip
 rename_i b hx
 rw[hx] at h1;obtain⟨st,hc,rfl⟩:=h1.str_inv
 obtain⟨u,hu,hv⟩:=map_some hv
 cases hv
 have hb:st[n]? = some u:=by
  have:=List.getElem?_eq_some_iff.1 hu
  obtain⟨hl,he⟩:=this
  have hl':n<st.size:=hl
  rw[getElem?_pos st n hl']
  simp only[Option.some.injEq]
  rw[← he]
  simp[ByteArray.getElem_eq_getElem_data]
 exact .quiet h (cv:=.int .u8 u.toNat) (by simp[execOp,ho,hk,hc,Instr.index,asIntOf,run_underlying ht,hb]) (.pr _ _ (.int _ _))
theorem part_run {t:TypeId} {d:TypeDesc} {ag:Bool} {sz o':Nat} {l:List V} {A:Array Value} {v:V} {R:V→Value→Prop} (ht:P.underlying t=some d) (hag:isAggT P t=ag) (hsz:sizeT P t=some sz)
  (hl:A.size=l.length) (hR:∀ (j:Nat) (x:V) (y:Value),l[j]? = some x→A[j]? = some y→R x y) (e:ldC ag sz l o'=some v) :
  ∃ cv,(part t A o').run P w = .ok cv w ∧
   ((ag=false∧R v cv)∨(ag=true∧∃ l' A',v = .agg l'∧cv = .agg A'∧A'.size=l'.length∧∀ (j:Nat) (x:V) (y:Value),l'[j]? = some x→A'[j]? = some y→R x y)):=by
 unfold ldC at e
 cases ag with
 |false=>
  simp only[cond_false] at e
  have hi:o'<A.size:=by rw[hl];exact(List.getElem?_eq_some_iff.1 e).1
  exact⟨A[o'],by simp[part,run_isAgg ht,hag,hi],.inl ⟨rfl,hR o' v _ e (by simp[hi])⟩⟩
 |true=>
  simp only[cond_true] at e
  obtain⟨hb,rfl⟩:=bif_some e
  have hlen:=Nat.le_of_ble_eq_true hb
  refine⟨_,by simp[part,run_isAgg ht,hag,run_sizeOf hsz];rfl,.inr ⟨rfl,_,_,rfl,rfl,?_,?_⟩⟩
  ·simp;omega
  ·intro j x y hx hy
   rw[List.getElem?_take] at hx
   split at hx
   ·rw[List.getElem?_drop] at hx
    simp only[Array.getElem?_extract] at hy
    split at hy
    ·exact hR _ x y hx hy
    ·cases hy
   ·cases hx
theorem ok_fd {o:Oper} {t:TypeId} {fs:Array Field} {f:Field} {d:TypeDesc} {x:Operand} {y:O} {j sz:Nat} {ag:Bool} {l:List V} {v:V} (ho:o.op = .field t x j) (ht:P.underlying t=some (.struct fs)) (hf:fs[j]? = some f)
  (hft:P.underlying f.type=some d) (hag:isAggT P f.type=ag) (hsz:sizeT P f.type=some sz) (e:trO x y=true) (h:SR G B s a w) (hx:rd s.tm y = .agg l) (hv:ldC ag sz l f.offset=some v):Ok P B o a w G s s (dt2 v):=by
 have h0:=h.rd e;rw[hx] at h0
 obtain⟨A,hc,hl,hR⟩:=h0.agg_inv
 obtain⟨cv,hr,hR'⟩:=part_run (P:=P) (w:=w) hft hag hsz hl hR hv
 refine .quiet h (cv:=cv) (by simp[execOp,ho,hc,Instr.field,run_underlying ht,hf,asAgg,hr]) (VR.dt2 ?_)
 rcases hR' with⟨_,hR'⟩|⟨_,l',A',rfl,rfl,hl',hR'⟩
 ·exact hR'
 ·exact .agg _ _ hl' hR'
theorem ok_iv {o:Oper} {t el:TypeId} {d:TypeDesc} {x i:Operand} {y j:O} {sz len n:Nat} {ag:Bool} {l:List V} {v:V} (ho:o.op = .index t x i) (ht:P.underlying t=some (.array len el))
  (hft:P.underlying el=some d) (hag:isAggT P el=ag) (hsz:sizeT P el=some sz) (e:trO x y=true) (e2:trO i j=true) (h:SR G B s a w) (hx:rd s.tm y = .agg l) (hn:nat? (rd s.tm j)=some n) (hlt:n<len)
  (hv:ldC ag sz l (n*sz)=some v):Ok P B o a w G s s (dt2 v):=by
 have h0:=h.rd e;rw[hx] at h0
 obtain⟨A,hc,hl,hR⟩:=h0.agg_inv
 obtain⟨k,hk⟩:=cv_int (h.rd e2) hn
 obtain⟨cv,hr,hR'⟩:=part_run (P:=P) (w:=w) hft hag hsz hl hR hv
 have hrun:(Instr.index t (.agg A) (.int k n)).run P w = .ok cv w:=by
  simp[Instr.index,asIntOf,run_underlying ht,run_sizeOf hsz,hr]
  intro h1;omega
 refine .quiet h (cv:=cv) (by simp[execOp,ho,hc,hk,hrun]) (VR.dt2 ?_)
 rcases hR' with⟨_,hR'⟩|⟨_,l',A',rfl,rfl,hl',hR'⟩
 ·exact hR'
 ·exact .agg _ _ hl' hR'
theorem ok_len {o:Oper} {c:Go.Call} {t:TypeId} {d:TypeDesc} {x:Operand} {y:O} {n:Nat} (ho:o.op = .call c) (hc:c.callee = .builtin .len) (hargs:c.args = #[x]) (hty:c.argTypes[0]? = some t) (ht:P.underlying t=some d)
  (hd:d = .string∨∃ e,d = .slice e) (e:trO x y=true) (h:SR G B s a w) (hn:len? (rd s.tm y)=some n) (hk:d = .string↔∃ b,rd s.tm y = .str b):Ok P B o a w G s s (.int .i64 n):=by
 have h0:=h.rd e
 have hrun:(Builtin.len_ c.argTypes o.type #[a.eval x]).run P w = .ok (.int .i64 n) w:=by
  unfold len? at hn
  split at hn<;>first|cases hn;done|skip
  ·rename_i t' z es hx
   rw[hx] at h0
   obtain⟨ad,cap,f,hc,_⟩:=h0.sl_inv.sl_inv
   cases hn
   rcases hd with rfl|⟨e,rfl⟩
   ·obtain⟨b,hb⟩:=hk.1 rfl;rw[hx] at hb;cases hb
   ·simp[Builtin.len_,hty,hc,run_underlying ht,goInt]
  ·rename_i b hx
   rw[hx] at h0
   obtain⟨st,hc,rfl⟩:=h0.str_inv
   cases hn
   have:=hk.2 ⟨_,hx⟩;subst this
   have e1:st.data.toList.length=st.size:=rfl
   simp[Builtin.len_,hty,hc,run_underlying ht,goInt,e1]
  ·rename_i d' i ver o' len hx
   rw[hx] at h0
   obtain⟨ad,cp,loc,hc,_⟩:=h0.bs_inv
   cases hn
   rcases hd with rfl|⟨e,rfl⟩
   ·obtain⟨b,hb⟩:=hk.1 rfl;rw[hx] at hb;cases hb
   ·simp[Builtin.len_,hty,hc,run_underlying ht,goInt]
 refine .quiet h (cv:=.int .i64 n) ?_ (.pr _ _ (.int _ _))
 simp[execOp,ho,resolve,hc,hargs,invoke,builtin,hrun]
end ops
end Go.Vm
/-
  The machine V and Go's operations, one by one: variables, boxes, structs; comparisons.
-/
namespace Go.Vm
open Go Go.RowKit
def Gh.put (G:Gh) (l i:Nat) (loc:Loc):Gh:={ G with ph:=fun l' i'=>if l'=l∧i'=i then some loc else G.ph l' i' }
def Gh.own (G:Gh) (l i c:Nat) (loc:Loc):Gh:={ (G.put l i loc) with ow:=fun c' k=>if c'=c then some (l,i) else G.ow c' k }
theorem Gh.put_same (G:Gh) (l i loc):(G.put l i loc).ph l i=some loc:=by simp[Gh.put]
theorem Gh.put_ne (G:Gh) {l i l' i' loc} (h:(l',i')≠(l,i)):(G.put l i loc).ph l' i'=G.ph l' i':=by
 simp only[Gh.put]
 rw[if_neg (fun e=>h (by rw[e.1,e.2]))]
section ops
variable {P:Program} {KW:World→Prop} {B:Bd KW} {G:Gh} {fr:Fr} {sg:List Fr} {w:World}
theorem Mv.put (h:WR G B fr sg w) (l i:Nat) (loc:Loc):Mv G (G.put l i loc) B w w l i:=
 ⟨Nat.le_refl _,ImLe.refl _,fun c k x hx=>⟨h.im c k x hx,h.io c k x hx⟩,h.ob,fun _ _ _ _ _ ho=>⟨ho,rfl,rfl,rfl⟩,fun _ _ hne=>Gh.put_ne G hne,Below.refl _ _⟩
theorem WR.fresh (h:WR G B fr sg w) (c:Nat) (hc:w.heap.size≤c):(∀ k,G.im c k=none)∧∀ k,G.ow c k=none:=by
 refine⟨fun k=>?_,fun k=>?_⟩
 ·cases e:G.im c k with
  |none=>rfl
  |some x=>have:=World.block_lt_of_cell? w _ (h.im c k x e);simp at this;omega
 ·cases e:G.ow c k with
  |none=>rfl
  |some x=>have:=(h.ob c k x e).2;omega
theorem Mv.own (h:WR G B fr sg w) (l i:Nat) (loc:Loc) (o:Obj):Mv G (G.own l i w.heap.size loc) B w (w.alloc o) l i:=by
 have fr:=h.fresh w.heap.size (Nat.le_refl _)
 refine⟨by simp,ImLe.refl _,fun c k x hx=>?_,fun c k o' ho=>?_,fun c k l' i' hne ho=>?_,fun l' i' hne=>Gh.put_ne G hne,(Below.refl _ _).alloc h.hB _⟩
 ·have hx':G.im c k=some x:=hx
  have hc:=World.block_lt_of_cell? w _ (h.im c k x hx')
  simp at hc
  refine⟨by rw[World.cell?_alloc_lt _ _ _ hc];exact h.im c k x hx',?_⟩
  simp only[Gh.own]
  rw[if_neg (by omega)]
  exact h.io c k x hx'
 ·simp only[Gh.own] at ho
  split at ho
  ·rename_i e;subst e;exact⟨h.hB,by simp⟩
  ·exact⟨(h.ob c k o' ho).1,by have:=(h.ob c k o' ho).2;simp;omega⟩
 ·have hc:=(h.ob c k _ ho).2
  refine⟨?_,World.cell?_alloc_lt _ _ _ hc,Fz.alloc w o k hc⟩
  simp only[Gh.own]
  rw[if_neg (by omega)];exact ho
theorem WR.box (h:WR G B fr sg w) {cs:List V} {A:Array Value} {t:TypeId} (hl:A.size=cs.length)
  (hR:∀ (j:Nat) (x:V) (y:Value),cs[j]? = some x→A[j]? = some y→VR G.im G.ph sg.length x y) :
  WR (G.own sg.length fr.length w.heap.size (.box w.heap.size 0)) B (fr ++ [.box cs]) sg (w.alloc (.cells A t))∧PhUp G (G.own sg.length fr.length w.heap.size (.box w.heap.size 0)):=by
 have m:=Mv.own h sg.length fr.length (.box w.heap.size 0) (.cells A t)
 have hn:G.ph sg.length fr.length=none:=by
  cases e:G.ph sg.length fr.length with
  |none=>rfl
  |some x=>obtain⟨_,b,hb⟩:=h.dm _ _ _ e;simp[getB_zero] at hb
 have up:PhUp G (G.own sg.length fr.length w.heap.size (.box w.heap.size 0)):=m.up (fun x hx=>by rw[hn] at hx;cases hx)
 refine⟨(h.new (.box cs) _ m (Gh.put_same G _ _ _) ?_).1,up⟩
 intro k x hx
 have hk:k<A.size:=by rw[hl];exact(List.getElem?_eq_some_iff.1 hx).1
 refine⟨by simp[Gh.own],by simp,A[k],by simp[hk],?_⟩
 exact(hR k x _ hx (by simp[hk])).mono (ImLe.refl _) (up _)
theorem WR.tok (h:WR G B fr sg w) (sz:Nat) (a:Option Addr):WR (G.put sg.length fr.length (.tok 0 sz (.slice a 0 0))) B (fr ++ [.tok 0]) sg w∧PhUp G (G.put sg.length fr.length (.tok 0 sz (.slice a 0 0))):=
 h.new (.tok 0) _ (Mv.put h _ _ _) (Gh.put_same G _ _ _) ⟨rfl,a,0,0,rfl,fun _=>rfl,fun x hx k h1 h2=>by omega⟩
theorem WR.arrN (h:WR G B fr sg w) (sz:Nat):WR (G.put sg.length fr.length (.arrN 0)) B (fr ++ [.arr 0 sz []]) sg w∧PhUp G (G.put sg.length fr.length (.arrN 0)):=
 h.new (.arr 0 sz []) _ (Mv.put h _ _ _) (Gh.put_same G _ _ _) ⟨rfl,rfl⟩
end ops
section ops
variable {P:Program} {KW:World→Prop} {B:Bd KW} {G:Gh} {s:St} {a:Act} {w:World}
theorem PR.nilS {im} (z:Nat) (a:Option Addr):PR im (.sl .no z []) (.slice a 0 0):=
 .sl .no z [] a 0 (fun _ _=>undef) (.inl rfl) (Nat.le_refl _) (fun _=>rfl) (fun _ _ h=>absurd rfl h) (fun x j q _ hj=>by simp at hj) (fun j e he=>by simp at he) (fun j e q x he=>by simp at he)
theorem VR.ex_nil {im ph l z cv} (h:VR im ph l (.sl .ex z []) cv):∃ a,cv = .slice a 0 0∧∀ x:Addr,a=some x→(0:Nat)≠0→x.spot=none:=by
 cases h with
 |pr _ _ h=>
  obtain⟨a,cap,f,rfl,ht,_,_,hsp,_⟩:=h.sl_inv
  rcases ht with ht|⟨_,rfl⟩
  ·cases ht
  ·exact⟨a,rfl,hsp⟩
theorem ok_nw {o:Oper} {sz:Nat} (ho:o.op = .assign (.const (.slice none 0 0))) (h:SR G B s a w):Ok P B o a w G s { s with fr:=s.fr ++ [.tok 0] } (.sl (.at 0 s.fr.length 0) sz []):=by
 obtain⟨hw,up⟩:=h.wr.tok sz none
 refine⟨.slice none 0 0,w,_,.inl (by simp[execOp,ho,Act.eval]),hw,ImLe.refl _,up _,?_,rfl,rfl,Below.refl _ _⟩
 exact .slat 0 _ 0 sz [] _ _ (Nat.zero_le _) (Gh.put_same G _ _ _) (fun v hv=>by simp[Loc.cur] at hv;omega) (PR.nilS sz none) (fun sz' cur e=>by cases e;exact⟨rfl,rfl⟩)
theorem ok_nm {o:Oper} {sz:Nat} (ho:o.op = .assign (.const (.slice none 0 0))) (h:SR G B s a w):Ok P B o a w G s { s with fr:=s.fr ++ [.arr 0 sz []] } (.bs 0 s.fr.length 0 0 0):=by
 obtain⟨hw,up⟩:=h.wr.arrN sz
 refine⟨.slice none 0 0,w,_,.inl (by simp[execOp,ho,Act.eval]),hw,ImLe.refl _,up _,?_,rfl,rfl,Below.refl _ _⟩
 exact .bs 0 _ 0 0 0 none 0 _ (Nat.zero_le _) (Gh.put_same G _ _ _) (fun v hv=>by simp[Loc.cur] at hv;omega) (Nat.le_refl _) (fun _=>rfl) (fun x hx=>by cases hx) (fun c o0 sz cap e=>by cases e) (fun _=>rfl)
theorem WR.growOne {G2:Gh} {fr:Fr} {sg:List Fr} {w:World} {cs:List V} {n base q:Nat} {blk:Blk} {x y:V} {ad:Option Addr} (h2:WR G2 B (fr ++ [blk]) sg w) (hb:fr[n]? = some (.box cs)) (hp2:G2.ph sg.length n=some (.box base 0))
  (hc:cs[q]? = some y) (hcell:w.cell? ⟨base,q,none⟩=some (.slice ad 0 0)) (hx:VR G2.im G2.ph sg.length x (.slice ad 0 0)):WR G2 B (fr.set n (.box (cs.set q x)) ++ [blk]) sg w:=by
 have hn:n<fr.length:=(List.getElem?_eq_some_iff.1 hb).1
 have hget:getB (fr ++ [blk]) sg 0 n=some (.box cs):=by rw[getB_zero,List.getElem?_append_left hn];exact hb
 have hbr:=h2.bl 0 n _ _ (Nat.zero_le _) hget hp2
 have h3:=(h2.upd (G':=G2) (d:=0) (.box (cs.set q x)) (.box base 0) (Nat.zero_le _) hget hp2 (LocLe.refl _)
  ⟨Nat.le_refl _,ImLe.refl _,fun c k x hx=>⟨h2.im c k x hx,h2.io c k x hx⟩,h2.ob,fun _ _ _ _ _ ho=>⟨ho,rfl,rfl,rfl⟩,fun _ _ _=>rfl,Below.refl _ _⟩ hp2 (by
   intro r u hu
   by_cases hq:r=q
   ·subst hq
    have hlt:=(List.getElem?_eq_some_iff.1 hc).1
    rw[List.getElem?_set_self hlt] at hu
    cases hu
    obtain⟨k1,k2,cv,k3,_⟩:=hbr r _ hc
    refine⟨k1,k2,cv,k3,?_⟩
    have:cv = .slice ad 0 0:=by
     rw[Nat.zero_add] at k3
     rw[hcell] at k3;exact(Option.some.inj k3).symm
    subst this
    exact hx
   ·rw[List.getElem?_set_ne (fun e=>hq e.symm)] at hu
    exact hbr r u hu)).1
 have e1:(setB (fr ++ [blk]) sg 0 n (.box (cs.set q x))).1=fr.set n (.box (cs.set q x)) ++ [blk]:=by
  show(fr ++ [blk]).set n _=_
  rw[List.set_append_left _ _ hn]
 rw[e1] at h3
 exact h3
theorem WR.growNew {fr:Fr} {sg:List Fr} {w:World} {n base j:Nat} {cs:List V} (k:Nat) (ad:Option Addr) (had:∀ x,ad=some x→(0:Nat)≠0→x.spot=none) (h:WR G B fr sg w) (hn:n<fr.length) (hl:fr.length=n+1+j) (hp:G.ph sg.length n=some (.box base 0)) :
  ∃ G2,WR G2 B (fr ++ [blkT k]) sg w∧PhUp G G2∧G2.im=G.im∧G2.ph sg.length n=some (.box base 0) ∧
   (growS n j k cs=cs∨∃ z x,cs[k % 1000]? = some (.sl .ex z [])∧growS n j k cs=cs.set (k % 1000) x∧VR G2.im G2.ph sg.length x (.slice ad 0 0)):=by
 have none_:(¬ ∃ z,cs[k % 1000]? = some (.sl .ex z []))→growS n j k cs=cs:=fun hc=>by
  unfold growS
  split
  ·rename_i z hz;exact absurd ⟨z,hz⟩ hc
  ·rfl
 cases hk:Nat.blt k 1000 with
 |true=>
  obtain⟨h2,up2⟩:=h.tok (match cs[k % 1000]? with|some (.sl .ex z [])=>z|_=>0) ad
  refine⟨_,by simpa only[blkT,hk,cond_true] using h2,up2,rfl,by rw[Gh.put_ne G (by simp;omega)];exact hp,?_⟩
  by_cases hc:∃ z,cs[k % 1000]? = some (.sl .ex z [])
  ·obtain⟨z,hc⟩:=hc
   refine .inr ⟨z,.sl (.at 0 (n+1+j) 0) z [],hc,by simp only[growS,hc,hk,cond_true],?_⟩
   exact .slat 0 _ 0 z [] _ _ (Nat.zero_le _) (by rw[← hl];exact Gh.put_same G _ _ _) (fun v hv=>by simp[Loc.cur] at hv;omega) (PR.nilS z ad) (fun sz' cur e=>by rw[hc] at e;cases e;exact⟨rfl,rfl⟩)
  ·exact .inl (none_ hc)
 |false=>
  obtain⟨h2,up2⟩:=h.arrN (k / 1000)
  refine⟨_,by simpa only[blkT,hk,cond_false] using h2,up2,rfl,by rw[Gh.put_ne G (by simp;omega)];exact hp,?_⟩
  by_cases hc:∃ z,cs[k % 1000]? = some (.sl .ex z [])
  ·obtain⟨z,hc⟩:=hc
   cases hz:Nat.beq z (k / 1000) with
   |true=>
    refine .inr ⟨z,.bs 0 (n+1+j) 0 0 0,hc,by simp only[growS,hc,hk,hz,cond_true,cond_false],?_⟩
    exact .bs 0 _ 0 0 0 ad 0 _ (Nat.zero_le _) (by rw[← hl];exact Gh.put_same G _ _ _) (fun v hv=>by simp[Loc.cur] at hv;omega) (Nat.le_refl _) (fun _=>rfl) had (fun c o0 sz cap e=>by cases e) (fun _=>rfl)
   |false=>exact .inl (by simp only[growS,hc,hk,hz,cond_false])
  ·exact .inl (none_ hc)
theorem WR.growL {sg:List Fr} {n base:Nat}:∀ (tk:List Nat) {G:Gh} {w:World} (j:Nat) {fr:Fr} {cs:List V},WR G B fr sg w→fr[n]? = some (.box cs)→fr.length=n+1+j→G.ph sg.length n=some (.box base 0) →
  (∀ k z,k∈tk→cs[k % 1000]? = some (.sl .ex z [])→∃ ad:Option Addr,w.cell? ⟨base,k % 1000,none⟩=some (.slice ad 0 0)∧∀ x,ad=some x→(0:Nat)≠0→x.spot=none) →
  ∃ G',WR G' B (fr.set n (.box (growC n cs j tk))++tk.map blkT) sg w∧PhUp G G'∧G'.im=G.im∧G'.ph sg.length n=some (.box base 0)
 | [],G,w,j,fr,cs,h,hb,_,hp,_=>by
  refine⟨G,?_,fun l=>PhLe.refl _ _,rfl,hp⟩
  have:fr.set n (.box cs)=fr:=by
   apply List.ext_getElem?
   intro i
   by_cases e:n=i
   ·subst e;rw[List.getElem?_set_self (List.getElem?_eq_some_iff.1 hb).1,hb]
   ·rw[List.getElem?_set_ne e]
  simpa[growC,this] using h
 |k::tk,G,w,j,fr,cs,h,hb,hl,hp,hz=>by
  have hn:n<fr.length:=(List.getElem?_eq_some_iff.1 hb).1
  obtain⟨ad,had,hcel⟩:∃ ad:Option Addr,(∀ x,ad=some x→(0:Nat)≠0→x.spot=none)∧∀ z,cs[k % 1000]? = some (.sl .ex z [])→w.cell? ⟨base,k % 1000,none⟩=some (.slice ad 0 0):=by
   by_cases hc:∃ z,cs[k % 1000]? = some (.sl .ex z [])
   ·obtain⟨z,hc⟩:=hc
    obtain⟨ad,h1,h2⟩:=hz k z (List.mem_cons_self ..) hc
    exact⟨ad,h2,fun _ _=>h1⟩
   ·exact⟨none,(fun x hx=>by cases hx),fun z hz=>absurd ⟨z,hz⟩ hc⟩
  obtain⟨G2,h2,up2,him2,hp2,hx⟩:=h.growNew (cs:=cs) k ad had hn hl hp
  rcases hx with hx|⟨z,x,hc,hx,hv⟩
  ·obtain⟨G',h4,up4,him4,hp4⟩:=WR.growL tk (j+1) h2 (cs:=cs) (by rw[List.getElem?_append_left hn];exact hb) (by simp;omega) hp2 (fun q y hq hy=>hz q y (List.mem_cons_of_mem _ hq) hy)
   refine⟨G',?_,fun l=>(up2 l).trans (up4 l),by rw[him4,him2],hp4⟩
   have e3:growC n cs j (k::tk)=growC n cs (j+1) tk:=by simp only[growC,hx]
   rw[e3]
   rw[List.set_append_left _ _ hn] at h4
   simpa using h4
  ·have h3:=h2.growOne hb hp2 hc (hcel z hc) hv
   obtain⟨G',h4,up4,him4,hp4⟩:=WR.growL tk (j+1) h3 (cs:=cs.set (k % 1000) x) (by rw[List.getElem?_append_left (by simpa using hn),List.getElem?_set_self hn]) (by simp;omega) hp2 (by
    intro q y hq hy
    by_cases e:k % 1000=q % 1000
    ·rw[← e];exact⟨ad,hcel z hc,had⟩
    ·rw[List.getElem?_set_ne e] at hy
     exact hz q y (List.mem_cons_of_mem _ hq) hy)
   refine⟨G',?_,fun l=>(up2 l).trans (up4 l),by rw[him4,him2],hp4⟩
   have e3:growC n cs j (k::tk)=growC n (cs.set (k % 1000) x) (j+1) tk:=by simp only[growC,hx]
   rw[e3]
   rw[List.set_append_left _ _ (by simpa using hn),List.set_set] at h4
   simpa using h4
theorem WR.boxT {fr:Fr} {sg:List Fr} (h:WR G B fr sg w) {cs:List V} {A:Array Value} {t:TypeId} {tk:List Nat} (hl:A.size=cs.length)
  (hR:∀ (j:Nat) (x:V) (y:Value),cs[j]? = some x→A[j]? = some y→VR G.im G.ph sg.length x y) :
  ∃ G',WR G' B (fr++boxT fr.length cs tk) sg (w.alloc (.cells A t))∧PhUp G G'∧G'.im=G.im∧G'.ph sg.length fr.length=some (.box w.heap.size 0):=by
 obtain⟨h1,up1⟩:=h.box (t:=t) hl hR
 have hp1:(G.own sg.length fr.length w.heap.size (.box w.heap.size 0)).ph sg.length fr.length=some (.box w.heap.size 0):=Gh.put_same G _ _ _
 obtain⟨G',h2,up2,him,hp⟩:=WR.growL (n:=fr.length) (base:=w.heap.size) tk 0 h1 (cs:=cs) (by simp) (by simp) hp1 (by
  intro k z hk hc
  obtain⟨k1,k2,cv,k3,k4⟩:=h1.bl 0 fr.length _ _ (Nat.zero_le _) (by simp[getB_zero]:getB (fr ++ [Blk.box cs]) sg 0 fr.length=some (.box cs)) hp1 (k % 1000) _ hc
  rw[Nat.zero_add] at k3
  obtain⟨ad,rfl,h5⟩:=k4.ex_nil
  exact⟨ad,k3,h5⟩)
 refine⟨G',?_,fun l=>(up1 l).trans (up2 l),him,hp⟩
 have e:(fr ++ [Blk.box cs]).set fr.length (.box (growC fr.length cs 0 tk))++tk.map blkT=fr++Vm.boxT fr.length cs tk:=by
  simp[Vm.boxT]
 rw[← e];exact h2
theorem ok_al {o:Oper} {t:TypeId} {i:TypeInfo} {zv:Value} {z:List V} {tk:List Nat} (ho:o.op = .alloc t) (hi:P.info? t=some i) (hz:i.zero=some zv) (hc:cstL zv.cells.toList z=true)
  (h:SR G B s a w):Ok P B o a w G s { s with fr:=s.fr++boxT s.fr.length z tk } (.bp 0 s.fr.length 0):=by
 obtain⟨hl,hR⟩:=cstL_get (im:=G.im) hc
 obtain⟨G',h1,up,him,hp⟩:=h.wr.boxT (cs:=z) (A:=zv.cells) (t:=t) (tk:=tk) (by simpa using hl) (fun j x y hx hy=>.pr _ _ (hR j x y hx (by simpa using hy)))
 refine⟨.pointer (some ⟨w.heap.size,0,none⟩),w.alloc (.cells zv.cells t),G',.inl ?_,h1,by rw[him];exact ImLe.refl _,up _,?_,rfl,rfl,(Below.refl _ _).alloc h.wr.hB _⟩
 ·simp[execOp,ho,Instr.alloc,zeroValue,run_typeInfo hi,hz,newVar,newRow]
 ·exact .bp 0 _ 0 w.heap.size 0 (Nat.zero_le _) hp
theorem VR.cells {im ph l v cv} (h:VR im ph l v cv) (hv:scal v=true∨∃ cs,v = .agg cs):cv.cells.size=(cellsOf v).length∧∀ (j:Nat) (x:V) (y:Value),(cellsOf v)[j]? = some x→cv.cells[j]? = some y→VR im ph l x y:=by
 rcases hv with hs|⟨cs,rfl⟩
 ·have h1:=cells_one (h.one hs)
  have h2:cellsOf v = [v]:=by cases v<;>first|rfl|simp[scal] at hs
  rw[h1,h2]
  refine⟨rfl,fun j x y hx hy=>?_⟩
  cases j with
  |zero=>simp at hx hy;subst hx;subst hy;exact h
  |succ j=>simp at hx
 ·obtain⟨A,rfl,hl,hR⟩:=h.agg_inv
  exact⟨hl,hR⟩
theorem ok_bx {o:Oper} {t:TypeId} {x:Operand} {y:O} {tk:List Nat} (ho:o.op = .box t x) (e:trO x y=true) (hv:scal (rd s.tm y)=true∨∃ cs,rd s.tm y = .agg cs) 
  (h:SR G B s a w):Ok P B o a w G s { s with fr:=s.fr++boxT s.fr.length (cellsOf (rd s.tm y)) tk } (.bp 0 s.fr.length 0):=by
 obtain⟨hl,hR⟩:=(h.rd e).cells hv
 obtain⟨G',h1,up,him,hp⟩:=h.wr.boxT (cs:=cellsOf (rd s.tm y)) (A:=(a.eval x).cells) (t:=t) (tk:=tk) hl hR
 refine⟨.pointer (some ⟨w.heap.size,0,none⟩),w.alloc (.cells (a.eval x).cells t),G',.inl ?_,h1,by rw[him];exact ImLe.refl _,up _,?_,rfl,rfl,(Below.refl _ _).alloc h.wr.hB _⟩
 ·simp[execOp,ho,Instr.box,newVar,newRow]
 ·exact .bp 0 _ 0 w.heap.size 0 (Nat.zero_le _) hp
end ops
end Go.Vm
/-
  The machine V and Go's operations, one by one: comparisons.
-/
namespace Go.Vm
open Go Go.RowKit
def flatFs (f:TypeId→Option (List Nat)) (P:Program):List Field→Nat→Option (List Nat)
 | [],_=>some []
 |x::xs,off=>if x.name = "_"∨x.offset≠off then none else(f x.type).bind fun ks=>if sizeT P x.type=some ks.length then(flatFs f P xs (off+ks.length)).map (ks ++ ·) else none
def flatT (P:Program):Nat→TypeId→Option (List Nat)
 |0,_=>none
 |d+1,t=>match P.underlying t with
  |some .bool=>some [0]
  |some (.int _)=>some [1]
  |some .string=>some [2]
  |some (.struct fs)=>if P.stoodInHeld t then none else flatFs (flatT P d) P fs.toList 0
  |_=>none
theorem eqL_split:∀ {ks ks':List Nat} {l m:List V} {b:Bool},eqL (ks++ks') l m=some b →
  ∃ b1 b2,eqL ks (l.take ks.length) (m.take ks.length)=some b1∧eqL ks' (l.drop ks.length) (m.drop ks.length)=some b2∧b=(b1&&b2)
 | [],ks',l,m,b,h=>⟨true,b,by simp[eqL],by simpa using h,by simp⟩
 |k::ks,ks',[],m,b,h=>by simp[eqL] at h
 |k::ks,ks',_::_,[],b,h=>by simp[eqL] at h
 |k::ks,ks',x::l,y::m,b,h=>by
  simp only[List.cons_append,eqL] at h
  obtain⟨c,hc,h⟩:=bind_some' h
  obtain⟨e,he,rfl⟩:=map_some h
  obtain⟨b1,b2,h1,h2,rfl⟩:=eqL_split he
  exact⟨c&&b1,b2,by simp[eqL,hc,h1],by simpa using h2,by rw[Bool.and_assoc]⟩
theorem eqL_len:∀ {ks:List Nat} {l m:List V} {b:Bool},eqL ks l m=some b→l.length=ks.length∧m.length=ks.length
 | [],[],[],_,_=>⟨rfl,rfl⟩
 | [],[],_::_,_,h=>by simp[eqL] at h
 | [],_::_,_,_,h=>by simp[eqL] at h
 |_::_,[],_,_,h=>by simp[eqL] at h
 |_::_,_::_,[],_,h=>by simp[eqL] at h
 |k::ks,x::l,y::m,b,h=>by
  simp only[eqL] at h
  obtain⟨c,hc,h⟩:=bind_some' h
  obtain⟨e,he,_⟩:=map_some h
  obtain⟨h1,h2⟩:=eqL_len he
  exact⟨by simp[h1],by simp[h2]⟩
section
variable {P:Program} {w:World} {im:Nat→Nat→Option Value} {ph:Nat→Nat→Option Loc} {lv:Nat}
def Cells (im:Nat→Nat→Option Value) (ph:Nat→Nat→Option Loc) (lv:Nat) (l:List V) (A:Array Value):Prop:=
 A.size=l.length∧∀ (j:Nat) (x:V) (y:Value),l[j]? = some x→A[j]? = some y→VR im ph lv x y
theorem Cells.cut {l A} (h:Cells im ph lv l A) (off n:Nat):Cells im ph lv ((l.drop off).take n) (A.extract off (off+n)):=by
 have h1:=h.1
 refine⟨by simp;omega,?_⟩
 intro j x y hx hy
 rw[List.getElem?_take] at hx
 split at hx
 ·rw[List.getElem?_drop] at hx
  simp only[Array.getElem?_extract] at hy
  split at hy
  ·exact h.2 _ x y hx hy
  ·cases hy
 ·cases hx
theorem eqK_run {d k:Nat} {t:TypeId} {x y:V} {u v:Value} {b:Bool} (hx:VR im ph lv x u) (hy:VR im ph lv y v) (h:eqK k x y=some b)
  (ht:(k=0∧P.underlying t=some .bool)∨(k=1∧∃ i,P.underlying t=some (.int i))∨(k=2∧P.underlying t=some .string)):(Op.equalIn (d+1) t u v).run P w = .ok b w:=by
 unfold eqK at h
 split at h
 ·obtain rfl:=hx.bool_inv
  obtain rfl:=hy.bool_inv
  cases h
  rcases ht with⟨_,ht⟩|⟨h,_⟩|⟨h,_⟩
  ·exact run_equalIn_bool' _ _ _ _ _ ht
  ·cases h
  ·cases h
 ·obtain rfl:=hx.int_inv
  obtain rfl:=hy.int_inv
  rename_i k1 a k2 c
  obtain⟨hk,rfl⟩:=bif_some h
  have:k1=k2:=by simpa using hk
  subst this
  rcases ht with⟨h,_⟩|⟨_,i,ht⟩|⟨h,_⟩
  ·cases h
  ·exact run_equalIn_int _ _ _ _ _ _ _ ht
  ·cases h
 ·obtain⟨s1,rfl,rfl⟩:=hx.str_inv
  obtain⟨s2,rfl,rfl⟩:=hy.str_inv
  cases h
  rcases ht with⟨h,_⟩|⟨h,_⟩|⟨_,ht⟩
  ·cases h
  ·cases h
  ·have:=run_equalIn_string (P:=P) w d t s1 s2 ht
   rw[ByteArray.toList_eq,ByteArray.toList_eq] at this
   exact this
 ·cases h
theorem flat_run (d:Nat):∀ (t:TypeId) (ks:List Nat),flatT P d t=some ks→∀ (l m:List V) (A C:Array Value) (b:Bool),eqL ks l m=some b→Cells im ph lv l A→Cells im ph lv m C→∀ e,d≤e →
  (isAggT P t=true∧(Op.equalIn e t (.agg A) (.agg C)).run P w = .ok b w)∨(isAggT P t=false∧ks.length=1∧∀ u v,A[0]? = some u→C[0]? = some v→(Op.equalIn e t u v).run P w = .ok b w):=by
 induction d with
 |zero=>intro t ks h;simp[flatT] at h
 |succ d ih=>
  intro t ks h l m A C b hb hA hC e he
  obtain⟨e,rfl⟩:∃ e',e=e'+1:=⟨e-1,by omega⟩
  have one:∀ k,ks = [k]→((k=0∧P.underlying t=some .bool)∨(k=1∧∃ i,P.underlying t=some (.int i))∨(k=2∧P.underlying t=some .string)) →
    ∀ u v,A[0]? = some u→C[0]? = some v→(Op.equalIn (e+1) t u v).run P w = .ok b w:=by
   rintro k rfl ht u v hu hv
   obtain⟨h1,h2⟩:=eqL_len hb
   match l,m,h1,h2 with
   | [x],[y],_,_=>
    simp only[eqL] at hb
    obtain⟨c,hc,hb⟩:=bind_some' hb
    simp at hb;subst hb
    exact eqK_run (hA.2 0 x u rfl hu) (hC.2 0 y v rfl hv) hc ht
  unfold flatT at h
  split at h
  ·rename_i hu;cases h;exact .inr ⟨by simp[isAggT,hu],rfl,one 0 rfl (.inl ⟨rfl,hu⟩)⟩
  ·rename_i i hu;cases h;exact .inr ⟨by simp[isAggT,hu],rfl,one 1 rfl (.inr (.inl ⟨rfl,i,hu⟩))⟩
  ·rename_i hu;cases h;exact .inr ⟨by simp[isAggT,hu],rfl,one 2 rfl (.inr (.inr ⟨rfl,hu⟩))⟩
  ·rename_i fs hu
   split at h
   ·cases h
   ·rename_i hst
    have hfo:P.fieldsOf t=fs:=by simp[Program.fieldsOf,hu]
    refine .inl ⟨by simp[isAggT,hu],?_⟩
    rw[run_equalIn_struct w e t A C (by rw[hfo];exact hu) (by simpa using hst),hfo]
    have key:∀ (fl:List Field) (off:Nat) (ks:List Nat) (b:Bool),flatFs (flatT P d) P fl off=some ks→eqL ks (l.drop off) (m.drop off)=some b →
      (Op.eqFields e A C fl).run P w = .ok b w:=by
     intro fl
     induction fl with
     |nil=>
      intro off ks b h hb
      simp only[flatFs,Option.some.injEq] at h;subst h
      have:b=true:=by
       cases h1:l.drop off<;>cases h2:m.drop off<;>rw[h1,h2] at hb<;>simp[eqL] at hb
       exact hb
      subst this
      simp[Op.eqFields]
     |cons x xs ihx=>
      intro off ks b h hb
      simp only[flatFs] at h
      split at h
      ·cases h
      ·rename_i hx
       have hx1:x.name≠"_":=fun e=>hx (.inl e)
       have hx2:x.offset=off:=by
        by_cases e:x.offset=off
        ·exact e
        ·exact absurd (.inr e) hx
       obtain⟨k1,hk1,h⟩:=bind_some' h
       split at h
       ·rename_i hsz
        obtain⟨k2,hk2,rfl⟩:=map_some h
        obtain⟨b1,b2,e1,e2,rfl⟩:=eqL_split hb
        rw[List.drop_drop,List.drop_drop] at e2
        have rest:=ihx _ _ _ hk2 e2
        have cA:=hA.cut off k1.length
        have cC:=hC.cut off k1.length
        have hund:∃ dd,P.underlying x.type=some dd:=by
         cases d with
         |zero=>simp[flatT] at hk1
         |succ d=>
          unfold flatT at hk1
          cases hh:P.underlying x.type with
          |none=>simp[hh] at hk1
          |some dd=>exact⟨dd,rfl⟩
        obtain⟨dd,hdd⟩:=hund
        have hl1:=(eqL_len e1).1
        have hl2:=(eqL_len e1).2
        have hr:∃ p q,(part x.type A x.offset).run P w = .ok p w∧(part x.type C x.offset).run P w = .ok q w∧(Op.equalIn e x.type p q).run P w = .ok b1 w:=by
         rcases ih x.type k1 hk1 _ _ _ _ b1 e1 cA cC e (by omega) with⟨ha,hr⟩|⟨ha,hone,hr⟩
         ·exact⟨_,_,by simp[part,run_isAgg hdd,ha,run_sizeOf hsz];rfl,by simp[part,run_isAgg hdd,ha,run_sizeOf hsz];rfl,by rw[hx2];exact hr⟩
         ·have s1:off<A.size:=by
           have:=hA.1
           simp at hl1;omega
          have s2:off<C.size:=by
           have:=hC.1
           simp at hl2;omega
          refine⟨A[off],C[off],by simp[part,run_isAgg hdd,ha,hx2,s1],by simp[part,run_isAgg hdd,ha,hx2,s2],hr _ _ ?_ ?_⟩
          ·simp[Array.getElem?_extract];omega
          ·simp[Array.getElem?_extract];omega
        obtain⟨p,q,r1,r2,r3⟩:=hr
        simp only[Op.eqFields,hx1,ne_eq,not_false_eq_true,if_true,Sem.run_bind,r1,r2,r3,Result.andThen_ok]
        cases b1
        ·simp
        ·simpa using rest
       ·cases h
    exact key fs.toList 0 ks b h (by simpa using hb)
  ·cases h
end
section ops
variable {P:Program} {KW:World→Prop} {B:Bd KW} {G:Gh} {s:St} {a:Act} {w:World}
theorem eqGuard_agg {op:BinOp} {t:TypeId} {x y:Operand} {A C:Array Value} (h:P.eqGuardType P.depth t=false):(eqGuard op t x y (.agg A) (.agg C)).run P w = .ok () w:=run_eqGuard_agg w op t x y A C h
theorem ok_eqs {o:Oper} {op:BinOp} {t t':TypeId} {x y:Operand} {x' y':O} {n:Bool} {ks:List Nat} {l m:List V} {b:Bool} (ho:o.op = .binOp op t x y t') (hop:(op = .eql∧n=false)∨(op = .neq∧n=true))
  (hg:P.eqGuardType P.depth t=false) (hf:flatT P 8 t=some ks) (ha:isAggT P t=true)
  (e1:trO x x'=true) (e2:trO y y'=true) (h:SR G B s a w) (hx:rd s.tm x' = .agg l) (hy:rd s.tm y' = .agg m) (hb:eqL ks l m=some b):Ok P B o a w G s s (.bool (bif n then !b else b)):=by
 have h1:=h.rd e1;rw[hx] at h1
 have h2:=h.rd e2;rw[hy] at h2
 obtain⟨A,hA,la,ra⟩:=h1.agg_inv
 obtain⟨C,hC,lc,rc⟩:=h2.agg_inv
 have hr:(Op.equalIn 10000 t (.agg A) (.agg C)).run P w = .ok b w:=by
  rcases flat_run (P:=P) (w:=w) 8 t ks hf l m A C b hb ⟨la,ra⟩ ⟨lc,rc⟩ 10000 (by omega) with⟨_,h⟩|⟨h,_⟩
  ·exact h
  ·rw[ha] at h;cases h
 refine .quiet h (cv:=.bool (bif n then !b else b)) ?_ (.pr _ _ (.bool _))
 rcases hop with⟨rfl,rfl⟩|⟨rfl,rfl⟩
 ·simp[execOp,ho,hA,hC,eqGuard_agg hg,run_eql_struct,hr]
 ·simp[execOp,ho,hA,hC,eqGuard_agg hg,run_neq_struct,hr]
theorem run_eql_other {op:BinOp} {t:TypeId} {n:Bool} {u v:Value} {b:Bool} (hop:(op = .eql∧n=false)∨(op = .neq∧n=true))
  (hu:(∀ k m,u≠.int k m)∧(∀ k m,u≠.float k m)∧(∀ k p q,u≠.complex k p q)∧(∀ q,u≠.string q)) (hr:(Op.equalIn 10000 t u v).run P w = .ok b w) :
  (binOp op t u v).run P w = .ok (.bool (bif n then !b else b)) w:=by
 have hr':(Op.equal t u v).run P w = .ok b w:=hr
 rcases hop with⟨rfl,rfl⟩|⟨rfl,rfl⟩
 ·have:binOp .eql t u v=(do pure (.bool (← Op.equal t u v))):=by
   cases u<;>first|rfl|(exfalso;first|exact hu.1 _ _ rfl|exact hu.2.1 _ _ rfl|exact hu.2.2.1 _ _ _ rfl|exact hu.2.2.2 _ rfl)
  rw[this];simp[hr']
 ·have:binOp .neq t u v=(do pure (.bool (!(← Op.equal t u v)))):=by
   cases u<;>first|rfl|(exfalso;first|exact hu.1 _ _ rfl|exact hu.2.1 _ _ rfl|exact hu.2.2.1 _ _ _ rfl|exact hu.2.2.2 _ rfl)
  rw[this];simp[hr']
theorem ok_eqb {o:Oper} {op:BinOp} {t t':TypeId} {x y:Operand} {x' y':O} {n b c:Bool} (ho:o.op = .binOp op t x y t') (hop:(op = .eql∧n=false)∨(op = .neq∧n=true))
  (ht:P.underlying t=some .bool) (e1:trO x x'=true) (e2:trO y y'=true) (h:SR G B s a w) (hx:rd s.tm x' = .bool b) (hy:rd s.tm y' = .bool c):Ok P B o a w G s s (.bool (bif n then !(b == c) else(b == c))):=by
 have h1:=h.rd e1;rw[hx] at h1
 have h2:=h.rd e2;rw[hy] at h2
 have hr:=run_equalIn_bool' (P:=P) w 9999 t b c ht
 refine .quiet h (cv:=.bool (bif n then !(b == c) else(b == c))) ?_ (.pr _ _ (.bool _))
 have:=run_eql_other (P:=P) (w:=w) hop ⟨(by intro k m e;cases e),(by intro k m e;cases e),(by intro k m q e;cases e),(by intro m e;cases e)⟩ hr
 simp[execOp,ho,h1.bool_inv,h2.bool_inv,eqGuard_bool,this]
def nilC:Nat→TypeDesc→Operand→Bool
 |0,.pointer _,.const (.pointer none)|1,.interface _,.const .nilIface|2,.func _ _ _,.const .nilFunc|3,.map _ _,.const (.map none)=>true
 |_,_,_=>false
theorem run_eqp {d:Nat} {t el:TypeId} (ht:P.underlying t=some (.pointer el)) (p:Option Addr):(Op.equalIn (d+1) t (.pointer p) (.pointer none)).run P w = .ok p.isNone w∧(Op.equalIn (d+1) t (.pointer none) (.pointer p)).run P w = .ok p.isNone w:=by
 cases p<;>exact⟨by simp[Op.equalIn,run_underlying ht],by simp[Op.equalIn,run_underlying ht]⟩
theorem run_eqi0 {d:Nat} {t:TypeId} {ms:Array (String × TypeId)} (ht:P.underlying t=some (.interface ms)):(Op.equalIn (d+1) t .nilIface .nilIface).run P w = .ok true w:=by
 simp[Op.equalIn,run_underlying ht]
theorem run_eqi {d:Nat} {t:TypeId} {ms:Array (String × TypeId)} (ht:P.underlying t=some (.interface ms)) (q:TypeId) (x:Value):(Op.equalIn (d+1) t (.iface q x) .nilIface).run P w = .ok false w∧(Op.equalIn (d+1) t .nilIface (.iface q x)).run P w = .ok false w:=by
 exact⟨by simp[Op.equalIn,run_underlying ht],by simp[Op.equalIn,run_underlying ht]⟩
theorem run_eqf0 {d:Nat} {t:TypeId} {p q:Array TypeId} {v:Bool} (ht:P.underlying t=some (.func p q v)):(Op.equalIn (d+1) t .nilFunc .nilFunc).run P w = .ok true w:=by
 simp[Op.equalIn,run_underlying ht]
theorem run_eqf {d:Nat} {t:TypeId} {p q:Array TypeId} {v:Bool} (ht:P.underlying t=some (.func p q v)) (f:Fn) (x y:Array Value):(Op.equalIn (d+1) t (.func f x y) .nilFunc).run P w = .ok false w∧(Op.equalIn (d+1) t .nilFunc (.func f x y)).run P w = .ok false w:=by
 exact⟨by simp[Op.equalIn,run_underlying ht],by simp[Op.equalIn,run_underlying ht]⟩
theorem run_eqm {d:Nat} {t k e:TypeId} (ht:P.underlying t=some (.map k e)) (p:Option Nat):(Op.equalIn (d+1) t (.map p) (.map none)).run P w = .ok p.isNone w∧(Op.equalIn (d+1) t (.map none) (.map p)).run P w = .ok p.isNone w:=by
 cases p<;>exact⟨by simp[Op.equalIn,run_underlying ht],by simp[Op.equalIn,run_underlying ht]⟩
theorem eqg_p {op:BinOp} {t:TypeId} {x y:Operand} {p q:Option Addr}:(eqGuard op t x y (.pointer p) (.pointer q)).run P w = .ok () w:=by unfold eqGuard;split<;>rfl
theorem eqg_m {op:BinOp} {t:TypeId} {x y:Operand} {p q:Option Nat}:(eqGuard op t x y (.map p) (.map q)).run P w = .ok () w:=by unfold eqGuard;split<;>rfl
theorem eqg_f0 {op:BinOp} {t:TypeId} {x y:Operand}:(eqGuard op t x y .nilFunc .nilFunc).run P w = .ok () w:=by unfold eqGuard;split<;>rfl
theorem eqg_f1 {op:BinOp} {t:TypeId} {x y:Operand} {f A C}:(eqGuard op t x y (.func f A C) .nilFunc).run P w = .ok () w:=by unfold eqGuard;split<;>rfl
theorem eqg_f2 {op:BinOp} {t:TypeId} {x y:Operand} {f A C}:(eqGuard op t x y .nilFunc (.func f A C)).run P w = .ok () w:=by unfold eqGuard;split<;>rfl
theorem eqg_i1 {op:BinOp} {t:TypeId} {x y:Operand} {q u}:(eqGuard op t x y (.iface q u) .nilIface).run P w = .ok () w:=by unfold eqGuard;split<;>rfl
theorem eqg_i2 {op:BinOp} {t:TypeId} {x y:Operand} {q u}:(eqGuard op t x y .nilIface (.iface q u)).run P w = .ok () w:=by unfold eqGuard;split<;>rfl
theorem eqg_i0 {op:BinOp} {t:TypeId} {x y:Operand} (hx:(∃ c,x = .const c)∨∃ c,y = .const c):(eqGuard op t x y .nilIface .nilIface).run P w = .ok () w:=by
 unfold eqGuard
 split
 ·rcases hx with⟨c,rfl⟩|⟨c,rfl⟩<;>simp
 ·rcases hx with⟨c,rfl⟩|⟨c,rfl⟩<;>simp
 ·rfl
theorem nilK0 {im ph l v cv b} (h:VR im ph l v cv) (e:nilK 0 v=some b):∃ p,cv = .pointer p∧p.isNone=b:=by
 cases v<;>simp only[nilK,Option.some.injEq,reduceCtorEq] at e
 case nilp=>subst e;cases h with|pr _ _ h=>cases h;exact⟨none,rfl,rfl⟩
 case bp=>subst e;obtain⟨c,o0,_,_,rfl⟩:=h.bp_inv;exact⟨_,rfl,rfl⟩
 case ep=>subst e;obtain⟨c,o0,f,rfl,_⟩:=h.ep_inv;exact⟨_,rfl,rfl⟩
 case ap=>subst e;obtain⟨_,_,_,_,_,p,rfl⟩:=h.ap_inv;exact⟨_,rfl,rfl⟩
theorem nilK1 {im ph l v cv b} (h:VR im ph l v cv) (e:nilK 1 v=some b):(b=true∧cv = .nilIface)∨(b=false∧∃ t x,cv = .iface t x):=by
 cases v<;>simp only[nilK,Option.some.injEq,reduceCtorEq] at e
 case nili=>subst e;cases h with|pr _ _ h=>cases h;exact .inl ⟨rfl,rfl⟩
 case iface=>subst e;obtain⟨x,rfl,_⟩:=h.iface_inv;exact .inr ⟨rfl,_,_,rfl⟩
theorem nilK2 {im ph l v cv b} (h:VR im ph l v cv) (e:nilK 2 v=some b):(b=true∧cv = .nilFunc)∨(b=false∧∃ f x y,cv = .func f x y):=by
 cases v<;>simp only[nilK,Option.some.injEq,reduceCtorEq] at e
 case nilf=>subst e;cases h with|pr _ _ h=>cases h;exact .inl ⟨rfl,rfl⟩
 case fn=>subst e;obtain⟨A,C,rfl,_⟩:=h.fn_inv;exact .inr ⟨rfl,_,_,_,rfl⟩
theorem nilK3 {im ph l v cv b} (h:VR im ph l v cv) (e:nilK 3 v=some b):∃ p,cv = .map p∧p.isNone=b:=by
 cases v<;>simp only[nilK,Option.some.injEq,reduceCtorEq] at e
 case nilm=>subst e;cases h with|pr _ _ h=>cases h;exact⟨none,rfl,rfl⟩
 case mp=>subst e;obtain⟨c,_,_,rfl⟩:=h.mp_inv;exact⟨_,rfl,rfl⟩
theorem ok_eqn {o:Oper} {op:BinOp} {t t':TypeId} {d:TypeDesc} {x y:Operand} {x':O} {n b:Bool} {k:Nat} (ho:(o.op = .binOp op t x y t')∨(o.op = .binOp op t y x t')) (hop:(op = .eql∧n=false)∨(op = .neq∧n=true))
  (ht:P.underlying t=some d) (hn:nilC k d y=true) (e1:trO x x'=true) (h:SR G B s a w) (hx:nilK k (rd s.tm x')=some b):Ok P B o a w G s s (.bool (bif n then !b else b)):=by
 have h1:=h.rd e1
 have key:∃ u v,a.eval x=u∧a.eval y=v∧(Op.equalIn 10000 t u v).run P w = .ok b w∧(Op.equalIn 10000 t v u).run P w = .ok b w ∧
   ((∀ k m,u≠.int k m)∧(∀ k m,u≠.float k m)∧(∀ k p q,u≠.complex k p q)∧(∀ q,u≠.string q)) ∧
   ((∀ k m,v≠.int k m)∧(∀ k m,v≠.float k m)∧(∀ k p q,v≠.complex k p q)∧(∀ q,v≠.string q)) ∧
   (eqGuard op t x y u v).run P w = .ok () w∧(eqGuard op t y x v u).run P w = .ok () w:=by
  have dis:∀ u:Value,(match u with | .int _ _ | .float _ _ | .complex _ _ _ | .string _=>False|_=>True) →
    (∀ k m,u≠.int k m)∧(∀ k m,u≠.float k m)∧(∀ k p q,u≠.complex k p q)∧(∀ q,u≠.string q):=by
   intro u hu
   refine⟨?_,?_,?_,?_⟩<;>(intros;intro e;subst e;exact hu)
  unfold nilC at hn
  split at hn<;>first|cases hn;done|skip
  ·obtain⟨p,hp,rfl⟩:=nilK0 h1 hx
   obtain⟨q1,q2⟩:=run_eqp (P:=P) (w:=w) (d:=9999) ht p
   exact⟨.pointer p,.pointer none,hp,rfl,q1,q2,dis _ trivial,dis _ trivial,eqg_p,eqg_p⟩
  ·rcases nilK1 h1 hx with⟨rfl,hp⟩|⟨rfl,t1,x1,hp⟩
   ·have q:=run_eqi0 (P:=P) (w:=w) (d:=9999) ht
    exact⟨.nilIface,.nilIface,hp,rfl,q,q,dis _ trivial,dis _ trivial,eqg_i0 (.inr ⟨_,rfl⟩),eqg_i0 (.inl ⟨_,rfl⟩)⟩
   ·obtain⟨q1,q2⟩:=run_eqi (P:=P) (w:=w) (d:=9999) ht t1 x1
    exact⟨.iface t1 x1,.nilIface,hp,rfl,q1,q2,dis _ trivial,dis _ trivial,eqg_i1,eqg_i2⟩
  ·rcases nilK2 h1 hx with⟨rfl,hp⟩|⟨rfl,t1,x1,y1,hp⟩
   ·have q:=run_eqf0 (P:=P) (w:=w) (d:=9999) ht
    exact⟨.nilFunc,.nilFunc,hp,rfl,q,q,dis _ trivial,dis _ trivial,eqg_f0,eqg_f0⟩
   ·obtain⟨q1,q2⟩:=run_eqf (P:=P) (w:=w) (d:=9999) ht t1 x1 y1
    exact⟨.func t1 x1 y1,.nilFunc,hp,rfl,q1,q2,dis _ trivial,dis _ trivial,eqg_f1,eqg_f2⟩
  ·obtain⟨p,hp,rfl⟩:=nilK3 h1 hx
   obtain⟨q1,q2⟩:=run_eqm (P:=P) (w:=w) (d:=9999) ht p
   exact⟨.map p,.map none,hp,rfl,q1,q2,dis _ trivial,dis _ trivial,eqg_m,eqg_m⟩
 obtain⟨u,v,hu,hv,r1,r2,n1,n2,g1,g2⟩:=key
 refine .quiet h (cv:=.bool (bif n then !b else b)) ?_ (.pr _ _ (.bool _))
 rcases ho with ho|ho
 ·simp[execOp,ho,hu,hv,g1,run_eql_other (P:=P) (w:=w) hop n1 r1]
 ·simp[execOp,ho,hu,hv,g2,run_eql_other (P:=P) (w:=w) hop n2 r2]
end ops
end Go.Vm
/-
  The machine V and Go's operations, one by one: structs, lists that are written out, cut, turned into texts.
-/
namespace Go.Vm
open Go Go.RowKit
theorem fold_set (off:Nat):∀ (l:List Value) (k:Nat) (A:Array Value),
  ((l.zipIdx k).foldl (fun cs (p:Value × Nat)=>cs.setIfInBounds (off+p.2) p.1) A).size=A.size ∧
  ∀ q,((l.zipIdx k).foldl (fun cs (p:Value × Nat)=>cs.setIfInBounds (off+p.2) p.1) A)[q]? = if off+k≤q∧q<off+k+l.length∧q<A.size then l[q-(off+k)]? else A[q]?
 | [],k,A=>⟨rfl,fun q=>by simp;intro h1 h2;omega⟩
 |v::l,k,A=>by
  simp only[List.zipIdx_cons,List.foldl_cons]
  obtain⟨h1,h2⟩:=fold_set off l (k+1) (A.setIfInBounds (off+k) v)
  refine⟨by rw[h1];simp,fun q=>?_⟩
  rw[h2 q]
  simp only[Array.size_setIfInBounds,List.length_cons]
  by_cases h:off+k=q
  ·subst h
   rw[if_neg (by omega)]
   by_cases hq:off+k<A.size
   ·rw[if_pos (by omega)];simp[hq]
   ·rw[if_neg (by omega)];simp[hq]
  ·by_cases hc:off+(k+1)≤q∧q<off+(k+1)+l.length∧q<A.size
   ·rw[if_pos hc,if_pos (by omega),show q-(off+k)=(q-(off+(k+1)))+1 by omega];simp
   ·rw[if_neg hc,if_neg (by omega)]
    simp[h]
section
variable {im:Nat→Nat→Option Value} {ph:Nat→Nat→Option Loc} {lv:Nat}
theorem fill_rel (place:Nat→Option (Nat × Nat)):∀ (parts:List (Nat × Value)) (ps:List (Nat × Nat × List V)) (l l':List V) (A:Array Value),Cells im ph lv l A →
  parts.length=ps.length→(∀ (j:Nat) (p:Nat × Value) (q:Nat × Nat × List V),parts[j]? = some p→ps[j]? = some q→place p.1=some (q.1,q.2.1)∧Cells im ph lv q.2.2 p.2.cells)→fillC l ps=some l' →
  ∃ A',Instr.fill place A parts=some A'∧Cells im ph lv l' A'
 | [],[],l,l',A,hA,_,_,h=>by simp[fillC] at h;subst h;exact⟨A,rfl,hA⟩
 | [],_::_,_,_,_,_,hl,_,_=>by simp at hl
 |_::_,[],_,_,_,_,hl,_,_=>by simp at hl
 |(i,v)::parts,(off,n,vs)::ps,l,l',A,hA,hl,hp,h=>by
  simp only[fillC] at h
  have hb:(Nat.beq vs.length n&&Nat.ble (off+n) l.length)=true∧fillC (l.take off++vs++l.drop (off+n)) ps=some l':=by
   cases hb:(Nat.beq vs.length n&&Nat.ble (off+n) l.length)<;>simp only[hb,cond_true,cond_false,reduceCtorEq] at h;exact⟨rfl,h⟩
  obtain⟨hb,h⟩:=hb
  simp only[Bool.and_eq_true] at hb
  have h1:=Nat.eq_of_beq_eq_true hb.1
  have h2:=Nat.le_of_ble_eq_true hb.2
  obtain⟨hpl,hc⟩:=hp 0 _ _ rfl rfl
  have hsz:v.cells.size=n:=by rw[hc.1];exact h1
  have hAl:=hA.1
  obtain⟨f1,f2⟩:=fold_set off v.cells.toList 0 A
  have hcells:Cells im ph lv (l.take off++vs++l.drop (off+n)) (v.cells.zipIdx.foldl (fun cs (p:Value × Nat)=>cs.setIfInBounds (off+p.2) p.1) A):=by
   rw[← Array.foldl_toList,Array.toList_zipIdx]
   refine⟨by rw[f1];simp;omega,fun q x y hx hy=>?_⟩
   rw[f2 q] at hy
   by_cases a1:q<off
   ·rw[if_neg (by omega)] at hy
    rw[List.append_assoc,List.getElem?_append_left (by simp;omega),List.getElem?_take,if_pos a1] at hx
    exact hA.2 q x y hx hy
   ·by_cases a2:q<off+n
    ·rw[if_pos (by simp;omega)] at hy
     rw[List.append_assoc,List.getElem?_append_right (by simp;omega),List.length_take,Nat.min_eq_left (by omega),List.getElem?_append_left (by omega)] at hx
     exact hc.2 (q-off) x y hx (by simpa using hy)
    ·rw[if_neg (by simp;omega)] at hy
     rw[List.getElem?_append_right (by simp;omega),List.getElem?_drop] at hx
     simp only[List.length_append,List.length_take] at hx
     rw[show off+n+(q-(min off l.length+vs.length))=q by omega] at hx
     exact hA.2 q x y hx hy
  obtain⟨A',r1,r2⟩:=fill_rel place parts ps _ l' _ hcells (by simpa using hl) (fun j p q hp' hq'=>hp (j+1) p q (by simpa using hp') (by simpa using hq')) h
  refine⟨A',?_,r2⟩
  simp only[Instr.fill,hpl]
  rw[if_neg (by simp;omega)]
  exact r1
theorem Cells.dx {l A} (h:Cells im ph lv l A):Cells im ph lv (l.map dx0) A:=by
 refine⟨by simpa using h.1,fun j x y hx hy=>?_⟩
 obtain⟨x',hx',rfl⟩:=map_get hx
 exact(h.2 j x' y hx' hy).dx0
theorem VR.cells' {v cv} (h:VR im ph lv v cv) (hv:scal v=true∨∃ cs,v = .agg cs):Cells im ph lv (cellsOf v) cv.cells:=h.cells hv
end
section ops
variable {P:Program} {KW:World→Prop} {B:Bd KW} {G:Gh} {s:St} {a:Act} {w:World}
theorem whole_or {v:V} (h:whole v=true):scal v=true∨∃ cs,v = .agg cs:=by
 unfold whole at h
 simp only[Bool.or_eq_true] at h
 rcases h with h|h
 ·exact .inl h
 ·cases v<;>simp at h;exact .inr ⟨_,rfl⟩
def trP (place:Nat→Option (Nat × Nat)):List (Nat × Operand)→List (Nat × Nat × O)→Bool
 | [],[]=>true
 |(i,x)::ps,(off,n,y)::qs=>place i == some (off,n)&&trO x y&&trP place ps qs
 |_,_=>false
theorem ok_bd {o:Oper} {t:TypeId} {it:TypeInfo} {d:TypeDesc} {zv:Value} {z l:List V} {place:Nat→Option (Nat × Nat)} {parts:Array (Nat × Operand)} {ps:List (Nat × Nat × O)} (ho:o.op = .build t parts)
  (hi:P.info? t=some it) (hu:P.underlying t=some d) (hz:it.zero=some zv) (hc:cstL zv.cells.toList z=true)
  (hpl:(∃ n e ie,d = .array n e∧P.info? e=some ie∧place=fun i=>some (i*ie.size,ie.size)) ∨
   (∃ fs pl,d = .struct fs∧fs.toList.mapM (fun f=>(P.info? f.type).map fun i=>(f.offset,i.size))=some pl∧place=(pl.toArray[·]?)))
  (ht:trP place parts.toList ps=true) (hw:∀ p∈ps,whole (rd s.tm p.2.2)=true) (h:SR G B s a w)
  (hv:fillC z (ps.map fun(o,n,x)=>(o,n,(cellsOf (rd s.tm x)).map dx0))=some l):Ok P B o a w G s s (.agg l):=by
 have hl:∀ {xs:List (Nat × Operand)} {ys:List (Nat × Nat × O)},trP place xs ys=true→xs.length=ys.length∧∀ (j:Nat) p q,xs[j]? = some p→ys[j]? = some q→place p.1=some (q.1,q.2.1)∧trO p.2 q.2.2=true:=by
  intro xs
  induction xs with
  |nil=>intro ys h;cases ys<;>simp[trP] at h;exact⟨rfl,fun j p q h=>by simp at h⟩
  |cons x xs ih=>
   intro ys h
   cases ys with
   |nil=>simp[trP] at h
   |cons y ys=>
    simp only[trP,Bool.and_eq_true,beq_iff_eq] at h
    obtain⟨l1,l2⟩:=ih h.2
    refine⟨by simp[l1],fun j p q hp hq=>?_⟩
    cases j with
    |zero=>simp at hp hq;subst hp;subst hq;exact⟨h.1.1,h.1.2⟩
    |succ j=>exact l2 j p q (by simpa using hp) (by simpa using hq)
 obtain⟨l1,l2⟩:=hl ht
 obtain⟨c1,c2⟩:=cstL_get (im:=G.im) hc
 have hz0:Cells G.im G.ph s.sg.length z zv.cells:=⟨by simpa using c1,fun j x y hx hy=>.pr _ _ (c2 j x y hx (by simpa using hy))⟩
 obtain⟨A',r1,r2⟩:=fill_rel (im:=G.im) (ph:=G.ph) (lv:=s.sg.length) place (parts.toList.map fun(i,x)=>(i,a.eval x)) _ z l zv.cells hz0 (by simpa using l1) (fun j p q hp hq=>by
  obtain⟨p',hp',rfl⟩:=map_get hp
  obtain⟨q',hq',rfl⟩:=map_get hq
  obtain⟨g1,g2⟩:=l2 j p' q' hp' hq'
  exact⟨g1,((h.rd g2).cells' (whole_or (hw q' (List.mem_of_getElem? hq')))).dx⟩) hv
 have hb:P.built t (parts.map fun(i,x)=>(i,a.eval x)).toList=some A':=by
  unfold Program.built
  rcases hpl with⟨n,e,ie,rfl,he,rfl⟩|⟨fs,pl,rfl,hp,rfl⟩
  ·simp only[hi,hu,hz,he];simpa using r1
  ·simp only[hi,hu,hz,hp];simpa using r1
 refine .quiet h (cv:=.agg A') ?_ (.agg _ _ r2.1 r2.2)
 simp[execOp,ho,run_build w t _ A' hb]
end ops
end Go.Vm
/-
  The machine V and Go's operations, one by one: lists that are written out, cut.
-/
namespace Go.Vm
open Go Go.RowKit
theorem fill_all (sz:Nat):∀ (vs:List Value) (k:Nat) (A:Array Value),(∀ v∈vs,v.cells.size=sz)→(k+vs.length)*sz≤A.size →
  ∃ A',Instr.fill (fun i=>some (i*sz,sz)) A ((vs.zipIdx k).map fun p=>(p.2,p.1))=some A'∧A'.size=A.size ∧
   (∀ j v q,vs[j]? = some v→q<sz→A'[(k+j)*sz+q]? = v.cells[q]?)∧∀ q,q<k*sz→A'[q]? = A[q]?
 | [],k,A,_,_=>⟨A,rfl,rfl,fun j v q h=>by simp at h,fun _ _=>rfl⟩
 |v::vs,k,A,hv,hle=>by
  have h0:=hv v (by simp)
  rw[List.length_cons] at hle
  have hk:k*sz+sz≤A.size:=by
   have:(k+1)*sz≤(k+(vs.length+1))*sz:=Nat.mul_le_mul_right _ (by omega)
   rw[Nat.succ_mul] at this;omega
  obtain⟨f1,f2⟩:=fold_set (k*sz) v.cells.toList 0 A
  have fe:(v.cells.zipIdx.foldl (fun cs (p:Value × Nat)=>cs.setIfInBounds (k*sz+p.2) p.1) A)=(v.cells.toList.zipIdx.foldl (fun cs (p:Value × Nat)=>cs.setIfInBounds (k*sz+p.2) p.1) A):=by
   rw[← Array.foldl_toList,Array.toList_zipIdx]
  rw[← fe] at f1 f2
  obtain⟨A',r1,r2,r3,r4⟩:=fill_all sz vs (k+1) _ (fun v hv'=>hv v (by simp[hv'])) (by rw[f1];rw[show k+1+vs.length=k+(vs.length+1) by omega];exact hle)
  refine⟨A',?_,by rw[r2,f1],?_,?_⟩
  ·simp only[List.zipIdx_cons,List.map_cons,Instr.fill]
   rw[if_neg (by simp;omega)]
   exact r1
  ·intro j u q hj hq
   cases j with
   |zero=>
    simp at hj;subst hj
    rw[Nat.add_zero,r4 _ (by rw[Nat.succ_mul];omega),f2]
    rw[if_pos (by simp;omega)]
    simp
   |succ j=>
    have:=r3 j u q (by simpa using hj) hq
    rwa [show k+1+j=k+(j+1) by omega] at this
  ·intro q hq
   rw[r4 q (by rw[Nat.succ_mul];omega),f2,if_neg (by omega)]
section
variable {KW:World→Prop} {B:Bd KW} {G:Gh} {fr:Fr} {sg:List Fr} {w:World}
def Gh.row (G:Gh) (c n:Nat) (A:Array Value):Gh:={ G with im:=fun c' k=>if c'=c then(if k<n then A[k]? else none) else G.im c' k }
theorem cell_new (A:Array Value) (t:TypeId) (f:Nat × Nat) (k:Nat):(w.alloc (.cells A t f)).cell? ⟨w.heap.size,k,none⟩=A[k]?:=by
 unfold World.cell?
 rw[show(w.alloc (.cells A t f)).heap=w.heap.push (.cells A t f) from rfl]
 simp
theorem WR.row (h:WR G B fr sg w) (A:Array Value) (n:Nat) (t:TypeId) (f:Nat × Nat):WR (G.row w.heap.size n A) B fr sg (w.alloc (.cells A t f))∧ImLe G.im (G.row w.heap.size n A).im:=by
 have fr0:=h.fresh w.heap.size (Nat.le_refl _)
 have hi:ImLe G.im (G.row w.heap.size n A).im:=fun c k x hx=>by
  simp only[Gh.row]
  rw[if_neg (fun e=>by rw[e,fr0.1] at hx;cases hx)];exact hx
 refine⟨⟨?_,?_,fun c k o ho=>⟨(h.ob c k o ho).1,by have:=(h.ob c k o ho).2;simp;omega⟩,?_,h.dm,by have:=h.hB;simp;omega,B.mono _ _ ((Below.refl _ _).alloc h.hB _) h.kn⟩,hi⟩
 ·intro c k x hx
  simp only[Gh.row] at hx
  split at hx
  ·rename_i e;subst e
   split at hx
   ·rw[cell_new];exact hx
   ·cases hx
  ·have hc:=World.block_lt_of_cell? w _ (h.im c k x hx)
   rw[World.cell?_alloc_lt _ _ _ hc];exact h.im c k x hx
 ·intro c k x hx
  simp only[Gh.row] at hx
  split at hx
  ·rename_i e;subst e;exact fr0.2 k
  ·exact h.io c k x hx
 ·intro d i b loc hd hg hl
  exact(h.bl d i b loc hd hg hl).keep hi (PhLe.refl _ _) fun c k ho=>⟨ho,World.cell?_alloc_lt _ _ _ (h.ob c k _ ho).2,Fz.alloc _ _ _ (h.ob c k _ ho).2⟩
end
section ops
variable {P:Program} {KW:World→Prop} {B:Bd KW} {G:Gh} {s:St} {a:Act} {w:World}
theorem elV_some {sz:Nat} {v e:V} (h:elV sz v=some e):e=dt2 v∧pu2 e=true∧(cellsOf e).length=sz:=by
 unfold elV at h
 obtain⟨hb,rfl⟩:=bif_some h
 simp only[Bool.and_eq_true] at hb
 exact⟨rfl,hb.1,Nat.eq_of_beq_eq_true hb.2⟩
theorem pu2_whole {v:V} (h:pu2 v=true):whole v=true:=by
 cases v<;>simp_all [pu2,pu1,pu0,whole,scal]
theorem el_cells {im ph l sz v e cv} (hv:VR im ph l v cv) (h:elV sz v=some e):cv.cells.size=sz∧∀ (q:Nat) (x:V) (y:Value),(cellsOf e)[q]? = some x→cv.cells[q]? = some y→PR im x y:=by
 obtain⟨rfl,h2,h3⟩:=elV_some h
 have hc:=hv.dt2.cells (whole_or (pu2_whole h2))
 exact⟨by rw[hc.1];exact h3,fun q x y hx hy=>(hc.2 q x y hx hy).pr1 (pu2_cells h2 x (List.mem_of_getElem? hx))⟩
theorem run_buildSlice {t e:TypeId} {sz n:Nat} {zi:TypeInfo} {zv:Value} (ht:P.underlying t=some (.slice e)) (hsz:sizeT P e=some sz) (hi:P.info? e=some zi) (hz:zi.zero=some zv) (hn:n*sz≤2 ^ 24)
  (vs:List Value) (hl:vs.length=n) (hv:∀ v∈vs,v.cells.size=sz) (parts:Array (Nat × Value)) (hp:parts.toList=vs.zipIdx.map fun p=>(p.2,p.1)) :
  ∃ A:Array Value,(Instr.buildSlice t n parts).run P w = .ok (.slice (some ⟨w.heap.size,0,none⟩) n n) (w.alloc (.cells A e))∧A.size=n*sz ∧
   ∀ j v q,vs[j]? = some v→q<sz→A[j*sz+q]? = v.cells[q]?:=by
 have hgt:¬ (n*sz>2 ^ 24):=by omega
 have go:∀ z:Array Value,(Instr.buildSlice t n parts).run P w=(match Instr.fill (fun i=>some (i*sz,sz)) ((Array.range (n*sz)).map (z[· % z.size]!)) parts.toList with
    |some cells=>Result.ok (Value.slice (some ⟨w.heap.size,0,none⟩) n n) (w.alloc (.cells cells e))
    |none=>.halt (.stuck "buildSlice: a part of the wrong size") w) →
   ∃ A:Array Value,(Instr.buildSlice t n parts).run P w = .ok (.slice (some ⟨w.heap.size,0,none⟩) n n) (w.alloc (.cells A e))∧A.size=n*sz ∧
   ∀ j v q,vs[j]? = some v→q<sz→A[j*sz+q]? = v.cells[q]?:=by
  intro z hz'
  obtain⟨A,f1,f2,f3,_⟩:=fill_all sz vs 0 ((Array.range (n*sz)).map (z[· % z.size]!)) hv (by rw[Nat.zero_add,hl];simp)
  exact⟨A,by rw[hz',hp,f1],by rw[f2];simp,fun j v q hj hq=>by have:=f3 j v q hj hq;rwa [Nat.zero_add] at this⟩
 by_cases h0:n*sz=0
 ·refine go #[] ?_
  unfold Instr.buildSlice
  have hb:∀ g:Nat→Value,(Array.range 0).map g = #[]:=fun g=>by simp
  simp only[Sem.run_bind,run_underlying ht,Result.andThen_ok,run_sizeOf hsz,h0,if_true,Sem.run_pure,hb,Sem.run_ite]
  cases Instr.fill (fun i=>some (i*sz,sz)) #[] parts.toList<;>simp[newRow]
 ·refine go zv.cells ?_
  unfold Instr.buildSlice
  simp only[Sem.run_bind,run_underlying ht,Result.andThen_ok,run_sizeOf hsz,if_neg hgt,h0,if_false,zeroValue,run_typeInfo hi,hz,Sem.run_pure]
  cases Instr.fill (fun i=>some (i*sz,sz)) ((Array.range (n*sz)).map (zv.cells[· % zv.cells.size]!)) parts.toList<;>simp[newRow]
theorem ok_bl {o:Oper} {t e:TypeId} {sz n:Nat} {zi:TypeInfo} {zv:Value} {parts:Array (Nat × Operand)} {ys:List O} {l:List V} (ho:o.op = .buildSlice t n parts)
  (ht:P.underlying t=some (.slice e)) (hsz:sizeT P e=some sz) (hi:P.info? e=some zi) (hz:zi.zero=some zv) (hn:n*sz≤2 ^ 24) (hl:ys.length=n)
  (hp:parts.toList.map (·.1)=List.range n) (hy:trL (parts.toList.map (·.2)) ys=true) (h:SR G B s a w) (hv:(ys.map (rd s.tm)).mapM (elV sz)=some l) : 
  Ok P B o a w G s s (.sl .ex sz l)∧Ok P B o a w G s { s with fr:=s.fr ++ [.arr l.length sz l] } (.bs 0 s.fr.length l.length 0 l.length):=by
 obtain⟨l1,r1⟩:=h.rdL hy
 obtain⟨l2,r2⟩:=mapM_get hv
 have hln:l.length=n:=by rw[l2];simpa using hl
 have hpl:parts.toList.length=n:=by rw[← List.length_map (f:=(·.1)),hp];simp
 have hcell:∀ (j:Nat) (v:Value),((parts.toList.map (·.2)).map a.eval)[j]? = some v→∃ e,l[j]? = some e∧v.cells.size=sz∧∀ (q:Nat) (x:V) (y:Value),(cellsOf e)[q]? = some x→v.cells[q]? = some y→PR G.im x y:=by
  intro j v hj
  have hjn:j<n:=by have:=(List.getElem?_eq_some_iff.1 hj).1;simp at this;simpa[← hpl] using this
  have hjl:j<l.length:=by omega
  obtain⟨u,hu,he⟩:=r2 j _ (List.getElem?_eq_getElem hjl)
  exact⟨_,List.getElem?_eq_getElem hjl,el_cells (r1 j u v hu hj) he⟩
 obtain⟨A,hrun,hA1,hA2⟩:=run_buildSlice (P:=P) (w:=w) ht hsz hi hz hn ((parts.toList.map (·.2)).map a.eval) (by simpa using hpl)
  (fun v hv=>by obtain⟨j,hj,rfl⟩:=List.getElem_of_mem hv;obtain⟨e,_,h2,_⟩:=hcell j _ (List.getElem?_eq_getElem hj);exact h2)
  (parts.map fun(i,x)=>(i,a.eval x)) (by
   apply List.ext_getElem?
   intro j
   simp only[Array.toList_map,List.getElem?_map,List.getElem?_zipIdx]
   cases hj:parts.toList[j]? with
   |none=>simp
   |some p=>
    have:(parts.toList.map (·.1))[j]? = some p.1:=by simp[hj]
    rw[hp] at this
    have hj2:=List.getElem?_eq_some_iff.1 this
    obtain⟨_,h3⟩:=hj2
    simp at h3
    simp[h3])
 have hex:(execOp a.eval o).run P w = .ok (.value (.slice (some ⟨w.heap.size,0,none⟩) n n)) (w.alloc (.cells A e)):=by simp[execOp,ho,hrun]
 have hel:∀ (j:Nat) (e':V),l[j]? = some e'→(cellsOf e').length=sz∧∀ (q:Nat) (x:V),(cellsOf e')[q]? = some x→∃ cv,A[j*sz+q]? = some cv∧PR G.im x cv:=by
  intro j e' he'
  obtain⟨u,hu,hev⟩:=r2 j e' he'
  have h3:=(elV_some hev).2.2
  refine⟨h3,fun q x hx=>?_⟩
  have hq:q<sz:=by rw[← h3];exact(List.getElem?_eq_some_iff.1 hx).1
  have hjn:j<((parts.toList.map (·.2)).map a.eval).length:=by simp[hpl];rw[← hln];exact(List.getElem?_eq_some_iff.1 he').1
  obtain⟨e2,q1,q2,q3⟩:=hcell j _ (List.getElem?_eq_getElem hjn)
  rw[he'] at q1;cases q1
  have hqc:q<(((parts.toList.map (·.2)).map a.eval)[j]).cells.size:=by rw[q2];exact hq
  exact⟨_,by rw[hA2 j _ q (List.getElem?_eq_getElem hjn) hq];exact Array.getElem?_eq_getElem hqc,q3 q x _ hx (Array.getElem?_eq_getElem hqc)⟩
 refine⟨?_,?_⟩
 ·obtain⟨h1,hi1⟩:=h.wr.row A (n*sz) e (0,0)
  refine⟨_,_,_,.inl hex,h1,hi1,PhLe.refl _ _,?_,rfl,rfl,(Below.refl _ _).alloc h.wr.hB _⟩
  have:PR (G.row w.heap.size (n*sz) A).im (.sl .ex sz l) (.slice (some ⟨w.heap.size,0,none⟩) l.length n):=
   .sl .ex sz l _ n (fun j q=>(A[j*sz+q]?).getD undef) (.inr ⟨rfl,hln.symm⟩) (by omega) (fun e=>by cases e) (fun x e _=>by cases e;rfl)
    (fun x j q hx hj hq=>by
     cases hx
     have hjz:j*sz+q<n*sz:=by
      have:(j+1)*sz≤n*sz:=Nat.mul_le_mul_right _ (by omega)
      rw[Nat.succ_mul] at this;omega
     simp only[Gh.row,if_true,Nat.zero_add,hjz]
     rw[Array.getElem?_eq_getElem (by omega)];rfl)
    (fun j e he=>(hel j e he).1)
    (fun j e q x he hx=>by
     obtain⟨cv,g1,g2⟩:=(hel j e he).2 q x hx
     rw[g1];exact g2.mono hi1)
  rw[hln] at this
  exact .pr _ _ this
 ·subst hln
  have m:=Mv.own h.wr s.sg.length s.fr.length (.arr l.length w.heap.size 0 sz l.length) (.cells A e)
  have hnn:G.ph s.sg.length s.fr.length=none:=by
   cases e:G.ph s.sg.length s.fr.length with
   |none=>rfl
   |some x=>obtain⟨_,b,hb⟩:=h.wr.dm _ _ _ e;simp[getB_zero] at hb
  obtain⟨h1,up⟩:=h.wr.new (.arr l.length sz l) _ m (Gh.put_same G _ _ _) (by
   refine⟨rfl,rfl,by omega,fun k hk=>⟨by simp[Gh.own],by simp,A[k],by simp⟩,fun j e' he'=>?_⟩
   obtain⟨g1,g2⟩:=hel j e' he'
   refine⟨g1,fun q x hx=>?_⟩
   obtain⟨cv,g3,g4⟩:=g2 q x hx
   exact⟨cv,by simpa using g3,g4⟩)
  refine⟨_,_,_,.inl hex,h1,ImLe.refl _,up _,?_,rfl,rfl,(Below.refl _ _).alloc h.wr.hB _⟩
  exact .bs 0 _ l.length 0 l.length (some ⟨w.heap.size,0,none⟩) l.length _ (Nat.zero_le _) (Gh.put_same G _ _ _) (fun v hv=>by simp[Loc.cur] at hv;omega) (Nat.le_refl _) (fun e=>by cases e) (fun x e _=>by cases e;rfl)
   (fun c o0 sz' cap e=>by cases e;exact .inr ⟨by simp,by omega⟩) (fun e=>by cases e)
theorem ok_be {o:Oper} {t:TypeId} {x:Operand} {y:O} (ho:o.op = .box t x) (e:trO x y=true) (hv:scal (rd s.tm y)=true∨∃ cs,rd s.tm y = .agg cs) (hp:(cellsOf (rd s.tm y)).all pu1=true)
  (h:SR G B s a w):Ok P B o a w G s s (.ep (cellsOf (rd s.tm y)) 0):=by
 obtain⟨hl,hR⟩:=(h.rd e).cells hv
 obtain⟨h1,hi⟩:=h.wr.row (a.eval x).cells (a.eval x).cells.size t (0,0)
 refine⟨.pointer (some ⟨w.heap.size,0,none⟩),w.alloc (.cells (a.eval x).cells t),_,.inl ?_,h1,hi,PhLe.refl _ _,?_,rfl,rfl,(Below.refl _ _).alloc h.wr.hB _⟩
 ·simp[execOp,ho,Instr.box,newVar,newRow]
 ·refine .pr _ _ (.ep (cellsOf (rd s.tm y)) w.heap.size 0 0 (fun q=>((a.eval x).cells[q]?).getD undef) (fun q hq=>?_) (fun q u hu=>?_))
  ·have hq':q<(a.eval x).cells.size:=by rw[hl];exact hq
   simp[Gh.row,hq']
  ·have hq:q<(cellsOf (rd s.tm y)).length:=(List.getElem?_eq_some_iff.1 hu).1
   have hq':q<(a.eval x).cells.size:=by rw[hl];exact hq
   have hg:(a.eval x).cells[q]? = some (a.eval x).cells[q]:=Array.getElem?_eq_getElem hq'
   rw[hg]
   exact((hR q u _ hu hg).pr1 (List.all_eq_true.1 hp u (List.mem_of_getElem? hu))).mono hi
end ops
end Go.Vm
/-
  The machine V and Go's operations, one by one: texts and lists that are cut.
-/
namespace Go.Vm
open Go Go.RowKit
section ops
variable {P:Program} {KW:World→Prop} {B:Bd KW} {G:Gh} {s:St} {a:Act} {w:World}
theorem bif_opt {α:Type} {b:Bool} {x:Option α} {v:α} (h:(bif b then x else none)=some v):b=true∧x=some v:=by
 cases b
 ·cases h
 ·exact⟨rfl,h⟩
def Bnd (v:Option Value) (dflt n:Nat):Prop:=(v=none∧n=dflt)∨∃ k,v=some (.int k (n:Int))
theorem onat_bnd {x:Option Operand} {y:Option O} {dflt n:Nat} (h:SR G B s a w) (e:trM x y=true) (hn:onat s.tm dflt y=some n):Bnd (x.map a.eval) dflt n∧(x.isSome=y.isSome):=by
 cases x<;>cases y<;>simp only[trM,reduceCtorEq] at e
 ·simp only[onat,Option.some.injEq] at hn;exact⟨.inl ⟨rfl,hn.symm⟩,rfl⟩
 ·simp only[onat] at hn
  obtain⟨k,hk⟩:=cv_int (h.rd e) hn
  exact⟨.inr ⟨k,by simp[hk]⟩,rfl⟩
theorem run_sliceBound {k:IntKind} {n y:Nat} {c:BoundsCode} (h:n≤y):(Instr.sliceBound (.int k n) y c).run P w = .ok n w:=by
 have:(n:Int)≤(y:Int):=by omega
 simp[Instr.sliceBound,asIntOf]
 intro h1;omega
theorem run_bounds2 {isS:Bool} {len cap l h:Nat} {low high:Option Value} (hl:Bnd low 0 l) (hh:Bnd high len h) (h1:l≤h) (h2:h≤cap) :
  (Instr.sliceBounds isS len cap low high none).run P w = .ok (l,h,cap) w:=by
 unfold Instr.sliceBounds
 rcases hh with⟨rfl,rfl⟩|⟨k,rfl⟩<;>rcases hl with⟨rfl,rfl⟩|⟨j,rfl⟩<;>simp[run_sliceBound h1,run_sliceBound h2]
theorem run_bounds3 {isS:Bool} {len cap l h m:Nat} {low:Option Value} {k j:IntKind} (hl:Bnd low 0 l) (h1:l≤h) (h2:h≤m) (h3:m≤cap) :
  (Instr.sliceBounds isS len cap low (some (.int k h)) (some (.int j m))).run P w = .ok (l,h,m) w:=by
 unfold Instr.sliceBounds
 rcases hl with⟨rfl,rfl⟩|⟨i,rfl⟩<;>simp[run_sliceBound h1,run_sliceBound h2,run_sliceBound h3]
theorem PR.cut {im:Nat→Nat→Option Value} {t:Tok} {z:Nat} {es:List V} {ad:Option Addr} {cap l h m:Nat} (hp:PR im (.sl .no z es) (.slice ad es.length cap)) (h1:l≤h) (h2:h≤es.length) (h3:h≤m) (h4:m≤cap)
  (ht:t = .no∨(t = .ex∧m-l=h-l)):PR im (.sl t z ((es.drop l).take (h-l))) (.slice (if m=l then ad else ad.map (·.add (l*z))) (h-l) (m-l)):=by
 obtain⟨a',cap',f,he,_,hc,ha,hsp,hi,hz,hr⟩:=hp.sl_inv
 cases he
 have hlen:((es.drop l).take (h-l)).length=h-l:=by simp;omega
 have hget:∀ (j:Nat) (e:V),((es.drop l).take (h-l))[j]? = some e→j<h-l∧es[l+j]? = some e:=by
  intro j e he
  rw[List.getElem?_take] at he
  split at he
  ·rename_i hj;rw[List.getElem?_drop] at he;exact⟨hj,he⟩
  ·cases he
 have:=PR.sl (im:=im) t z ((es.drop l).take (h-l)) (if m=l then ad else ad.map (·.add (l*z))) (m-l) (fun j q=>f (l+j) q) (by
   rcases ht with h|⟨h,h'⟩
   ·exact .inl h
   ·exact .inr ⟨h,by rw[hlen];exact h'⟩) (by rw[hlen];omega) (by
   intro hn
   split at hn
   ·omega
   ·cases ad with
    |none=>have:=ha rfl;omega
    |some x=>simp at hn) (by
   intro x hx hcz
   split at hx
   ·omega
   ·cases ad with
    |none=>simp at hx
    |some y=>
     simp at hx
     rw[addr_eta y (hsp y rfl (by omega)),addr_add] at hx
     subst hx;rfl) (by
   intro x j q hx hj hq
   rw[hlen] at hj
   rw[if_neg (by omega)] at hx
   cases ad with
   |none=>simp at hx
   |some y=>
    simp at hx
    rw[addr_eta y (hsp y rfl (by omega)),addr_add] at hx
    subst hx
    have:=hi y (l+j) q rfl (by omega) hq
    simp only
    rw[show y.off+l*z+(j*z+q)=y.off+((l+j)*z+q) by rw[Nat.add_mul];omega]
    exact this) (by
   intro j e he;exact hz _ e (hget j e he).2) (by
   intro j e q x he hx;exact hr (l+j) e q x (hget j e he).2 hx)
 rwa [hlen] at this
theorem ok_cut {o:Oper} {t:TypeId} {d:TypeDesc} {x:Operand} {y:O} {lo hi mx:Option Operand} {lo' hi' mx':Option O} {sz:Nat} {v:V} (ho:o.op = .slice t x lo hi mx) (ht:P.underlying t=some d)
  (hd:d = .string∨∃ e,d = .slice e∧sizeT P e=some sz) (hk:d = .string↔∃ b,rd s.tm y = .str b)
  (e1:trO x y=true) (e2:trM lo lo'=true) (e3:trM hi hi'=true) (e4:trM mx mx'=true) (h:SR G B s a w) (hv:cutV sz s lo' hi' mx' (rd s.tm y)=some v):Ok P B o a w G s s v:=by
 have h0:=h.rd e1
 unfold cutV at hv
 split at hv
 ·rename_i b hx
  rw[hx] at h0
  obtain⟨st,hc,rfl⟩:=h0.str_inv
  have hds:=hk.2 ⟨_,hx⟩;subst hds
  cases hm:mx'.isNone with
  |false=>simp[hm] at hv
  |true=>
   simp only[hm,cond_true] at hv
   have hmx':mx'=none:=by simpa using hm
   subst hmx'
   have hmx:mx=none:=by cases mx<;>simp[trM] at e4;rfl
   subst hmx
   obtain⟨l,hl,hv⟩:=bind_some' hv
   obtain⟨hh,hhh,hv⟩:=bind_some' hv
   obtain⟨hb,rfl⟩:=bif_some hv
   simp only[Bool.and_eq_true] at hb
   have h1:=Nat.le_of_ble_eq_true hb.1
   have h2:=Nat.le_of_ble_eq_true hb.2
   have b1:=(onat_bnd h e2 hl).1
   have b2:=(onat_bnd h e3 hhh).1
   have hsz:st.data.toList.length=st.size:=rfl
   rw[hsz] at h2 b2
   refine .quiet h (cv:=.string (st.extract l hh)) ?_ (.pr _ _ (.str _ _ ?_))
   ·have hr:(Instr.sliceAt t (.string st) (lo.map a.eval) (hi.map a.eval) none).run P w = .ok (.string (st.extract l hh)) w:=by
     simp[Instr.sliceAt,run_underlying ht,Instr.slice,run_bounds2 b1 b2 h1 h2]
    simp[execOp,ho,hc,hr]
   ·rw[Lib.extract_data]
 ·rename_i tk z es hx
  rw[hx] at h0
  obtain⟨l,hl,hv1⟩:=bind_some' hv
  obtain⟨hh,hhh,hv2⟩:=bind_some' hv1
  clear hv hv1
  have hp:=h0.sl_inv
  obtain⟨ad,cap,f,hc,_,hcap,_⟩:=hp.sl_inv
  rw[hc] at hp
  obtain⟨hb,hv⟩:=bif_opt hv2
  clear hv2
  simp only[Bool.and_eq_true] at hb
  have hz:=Nat.eq_of_beq_eq_true hb.1;subst hz
  have h1:=Nat.le_of_ble_eq_true hb.2.1
  have h2:=Nat.le_of_ble_eq_true hb.2.2
  have hds:∃ e,d = .slice e∧sizeT P e=some z:=by
   rcases hd with rfl|hd
   ·obtain⟨b,hb⟩:=hk.1 rfl;rw[hx] at hb;cases hb
   ·exact hd
  obtain⟨el,rfl,hsz⟩:=hds
  obtain⟨b1,_⟩:=onat_bnd h e2 hl
  obtain⟨b2,i2⟩:=onat_bnd h e3 hhh
  split at hv
  ·simp only[Option.some.injEq] at hv
   subst hv
   have hmx:mx=none:=by cases mx<;>simp[trM] at e4;rfl
   subst hmx
   have hr:(Instr.sliceAt t (.slice ad es.length cap) (lo.map a.eval) (hi.map a.eval) none).run P w = .ok (.slice (if cap=l then ad else ad.map (·.add (l*z))) (hh-l) (cap-l)) w:=by
    simp[Instr.sliceAt,run_underlying ht,Instr.slice,run_bounds2 (isS:=true) (cap:=cap) b1 b2 h1 (by omega),run_sizeOf hsz]
   have hex:(execOp a.eval o).run P w = .ok (.value (.slice (if cap=l then ad else ad.map (·.add (l*z))) (hh-l) (cap-l))) w:=by simp[execOp,ho,hc,hr]
   cases hcnd:(Nat.beq hh es.length&&(tk == .ex||Nat.beq l 0)) with
   |false=>
    simp only[cond_false]
    exact .quiet h hex (.pr _ _ (hp.cut h1 h2 (by omega) (Nat.le_refl _) (.inl rfl)))
   |true=>
    simp only[cond_true]
    simp only[Bool.and_eq_true,Bool.or_eq_true,beq_iff_eq] at hcnd
    have hhe:=Nat.eq_of_beq_eq_true hcnd.1
    cases tk with
    |no=>exact .quiet h hex (.pr _ _ (hp.cut h1 h2 (by omega) (Nat.le_refl _) (.inl rfl)))
    |ex=>
     have hcl:cap=es.length:=by
      cases h0 with
      |pr _ _ h0=>
       rw[hc] at h0
       obtain⟨_,_,_,he,ht,_⟩:=h0.sl_inv
       cases he
       rcases ht with ht|⟨_,ht⟩
       ·cases ht
       ·exact ht
     exact .quiet h hex (.pr _ _ (hp.cut h1 h2 (by omega) (Nat.le_refl _) (.inr ⟨rfl,by omega⟩)))
    | «at» d' i' ver'=>
     have hl0:l=0:=by
      rcases hcnd.2 with h|h
      ·cases h
      ·exact Nat.eq_of_beq_eq_true h
     subst hl0
     have e1:(if cap=0 then ad else ad.map (·.add (0*z)))=ad:=by
      split
      ·rfl
      ·cases ad with
       |none=>rfl
       |some y=>simp[Addr.add]
     have e2:(es.drop 0).take (hh-0)=es:=by simp[hhe]
     rw[e1,hhe] at hex
     rw[e2]
     refine .quiet h hex ?_
     rw[hc] at h0
     simpa using h0
  ·rename_i m
   obtain⟨mm,hmm,hv3⟩:=bind_some' hv
   obtain⟨hb2,rfl⟩:=bif_some hv3
   simp only[Bool.and_eq_true] at hb2
   have h3:=Nat.le_of_ble_eq_true hb2.2.1
   have h4:=Nat.le_of_ble_eq_true hb2.2.2
   cases mx with
   |none=>simp[trM] at e4
   |some mo=>
    obtain⟨km,hkm⟩:=cv_int (h.rd (by simpa[trM] using e4)) hmm
    have hb2':∃ kh,hi.map a.eval=some (.int kh (hh:Int)):=by
     rcases b2 with⟨q,_⟩|q
     ·rw[hb2.1] at i2
      cases hi<;>simp at q i2
     ·exact q
    obtain⟨kh,hkh⟩:=hb2'
    have hr:(Instr.sliceAt t (.slice ad es.length cap) (lo.map a.eval) (some (.int kh hh)) (some (.int km mm))).run P w = .ok (.slice (if mm=l then ad else ad.map (·.add (l*z))) (hh-l) (mm-l)) w:=by
     simp[Instr.sliceAt,run_underlying ht,Instr.slice,run_bounds3 (isS:=true) (len:=es.length) (cap:=cap) (k:=kh) (j:=km) b1 h1 h3 (by omega),run_sizeOf hsz]
    refine .quiet h (cv:=.slice (if mm=l then ad else ad.map (·.add (l*z))) (hh-l) (mm-l)) (by simp[execOp,ho,hc,hkh,hkm,hr]) (.pr _ _ ?_)
    cases hq:Nat.beq hh mm with
    |false=>exact hp.cut h1 h2 h3 (by omega) (.inl rfl)
    |true=>exact hp.cut h1 h2 h3 (by omega) (.inr ⟨rfl,by have:=Nat.eq_of_beq_eq_true hq;omega⟩)
 ·rename_i d' i ver o' len hx
  rw[hx] at h0
  split at hv<;>first|cases hv;done|skip
  rename_i ver' z es hg
  obtain⟨hb,hv1⟩:=bif_opt hv
  clear hv
  simp only[Bool.and_eq_true] at hb
  have hmx':mx'=none:=by simpa using hb.1
  subst hmx'
  have hmx:mx=none:=by cases mx<;>simp[trM] at e4;rfl
  subst hmx
  have hz:=Nat.eq_of_beq_eq_true hb.2.1;subst hz
  have hvv:=Nat.eq_of_beq_eq_true hb.2.2;subst hvv
  obtain⟨l,hl,hv2⟩:=bind_some' hv1
  obtain⟨hh,hhh,hv3⟩:=bind_some' hv2
  obtain⟨hb2,rfl⟩:=bif_some hv3
  simp only[Bool.and_eq_true] at hb2
  have h1:=Nat.le_of_ble_eq_true hb2.1
  have h2:=Nat.le_of_ble_eq_true hb2.2
  obtain⟨ad,cp,loc,hc,hdl,hp,hver,hcp,ha,hsp,hloc,hn⟩:=h0.bs_inv
  have hds:∃ e,d = .slice e∧sizeT P e=some z:=by
   rcases hd with rfl|hd
   ·obtain⟨b,hb⟩:=hk.1 rfl;rw[hx] at hb;cases hb
   ·exact hd
  obtain⟨el,rfl,hsz⟩:=hds
  have b1:=(onat_bnd h e2 hl).1
  have b2:=(onat_bnd h e3 hhh).1
  have hr:(Instr.sliceAt t (.slice ad len cp) (lo.map a.eval) (hi.map a.eval) none).run P w = .ok (.slice (if cp=l then ad else ad.map (·.add (l*z))) (hh-l) (cp-l)) w:=by
   simp[Instr.sliceAt,run_underlying ht,Instr.slice,run_bounds2 (isS:=true) (cap:=cp) b1 b2 h1 (by omega),run_sizeOf hsz]
  refine .quiet h (cv:=.slice (if cp=l then ad else ad.map (·.add (l*z))) (hh-l) (cp-l)) (by simp[execOp,ho,hc,hr]) (.bs _ _ _ _ _ _ _ loc hdl hp hver (by omega) ?_ ?_ ?_ ?_)
  ·intro hq
   split at hq
   ·omega
   ·cases ad with
    |none=>have:=ha rfl;omega
    |some y=>simp at hq
  ·intro x hx' hcz
   split at hx'
   ·omega
   ·cases ad with
    |none=>simp at hx'
    |some y=>
     simp at hx'
     rw[addr_eta y (hsp y rfl (by omega)),addr_add] at hx'
     subst hx';rfl
  ·rintro c o0 sz' cap rfl
   rcases h.arr_loc hdl hp hg hver with⟨c',o0',cap',e⟩|⟨e,_⟩
   ·cases e
    by_cases hcl:cp=l
    ·left;omega
    ·right
     rcases hloc _ _ _ _ rfl with h0'|⟨h0',h0''⟩
     ·omega
     ·rw[if_neg hcl,h0']
      refine⟨?_,by omega⟩
      simp only[Option.map_some,addr_add]
      congr 2
      rw[Nat.add_mul];omega
   ·cases e
  ·intro e;have:=hn e;omega
 ·cases hv
end ops
end Go.Vm
/-
  The machine V and Go's operations, one by one: lists that grow.
-/
namespace Go.Vm
open Go Go.RowKit
theorem growBy_le (newLen:Nat):∀ (r c:Nat),c≤newLen+newLen / 4+192→Builtin.growBy newLen r c≤newLen+newLen / 4+192
 |0,c,h=>h
 |r+1,c,h=>by
  unfold Builtin.growBy
  split
  ·exact h
  ·exact growBy_le newLen r _ (by omega)
theorem nextcap_le (need cap:Nat) (h:cap<need):Builtin.nextslicecap need cap≤2*need+192:=by
 unfold Builtin.nextslicecap
 split
 ·omega
 ·split
  ·omega
  ·have:=growBy_le need 4 cap (by omega)
   omega
section
variable {P:Program} {KW:World→Prop} {B:Bd KW} {G:Gh} {s:St} {a:Act} {w:World}
theorem els_run {sz:Nat} {v:V} {cv:Value} {ys:List V} (h:SR G B s a w) (hv:VR G.im G.ph s.sg.length v cv) (e:els sz s v=some ys) :
  (Builtin.lenOf cv).run P w = .ok ys.length w∧(∀ (j:Nat) (e:V),ys[j]? = some e→(cellsOf e).length=sz) ∧
  ∃ N:Array Value,N.size=ys.length*sz∧(Builtin.firstCells sz ys.length cv).run P w = .ok N w ∧
   ∀ (j:Nat) (e:V) (q:Nat) (x:V),ys[j]? = some e→(cellsOf e)[q]? = some x→∃ y,N[j*sz+q]? = some y∧PR G.im x y:=by
 have jq:∀ {n j q:Nat},j<n→q<sz→j*sz+q<n*sz:=fun {n j q} h1 h2=>by
  have:(j+1)*sz≤n*sz:=Nat.mul_le_mul_right _ h1
  rw[Nat.succ_mul] at this;omega
 unfold els at e
 split at e
 ·rename_i t z es
  obtain⟨hz,rfl⟩:=bif_some e
  have:=Nat.eq_of_beq_eq_true hz;subst this
  obtain⟨ad,cap,f,rfl,_,hcap,ha,hsp,hi,hzz,hr⟩:=hv.sl_inv.sl_inv
  refine⟨by simp[Builtin.lenOf],hzz,?_⟩
  cases ad with
  |none=>
   have h0:es = []:=List.eq_nil_of_length_eq_zero (by have:=ha rfl;omega)
   subst h0
   exact⟨#[],by simp,by simp[Builtin.firstCells],fun j e q x he=>by simp at he⟩
  |some ad=>
   refine⟨((List.range (es.length*z)).map fun k=>f (k / z) (k % z)).toArray,?_,(show(Builtin.firstCells z es.length (.slice (some ad) es.length cap)).run P w=_ from run_loadCells (P:=P) w ad (es.length*z) (fun k=>f (k / z) (k % z)) (fun k hk=>?_)),?_⟩
   ·simp
   ·have hz0:0<z:=by
     rcases Nat.eq_zero_or_pos z with h|h
     ·subst h;simp at hk
     ·exact h
    have h1:k / z<es.length:=(Nat.div_lt_iff_lt_mul hz0).2 hk
    rw[addr_eta ad (hsp _ rfl (by have h2:=Nat.lt_of_le_of_lt (Nat.zero_le _) h1;omega)),addr_add]
    have:=h.wr.im _ _ _ (hi ad (k / z) (k % z) rfl h1 (Nat.mod_lt _ hz0))
    rwa [Nat.mul_comm,Nat.div_add_mod] at this
   ·intro j e q x he hx
    have hj:=(List.getElem?_eq_some_iff.1 he).1
    have hq:q<z:=by rw[← hzz j e he];exact(List.getElem?_eq_some_iff.1 hx).1
    refine⟨f j q,?_,hr j e q x he hx⟩
    have:=jq hj hq
    simp[this]
    rw[Nat.add_comm,Nat.add_mul_div_right _ _ (by omega),Nat.div_eq_of_lt hq,Nat.zero_add,Nat.mod_eq_of_lt hq]
 ·rename_i d i ver o len
  obtain⟨ad,cp,loc,rfl,hd,hp,hvv,hcp,ha,hsp,hloc,hn⟩:=hv.bs_inv
  split at e<;>first|cases e;done|skip
  rename_i ver' z es hg
  obtain⟨hb,rfl⟩:=bif_some e
  simp only[Bool.and_eq_true] at hb
  have h1:=Nat.eq_of_beq_eq_true hb.1
  have h2:=Nat.eq_of_beq_eq_true hb.2.1
  have h3:=Nat.le_of_ble_eq_true hb.2.2
  subst h1;subst h2
  have hlen:((es.drop o).take len).length=len:=by simp;omega
  have hget:∀ (j:Nat) (e:V),((es.drop o).take len)[j]? = some e→j<len∧es[o+j]? = some e:=by
   intro j e he
   rw[List.getElem?_take] at he
   split at he
   ·rename_i hj;rw[List.getElem?_drop] at he;exact⟨hj,he⟩
   ·cases he
  rw[hlen]
  rcases h.arr_loc hd hp hg hvv with⟨c,o0,cap,rfl⟩|⟨rfl,rfl⟩
  ·obtain⟨_,hcap,hown,h5⟩:=h.arr hd hp hg
   refine⟨by simp[Builtin.lenOf],fun j e he=>(h5 _ e (hget j e he).2).1,?_⟩
   rcases hloc _ _ _ _ rfl with h0|⟨h0,h0'⟩
   ·have:len=0:=by omega
    subst this
    refine⟨#[],by simp,?_,fun j e q x he=>by simp at he⟩
    cases ad<;>simp[Builtin.firstCells,loadCells,loadCellsFrom]
   ·subst h0
    have hex:∀ k,k<len*z→∃ cv,w.cell? ⟨c,o0+o*z+k,none⟩=some cv:=fun k hk=>by
     have:o*z+k<cap*z:=by
      have:(o+len)*z≤cap*z:=Nat.mul_le_mul_right _ (by omega)
      rw[Nat.add_mul] at this;omega
     have:=(hown _ this).2.2
     rwa [← Nat.add_assoc] at this
    refine⟨((List.range (len*z)).map fun k=>(w.cell? ⟨c,o0+o*z+k,none⟩).getD undef).toArray,?_,(show(Builtin.firstCells z len (.slice (some ⟨c,o0+o*z,none⟩) len cp)).run P w=_ from run_loadCells (P:=P) w _ (len*z) (fun k=>(w.cell? ⟨c,o0+o*z+k,none⟩).getD undef) (fun k hk=>?_)),?_⟩
    ·simp
    ·obtain⟨cv,hcv⟩:=hex k hk
     rw[addr_add,hcv];rfl
    ·intro j e q x he hx
     obtain⟨hj,he'⟩:=hget j e he
     obtain⟨g1,g2⟩:=h5 _ e he'
     have hq:q<z:=by rw[← g1];exact(List.getElem?_eq_some_iff.1 hx).1
     obtain⟨cv,g3,g4⟩:=g2 q x hx
     refine⟨cv,?_,g4⟩
     have:=jq hj hq
     have e1:o0+o*z+(j*z+q)=o0+((o+j)*z+q):=by rw[Nat.add_mul];omega
     simp[this,e1,g3]
  ·have h0:len=0:=by simp at h3;omega
   subst h0
   refine⟨by simp[Builtin.lenOf],fun j e he=>by simp at he,#[],by simp,?_,fun j e q x he=>by simp at he⟩
   cases ad<;>simp[Builtin.firstCells,loadCells,loadCellsFrom]
 ·rename_i b
  obtain⟨st,rfl,rfl⟩:=hv.str_inv
  obtain⟨hz,rfl⟩:=bif_some e
  have:=Nat.eq_of_beq_eq_true hz;subst this
  have hsz:st.data.toList.length=st.size:=rfl
  refine⟨by simp[Builtin.lenOf,hsz],fun j e he=>?_,(st.extract 0 st.size).data.map fun b=>.int .u8 b.toNat,?_,by simp[Builtin.firstCells,hsz],fun j e q x he hx=>?_⟩
  ·obtain⟨u,_,rfl⟩:=map_get he;rfl
  ·have:=congrArg List.length (Lib.extract_data st 0 st.size)
   simp[hsz] at this ⊢
  ·obtain⟨u,hu,rfl⟩:=map_get he
   cases q with
   |succ q=>simp[cellsOf] at hx
   |zero=>
    simp[cellsOf] at hx;subst hx
    have hj:j<st.size:=by rw[← hsz];exact(List.getElem?_eq_some_iff.1 hu).1
    refine⟨.int .u8 u.toNat,?_,.int _ _⟩
    have hu':st.data[j]? = some u:=by simpa using hu
    simp[hu']
 ·cases e
end
end Go.Vm
/-
  The machine V and Go's operations, one by one: append.
-/
namespace Go.Vm
open Go Go.RowKit
section
variable {P:Program} {w:World}
theorem run_append_room {t tx e ty:TypeId} {dx:TypeDesc} {sz len cap k:Nat} {base:Option Addr} {x:Value} {N:Array Value} {ats:Array TypeId} (ha0:ats[0]? = some t) (ha1:ats[1]? = some tx)
  (ht:P.underlying t=some (.slice e)) (hx:P.underlying tx=some dx) (hdx:∀ j,dx≠.int j) (hsz:sizeT P e=some sz)
  (hk:(Builtin.lenOf x).run P w = .ok k w) (hN:(Builtin.firstCells sz k x).run P w = .ok N w) (hle:len+k≤cap) :
  (Builtin.append_ ats ty #[.slice base len cap,x]).run P w=(match base with
   |none=>.ok (.slice none (len+k) cap) w
   |some ad=>((storeCells (ad.add (len*sz)) N.toList).run P w).andThen fun _ w'=>.ok (.slice (some ad) (len+k) cap) w'):=by
 unfold Builtin.append_
 simp only[ha0,ha1,List.getElem?_toArray,List.getElem?_cons_zero,List.getElem?_cons_succ,Sem.run_bind,run_underlying ht,run_underlying hx,Result.andThen_ok,run_sizeOf hsz,Sem.run_pure,Bool.false_eq_true,if_false,hk,
  if_pos hle,Bool.not_false,if_true,hN]
 cases base<;>simp
theorem run_append_grow {t tx e ty:TypeId} {dx:TypeDesc} {ei:TypeInfo} {zv:Value} {len cap k:Nat} {base:Option Addr} {x:Value} {M N:Array Value} {ats:Array TypeId} (ha0:ats[0]? = some t) (ha1:ats[1]? = some tx)
  (ht:P.underlying t=some (.slice e)) (hx:P.underlying tx=some dx) (hdx:∀ j,dx≠.int j) (hi:P.info? e=some ei) (hz:ei.zero=some zv) (hzs:zv.cells.size=ei.size) (hby:ei.bytes≤65536) (hby0:ei.bytes≠0)
  (hk:(Builtin.lenOf x).run P w = .ok k w) (hM':(Builtin.firstCells ei.size len (.slice base len cap)).run P w.drew = .ok M w.drew) (hN:(Builtin.firstCells ei.size k x).run P w.drew = .ok N w.drew) (hlt:cap<len+k) (hlim:len+k≤lim) :
  ∃ newCap rest,len+k≤newCap∧rest.size=(newCap-(len+k))*ei.size ∧
   (Builtin.append_ ats ty #[.slice base len cap,x]).run P w = .ok (.slice (some ⟨w.heap.size,0,none⟩) (len+k) newCap) (w.drew.alloc (.cells (M++N++rest) e)):=by
 have hsz:sizeT P e=some ei.size:=by simp[sizeT,hi]
 have hgr:¬ Builtin.nextslicecap (len+k) cap*ei.bytes>2 ^ 48:=by
  have h1:=nextcap_le (len+k) cap hlt
  have h2:Builtin.nextslicecap (len+k) cap*ei.bytes≤(2*(len+k)+192)*65536:=Nat.mul_le_mul h1 hby
  unfold lim at hlim
  have h3:(2*(len+k)+192)*65536≤(2*1073741824+192)*65536:=Nat.mul_le_mul_right _ (by omega)
  have h4:(2*1073741824+192)*65536≤2 ^ 48:=by decide
  omega
 let newCap:=(Question.appendCap (len+k) cap e).cut (w.tape w.drawn (Question.appendCap (len+k) cap e))
 refine⟨newCap,Builtin.zeroCells zv.cells (newCap-(len+k)),?_,?_,?_⟩
 ·show _≤_+_
  omega
 ·simp[Builtin.zeroCells,hzs]
 ·unfold Builtin.append_
  simp only[ha0,ha1,List.getElem?_toArray,List.getElem?_cons_zero,List.getElem?_cons_succ,Sem.run_bind,run_underlying ht,run_underlying hx,Result.andThen_ok,run_sizeOf hsz,Sem.run_pure,Bool.false_eq_true,if_false,hk,
   if_neg (show ¬ (len+k≤cap) by omega),Sem.run_ite,run_typeInfo hi,hby0,or_false,if_neg hgr,run_choose,Question.forced,run_askRoom,World.drew_eq,hM',Bool.not_false,if_true,hN,zeroValue,hz]
  simp[newRow,newCap]
  rfl
end
end Go.Vm
/-
  The machine V and Go's operations, one by one: append, its room.
-/
namespace Go.Vm
open Go Go.RowKit
def Gh.grown (G:Gh) (l i c need n:Nat) (A:Array Value) (loc:Loc):Gh where
 im:=fun c' k=>if c'=c then(if k<need then A[k]? else none) else G.im c' k
 ow:=fun c' k=>if c'=c then(if need≤k∧k<n then some (l,i) else none) else G.ow c' k
 ph:=fun l' i'=>if l'=l∧i'=i then some loc else G.ph l' i'
theorem Gh.grown_same (G:Gh) (l i c need n A loc):(G.grown l i c need n A loc).ph l i=some loc:=by simp[Gh.grown]
theorem Gh.grown_ne (G:Gh) {l i l' i' c need n A loc} (h:(l',i')≠(l,i)):(G.grown l i c need n A loc).ph l' i'=G.ph l' i':=by
 simp only[Gh.grown]
 rw[if_neg (fun e=>h (by rw[e.1,e.2]))]
section
variable {P:Program} {KW:World→Prop} {B:Bd KW} {G:Gh} {fr:Fr} {sg:List Fr} {w:World}
theorem Mv.grown (h:WR G B fr sg w) (l i need n:Nat) (A:Array Value) (loc:Loc) (t:TypeId) (_hn:n≤A.size):Mv G (G.grown l i w.heap.size need n A loc) B w (w.alloc (.cells A t)) l i:=by
 have fr:=h.fresh w.heap.size (Nat.le_refl _)
 refine⟨by simp,fun c k x hx=>?_,fun c k x hx=>?_,fun c k o' ho=>?_,fun c k l' i' hne ho=>?_,fun l' i' hne=>Gh.grown_ne G hne,(Below.refl _ _).alloc h.hB _⟩
 ·simp only[Gh.grown]
  rw[if_neg (fun e=>by rw[e,fr.1] at hx;cases hx)];exact hx
 ·simp only[Gh.grown] at hx ⊢
  split at hx
  ·rename_i e;subst e
   split at hx
   ·rename_i hk
    rw[if_pos rfl,if_neg (by omega)]
    exact⟨by rw[cell_new];exact hx,rfl⟩
   ·cases hx
  ·rename_i e
   have hc:=World.block_lt_of_cell? w _ (h.im c k x hx)
   simp at hc
   refine⟨by rw[World.cell?_alloc_lt _ _ _ hc];exact h.im c k x hx,?_⟩
   rw[if_neg e]
   exact h.io c k x hx
 ·simp only[Gh.grown] at ho
  split at ho
  ·rename_i e;subst e;exact⟨h.hB,by simp⟩
  ·exact⟨(h.ob c k o' ho).1,by have:=(h.ob c k o' ho).2;simp;omega⟩
 ·have hc:=(h.ob c k _ ho).2
  refine⟨?_,World.cell?_alloc_lt _ _ _ hc,Fz.alloc _ _ _ hc⟩
  simp only[Gh.grown]
  rw[if_neg (by omega)];exact ho
def Ec (im:Nat→Nat→Option Value) (z:Nat) (es:List V) (M:Array Value):Prop:=
 M.size=es.length*z∧(∀ (j:Nat) (e:V),es[j]? = some e→(cellsOf e).length=z) ∧
 ∀ (j:Nat) (e:V) (q:Nat) (x:V),es[j]? = some e→(cellsOf e)[q]? = some x→∃ y,M[j*z+q]? = some y∧PR im x y
theorem Ec.mono {im im' z es M} (hm:ImLe im im') (h:Ec im z es M):Ec im' z es M:=
 ⟨h.1,h.2.1,fun j e q x he hx=>let ⟨y,h1,h2⟩:=h.2.2 j e q x he hx;⟨y,h1,h2.mono hm⟩⟩
theorem Ec.append {im z es ys} {M N:Array Value} (h:Ec im z es M) (k:Ec im z ys N):Ec im z (es++ys) (M++N):=by
 refine⟨by simp[h.1,k.1,Nat.add_mul],fun j e he=>?_,fun j e q x he hx=>?_⟩
 ·rcases Nat.lt_or_ge j es.length with hj|hj
  ·rw[List.getElem?_append_left hj] at he;exact h.2.1 j e he
  ·rw[List.getElem?_append_right hj] at he;exact k.2.1 _ e he
 ·rcases Nat.lt_or_ge j es.length with hj|hj
  ·rw[List.getElem?_append_left hj] at he
   obtain⟨y,h1,h2⟩:=h.2.2 j e q x he hx
   exact⟨y,by rw[Array.getElem?_append_left (Array.getElem?_eq_some_iff.1 h1).1];exact h1,h2⟩
  ·rw[List.getElem?_append_right hj] at he
   obtain⟨y,h1,h2⟩:=k.2.2 _ e q x he hx
   have e1:j*z+q-M.size=(j-es.length)*z+q:=by
    have:es.length*z≤j*z:=Nat.mul_le_mul_right _ hj
    rw[h.1,Nat.sub_mul];omega
   have hge:M.size≤j*z+q:=by
    have:es.length*z≤j*z:=Nat.mul_le_mul_right _ hj
    rw[h.1];omega
   exact⟨y,by rw[Array.getElem?_append_right hge,e1];exact h1,h2⟩
theorem Ec.lt {im z es M} (h:Ec im z es M) {j q:Nat} (hj:j<es.length) (hq:q<z):j*z+q<M.size:=by
 have:(j+1)*z≤es.length*z:=Nat.mul_le_mul_right _ hj
 rw[Nat.succ_mul] at this;rw[h.1];omega
theorem Ec.sl {im z es M} (h:Ec im z es M) (c o cap:Nat) (hc:es.length≤cap) (hi:∀ k,k<M.size→im c (o+k)=M[k]?):PR im (.sl .no z es) (.slice (some ⟨c,o,none⟩) es.length cap):=
 .sl .no z es _ cap (fun j q=>(M[j*z+q]?).getD undef) (.inl rfl) hc (fun e=>by cases e) (fun x e _=>by cases e;rfl)
  (fun x j q e hj hq=>by
   cases e
   have hlt:=h.lt hj hq
   simp only
   rw[hi _ hlt,Array.getElem?_eq_getElem hlt];rfl)
  h.2.1 (fun j e q x he hx=>by obtain⟨y,h1,h2⟩:=h.2.2 j e q x he hx;rw[h1];exact h2)
theorem PR.Ec {im z es c k0 n cap} (h:PR im (.sl .no z es) (.slice (some ⟨c,k0,none⟩) n cap)) (hz0:0<z):∃ M:Array Value,Vm.Ec im z es M∧∀ k,k<M.size→im c (k0+k)=M[k]?:=by
 obtain⟨ad,cap,f,hcv,_,hcap,ha,hsp,hi,hzz,hr⟩:=h.sl_inv
 cases hcv
 refine⟨((List.range (es.length*z)).map fun k=>f (k / z) (k % z)).toArray,⟨by simp,hzz,fun j e q x he hx=>?_⟩,fun k hk=>?_⟩
 ·have hj:=(List.getElem?_eq_some_iff.1 he).1
  have hq:q<z:=by rw[← hzz j e he];exact(List.getElem?_eq_some_iff.1 hx).1
  refine⟨f j q,?_,hr j e q x he hx⟩
  have:j*z+q<es.length*z:=by
   have:(j+1)*z≤es.length*z:=Nat.mul_le_mul_right _ hj
   rw[Nat.succ_mul] at this;omega
  simp[this]
  rw[Nat.add_comm,Nat.add_mul_div_right _ _ (by omega),Nat.div_eq_of_lt hq,Nat.zero_add,Nat.mod_eq_of_lt hq]
 ·simp at hk
  have h1:k / z<es.length:=(Nat.div_lt_iff_lt_mul hz0).2 hk
  have:=hi _ (k / z) (k % z) rfl h1 (Nat.mod_lt _ hz0)
  rw[Nat.mul_comm,Nat.div_add_mod] at this
  simp only at this
  rw[this];simp[hk]
def Gh.fill (G:Gh) (l i c lo:Nat) (N:Array Value) (loc:Loc):Gh where
 im:=fun c' k=>if c'=c∧lo≤k∧k<lo+N.size then N[k-lo]? else G.im c' k
 ow:=fun c' k=>if c'=c∧lo≤k∧k<lo+N.size then none else G.ow c' k
 ph:=fun l' i'=>if l'=l∧i'=i then some loc else G.ph l' i'
theorem Gh.fill_same (G:Gh) (l i c lo N loc):(G.fill l i c lo N loc).ph l i=some loc:=by simp[Gh.fill]
theorem Mv.fill {w':World} (h:WR G B fr sg w) {l i c lo:Nat} {N:Array Value} (loc:Loc) (hwr:Wrote c lo N.toList w w') (hB:B≤c) (ho:∀ k,lo≤k→k<lo+N.size→G.ow c k=some (l,i)) :
  Mv G (G.fill l i c lo N loc) B w w' l i:=by
 have hold:∀ c' k,¬ (c'=c∧lo≤k∧k<lo+N.size)→w'.cell? ⟨c',k,none⟩=w.cell? ⟨c',k,none⟩:=fun c' k hn=>hwr.old c' k (by simp only[Array.length_toList];omega)
 refine⟨by rw[hwr.size];exact Nat.le_refl _,fun c' k x hx=>?_,fun c' k x hx=>?_,fun c' k o hx=>?_,fun c' k l' i' hne hx=>?_,fun l' i' hne=>?_,hwr.be _ hB⟩
 ·simp only[Gh.fill]
  rw[if_neg (fun e=>?_)]
  ·exact hx
  ·obtain⟨rfl,h1,h2⟩:=e
   have:=h.io _ _ _ hx
   rw[ho k h1 h2] at this;cases this
 ·simp only[Gh.fill] at hx ⊢
  split at hx
  ·rename_i e
   rw[if_pos e]
   obtain⟨rfl,h1,h2⟩:=e
   have:=hwr.new (k-lo) x (by simpa using hx)
   rw[show lo+(k-lo)=k by omega] at this
   exact⟨this,rfl⟩
  ·rename_i e
   rw[if_neg e,hold _ _ e]
   exact⟨h.im _ _ _ hx,h.io _ _ _ hx⟩
 ·simp only[Gh.fill] at hx
  split at hx
  ·cases hx
  ·rw[hwr.size];exact h.ob _ _ _ hx
 ·have e:¬ (c'=c∧lo≤k∧k<lo+N.size):=fun⟨e1,e2,e3⟩=>by
   subst e1;rw[ho k e2 e3] at hx;exact hne (Option.some.inj hx).symm
  simp only[Gh.fill]
  rw[if_neg e]
  exact⟨hx,hold _ _ e,hwr.frz _,hwr.mp _⟩
 ·simp only[Gh.fill]
  rw[if_neg (fun e=>hne (by rw[e.1,e.2]))]
end
section
variable {P:Program} {KW:World→Prop} {B:Bd KW} {G:Gh} {s:St} {a:Act} {w:World}
theorem SR.drew (h:SR G B s a w):SR G B s a w.drew:=⟨h.wr.drew,h.tr⟩
theorem els_Ec {sz:Nat} {v:V} {cv:Value} {ys:List V} (h:SR G B s a w) (hv:VR G.im G.ph s.sg.length v cv) (e:els sz s v=some ys) :
  ∃ N:Array Value,Ec G.im sz ys N∧(Builtin.firstCells sz ys.length cv).run P w = .ok N w:=by
 obtain⟨_,h2,N,h3,h4,h5⟩:=els_run (P:=P) h hv e
 exact⟨N,⟨h3,h2,h5⟩,h4⟩
theorem SR.tok (h:SR G B s a w) {d i ver z:Nat} {es:List V} {cv:Value} (hv:VR G.im G.ph s.sg.length (.sl (.at d i ver) z es) cv) (hg:s.get d i=some (.tok ver)) :
  ∃ ad cap,cv = .slice ad es.length cap∧d≤s.sg.length∧G.ph (s.sg.length-d) i=some (.tok ver z cv)∧PR G.im (.sl .no z es) cv∧es.length≤cap∧(ad=none→cap=0)∧(∀ x:Addr,ad=some x→cap≠0→x.spot=none) ∧
   ∀ x,ad=some x→∀ k,es.length*z≤k→k<cap*z→Own G w (s.sg.length-d) i x.block (x.off+k):=by
 cases hv with
 |pr _ _ h=>cases h with|sl _ _ _ _ _ _ ht=>rcases ht with ht|⟨ht,_⟩<;>cases ht
 |slat _ _ _ _ _ loc _ hd hp hver hs hh=>
  obtain⟨ad,cap,f,hc,_,hcap,ha,hsp,_⟩:=hs.sl_inv
  have hbr:=h.wr.bl d i _ _ hd hg hp
  cases loc with
  |tok v sz cur=>
   obtain⟨h1,a',len,cap',h2,h3,h4⟩:=hbr
   subst h1
   obtain⟨h5,h6⟩:=hh _ _ rfl
   subst h6
   rw[h5] at hc
   rw[hc] at h2
   cases h2
   subst hc
   rw[h5]
   exact⟨ad,cap,rfl,hd,hp,by rw[h5] at hs;exact hs,hcap,ha,hsp,h4⟩
  |rsv z=>exact absurd (BR_rsv hbr).2 (by rw[← (BR_rsv hbr).1];exact Bool.noConfusion)
  |_=>exact hbr.elim
theorem ok_app {o:Oper} {c:Go.Call} {t tx e:TypeId} {dx:TypeDesc} {ei:TypeInfo} {zv:Value} {x x2:Operand} {y y2:O} {sz:Nat} {v:V} {s':St} (ho:o.op = .call c) (hc:c.callee = .builtin .append) (hargs:c.args = #[x,x2])
  (ha0:c.argTypes[0]? = some t) (ha1:c.argTypes[1]? = some tx) (ht:P.underlying t=some (.slice e)) (hx:P.underlying tx=some dx) (hdx:∀ j,dx≠.int j) (hi:P.info? e=some ei) (hz:ei.zero=some zv) (hzs:zv.cells.size=ei.size)
  (hsz:ei.size=sz) (hsz0:0<sz) (hby:ei.bytes≤65536) (hby0:ei.bytes≠0)
  (e1:trO x y=true) (e2:trO x2 y2=true) (h:SR G B s a w) (hv:((els sz s (rd s.tm y2)).bind fun l=>appV sz s (rd s.tm y) l)=some (v,s')):Ok P B o a w G s s' v:=by
 obtain⟨ys,hys,hv⟩:=bind_some' hv
 have h1:=h.rd e1
 have h2:=h.rd e2
 obtain⟨hk,_⟩:=els_run (P:=P) h h2 hys
 obtain⟨N,hN,hNr⟩:=els_Ec (P:=P) h h2 hys
 obtain⟨N',hN',hNr'⟩:=els_Ec (P:=P) h.drew h2 hys
 subst hsz
 have hsT:sizeT P e=some ei.size:=by simp[sizeT,hi]
 have hex:∀ r w',(Builtin.append_ c.argTypes o.type #[a.eval x,a.eval x2]).run P w = .ok r w'→(execOp a.eval o).run P w = .ok (.value r) w':=fun r w' hr=>by
  simp[execOp,ho,resolve,hc,hargs,invoke,builtin,hr]
 unfold appV at hv
 split at hv
 case h_2=>cases hv
 rename_i tk z es hxs
 rw[hxs] at h1
 obtain⟨hb,hv⟩:=bif_opt hv
 simp only[Bool.and_eq_true] at hb
 have hzz:=Nat.eq_of_beq_eq_true hb.1
 have hlim:=Nat.le_of_ble_eq_true hb.2
 subst hzz
 obtain⟨ad,cap,f,hcv,_,hcap,ha,hsp,_⟩:=h1.sl_inv.sl_inv
 have hels:els ei.size s (.sl tk ei.size es)=some es:=by simp[els]
 obtain⟨M,hM,hMr⟩:=els_Ec (P:=P) h.drew h1 hels
 rw[hcv] at hMr
 split at hv
 ·
  cases hv
  have hr:=run_append_room (P:=P) (w:=w) (ty:=o.type) ha0 ha1 ht hx hdx hsT hk hNr (len:=es.length) (base:=ad) (by simpa using hcap)
  have hN0:N = #[]:=Array.eq_empty_of_size_eq_zero (by rw[hN.1];simp)
  refine .quiet h (cv:=.slice ad es.length cap) (hex _ _ ?_) (by rw[hxs,← hcv];exact h1)
  rw[hcv,hr]
  cases ad with
  |none=>simp
  |some ad=>simp[hN0,storeCells]
 ·rename_i hne
  have hys0:0<ys.length:=by
   cases ys with
   |nil=>exact absurd rfl hne
   |cons _ _=>simp
  have hgrow:cap<es.length+ys.length→∃ newCap A,es.length+ys.length≤newCap∧A.size=newCap*ei.size∧Ec G.im ei.size (es++ys) (M++N')∧(∀ k,k<(es.length+ys.length)*ei.size→A[k]? = (M++N')[k]?) ∧
    (execOp a.eval o).run P w = .ok (.value (.slice (some ⟨w.heap.size,0,none⟩) (es.length+ys.length) newCap)) (w.drew.alloc (.cells A e)):=by
   intro hlt
   obtain⟨newCap,rest,g1,g2,g3⟩:=run_append_grow (P:=P) (w:=w) (ty:=o.type) (base:=ad) ha0 ha1 ht hx hdx hi hz hzs hby hby0 hk hMr hNr' hlt hlim
   have hEc:=hM.append hN'
   refine⟨newCap,M++N'++rest,g1,?_,hEc,fun k hk=>?_,hex _ _ (by rw[hcv];exact g3)⟩
   ·rw[Array.size_append,hEc.1,g2]
    have:newCap*ei.size=(es.length+ys.length)*ei.size+(newCap-(es.length+ys.length))*ei.size:=by rw[← Nat.add_mul];congr 1;omega
    simp only[List.length_append]
    rw[this]
   ·rw[Array.getElem?_append_left (by rw[hEc.1];simpa using hk)]
  have hgr:∀ (newCap:Nat) (A:Array Value) (l i:Nat) (loc:Loc),es.length+ys.length≤newCap→A.size=newCap*ei.size→Ec G.im ei.size (es++ys) (M++N')→(∀ k,k<(es.length+ys.length)*ei.size→A[k]? = (M++N')[k]?) →
    Mv G (G.grown l i w.heap.size ((es.length+ys.length)*ei.size) (newCap*ei.size) A loc) B w (w.drew.alloc (.cells A e)) l i ∧
    PR (G.grown l i w.heap.size ((es.length+ys.length)*ei.size) (newCap*ei.size) A loc).im (.sl .no ei.size (es++ys)) (.slice (some ⟨w.heap.size,0,none⟩) (es.length+ys.length) newCap) ∧
    ∀ k,(es.length+ys.length)*ei.size≤k→k<newCap*ei.size→Own (G.grown l i w.heap.size ((es.length+ys.length)*ei.size) (newCap*ei.size) A loc) (w.drew.alloc (.cells A e)) l i w.heap.size (0+k):=by
   intro newCap A l i loc g1 g2 g3 g4
   have hm:=Mv.grown h.drew.wr l i ((es.length+ys.length)*ei.size) (newCap*ei.size) A loc e (by rw[g2];exact Nat.le_refl _)
   have hm':Mv G (G.grown l i w.heap.size ((es.length+ys.length)*ei.size) (newCap*ei.size) A loc) B w (w.drew.alloc (.cells A e)) l i:=
    ⟨hm.sz,hm.im,hm.io,hm.ob,hm.ow,hm.ph,(Below.refl _ _).drew.trans hm.be⟩
   refine⟨hm',?_,fun k hk1 hk2=>⟨?_,?_,?_⟩⟩
   ·have hsl:=(g3.mono hm'.im).sl w.heap.size 0 newCap (by simpa using g1) (fun k hk=>by
     have hk':k<(es.length+ys.length)*ei.size:=by rw[g3.1] at hk;simpa using hk
     simp only[Gh.grown,if_true,Nat.zero_add,hk']
     exact g4 k hk')
    simpa using hsl
   ·simp only[Gh.grown,if_true,Nat.zero_add]
    rw[if_pos ⟨hk1,hk2⟩]
   ·exact World.frozen?_alloc_new w.drew _ _ _
   ·have hkA:k<A.size:=by rw[g2];exact hk2
    refine⟨A[k],?_⟩
    have:=cell_new (w:=w.drew) A e (0,0) k
    rw[Nat.zero_add]
    exact this.trans (Array.getElem?_eq_getElem hkA)
  have hbe:∀ (A:Array Value),Below B w (w.drew.alloc (.cells A e)):=fun A=>by
   have h0:Below B w w.drew:=(Below.refl B w).drew
   exact h0.trans ((Below.refl B w.drew).alloc h.wr.hB _)
  cases tk with
  |no=>cases hv
  |ex=>
   cases hv
   have hfull:cap=es.length:=by
    cases h1 with
    |pr _ _ h1=>
     rw[hcv] at h1
     obtain⟨_,_,_,he,ht,_⟩:=h1.sl_inv
     cases he
     rcases ht with ht|⟨_,ht⟩
     ·cases ht
     ·exact ht
   obtain⟨newCap,A,g1,g2,g3,g4,g5⟩:=hgrow (by omega)
   obtain⟨m,hpr,hown⟩:=hgr newCap A s.sg.length s.fr.length (.tok (es.length+ys.length) ei.size (.slice (some ⟨w.heap.size,0,none⟩) (es.length+ys.length) newCap)) g1 g2 g3 g4
   obtain⟨hw,up⟩:=h.wr.new (.tok (es.length+ys.length)) _ m (Gh.grown_same ..) ⟨rfl,_,_,_,rfl,(fun e=>by cases e),fun x hx k hk1 hk2=>by cases hx;exact hown k hk1 hk2⟩
   refine⟨_,_,_,.inl g5,hw,m.im,up _,?_,rfl,rfl,hbe A⟩
   exact .slat 0 _ _ ei.size _ _ _ (Nat.zero_le _) (Gh.grown_same ..) (fun v hv=>by simp[Loc.cur] at hv;omega) hpr (fun sz cur e=>by cases e;exact⟨rfl,rfl⟩)
  | «at» d i ver=>
   simp only at hv
   split at hv<;>first|cases hv;done|skip
   rename_i ver' hg
   obtain⟨hb2,hv2⟩:=bif_some hv
   simp only[Bool.and_eq_true,List.all_eq_true] at hb2
   have hvv:=Nat.eq_of_beq_eq_true hb2.1
   subst hvv
   cases hv2
   obtain⟨ad',cap',hcv',hd,hp,hs,_,_,_,hown⟩:=h.tok h1 hg
   rw[hcv] at hcv'
   cases hcv'
   by_cases hroom:es.length+ys.length≤cap
   ·have hr:=run_append_room (P:=P) (w:=w) (ty:=o.type) (base:=ad) ha0 ha1 ht hx hdx hsT hk hNr hroom
    cases ad with
    |none=>have:=ha rfl;omega
    |some p=>
     have hp0:=hsp p rfl (by cases hne:ys with|nil=>simp_all|cons=>simp_all;omega)
     obtain⟨c0,k0,sp⟩:=p
     simp only at hp0
     subst hp0
     have hmz:es.length*ei.size+ys.length*ei.size≤cap*ei.size:=by rw[← Nat.add_mul];exact Nat.mul_le_mul_right _ hroom
     have hownN:∀ k,k<N.size→Own G w (s.sg.length-d) i c0 (k0+es.length*ei.size+k):=fun k hk=>by
      rw[hN.1] at hk
      rw[Nat.add_assoc]
      exact hown _ rfl (es.length*ei.size+k) (by omega) (by omega)
     obtain⟨w',hst,hwr⟩:=run_storeCells (P:=P) c0 (k0+es.length*ei.size) N.toList 0 w (fun u hu=>by
      obtain⟨q,hq,rfl⟩:=List.getElem_of_mem hu
      simp only[Array.length_toList,hN.1] at hq
      have hq1:q / ei.size<ys.length:=(Nat.div_lt_iff_lt_mul hsz0).2 hq
      have hge:=List.getElem?_eq_getElem hq1
      have hq2:q % ei.size<(cellsOf ys[q / ei.size]).length:=by rw[hN.2.1 _ _ hge];exact Nat.mod_lt _ hsz0
      have hgx:=List.getElem?_eq_getElem hq2
      obtain⟨u,hu1,hu2⟩:=hN.2.2 _ _ _ _ hge hgx
      rw[Nat.mul_comm,Nat.div_add_mod] at hu1
      have hsc:=hb2.2 _ (List.getElem_mem hq1)
      have:=hu2.one (List.all_eq_true.1 hsc _ (List.getElem_mem hq2))
      rw[Array.getElem?_eq_getElem (by rw[hN.1];exact hq)] at hu1
      cases hu1
      simpa using this) (fun k hk=>by
       simp only[Array.length_toList] at hk
       obtain⟨_,q2,q3⟩:=hownN k hk
       exact⟨q3,q2⟩)
     rw[Nat.add_zero] at hwr
     have m:=Mv.fill h.wr (l:=s.sg.length-d) (i:=i) (.tok (ver+ys.length) ei.size (.slice (some ⟨c0,k0,none⟩) (es.length+ys.length) cap)) hwr (h.wr.ob _ _ _ (hownN 0 (by rw[hN.1];exact Nat.mul_pos (by cases ys with|nil=>simp_all|cons=>simp) hsz0)).1).1 (fun k hk1 hk2=>by
      have:=(hownN (k-(k0+es.length*ei.size)) (by omega)).1
      rwa [show k0+es.length*ei.size+(k-(k0+es.length*ei.size))=k by omega] at this)
     obtain⟨hw,up⟩:=h.wr.upd (.tok (ver+ys.length)) (.tok (ver+ys.length) ei.size (.slice (some ⟨c0,k0,none⟩) (es.length+ys.length) cap)) hd hg hp ⟨rfl,by omega,fun e=>by omega⟩ m (Gh.fill_same ..)
      ⟨rfl,_,_,_,rfl,(fun e=>by cases e),fun x hx k hk1 hk2=>by
       cases hx
       rw[Nat.add_mul] at hk1
       obtain⟨q1,q2,u,q3⟩:=hown _ rfl k (by omega) hk2
       simp only at q1 q2 q3
       have hout:¬ (c0=c0∧k0+es.length*ei.size≤k0+k∧k0+k<k0+es.length*ei.size+N.size):=by rw[hN.1];omega
       refine⟨?_,by rw[hwr.frz];exact q2,u,?_⟩
       ·exact(if_neg hout).trans q1
       ·rw[hwr.old _ _ (by simp only[Array.length_toList];omega)];exact q3⟩
     have hrun:(Builtin.append_ c.argTypes o.type #[a.eval x,a.eval x2]).run P w = .ok (.slice (some ⟨c0,k0,none⟩) (es.length+ys.length) cap) w':=by
      rw[hcv,hr]
      simp only[addr_add,hst,Result.andThen_ok]
     have hbc:B≤c0:=by
      have h0:0<N.size:=by rw[hN.1];exact Nat.mul_pos hys0 hsz0
      exact(h.wr.ob _ _ _ (hownN 0 h0).1).1
     rw[hcv] at hs
     obtain⟨M',hM',hMi⟩:=hs.Ec hsz0
     have hEc:=(hM'.mono m.im).append (hN.mono m.im)
     have hpr:=hEc.sl c0 k0 cap (by simpa using hroom) (fun k hk=>by
      rw[Array.size_append] at hk
      rcases Nat.lt_or_ge k M'.size with hk1|hk1
      ·rw[Array.getElem?_append_left hk1,← hMi k hk1]
       exact if_neg (fun⟨_,e1,_⟩=>by have:=hM'.1;omega)
      ·rw[Array.getElem?_append_right hk1]
       refine(if_pos ⟨rfl,by have:=hM'.1;omega,by have:=hM'.1;omega⟩).trans ?_
       congr 1
       have:=hM'.1;omega)
     refine⟨_,_,_,.inl (hex _ _ hrun),?_,m.im,up _,?_,St.set_tm _ _ _ _,by rw[St.set_sg,setB_len],hwr.be B hbc⟩
     ·rw[St.set_fr,St.set_sg];exact hw
     ·rw[List.length_append] at hpr
      exact .slat d i _ _ _ _ _ hd (Gh.fill_same ..) (fun v hv=>by simp[Loc.cur] at hv;omega) hpr (fun sz cur e=>by cases e;exact⟨rfl,rfl⟩)
   ·obtain⟨newCap,A,g1,g2,g3,g4,g5⟩:=hgrow (by omega)
    obtain⟨m,hpr,hown'⟩:=hgr newCap A (s.sg.length-d) i (.tok (ver+ys.length) ei.size (.slice (some ⟨w.heap.size,0,none⟩) (es.length+ys.length) newCap)) g1 g2 g3 g4
    obtain⟨hw,up⟩:=h.wr.upd (.tok (ver+ys.length)) (.tok (ver+ys.length) ei.size (.slice (some ⟨w.heap.size,0,none⟩) (es.length+ys.length) newCap)) hd hg hp ⟨rfl,by omega,fun e=>by omega⟩ m (Gh.grown_same ..)
     ⟨rfl,_,_,_,rfl,(fun e=>by cases e),fun x hx k hk1 hk2=>by cases hx;exact hown' k hk1 hk2⟩
    refine⟨_,_,_,.inl g5,?_,m.im,up _,?_,St.set_tm _ _ _ _,by rw[St.set_sg,setB_len],hbe A⟩
    ·rw[St.set_fr,St.set_sg];exact hw
    ·exact .slat d i _ ei.size _ _ _ hd (Gh.grown_same ..) (fun v hv=>by simp[Loc.cur] at hv;omega) hpr (fun sz cur e=>by cases e;exact⟨rfl,rfl⟩)
end
end Go.Vm
/-
  The machine V and Go's operations, one by one: append where the array may be written.
-/
namespace Go.Vm
open Go Go.RowKit
section
variable {P:Program} {KW:World→Prop} {B:Bd KW} {G:Gh} {s:St} {a:Act} {w:World}
structure Apps (P:Program) (w:World) (ats:Array TypeId) (ty e:TypeId) (sz:Nat) (ad:Option Addr) (len cap k:Nat) (x:Value) (N N':Array Value):Prop where
 room:len+k≤cap→(Builtin.append_ ats ty #[.slice ad len cap,x]).run P w=(match ad with
  |none=>.ok (.slice none (len+k) cap) w
  |some ad=>((storeCells (ad.add (len*sz)) N.toList).run P w).andThen fun _ w'=>.ok (.slice (some ad) (len+k) cap) w')
 grow:cap<len+k→∀ M,(Builtin.firstCells sz len (.slice ad len cap)).run P w.drew = .ok M w.drew→∃ newCap rest,len+k≤newCap∧rest.size=(newCap-(len+k))*sz ∧
  (Builtin.append_ ats ty #[.slice ad len cap,x]).run P w = .ok (.slice (some ⟨w.heap.size,0,none⟩) (len+k) newCap) (w.drew.alloc (.cells (M++N'++rest) e))
theorem Apps.els {ats:Array TypeId} {ty t tx e:TypeId} {dx:TypeDesc} {ei:TypeInfo} {zv:Value} {len cap k:Nat} {ad:Option Addr} {x:Value} {N N':Array Value} (ha0:ats[0]? = some t) (ha1:ats[1]? = some tx)
  (ht:P.underlying t=some (.slice e)) (hx:P.underlying tx=some dx) (hdx:∀ j,dx≠.int j) (hi:P.info? e=some ei) (hz:ei.zero=some zv) (hzs:zv.cells.size=ei.size) (hby:ei.bytes≤65536) (hby0:ei.bytes≠0)
  (hk:(Builtin.lenOf x).run P w = .ok k w) (hN:(Builtin.firstCells ei.size k x).run P w = .ok N w) (hN':(Builtin.firstCells ei.size k x).run P w.drew = .ok N' w.drew) (hlim:len+k≤lim) :
  Apps P w ats ty e ei.size ad len cap k x N N':=
 ⟨fun h=>run_append_room ha0 ha1 ht hx hdx (by simp[sizeT,hi]) hk hN h,fun h _ hM=>run_append_grow ha0 ha1 ht hx hdx hi hz hzs hby hby0 hk hM hN' h hlim⟩
theorem Apps.zeros {ats:Array TypeId} {ty t tx e:TypeId} {j j':IntKind} {ei:TypeInfo} {zv:Value} {len cap k:Nat} {ad:Option Addr} (ha0:ats[0]? = some t) (ha1:ats[1]? = some tx)
  (ht:P.underlying t=some (.slice e)) (hx:P.underlying tx=some (.int j)) (hi:P.info? e=some ei) (hz:ei.zero=some zv) (hzs:zv.cells.size=ei.size) (hby:ei.bytes≤65536) (hsz0:0<ei.size)
  (hlim:len+k≤lim):Apps P w ats ty e ei.size ad len cap k (.int j' k) (Builtin.zeroCells zv.cells k) (Builtin.zeroCells zv.cells k):=by
 have hsT:sizeT P e=some ei.size:=by simp[sizeT,hi]
 have hk30:k≤1073741824:=by unfold lim at hlim;omega
 have hwr:IntKind.i64.wrap (k:Int)=k:=by rw[IntKind.wrap_i64];omega
 have hkb:¬ ((k:Int)*ei.bytes>2 ^ 48):=by
  have h2:k*ei.bytes≤1073741824*65536:=Nat.mul_le_mul hk30 hby
  have h3:(1073741824*65536:Nat)≤2 ^ 48:=by decide
  have:((k*ei.bytes:Nat):Int)≤((2 ^ 48:Nat):Int):=by omega
  rw[Int.natCast_mul] at this
  simp at this ⊢
  omega
 have hkn:¬ ((k:Int)<0):=by omega
 have hai:∀ w,(asInt (.int j' (k:Int))).run P w = .ok (k:Int) w:=fun w=>by simp[asInt,asIntOf]
 have hk0:k*ei.size=0→Builtin.zeroCells zv.cells k = #[]:=fun h0=>by
  rcases Nat.mul_eq_zero.1 h0 with h0|h0
  ·subst h0;simp[Builtin.zeroCells]
  ·omega
 constructor
 ·intro hle
  unfold Builtin.append_
  simp only[ha0,ha1,List.getElem?_toArray,List.getElem?_cons_zero,List.getElem?_cons_succ,Sem.run_bind,run_underlying ht,run_underlying hx,Result.andThen_ok,run_sizeOf hsT,Sem.run_pure,if_true,
   hai,hwr,if_neg hkn,Sem.run_ite,run_typeInfo hi,if_neg hkb,Int.toNat_natCast,if_pos hle,Bool.not_true,Bool.false_eq_true,if_false]
  by_cases h0:k*ei.size=0
  ·cases ad<;>simp only[if_pos h0,hk0 h0,Sem.run_bind,Result.andThen_ok,Sem.run_pure]
  ·cases ad<;>simp only[if_neg h0,Sem.run_bind,Result.andThen_ok,Sem.run_pure,zeroValue,run_typeInfo hi,hz]
 ·intro hlt M hM
  have hgr:¬ Builtin.nextslicecap (len+k) cap*ei.bytes>2 ^ 48:=by
   have h1:=nextcap_le (len+k) cap hlt
   have h2:Builtin.nextslicecap (len+k) cap*ei.bytes≤(2*(len+k)+192)*65536:=Nat.mul_le_mul h1 hby
   unfold lim at hlim
   have h3:(2*(len+k)+192)*65536≤(2*1073741824+192)*65536:=Nat.mul_le_mul_right _ (by omega)
   have h4:(2*1073741824+192)*65536≤2 ^ 48:=by decide
   omega
  have hmx:¬ (((len+k:Nat):Int)>IntKind.i64.max):=by
   have hm:IntKind.i64.max=((maxL:Nat):Int):=by rfl
   rw[hm];unfold lim at hlim;unfold maxL;omega
  let newCap:=(Question.appendCap (len+k) cap e).cut (w.tape w.drawn (Question.appendCap (len+k) cap e))
  refine⟨newCap,Builtin.zeroCells zv.cells (newCap-(len+k)),?_,?_,?_⟩
  ·show _≤_+_
   omega
  ·simp[Builtin.zeroCells,hzs]
  ·unfold Builtin.append_
   simp only[ha0,ha1,List.getElem?_toArray,List.getElem?_cons_zero,List.getElem?_cons_succ,Sem.run_bind,run_underlying ht,run_underlying hx,Result.andThen_ok,run_sizeOf hsT,Sem.run_pure,if_true,
    hai,hwr,if_neg hkn,Sem.run_ite,run_typeInfo hi,if_neg hkb,Int.toNat_natCast,if_neg (show ¬ (len+k≤cap) by omega),Bool.not_true,Bool.false_eq_true,if_false,
    hmx,false_and,if_neg hgr,run_choose,Question.forced,run_askRoom,World.drew_eq,hM,zeroValue,hz]
   by_cases h0:k*ei.size=0
   ·simp only[if_pos h0,hk0 h0,Result.andThen_ok]
    simp[newRow,newCap]
    rfl
   ·simp only[if_neg h0,Result.andThen_ok]
    simp[newRow,newCap]
    rfl
theorem cel_one {im:Nat→Nat→Option Value} {z:Nat} {ys:List V} {N:Array Value} (hN:Ec im z ys N) (hz0:0<z) (hc:∀ e∈ys,cel e=true):∀ u∈N.toList,u.oneCell'=true:=by
 intro u hu
 obtain⟨q,hq,rfl⟩:=List.getElem_of_mem hu
 simp only[Array.length_toList,hN.1] at hq
 have hq1:q / z<ys.length:=(Nat.div_lt_iff_lt_mul hz0).2 hq
 have hge:=List.getElem?_eq_getElem hq1
 have hq2:q % z<(cellsOf ys[q / z]).length:=by rw[hN.2.1 _ _ hge];exact Nat.mod_lt _ hz0
 have hgx:=List.getElem?_eq_getElem hq2
 obtain⟨u,hu1,hu2⟩:=hN.2.2 _ _ _ _ hge hgx
 rw[Nat.mul_comm,Nat.div_add_mod] at hu1
 have:=hu2.one (List.all_eq_true.1 (hc _ (List.getElem_mem hq1)) _ (List.getElem_mem hq2))
 rw[Array.getElem?_eq_getElem (by rw[hN.1];exact hq)] at hu1
 cases hu1
 simpa using this
theorem arr_new {G G':Gh} {w:World} {l i z n cap:Nat} {es:List V} {M R:Array Value} {e:TypeId} (him:ImLe G.im G'.im) (hE:Ec G.im z es M) (hn:es.length=n) (hle:n≤cap) (hR:R.size=(cap-n)*z)
  (how:∀ k,G'.ow w.heap.size k=some (l,i)) (ver:Nat):BR G' (w.drew.alloc (.cells (M++R) e)) l i (.arr ver w.heap.size 0 z cap) (.arr ver z es):=by
 have hcell:∀ k,(w.drew.alloc (.cells (M++R) e)).cell? ⟨w.heap.size,k,none⟩=(M++R)[k]?:=fun k=>cell_new (w:=w.drew) (M++R) e (0,0) k
 have hsz:(M++R).size=cap*z:=by
  rw[Array.size_append,hE.1,hR,hn,← Nat.add_mul];congr 1;omega
 refine⟨rfl,rfl,by omega,fun k hk=>⟨how _,World.frozen?_alloc_new w.drew _ _ _,?_⟩,fun j e' he=>⟨hE.2.1 j e' he,fun q x hx=>?_⟩⟩
 ·rw[Nat.zero_add,hcell]
  exact⟨_,Array.getElem?_eq_getElem (by omega)⟩
 ·obtain⟨y,h1,h2⟩:=hE.2.2 j e' q x he hx
  refine⟨y,?_,h2.mono him⟩
  rw[Nat.zero_add,hcell,Array.getElem?_append_left (Array.getElem?_eq_some_iff.1 h1).1];exact h1
theorem am_core {o:Oper} {ats:Array TypeId} {ty e:TypeId} {z:Nat} {x:V} {cv xv:Value} {ys:List V} {N N':Array Value} {v:V} {s':St} (h:SR G B s a w) (h1:VR G.im G.ph s.sg.length x cv) (hz0:0<z)
  (hex:∀ r w',(Builtin.append_ ats ty #[cv,xv]).run P w = .ok r w'→(execOp a.eval o).run P w = .ok (.value r) w') (hN:Ec G.im z ys N) (hN':Ec G.im z ys N')
  (hA:∀ ad len cap,cv = .slice ad len cap→len+ys.length≤lim→Apps P w ats ty e z ad len cap ys.length xv N N')
  (hv:amV z s x ys=some (v,s')):Ok P B o a w G s s' v:=by
 have hbe:∀ (A:Array Value),Below B w (w.drew.alloc (.cells A e)):=fun A=>by
  have h0:Below B w w.drew:=(Below.refl B w).drew
  exact h0.trans ((Below.refl B w.drew).alloc h.wr.hB _)
 unfold amV at hv
 split at hv
 ·rename_i zz es
  obtain⟨hb,hv1⟩:=bif_opt hv
  clear hv
  simp only[Bool.and_eq_true] at hb
  have hzz:=Nat.eq_of_beq_eq_true hb.1
  have hlim:=Nat.le_of_ble_eq_true hb.2
  subst hzz
  obtain⟨ad,cap,f,hcv,_,hcap,ha,hsp,_⟩:=h1.sl_inv.sl_inv
  have hfull:cap=es.length:=by
   cases h1 with
   |pr _ _ h1=>
    rw[hcv] at h1
    obtain⟨_,_,_,he,ht,_⟩:=h1.sl_inv
    cases he
    rcases ht with ht|⟨_,ht⟩
    ·cases ht
    ·exact ht
  subst hfull
  have hap:=hA _ _ _ hcv hlim
  rw[hcv] at hex
  split at hv1
  ·cases hv1
   have hr:=hap.room (by simp)
   have hN0:N = #[]:=Array.eq_empty_of_size_eq_zero (by rw[hN.1];simp)
   refine .quiet h (cv:=.slice ad es.length es.length) (hex _ _ ?_) (by rw[← hcv];exact h1)
   rw[hr]
   cases ad with
   |none=>simp
   |some ad=>simp[hN0,storeCells]
  ·rename_i hne
   have hys0:0<ys.length:=by
    cases ys with
    |nil=>exact absurd rfl hne
    |cons _ _=>simp
   cases hv1
   obtain⟨M,hM,hMr⟩:=els_Ec (P:=P) h.drew h1 (sz:=zz) (ys:=es) (by simp[els])
   rw[hcv] at hMr
   obtain⟨newCap,R,g1,g2,g3⟩:=hap.grow (by omega) M hMr
   rw[Array.append_assoc] at g3
   rw[← Array.append_assoc] at g3
   have m:=Mv.own h.drew.wr s.sg.length s.fr.length (.arr (es.length+ys.length) w.heap.size 0 zz newCap) (.cells (M++N'++R) e)
   have m':Mv G (Gh.own G s.sg.length s.fr.length w.heap.size (.arr (es.length+ys.length) w.heap.size 0 zz newCap)) B w (w.drew.alloc (.cells (M++N'++R) e)) s.sg.length s.fr.length:=⟨m.sz,m.im,m.io,m.ob,m.ow,m.ph,(Below.refl _ _).drew.trans m.be⟩
   obtain⟨hw,up⟩:=h.wr.new (.arr (es.length+ys.length) zz (es++ys)) (.arr (es.length+ys.length) w.heap.size 0 zz newCap) m' (Gh.put_same G _ _ _)
    (arr_new (G:=G) m'.im (hM.append hN') (by simp) g1 g2 (fun k=>by simp[Gh.own]) _)
   refine⟨_,_,_,.inl (hex _ _ g3),hw,m'.im,up _,?_,rfl,rfl,hbe _⟩
   exact .bs 0 _ _ 0 _ _ newCap _ (Nat.zero_le _) (Gh.put_same G _ _ _) (fun v hv=>by simp[Loc.cur] at hv;omega) g1 (fun e=>by cases e) (fun x e _=>by cases e;rfl)
    (fun c o0 sz cap e=>by cases e;exact .inr ⟨by simp,by omega⟩) (fun e=>by cases e)
 ·rename_i d i ver o' len
  split at hv<;>first|cases hv;done|skip
  rename_i ver' zz es hg
  obtain⟨hb,hv1⟩:=bif_opt hv
  clear hv
  simp only[Bool.and_eq_true,List.all_eq_true] at hb
  have hzz:=Nat.eq_of_beq_eq_true hb.1
  have hvv:=Nat.eq_of_beq_eq_true hb.2.1
  have hol:=Nat.le_of_ble_eq_true hb.2.2.1
  have hlim:=Nat.le_of_ble_eq_true hb.2.2.2.1
  have hcel:=hb.2.2.2.2
  subst hzz;subst hvv
  obtain⟨ad,cp,loc,hcv,hd,hp,hver,hcp,ha,hsp,hloc,hnn⟩:=h1.bs_inv
  have hap:=hA _ _ _ hcv hlim
  rw[hcv] at hex
  split at hv1
  ·cases hv1
   have hr:=hap.room (by simpa using hcp)
   have hN0:N = #[]:=Array.eq_empty_of_size_eq_zero (by rw[hN.1];simp)
   refine .quiet h (cv:=.slice ad len cp) (hex _ _ ?_) (by rw[← hcv];exact h1)
   rw[hr]
   cases ad with
   |none=>simp
   |some ad=>simp[hN0,storeCells]
  ·rename_i hne
   have hys0:0<ys.length:=by
    cases ys with
    |nil=>exact absurd rfl hne
    |cons _ _=>simp
   cases hv1
   have hels:els zz s (.bs d i ver o' len)=some ((es.drop o').take len):=by
    simp only[els,hg]
    rw[show(Nat.beq zz zz&&(Nat.beq ver ver&&Nat.ble (o'+len) es.length))=true by simp[hol]]
    rfl
   have htl:((es.drop o').take len).length=len:=by simp;omega
   obtain⟨M,hM,hMr⟩:=els_Ec (P:=P) h.drew h1 hels
   rw[htl,hcv] at hMr
   have hle:LocLe loc loc:=LocLe.refl _
   by_cases hroom:len+ys.length≤cp
   ·have hr:=hap.room hroom
    cases ad with
    |none=>have:=ha rfl;omega
    |some p=>
     have hp0:=hsp p rfl (by omega)
     obtain⟨c1,k1,sp⟩:=p
     simp only at hp0
     subst hp0
     rcases h.arr_loc hd hp hg hver with⟨c0,o0,cap,rfl⟩|⟨rfl,_⟩
     case inr=>have:=hnn rfl;omega
     obtain⟨_,hcap,hownA,h5⟩:=h.arr hd hp hg
     rcases hloc _ _ _ _ rfl with h0|⟨h0,h0'⟩
     ·omega
     cases h0
     have hmz:o'*zz+(len*zz+ys.length*zz)≤cap*zz:=by rw[← Nat.add_mul,← Nat.add_mul];exact Nat.mul_le_mul_right _ (by omega)
     have hownN:∀ k,k<N.size→Own G w (s.sg.length-d) i c1 (o0+o'*zz+len*zz+k):=fun k hk=>by
      rw[hN.1] at hk
      have:=hownA (o'*zz+len*zz+k) (by omega)
      rwa [show o0+(o'*zz+len*zz+k)=o0+o'*zz+len*zz+k by omega] at this
     obtain⟨w',hst,hwr⟩:=run_storeCells (P:=P) c1 (o0+o'*zz+len*zz) N.toList 0 w (cel_one hN hz0 hcel) (fun k hk=>by
       simp only[Array.length_toList] at hk
       obtain⟨_,q2,q3⟩:=hownN k hk
       exact⟨q3,q2⟩)
     rw[Nat.add_zero] at hwr
     have hbc:B≤c1:=by
      have h0:0<N.size:=by rw[hN.1];exact Nat.mul_pos hys0 hz0
      exact(h.wr.ob _ _ _ (hownN 0 h0).1).1
     have m:=SR.wrote h.wr (l:=s.sg.length-d) (i:=i) hwr (hwr.be _ hbc) (fun k hk1 hk2=>by
      simp only[Array.length_toList] at hk2
      have:=(hownN (k-(o0+o'*zz+len*zz)) (by omega)).1
      rwa [show o0+o'*zz+len*zz+(k-(o0+o'*zz+len*zz))=k by omega] at this)
     have m':Mv G (Gh.put G (s.sg.length-d) i (.arr (ver+ys.length) c1 (o0+o'*zz) zz cp)) B w w' (s.sg.length-d) i:=⟨m.sz,m.im,m.io,m.ob,m.ow,fun _ _ hne=>Gh.put_ne G hne,m.be⟩
     obtain⟨hw,up⟩:=h.wr.upd (.arr (ver+ys.length) zz ((es.drop o').take len++ys)) (.arr (ver+ys.length) c1 (o0+o'*zz) zz cp) hd hg hp ⟨by omega,fun e=>by omega⟩ m' (Gh.put_same G _ _ _) (by
      refine⟨rfl,rfl,by simp;omega,fun k hk=>?_,fun j e' he=>?_⟩
      ·have hk':o'*zz+k<cap*zz:=by
        have:(o'+cp)*zz≤cap*zz:=Nat.mul_le_mul_right _ h0'
        rw[Nat.add_mul] at this;omega
       obtain⟨q1,q2,u,q3⟩:=hownA _ hk'
       rw[← Nat.add_assoc] at q1 q2 q3
       refine⟨q1,by rw[hwr.frz];exact q2,?_⟩
       by_cases hin:o0+o'*zz+len*zz≤o0+o'*zz+k∧o0+o'*zz+k<o0+o'*zz+len*zz+N.toList.length
       ·have:=hwr.new (o0+o'*zz+k-(o0+o'*zz+len*zz)) _ (List.getElem?_eq_getElem (by omega))
        rw[show o0+o'*zz+len*zz+(o0+o'*zz+k-(o0+o'*zz+len*zz))=o0+o'*zz+k by omega] at this
        exact⟨_,this⟩
       ·exact⟨u,by rw[hwr.old c1 _ (by omega)];exact q3⟩
      ·rcases Nat.lt_or_ge j len with hj|hj
       ·rw[List.getElem?_append_left (by omega),List.getElem?_take,if_pos hj,List.getElem?_drop] at he
        obtain⟨q1,q2⟩:=h5 _ e' he
        refine⟨q1,fun q x hx=>?_⟩
        obtain⟨u,q3,q4⟩:=q2 q x hx
        have hq:q<zz:=by rw[← q1];exact(List.getElem?_eq_some_iff.1 hx).1
        have hjz:(j+1)*zz≤len*zz:=Nat.mul_le_mul_right _ hj
        rw[Nat.succ_mul] at hjz
        refine⟨u,?_,q4⟩
        rw[hwr.old c1 _ (by omega)]
        rw[show o0+o'*zz+(j*zz+q)=o0+((o'+j)*zz+q) by rw[Nat.add_mul];omega]
        exact q3
       ·rw[List.getElem?_append_right (by omega),htl] at he
        refine⟨hN.2.1 _ _ he,fun q x hx=>?_⟩
        obtain⟨y,q1,q2⟩:=hN.2.2 _ _ q x he hx
        refine⟨y,?_,q2⟩
        have:=hwr.new ((j-len)*zz+q) y (by simpa using q1)
        have hjl:len*zz≤j*zz:=Nat.mul_le_mul_right _ hj
        rw[show o0+o'*zz+len*zz+((j-len)*zz+q)=o0+o'*zz+(j*zz+q) by rw[Nat.sub_mul];omega] at this
        exact this)
     have hrun:(Builtin.append_ ats ty #[.slice (some ⟨c1,o0+o'*zz,none⟩) len cp,xv]).run P w = .ok (.slice (some ⟨c1,o0+o'*zz,none⟩) (len+ys.length) cp) w':=by
      rw[hr]
      simp only[addr_add,hst,Result.andThen_ok]
     refine⟨_,_,Gh.put G (s.sg.length-d) i (.arr (ver+ys.length) c1 (o0+o'*zz) zz cp),.inl (hex _ _ hrun),?_,m'.im,up _,?_,St.set_tm _ _ _ _,by rw[St.set_sg,setB_len],hwr.be B hbc⟩
     ·rw[St.set_fr,St.set_sg];exact hw
     ·exact .bs d i _ 0 _ _ cp _ hd (Gh.put_same G _ _ _) (fun v hv=>by simp[Loc.cur] at hv;omega) hroom (fun e=>by cases e) (fun x e _=>by cases e;rfl)
       (fun c o0 sz cap e=>by cases e;exact .inr ⟨by simp,by omega⟩) (fun e=>by cases e)
   ·obtain⟨newCap,R,g1,g2,g3⟩:=hap.grow (by omega) M hMr
    have m:=Mv.own h.drew.wr (s.sg.length-d) i (.arr (ver+ys.length) w.heap.size 0 zz newCap) (.cells (M++N'++R) e)
    have m':Mv G (Gh.own G (s.sg.length-d) i w.heap.size (.arr (ver+ys.length) w.heap.size 0 zz newCap)) B w (w.drew.alloc (.cells (M++N'++R) e)) (s.sg.length-d) i:=⟨m.sz,m.im,m.io,m.ob,m.ow,m.ph,(Below.refl _ _).drew.trans m.be⟩
    have hll:LocLe loc (.arr (ver+ys.length) w.heap.size 0 zz newCap):=by
     rcases h.arr_loc hd hp hg hver with⟨c,o0,cap,rfl⟩|⟨rfl,_⟩
     ·exact⟨by omega,fun e=>by omega⟩
     ·show ver<_;omega
    obtain⟨hw,up⟩:=h.wr.upd (.arr (ver+ys.length) zz ((es.drop o').take len++ys)) (.arr (ver+ys.length) w.heap.size 0 zz newCap) hd hg hp hll m' (Gh.put_same G _ _ _)
     (arr_new (G:=G) m'.im (hM.append hN') (by simp;omega) g1 g2 (fun k=>by simp[Gh.own]) _)
    refine⟨_,_,_,.inl (hex _ _ g3),?_,m'.im,up _,?_,St.set_tm _ _ _ _,by rw[St.set_sg,setB_len],hbe _⟩
    ·rw[St.set_fr,St.set_sg];exact hw
    ·exact .bs d i _ 0 _ _ newCap _ hd (Gh.put_same G _ _ _) (fun v hv=>by simp[Loc.cur] at hv;omega) g1 (fun e=>by cases e) (fun x e _=>by cases e;rfl)
      (fun c o0 sz cap e=>by cases e;exact .inr ⟨by simp,by omega⟩) (fun e=>by cases e)
 ·cases hv
end
end Go.Vm
