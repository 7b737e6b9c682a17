/-
  A part of a proof: the last text of the claim says what is proved, and under which conditions.
-/
import Derived.Test.YtfdmcaddpfmchaaGreatDoorM9
import Derived.Test.YtfdmcaddpfmchaaGreatDoorM15
import Derived.Test.YtfdmcaddpfmchaaGreatDoorM8
set_option linter.unusedSimpArgs false
set_option linter.unusedVariables false
set_option linter.unnecessarySimpa false
/- What functions of the program answer. Printed by spec2.py. -/
namespace Go.Vm
open Go Go.Sp
set_option maxRecDepth 100000
set_option maxHeartbeats 4000000
def valSmall (c:UInt8):Bool:=(bif (decide ((c.toNat:Int)≥97)) then(decide ((c.toNat:Int)≤122)) else false)
theorem valSmall_says (c:UInt8)  : SaysT TX 292 [b8 c] (eB (valSmall c)):=
 sy (e:=eB) (F:=c292) rfl fun sg=>gO 9<|dp 5 (fun h1=>gO 6<|en) (fun h1=>gO 6<|en)
def valLarge (c:UInt8):Bool:=(bif (decide ((c.toNat:Int)≥65)) then(decide ((c.toNat:Int)≤90)) else false)
theorem valLarge_says (c:UInt8)  : SaysT TX 293 [b8 c] (eB (valLarge c)):=
 sy (e:=eB) (F:=c293) rfl fun sg=>gO 9<|dp 5 (fun h1=>gO 6<|en) (fun h1=>gO 6<|en)
def valDigit (c:UInt8):Bool:=(bif (decide ((c.toNat:Int)≥48)) then(decide ((c.toNat:Int)≤57)) else false)
theorem valDigit_says (c:UInt8)  : SaysT TX 279 [b8 c] (eB (valDigit c)):=
 sy (e:=eB) (F:=c279) rfl fun sg=>gO 9<|dp 5 (fun h1=>gO 6<|en) (fun h1=>gO 6<|en)
def substLetter (c:UInt8):Bool:=(bif (decide ((c.toNat:Int)≥97)) then(bif (decide ((c.toNat:Int)≤122)) then true else(bif (decide ((c.toNat:Int)≥65)) then(bif (decide ((c.toNat:Int)≤90)) then true else(bif (decide ((c.toNat:Int)≥48)) then(bif (decide ((c.toNat:Int)≤57)) then true else((c.toNat:Int) == 95)) else((c.toNat:Int) == 95))) else(bif (decide ((c.toNat:Int)≥48)) then(bif (decide ((c.toNat:Int)≤57)) then true else((c.toNat:Int) == 95)) else((c.toNat:Int) == 95)))) else(bif (decide ((c.toNat:Int)≥65)) then(bif (decide ((c.toNat:Int)≤90)) then true else(bif (decide ((c.toNat:Int)≥48)) then(bif (decide ((c.toNat:Int)≤57)) then true else((c.toNat:Int) == 95)) else((c.toNat:Int) == 95))) else(bif (decide ((c.toNat:Int)≥48)) then(bif (decide ((c.toNat:Int)≤57)) then true else((c.toNat:Int) == 95)) else((c.toNat:Int) == 95))))
theorem substLetter_says (c:UInt8)  : SaysT TX 291 [b8 c] (eB (substLetter c)):=
 sy (e:=eB) (F:=c291) rfl fun sg=>gO 9<|dp 5 (fun h1=>gO 4<|dp 9 (fun h2=>gO 22<|en) (fun h2=>gO 3<|dp 12 (fun h3=>gO 5<|dp 17 (fun h4=>gO 14<|en) (fun h4=>gO 3<|dp 20 (fun h5=>gO 5<|dp 25 (fun h6=>gO 6<|en) (fun h6=>gO 6<|en)) (fun h5=>gO 11<|en))) (fun h3=>gO 8<|dp 20 (fun h7=>gO 5<|dp 25 (fun h8=>gO 6<|en) (fun h8=>gO 6<|en)) (fun h7=>gO 11<|en)))) (fun h1=>gO 7<|dp 12 (fun h9=>gO 5<|dp 17 (fun h10=>gO 14<|en) (fun h10=>gO 3<|dp 20 (fun h11=>gO 5<|dp 25 (fun h12=>gO 6<|en) (fun h12=>gO 6<|en)) (fun h11=>gO 11<|en))) (fun h9=>gO 8<|dp 20 (fun h13=>gO 5<|dp 25 (fun h14=>gO 6<|en) (fun h14=>gO 6<|en)) (fun h13=>gO 11<|en)))
def valSymbol_l1 (b:Txt) (y1:UInt8):Nat→List UInt8→Unit→Bool
 |i1,[],_=>true
 |i1,x2::xs3,_=>(bif (valSmall x2) then valSymbol_l1 b y1 (i1+1) xs3 () else(bif (valLarge x2) then valSymbol_l1 b y1 (i1+1) xs3 () else(bif (valDigit x2) then valSymbol_l1 b y1 (i1+1) xs3 () else(bif ((x2.toNat:Int) == 95) then valSymbol_l1 b y1 (i1+1) xs3 () else false))))
def valSymbol (b:Txt):Bool:=(bif (decide ((b.length:Int)<1)) then false else(bif (decide ((b.length:Int)>24)) then false else(onS b[0]? (fun y1=>(bif (valSmall y1) then valSymbol_l1 b y1 0 b () else false)) default)))
theorem valSymbol_says (b:Txt) (h_b:b.length≤140737488351232):SaysT TX 241 [eS b] (eB (valSymbol b)):=
 sy (e:=eB) (F:=c241) rfl fun sg=>gO 11<|dp 7 (fun h1=>gO 18<|en) (fun h1=>gO 5<|dp 12 (fun h2=>gO 13<|en) (fun h2=>gO 1<|ix (by(first|assumption|omega|(simp only[List.length_cons,List.length_nil,List.length_append,List.length_map];omega)|grind)) fun y1 h3=>cl (valSmall_says y1)<|gO 3<|dcn 17 (fun h4=>gO 10<|rg (β:=UInt8) (A:=Unit) (fun i1 _=>{ vals:=[(.str b),(.int .i64 (b.length:Int)),(.int .i64 (i1:Int))],fr:=[],sg:=sg,wd:=0 }) (L:=b) (acc0:=()) (fn:=valSymbol_l1 b y1) (fun i1 x2 xs3 _ hd1 ih1=>have hlt1:=drop_lt hd1;have hx1:=drop_get hd1;gO 5<|dk 21 (lt_true hlt1)<|gO 13<|ixk hx1<|cl (valSmall_says x2)<|gO 2<|dcn 28 (fun h5=>gO 25<|kw 48 (congrArg (V.int .i64) (wrap_s hlt1 (by(first|assumption|omega|(simp only[List.length_cons,List.length_nil,List.length_append,List.length_map];omega)|grind))))<|gO 2<|nx (ih1 ())) (fun h5=>gO 2<|ixk hx1<|cl (valLarge_says x2)<|gO 3<|dcn 35 (fun h6=>gO 18<|kw 48 (congrArg (V.int .i64) (wrap_s hlt1 (by(first|assumption|omega|(simp only[List.length_cons,List.length_nil,List.length_append,List.length_map];omega)|grind))))<|gO 2<|nx (ih1 ())) (fun h6=>gO 2<|ixk hx1<|cl (valDigit_says x2)<|gO 3<|dcn 42 (fun h7=>gO 11<|kw 48 (congrArg (V.int .i64) (wrap_s hlt1 (by(first|assumption|omega|(simp only[List.length_cons,List.length_nil,List.length_append,List.length_map];omega)|grind))))<|gO 2<|nx (ih1 ())) (fun h7=>gO 2<|ixk hx1<|gO 3<|dqn 47 (fun h8=>gO 5<|kw 48 (congrArg (V.int .i64) (wrap_s hlt1 (by(first|assumption|omega|(simp only[List.length_cons,List.length_nil,List.length_append,List.length_map];omega)|grind))))<|gO 2<|nx (ih1 ())) (fun h8=>gO 11<|en))))) (fun i1 _ hd1=>have hge1:=drop_ge hd1;gO 5<|dk 21 (lt_false hge1)<|gO 10<|en)) (fun h4=>gO 7<|en)))
def valPlain_l1 (b:Txt):Nat→List UInt8→Unit→Bool
 |i1,[],_=>(decide ((b.length:Int)≤60))
 |i1,x1::xs2,_=>(bif (decide ((x1.toNat:Int)<32)) then false else(bif (decide ((x1.toNat:Int)>126)) then false else valPlain_l1 b (i1+1) xs2 ()))
def valPlain (b:Txt):Bool:=valPlain_l1 b 0 b ()
theorem valPlain_says (b:Txt) (h_b:b.length≤140737488351232):SaysT TX 242 [eS b] (eB (valPlain b)):=
 sy (e:=eB) (F:=c242) rfl fun sg=>gO 12<|rg (β:=UInt8) (A:=Unit) (fun i1 _=>{ vals:=[(.str b),(.int .i64 (b.length:Int)),(.int .i64 (i1:Int))],fr:=[],sg:=sg,wd:=0 }) (L:=b) (acc0:=()) (fn:=valPlain_l1 b) (fun i1 x1 xs2 _ hd1 ih1=>have hlt1:=drop_lt hd1;have hx1:=drop_get hd1;gO 5<|dk 7 (lt_true hlt1)<|gO 13<|ixk hx1<|gO 2<|dp 13 (fun h1=>gO 17<|en) (fun h1=>gO 2<|ixk hx1<|gO 3<|dp 18 (fun h2=>gO 11<|en) (fun h2=>gO 5<|kw 19 (congrArg (V.int .i64) (wrap_s hlt1 (by(first|assumption|omega|(simp only[List.length_cons,List.length_nil,List.length_append,List.length_map];omega)|grind))))<|gO 2<|nx (ih1 ())))) (fun i1 _ hd1=>have hge1:=drop_ge hd1;gO 5<|dk 7 (lt_false hge1)<|gO 13<|en)
def valCheck (v:Sp.Val):Int:=(bif (v.kind == 1) then(bif (decide (v.n≥(-4611686018427387904))) then(bif (decide (v.n≤4611686018427387904)) then(bif (v.s == ([]:Txt)) then 0 else 1) else 1) else 1) else(bif (v.kind == 2) then(bif (v.n == 0) then(bif (valSymbol v.s) then 0 else 1) else 1) else(bif (v.kind == 3) then(bif (v.n == 0) then(bif (valPlain v.s) then 0 else 1) else 1) else 1)))
theorem valCheck_says (v:Sp.Val) (ok_v:v.ok):SaysT TX 170 [eVal v] (eI (valCheck v)):=
 sy (e:=eI) (F:=c170) rfl fun sg=>gO 21<|dq 6 (fun h1=>gO 6<|dp 11 (fun h2=>gO 5<|dp 16 (fun h3=>gO 13<|dqn 42 (fun h4=>gO 7<|en) (fun h4=>gO 7<|en)) (fun h3=>gO 20<|en)) (fun h2=>gO 25<|en)) (fun h1=>gO 6<|dq 21 (fun h5=>gO 6<|dq 26 (fun h6=>gO 2<|cl (valSymbol_says v.s (by(first|assumption|omega|(simp only[List.length_cons,List.length_nil,List.length_append,List.length_map];omega)|grind)))<|gO 10<|dcn 42 (fun h7=>gO 7<|en) (fun h7=>gO 7<|en)) (fun h6=>gO 20<|en)) (fun h5=>gO 6<|dq 31 (fun h8=>gO 6<|dq 36 (fun h9=>gO 2<|cl (valPlain_says v.s (by(first|assumption|omega|(simp only[List.length_cons,List.length_nil,List.length_append,List.length_map];omega)|grind)))<|gO 10<|dcn 42 (fun h10=>gO 7<|en) (fun h10=>gO 7<|en)) (fun h9=>gO 20<|en)) (fun h8=>gO 16<|en)))
def substVar_l1 (b:Txt) (y1:UInt8):Nat→List UInt8→Unit→Bool
 |i1,[],_=>true
 |i1,x2::xs3,_=>(bif (substLetter x2) then substVar_l1 b y1 (i1+1) xs3 () else false)
def substVar (b:Txt):Bool:=(bif (decide ((b.length:Int)<1)) then false else(bif (decide ((b.length:Int)>24)) then false else(onS b[0]? (fun y1=>(bif (decide ((y1.toNat:Int)<65)) then false else(bif (decide ((y1.toNat:Int)>90)) then false else substVar_l1 b y1 0 b ()))) default)))
theorem substVar_says (b:Txt) (h_b:b.length≤140737488351232):SaysT TX 239 [eS b] (eB (substVar b)):=
 sy (e:=eB) (F:=c239) rfl fun sg=>gO 11<|dp 7 (fun h1=>gO 22<|en) (fun h1=>gO 5<|dp 12 (fun h2=>gO 17<|en) (fun h2=>gO 1<|ix (by(first|assumption|omega|(simp only[List.length_cons,List.length_nil,List.length_append,List.length_map];omega)|grind)) fun y1 h3=>gO 3<|dp 17 (fun h4=>gO 12<|en) (fun h4=>gO 1<|ixk h3<|gO 3<|dp 21 (fun h5=>gO 7<|en) (fun h5=>gO 10<|rg (β:=UInt8) (A:=Unit) (fun i1 _=>{ vals:=[(.str b),(.int .i64 (b.length:Int)),(.int .i64 (i1:Int))],fr:=[],sg:=sg,wd:=0 }) (L:=b) (acc0:=()) (fn:=substVar_l1 b y1) (fun i1 x2 xs3 _ hd1 ih1=>have hlt1:=drop_lt hd1;have hx1:=drop_get hd1;gO 5<|dk 25 (lt_true hlt1)<|gO 13<|ixk hx1<|cl (substLetter_says x2)<|gO 2<|dcn 31 (fun h6=>gO 5<|kw 32 (congrArg (V.int .i64) (wrap_s hlt1 (by(first|assumption|omega|(simp only[List.length_cons,List.length_nil,List.length_append,List.length_map];omega)|grind))))<|gO 2<|nx (ih1 ())) (fun h6=>gO 11<|en)) (fun i1 _ hd1=>have hge1:=drop_ge hd1;gO 5<|dk 25 (lt_false hge1)<|gO 10<|en)))))
def matchTerm (t:Sp.Term):Bool:=(bif (t.var == ([]:Txt)) then((valCheck t.val) == 0) else(bif (substVar t.var) then((t.val.kind == 0)&&((t.val.n == 0)&&((t.val.s == ([]:Txt))&&true))) else false))
theorem matchTerm_says (t:Sp.Term) (ok_t:t.ok):SaysT TX 167 [eTerm t] (eB (matchTerm t)):=
 sy (e:=eB) (F:=c167) rfl fun sg=>gO 12<|dq 5 (fun h1=>gO 5<|cl (valCheck_says t.val (by(first|assumption|omega|(simp only[List.length_cons,List.length_nil,List.length_append,List.length_map];omega)|grind)))<|gO 5<|en) (fun h1=>gO 6<|cl (substVar_says t.var (by(first|assumption|omega|(simp only[List.length_cons,List.length_nil,List.length_append,List.length_map];omega)|grind)))<|gO 1<|dc 13 (fun h2=>gO 8<|en) (fun h2=>gO 8<|en))
def indexTxt_l1 (l:(List Txt)) (v:Txt):Nat→List Txt→Unit→Int
 |i1,[],_=>(-1)
 |i1,x1::xs2,_=>(bif (v == x1) then(i1:Int) else indexTxt_l1 l v (i1+1) xs2 ())
def indexTxt (l:(List Txt)) (v:Txt):Int:=indexTxt_l1 l v 0 l ()
theorem indexTxt_says (l:(List Txt)) (v:Txt) (h_l:l.length≤140737488351232):SaysT TX 162 [(eL 1 eS) l,eS v] (eI (indexTxt l v)):=
 sy (e:=eI) (F:=c162) rfl fun sg=>gO 9<|kw 7 (len_map eS l)<|gO 3<|rg (β:=Txt) (A:=Unit) (fun i1 _=>{ vals:=[(.sl .no 1 (l.map eS)),(.str v),(.int .i64 (l.length:Int)),(.int .i64 (i1:Int))],fr:=[],sg:=sg,wd:=0 }) (L:=l) (acc0:=()) (fn:=indexTxt_l1 l v) (fun i1 x1 xs2 _ hd1 ih1=>have hlt1:=drop_lt hd1;have hx1:=drop_get hd1;gO 5<|dk 9 (lt_true hlt1)<|gO 14<|iak eS hx1<|gO 3<|dq 16 (fun h1=>gO 12<|en) (fun h1=>gO 5<|kw 18 (congrArg (V.int .i64) (wrap_s hlt1 (by(first|assumption|omega|(simp only[List.length_cons,List.length_nil,List.length_append,List.length_map];omega)|grind))))<|gO 2<|nx (ih1 ()))) (fun i1 _ hd1=>have hge1:=drop_ge hd1;gO 5<|dk 9 (lt_false hge1)<|gO 10<|en)
def containsTxt (l:(List Txt)) (v:Txt):Bool:=(decide ((indexTxt l v)≥0))
theorem containsTxt_says (l:(List Txt)) (v:Txt) (h_l:l.length≤140737488351232):SaysT TX 99 [(eL 1 eS) l,eS v] (eB (containsTxt l v)):=
 sy (e:=eB) (F:=c99) rfl fun sg=>gO 8<|cl (indexTxt_says l v (by(first|assumption|omega|(simp only[List.length_cons,List.length_nil,List.length_append,List.length_map];omega)|grind)))<|gO 4<|en
def factWord (b:Txt):Bool:=(containsTxt ([([102,97,99,116]:Txt),([114,117,108,101]:Txt),([112,97,116,116,101,114,110]:Txt),([110,111,116]:Txt),([97,110,100]:Txt),([111,114]:Txt),([98,101,102,111,114,101]:Txt),([111,110,99,101]:Txt),([97,108,119,97,121,115]:Txt),([115,105,110,99,101]:Txt),([100,114,111,112]:Txt)]:(List Txt)) b)
theorem factWord_says (b:Txt)  : SaysT TX 184 [eS b] (eB (factWord b)):=
 sy (e:=eB) (F:=c184) rfl fun sg=>gO 8<|cl (containsTxt_says ([([102,97,99,116]:Txt),([114,117,108,101]:Txt),([112,97,116,116,101,114,110]:Txt),([110,111,116]:Txt),([97,110,100]:Txt),([111,114]:Txt),([98,101,102,111,114,101]:Txt),([111,110,99,101]:Txt),([97,108,119,97,121,115]:Txt),([115,105,110,99,101]:Txt),([100,114,111,112]:Txt)]:(List Txt)) b (by(first|assumption|omega|(simp only[List.length_cons,List.length_nil,List.length_append,List.length_map];omega)|grind)))<|gO 3<|en
def factName (b:Txt):Bool:=(bif ((valCheck (⟨2,0,b⟩:Sp.Val)) == 0) then(!(factWord b)) else false)
theorem factName_says (b:Txt) (h_b:b.length≤140737488351232):SaysT TX 118 [eS b] (eB (factName b)):=
 sy (e:=eB) (F:=c118) rfl fun sg=>gO 8<|cl (valCheck_says (⟨2,0,b⟩:Sp.Val) (by first|assumption|omega|(simp only[List.length_cons,List.length_nil,List.length_append,List.length_map];omega)|grind|((simp[Val.ok,i64ok];omega))))<|gO 2<|dq 7 (fun h1=>gO 1<|cl (factWord_says b)<|gO 5<|en) (fun h1=>gO 7<|en)
def indexTerm_l1 (l:(List Sp.Term)) (p:Sp.Term→Bool):Nat→List Sp.Term→Unit→Int
 |i1,[],_=>(-1)
 |i1,x1::xs2,_=>(bif (p x1) then(i1:Int) else indexTerm_l1 l p (i1+1) xs2 ())
def indexTerm (l:(List Sp.Term)) (p:Sp.Term→Bool):Int:=indexTerm_l1 l p 0 l ()
theorem indexTerm_in {sg:List Fr} {g_p:FuncId} {a_p b_p:List V} (l:(List Sp.Term)) (p:Sp.Term→Bool) (h_l:l.length≤140737488351232) (hp_p:∀ x,x∈l→∀ f0:Fr,TX.call g_p ((a_p ++ [eTerm x]++b_p).map (argV (TX.C.keepA g_p))) (f0::sg)=some (eB (p x),f0::sg,0)):TX.call 160 [(eL 4 eTerm) l,.fn g_p a_p b_p] sg=some (eI (indexTerm l p),sg,0):=
 sx (e:=fun r=>(eI r,sg,0)) (F:=c160) rfl<|gO 9<|kw 7 (len_map eTerm l)<|gO 3<|rg (β:=Sp.Term) (A:=Unit) (fun i1 _=>{ vals:=[(.sl .no 4 (l.map eTerm)),(.fn g_p a_p b_p),(.int .i64 (l.length:Int)),(.int .i64 (i1:Int))],fr:=[],sg:=sg,wd:=0 }) (L:=l) (acc0:=()) (fn:=indexTerm_l1 l p) (fun i1 x1 xs2 _ hd1 ih1=>have hlt1:=drop_lt hd1;have hx1:=drop_get hd1;gO 5<|dk 9 (lt_true hlt1)<|gO 14<|iak eTerm hx1<|gO 1<|cli (hp_p x1 (List.mem_of_getElem? hx1) _)<|gO 1<|dc 16 (fun h1=>gO 12<|en) (fun h1=>gO 5<|kw 18 (congrArg (V.int .i64) (wrap_s hlt1 (by(first|assumption|omega|(simp only[List.length_cons,List.length_nil,List.length_append,List.length_map];omega)|grind))))<|gO 2<|nx (ih1 ()))) (fun i1 _ hd1=>have hge1:=drop_ge hd1;gO 5<|dk 9 (lt_false hge1)<|gO 10<|en)
def containsTerm (l:(List Sp.Term)) (p:Sp.Term→Bool):Bool:=(decide ((indexTerm l p)≥0))
theorem containsTerm_in {sg:List Fr} {g_p:FuncId} {a_p b_p:List V} (l:(List Sp.Term)) (p:Sp.Term→Bool) (h_l:l.length≤140737488351232) (hp_p:∀ x,x∈l→∀ f0 f1:Fr,TX.call g_p (((a_p.map (sh0 1)) ++ [eTerm x]++(b_p.map (sh0 1))).map (argV (TX.C.keepA g_p))) (f1::f0::sg)=some (eB (p x),f1::f0::sg,0)):TX.call 165 [(eL 4 eTerm) l,.fn g_p a_p b_p] sg=some (eB (containsTerm l p),sg,0):=
 sx (e:=fun r=>(eB r,sg,0)) (F:=c165) rfl<|gO 8<|cli (indexTerm_in (g_p:=g_p) (a_p:=a_p.map (sh0 1)) (b_p:=b_p.map (sh0 1)) l p (by(first|assumption|omega|(simp only[List.length_cons,List.length_nil,List.length_append,List.length_map];omega)|grind)) (fun x hm f0_=>hp_p x hm _ f0_))<|gO 4<|en
def matchCheck1 (t:Sp.Term):Bool:=(!(matchTerm t))
theorem matchCheck1_says (t:Sp.Term) (ok_t:t.ok):SaysT TX 166 [eTerm t] (eB (matchCheck1 t)):=
 sy (e:=eB) (F:=c166) rfl fun sg=>gO 8<|cl (matchTerm_says t (by(first|assumption|omega|(simp only[List.length_cons,List.length_nil,List.length_append,List.length_map];omega)|grind)))<|gO 4<|en
def matchCheck (a:Sp.Atom):Int:=(bif (factName a.name) then(bif (decide ((a.args.length:Int)>5)) then 1 else(bif (containsTerm a.args (fun x=>matchCheck1 x)) then 1 else 0)) else 1)
theorem matchCheck_says (a:Sp.Atom) (ok_a:a.ok):SaysT TX 105 [eAtom a] (eI (matchCheck a)):=
 sy (e:=eI) (F:=c105) rfl fun sg=>gO 10<|cl (factName_says a.name (by(first|assumption|omega|(simp only[List.length_cons,List.length_nil,List.length_append,List.length_map];omega)|grind)))<|gO 2<|dcn 7 (fun h1=>gO 3<|kw 10 (len_map eTerm a.args)<|gO 3<|dp 13 (fun h2=>gO 12<|en) (fun h2=>gO 2<|cli (containsTerm_in (g_p:=166) (a_p:=[]) (b_p:=[]) a.args (fun x=>matchCheck1 x) (by(first|assumption|omega|(simp only[List.length_cons,List.length_nil,List.length_append,List.length_map];omega)|grind)) (fun x hm f0_ f1_=>matchCheck1_says x (by first|(first|assumption|omega|(simp only[List.length_cons,List.length_nil,List.length_append,List.length_map];omega)|grind)|(omega)) _))<|gO 2<|dc 17 (fun h3=>gO 7<|en) (fun h3=>gO 7<|en))) (fun h1=>gO 18<|en)
def matchVars_l1 (a:Sp.Atom):Nat→List Sp.Term→(List Txt)→(List Txt)
 |i1,[],a1_0=>a1_0
 |i1,x1::xs2,a1_0=>(bif (x1.var == ([]:Txt)) then matchVars_l1 a (i1+1) xs2 a1_0 else(bif (containsTxt a1_0 x1.var) then matchVars_l1 a (i1+1) xs2 a1_0 else matchVars_l1 a (i1+1) xs2 (a1_0 ++ [x1.var])))
def matchVars (a:Sp.Atom):(List Txt):=matchVars_l1 a 0 a.args ([]:List Txt)
theorem matchVars_says (a:Sp.Atom) (h1:a.args.length≤1000000):SaysT TX 43 [eAtom a] ((eL 1 eS) (matchVars a)):=
 sy (e:=(eL 1 eS)) (F:=c43) rfl fun sg=>gO 15<|kw 8 (len_map eTerm a.args)<|gO 3<|rgI (β:=Sp.Term) (A:=(List Txt)) (fun i1 a1_0=>a1_0.length≤i1) (fun i1 a1_0=>{ vals:=[(.sl (.at 0 2 a1_0.length) 1 (a1_0.map eS)),(.sl .no 4 (a.args.map eTerm)),(.int .i64 (a.args.length:Int)),(.int .i64 (i1:Int))],fr:=[.box [(.str a.name),(.sl .no 4 (a.args.map eTerm))],.tok 0,.tok a1_0.length],sg:=sg,wd:=0 }) (L:=a.args) (acc0:=([]:List Txt)) (fn:=matchVars_l1 a) (by simp) (fun i1 x1 xs2 a1_0 hd1 hi1 ih1=>have hi1:a1_0.length≤i1:=hi1;have hlt1:=drop_lt hd1;have hx1:=drop_get hd1;gO 5<|dk 10 (lt_true hlt1)<|gO 6<|iak eTerm hx1<|gO 10<|dqn 16 (fun h1=>gO 12<|kw 28 (congrArg (V.int .i64) (wrap_s hlt1 (by(first|assumption|omega|(simp only[List.length_cons,List.length_nil,List.length_append,List.length_map];omega)|grind))))<|gO 2<|nx (ih1 a1_0 (by first|omega|(simp only[List.length_append,List.length_cons,List.length_nil];omega)))) (fun h1=>gO 3<|cl (containsTxt_says a1_0 x1.var (by(first|assumption|omega|(simp only[List.length_cons,List.length_nil,List.length_append,List.length_map];omega)|grind)))<|gO 3<|dcn 22 (fun h2=>gO 5<|kw 28 (congrArg (V.int .i64) (wrap_s hlt1 (by(first|assumption|omega|(simp only[List.length_cons,List.length_nil,List.length_append,List.length_map];omega)|grind))))<|gO 2<|nx (ih1 a1_0 (by first|omega|(simp only[List.length_append,List.length_cons,List.length_nil];omega)))) (fun h2=>gO 6<|ap (en:=eS) (L:=a1_0) (M:=[x1.var]) (by simp only[List.length_append,List.length_cons,List.length_nil];unfold lim;omega) (fun _ _=>rfl)<|gO 5<|kw 28 (congrArg (V.int .i64) (wrap_s hlt1 (by(first|assumption|omega|(simp only[List.length_cons,List.length_nil,List.length_append,List.length_map];omega)|grind))))<|gO 2<|nx (ih1 (a1_0 ++ [x1.var]) (by first|omega|(simp only[List.length_append,List.length_cons,List.length_nil];omega)))))) (fun i1 a1_0 hd1 hi1=>have hi1:a1_0.length≤i1:=hi1;have hge1:=drop_ge hd1;gO 5<|dk 10 (lt_false hge1)<|gO 11<|en)
def heavyAtom_l1 (a:Sp.Atom):Nat→List Sp.Term→Unit→Bool
 |i1,[],_=>false
 |i1,x1::xs2,_=>(bif (decide ((x1.var.length:Int)>200)) then true else(bif (decide ((x1.val.s.length:Int)>200)) then true else heavyAtom_l1 a (i1+1) xs2 ()))
def heavyAtom (a:Sp.Atom):Bool:=(bif (decide ((a.name.length:Int)>200)) then true else(bif (decide ((a.args.length:Int)>20)) then true else heavyAtom_l1 a 0 a.args ()))
theorem heavyAtom_says (a:Sp.Atom) (ok_a:a.ok):SaysT TX 38 [eAtom a] (eB (heavyAtom a)):=
 sy (e:=eB) (F:=c38) rfl fun sg=>gO 13<|dp 8 (fun h1=>gO 13<|en) (fun h1=>gO 3<|kw 11 (len_map eTerm a.args)<|gO 3<|dp 13 (fun h2=>gO 7<|en) (fun h2=>gO 8<|rg (β:=Sp.Term) (A:=Unit) (fun i1 _=>{ vals:=[(.bp 0 0 0),(.int .i64 (i1:Int))],fr:=[.box [(.str a.name),(.sl .no 4 (a.args.map eTerm))]],sg:=sg,wd:=0 }) (L:=a.args) (acc0:=()) (fn:=heavyAtom_l1 a) (fun i1 x1 xs2 _ hd1 ih1=>have hlt1:=drop_lt hd1;have hx1:=drop_get hd1;gO 7<|kw 17 (len_map eTerm a.args)<|gO 2<|dk 18 (lt_true hlt1)<|gO 9<|iak eTerm hx1<|gO 5<|dp 29 (fun h3=>gO 22<|en) (fun h3=>gO 3<|iak eTerm hx1<|gO 7<|dp 39 (fun h4=>gO 11<|en) (fun h4=>gO 6<|kw 20 (congrArg (V.int .i64) (wrap_s hlt1 (by(first|assumption|omega|(simp only[List.length_cons,List.length_nil,List.length_append,List.length_map];omega)|grind))))<|gO 2<|nx (ih1 ())))) (fun i1 _ hd1=>have hge1:=drop_ge hd1;gO 7<|kw 17 (len_map eTerm a.args)<|gO 2<|dk 18 (lt_false hge1)<|gO 10<|en)))
def heavyNodes_l1 (l:(List Sp.Node)):Nat→List Sp.Node→Unit→Bool
 |i1,[],_=>false
 |i1,x1::xs2,_=>(bif (heavyAtom x1.atom) then true else heavyNodes_l1 l (i1+1) xs2 ())
def heavyNodes (l:(List Sp.Node)):Bool:=(bif (decide ((l.length:Int)>60)) then true else heavyNodes_l1 l 0 l ())
theorem heavyNodes_says (l:(List Sp.Node)) (okl_l:okL l):SaysT TX 13 [(eL 5 eNode) l] (eB (heavyNodes l)):=
 sy (e:=eB) (F:=c13) rfl fun sg=>gO 9<|kw 5 (len_map eNode l)<|gO 2<|dp 6 (fun h1=>gO 7<|en) (fun h1=>gO 8<|rg (β:=Sp.Node) (A:=Unit) (fun i1 _=>{ vals:=[(.sl .no 5 (l.map eNode)),(.int .i64 (i1:Int))],fr:=[],sg:=sg,wd:=0 }) (L:=l) (acc0:=()) (fn:=heavyNodes_l1 l) (fun i1 x1 xs2 _ hd1 ih1=>have hlt1:=drop_lt hd1;have hx1:=drop_get hd1;gO 6<|kw 9 (len_map eNode l)<|gO 2<|dk 10 (lt_true hlt1)<|gO 8<|iak eNode hx1<|gO 2<|cl (heavyAtom_says x1.atom (by(first|assumption|omega|(simp only[List.length_cons,List.length_nil,List.length_append,List.length_map];omega)|grind)))<|gO 1<|dc 18 (fun h2=>gO 11<|en) (fun h2=>gO 6<|kw 12 (congrArg (V.int .i64) (wrap_s hlt1 (by(first|assumption|omega|(simp only[List.length_cons,List.length_nil,List.length_append,List.length_map];omega)|grind))))<|gO 2<|nx (ih1 ()))) (fun i1 _ hd1=>have hge1:=drop_ge hd1;gO 6<|kw 9 (len_map eNode l)<|gO 2<|dk 10 (lt_false hge1)<|gO 10<|en))
def indexTxtF_l1 (l:(List Txt)) (p:Txt→Bool):Nat→List Txt→Unit→Int
 |i1,[],_=>(-1)
 |i1,x1::xs2,_=>(bif (p x1) then(i1:Int) else indexTxtF_l1 l p (i1+1) xs2 ())
def indexTxtF (l:(List Txt)) (p:Txt→Bool):Int:=indexTxtF_l1 l p 0 l ()
theorem indexTxtF_in {sg:List Fr} {g_p:FuncId} {a_p b_p:List V} (l:(List Txt)) (p:Txt→Bool) (h_l:l.length≤140737488351232) (hp_p:∀ x,x∈l→∀ f0:Fr,TX.call g_p ((a_p ++ [eS x]++b_p).map (argV (TX.C.keepA g_p))) (f0::sg)=some (eB (p x),f0::sg,0)):TX.call 189 [(eL 1 eS) l,.fn g_p a_p b_p] sg=some (eI (indexTxtF l p),sg,0):=
 sx (e:=fun r=>(eI r,sg,0)) (F:=c189) rfl<|gO 9<|kw 7 (len_map eS l)<|gO 3<|rg (β:=Txt) (A:=Unit) (fun i1 _=>{ vals:=[(.sl .no 1 (l.map eS)),(.fn g_p a_p b_p),(.int .i64 (l.length:Int)),(.int .i64 (i1:Int))],fr:=[],sg:=sg,wd:=0 }) (L:=l) (acc0:=()) (fn:=indexTxtF_l1 l p) (fun i1 x1 xs2 _ hd1 ih1=>have hlt1:=drop_lt hd1;have hx1:=drop_get hd1;gO 5<|dk 9 (lt_true hlt1)<|gO 14<|iak eS hx1<|gO 1<|cli (hp_p x1 (List.mem_of_getElem? hx1) _)<|gO 1<|dc 16 (fun h1=>gO 12<|en) (fun h1=>gO 5<|kw 18 (congrArg (V.int .i64) (wrap_s hlt1 (by(first|assumption|omega|(simp only[List.length_cons,List.length_nil,List.length_append,List.length_map];omega)|grind))))<|gO 2<|nx (ih1 ()))) (fun i1 _ hd1=>have hge1:=drop_ge hd1;gO 5<|dk 9 (lt_false hge1)<|gO 10<|en)
def containsTxtF (l:(List Txt)) (p:Txt→Bool):Bool:=(decide ((indexTxtF l p)≥0))
theorem containsTxtF_in {sg:List Fr} {g_p:FuncId} {a_p b_p:List V} (l:(List Txt)) (p:Txt→Bool) (h_l:l.length≤140737488351232) (hp_p:∀ x,x∈l→∀ f0 f1:Fr,TX.call g_p (((a_p.map (sh0 1)) ++ [eS x]++(b_p.map (sh0 1))).map (argV (TX.C.keepA g_p))) (f1::f0::sg)=some (eB (p x),f1::f0::sg,0)):TX.call 124 [(eL 1 eS) l,.fn g_p a_p b_p] sg=some (eB (containsTxtF l p),sg,0):=
 sx (e:=fun r=>(eB r,sg,0)) (F:=c124) rfl<|gO 8<|cli (indexTxtF_in (g_p:=g_p) (a_p:=a_p.map (sh0 1)) (b_p:=b_p.map (sh0 1)) l p (by(first|assumption|omega|(simp only[List.length_cons,List.length_nil,List.length_append,List.length_map];omega)|grind)) (fun x hm f0_=>hp_p x hm _ f0_))<|gO 4<|en
def safeWithin1 (s:Txt) (f:(List Txt)):Bool:=(!(containsTxt f s))
theorem safeWithin1_in (s:Txt) (f:(List Txt)) (h1:f.length≤140737488351232) {sg:List Fr} {d_f i_f:Nat} (hg_f:(sg[d_f]?).bind (·[i_f]?)=some (.box [(.sl .no 1 (f.map eS))])):TX.call 125 [eS s,.bp (d_f+1) i_f 0] sg=some (eB (safeWithin1 s f),sg,0):=
 sx (e:=fun r=>(eB r,sg,0)) (F:=c125) rfl<|gO 6<|ldo (ag:=false) (sz:=1) (o:=0) (v:=(.sl .no 1 (f.map eS))) hg_f (by kernel_rfl)<|gO 1<|cl (containsTxt_says f s (by(first|assumption|omega|(simp only[List.length_cons,List.length_nil,List.length_append,List.length_map];omega)|grind)))<|gO 4<|en
def safeWithin (l:(List Txt)) (f:(List Txt)):Bool:=(!(containsTxtF l (fun x=>safeWithin1 x f)))
theorem safeWithin_says (l:(List Txt)) (f:(List Txt)) (h_l:l.length≤140737488351232) (h_f:f.length≤140737488351232):SaysT TX 64 [(eL 1 eS) l,(eL 1 eS) f] (eB (safeWithin l f)):=
 sy (e:=eB) (F:=c64) rfl fun sg=>gO 9<|cli (containsTxtF_in (g_p:=125) (a_p:=[]) (b_p:=[(.bp 1 0 0)]) l (fun x=>safeWithin1 x f) (by(first|assumption|omega|(simp only[List.length_cons,List.length_nil,List.length_append,List.length_map];omega)|grind)) (fun x hm f0_ f1_=>safeWithin1_in x f (by first|(first|assumption|omega|(simp only[List.length_cons,List.length_nil,List.length_append,List.length_map];omega)|grind)|(omega)) (by kernel_rfl)))<|gO 4<|en
def formulaArms (k:Int):Int:=(bif (k == 1) then 0 else(bif (k == 2) then 1 else(bif (k == 5) then 1 else(bif (k == 6) then 1 else(bif (k == 7) then 1 else(bif (k == 3) then 2 else(bif (k == 4) then 2 else(bif (k == 8) then 2 else(-1)))))))))
theorem formulaArms_says (k:Int)  : SaysT TX 261 [eI k] (eI (formulaArms k)):=
 sy (e:=eI) (F:=c261) rfl fun sg=>gO 15<|dq 4 (fun h1=>gO 8<|en) (fun h1=>gO 7<|dq 6 (fun h2=>gO 10<|en) (fun h2=>gO 6<|dq 6 (fun h3=>gO 10<|en) (fun h3=>gO 6<|dq 6 (fun h4=>gO 10<|en) (fun h4=>gO 5<|dq 6 (fun h5=>gO 8<|en) (fun h5=>gO 7<|dq 11 (fun h6=>gO 10<|en) (fun h6=>gO 6<|dq 11 (fun h7=>gO 10<|en) (fun h7=>gO 5<|dq 11 (fun h8=>gO 8<|en) (fun h8=>gO 8<|en))))))))
def formulaEmpty (a:Sp.Atom):Bool:=(bif (a.name == ([]:Txt)) then((a.args.length:Int) == 0) else false)
theorem formulaEmpty_says (a:Sp.Atom)  : SaysT TX 262 [eAtom a] (eB (formulaEmpty a)):=
 sy (e:=eB) (F:=c262) rfl fun sg=>gO 11<|dq 6 (fun h1=>gO 3<|kw 9 (len_map eTerm a.args)<|gO 5<|en) (fun h1=>gO 8<|en)
end Go.Vm
/- What functions of the program answer. Printed by spec2.py. -/
namespace Go.Vm
open Go Go.Sp
set_option maxRecDepth 100000
set_option maxHeartbeats 4000000
def formulaFroms_l1 (l:(List Sp.Node)):Nat→List Sp.Node→(List Int) × (List Int)→(List Int) × (List Int) × Bool
 |i1,[],⟨a1_0,a1_1⟩=>(a1_0,a1_1,true)
 |i1,x1::xs2,⟨a1_0,a1_1⟩=>(bif ((formulaArms x1.kind) == 0) then(bif (x1.a == 0) then(bif (x1.b == 0) then(bif ((matchCheck x1.atom) == 0) then formulaFroms_l1 l (i1+1) xs2 ((a1_0 ++ [(i1:Int)]),(a1_1 ++ [1])) else(([]:(List Int)),([]:(List Int)),false)) else(([]:(List Int)),([]:(List Int)),false)) else(([]:(List Int)),([]:(List Int)),false)) else(bif ((formulaArms x1.kind) == 1) then(bif (decide ((i1:Int)<1)) then(([]:(List Int)),([]:(List Int)),false) else(bif (x1.a == ((i1:Int)-1)) then(bif (x1.b == 0) then(bif (formulaEmpty x1.atom) then(onS a1_0[((i1:Int)-1).toNat]? (fun y3=>(onS a1_1[((i1:Int)-1).toNat]? (fun y4=>formulaFroms_l1 l (i1+1) xs2 ((a1_0 ++ [y3]),(a1_1 ++ [(y4+1)]))) default)) default) else(([]:(List Int)),([]:(List Int)),false)) else(([]:(List Int)),([]:(List Int)),false)) else(([]:(List Int)),([]:(List Int)),false))) else(bif ((formulaArms x1.kind) == 2) then(bif (decide ((i1:Int)<1)) then(([]:(List Int)),([]:(List Int)),false) else(bif (x1.b == ((i1:Int)-1)) then(onS a1_0[((i1:Int)-1).toNat]? (fun y5=>(bif (decide (y5<1)) then(([]:(List Int)),([]:(List Int)),false) else(bif (x1.a == (y5-1)) then(bif (formulaEmpty x1.atom) then(onS a1_0[x1.a.toNat]? (fun y6=>(onS a1_1[x1.a.toNat]? (fun y7=>(onS a1_1[x1.b.toNat]? (fun y8=>formulaFroms_l1 l (i1+1) xs2 ((a1_0 ++ [y6]),(a1_1 ++ [((bif decide (y8>y7) then y8 else y7)+1)]))) default)) default)) default) else(([]:(List Int)),([]:(List Int)),false)) else(([]:(List Int)),([]:(List Int)),false)))) default) else(([]:(List Int)),([]:(List Int)),false))) else(([]:(List Int)),([]:(List Int)),false))))
def formulaFroms (l:(List Sp.Node)):(List Int) × (List Int) × Bool:=formulaFroms_l1 l 0 l (([]:List Int),([]:List Int))
theorem formulaFroms_says (l:(List Sp.Node)) (ok_l:okL l) (h1:l.length≤1000000):SaysT TX 209 [(eL 5 eNode) l] ((eP3 (eL 1 eI) (eL 1 eI) eB) (formulaFroms l)):=
 sy (e:=(eP3 (eL 1 eI) (eL 1 eI) eB)) (F:=c209) rfl fun sg=>gO 11<|kw 8 (len_map eNode l)<|gO 3<|rgI (β:=Sp.Node) (A:=(List Int) × (List Int)) (fun i1 ⟨a1_0,a1_1⟩=>a1_0.length=i1∧a1_1.length=i1∧(∀ (j:Nat) (y:Int),a1_0[j]? = some y→0≤y∧y≤j)∧(∀ (j:Nat) (y:Int),a1_1[j]? = some y→1≤y∧y≤j+1)) (fun i1 (acc:(List Int) × (List Int))=>{ vals:=[(.sl (.at 0 0 acc.1.length) 1 (acc.1.map eI)),(.sl (.at 0 1 acc.2.length) 1 (acc.2.map eI)),(.sl .no 5 (l.map eNode)),(.int .i64 (l.length:Int)),(.int .i64 (i1:Int))],fr:=[.tok acc.1.length,.tok acc.2.length],sg:=sg,wd:=0 }) (L:=l) (acc0:=(([]:List Int),([]:List Int))) (fn:=formulaFroms_l1 l) (by simp) (fun i1 x1 xs2 ⟨a1_0,a1_1⟩ hd1 hi1 ih1=>have hi1:a1_0.length=i1∧a1_1.length=i1∧(∀ (j:Nat) (y:Int),a1_0[j]? = some y→0≤y∧y≤j)∧(∀ (j:Nat) (y:Int),a1_1[j]? = some y→1≤y∧y≤j+1):=hi1;have hlt1:=drop_lt hd1;have hx1:=drop_get hd1;have ok_x1:=okL.get ok_l hx1;have b_x1:=okL.b ok_l hx1;gO 5<|dk 10 (lt_true hlt1)<|gO 7<|iak eNode hx1<|gO 9<|cl (formulaArms_says x1.kind)<|gO 7<|dq 17 (fun h1=>gO 8<|dqn 22 (fun h2=>gO 5<|dqn 27 (fun h3=>gO 2<|cl (matchCheck_says x1.atom (by first|omega|exact ok_x1.atom))<|gO 3<|dqn 32 (fun h4=>gO 6<|ap (en:=eI) (L:=a1_0) (M:=[(i1:Int)]) (by simp only[List.length_append,List.length_cons,List.length_nil];unfold lim;omega) (fun _ _=>rfl)<|gO 2<|ap (en:=eI) (L:=a1_1) (M:=[1]) (by simp only[List.length_append,List.length_cons,List.length_nil];unfold lim;omega) (fun _ _=>rfl)<|gO 7<|kw 138 (congrArg (V.int .i64) (wrap_s hlt1 (by first|omega|exact ok_x1.atom)))<|gO 2<|nx (ih1 ((a1_0 ++ [(i1:Int)]),(a1_1 ++ [1])) (by refine⟨by simp only[List.length_append,List.length_cons,List.length_nil];omega,by simp only[List.length_append,List.length_cons,List.length_nil];omega,all_snoc hi1.2.2.1 ?_,all_snoc hi1.2.2.2 ?_⟩<;>(try simp only[Bool.cond_decide])<;>(try split)<;>omega))) (fun h4=>gO 15<|en)) (fun h3=>gO 21<|en)) (fun h2=>gO 26<|en)) (fun h1=>gO 6<|dq 40 (fun h5=>gO 7<|dp 44 (fun h6=>gO 33<|en) (fun h6=>gO 4<|kw 48 (congrArg (V.int .i64) (wrap_id (n:=(i1:Int)-1) (by first|omega|(simp only[Bool.cond_decide];split<;>omega)) (by first|omega|(simp only[Bool.cond_decide];split<;>omega))))<|gO 3<|dqn 51 (fun h7=>gO 5<|dqn 56 (fun h8=>gO 2<|cl (formulaEmpty_says x1.atom)<|gO 3<|dcn 61 (fun h9=>gO 7<|kw 65 (congrArg (V.int .i64) (wrap_id (n:=(i1:Int)-1) (by first|omega|(simp only[Bool.cond_decide];split<;>omega)) (by first|omega|(simp only[Bool.cond_decide];split<;>omega))))<|kw 65 (toNat_v (n:=((i1:Int)-1)) (by first|omega|exact ok_x1.atom))<|ia (en:=eI) (by first|omega|exact ok_x1.atom) fun y3 h10=>have f_y3:=hi1.2.2.1 _ _ h10;gO 6<|kw 73 (congrArg (V.int .i64) (wrap_id (n:=(i1:Int)-1) (by first|omega|(simp only[Bool.cond_decide];split<;>omega)) (by first|omega|(simp only[Bool.cond_decide];split<;>omega))))<|kw 73 (toNat_v (n:=((i1:Int)-1)) (by first|omega|exact ok_x1.atom))<|ia (en:=eI) (by first|omega|exact ok_x1.atom) fun y4 h11=>have f_y4:=hi1.2.2.2 _ _ h11;gO 2<|kw 76 (congrArg (V.int .i64) (wrap_id (n:=y4+1) (by first|omega|(simp only[Bool.cond_decide];split<;>omega)) (by first|omega|(simp only[Bool.cond_decide];split<;>omega))))<|gO 1<|apm (en:=eI) (L:=a1_0) (M:=[y3]) (re:=[12,13]) (by simp only[List.length_append,List.length_cons,List.length_nil];unfold lim;omega) (fun _ _=>rfl) ⟨ri eI h11,rr,trivial⟩<|apm (en:=eI) (L:=a1_1) (M:=[(y4+1)]) (re:=[]) (by simp only[List.length_append,List.length_cons,List.length_nil];unfold lim;omega) (fun _ _=>rfl) trivial<|gO 7<|kw 138 (congrArg (V.int .i64) (wrap_s hlt1 (by first|omega|exact ok_x1.atom)))<|gO 2<|nx (ih1 ((a1_0 ++ [y3]),(a1_1 ++ [(y4+1)])) (by refine⟨by simp only[List.length_append,List.length_cons,List.length_nil];omega,by simp only[List.length_append,List.length_cons,List.length_nil];omega,all_snoc hi1.2.2.1 ?_,all_snoc hi1.2.2.2 ?_⟩<;>(try simp only[Bool.cond_decide])<;>(try split)<;>omega))) (fun h9=>gO 15<|en)) (fun h8=>gO 21<|en)) (fun h7=>gO 26<|en))) (fun h5=>gO 6<|dq 79 (fun h12=>gO 7<|dp 83 (fun h13=>gO 47<|en) (fun h13=>gO 4<|kw 87 (congrArg (V.int .i64) (wrap_id (n:=(i1:Int)-1) (by first|omega|(simp only[Bool.cond_decide];split<;>omega)) (by first|omega|(simp only[Bool.cond_decide];split<;>omega))))<|gO 3<|dqn 90 (fun h14=>gO 3<|kw 93 (congrArg (V.int .i64) (wrap_id (n:=(i1:Int)-1) (by first|omega|(simp only[Bool.cond_decide];split<;>omega)) (by first|omega|(simp only[Bool.cond_decide];split<;>omega))))<|kw 93 (toNat_v (n:=((i1:Int)-1)) (by first|omega|exact ok_x1.atom))<|ia (en:=eI) (by first|omega|exact ok_x1.atom) fun y5 h15=>have f_y5:=hi1.2.2.1 _ _ h15;gO 4<|dp 98 (fun h16=>gO 32<|en) (fun h16=>gO 5<|kw 103 (congrArg (V.int .i64) (wrap_id (n:=(i1:Int)-1) (by first|omega|(simp only[Bool.cond_decide];split<;>omega)) (by first|omega|(simp only[Bool.cond_decide];split<;>omega))))<|kw 103 (toNat_v (n:=((i1:Int)-1)) (by first|omega|exact ok_x1.atom))<|iak eI h15<|gO 2<|kw 106 (congrArg (V.int .i64) (wrap_id (n:=y5-1) (by first|omega|(simp only[Bool.cond_decide];split<;>omega)) (by first|omega|(simp only[Bool.cond_decide];split<;>omega))))<|gO 3<|dqn 109 (fun h17=>gO 2<|cl (formulaEmpty_says x1.atom)<|gO 3<|dcn 114 (fun h18=>gO 7<|kw 118 (toNat_v (n:=x1.a) (by first|omega|exact ok_x1.atom))<|ia (en:=eI) (by first|omega|exact ok_x1.atom) fun y6 h19=>have f_y6:=hi1.2.2.1 _ _ h19;gO 6<|kw 126 (toNat_v (n:=x1.a) (by first|omega|exact ok_x1.atom))<|ia (en:=eI) (by first|omega|exact ok_x1.atom) fun y7 h20=>have f_y7:=hi1.2.2.2 _ _ h20;gO 4<|kw 131 (toNat_v (n:=x1.b) (by first|omega|exact ok_x1.atom))<|ia (en:=eI) (by first|omega|exact ok_x1.atom) fun y8 h21=>have f_y8:=hi1.2.2.2 _ _ h21;gO 3<|kw 135 (congrArg (V.int .i64) (wrap_id (n:=(bif decide (y8>y7) then y8 else y7)+1) (by first|omega|(simp only[Bool.cond_decide];split<;>omega)) (by first|omega|(simp only[Bool.cond_decide];split<;>omega))))<|gO 1<|apm (en:=eI) (L:=a1_0) (M:=[y6]) (re:=[11,12,13,16,17,18]) (by simp only[List.length_append,List.length_cons,List.length_nil];unfold lim;omega) (fun _ _=>rfl) ⟨rk (toNat_v (n:=x1.a) (by first|omega|exact ok_x1.atom)),ri eI h20,rr,rk (toNat_v (n:=x1.b) (by first|omega|exact ok_x1.atom)),ri eI h21,rr,trivial⟩<|apm (en:=eI) (L:=a1_1) (M:=[((bif decide (y8>y7) then y8 else y7)+1)]) (re:=[]) (by simp only[List.length_append,List.length_cons,List.length_nil];unfold lim;omega) (fun _ _=>rfl) trivial<|gO 7<|kw 138 (congrArg (V.int .i64) (wrap_s hlt1 (by first|omega|exact ok_x1.atom)))<|gO 2<|nx (ih1 ((a1_0 ++ [y6]),(a1_1 ++ [((bif decide (y8>y7) then y8 else y7)+1)])) (by refine⟨by simp only[List.length_append,List.length_cons,List.length_nil];omega,by simp only[List.length_append,List.length_cons,List.length_nil];omega,all_snoc hi1.2.2.1 ?_,all_snoc hi1.2.2.2 ?_⟩<;>(try simp only[Bool.cond_decide])<;>(try split)<;>omega))) (fun h18=>gO 15<|en)) (fun h17=>gO 21<|en))) (fun h14=>gO 40<|en))) (fun h12=>gO 14<|en)))) (fun i1 ⟨a1_0,a1_1⟩ hd1 hi1=>have hi1:a1_0.length=i1∧a1_1.length=i1∧(∀ (j:Nat) (y:Int),a1_0[j]? = some y→0≤y∧y≤j)∧(∀ (j:Nat) (y:Int),a1_1[j]? = some y→1≤y∧y≤j+1):=hi1;have hge1:=drop_ge hd1;gO 5<|dk 10 (lt_false hge1)<|gO 14<|en)
end Go.Vm
/-
  What it means that formula.froms finds a formula right.
-/
namespace Go.Vm
open Go Go.Sp
def Nd (F:List Int) (j:Nat) (x:Sp.Node):Prop:=
 (x.kind=1∧x.a=0∧x.b=0∧matchCheck x.atom=0∧F[j]? = some (j:Int)) ∨
 ((x.kind=2∨x.kind=5∨x.kind=6∨x.kind=7)∧1≤j∧x.a=(j:Int)-1∧x.b=0∧formulaEmpty x.atom=true∧F[j]? = F[j-1]?) ∨
 ((x.kind=3∨x.kind=4∨x.kind=8)∧1≤j∧x.b=(j:Int)-1∧∃ y:Int,F[j-1]? = some y∧1≤y∧x.a=y-1∧formulaEmpty x.atom=true∧F[j]? = F[x.a.toNat]?)
theorem arms_cases (k:Int):(k=1∧formulaArms k=0)∨((k=2∨k=5∨k=6∨k=7)∧formulaArms k=1)∨((k=3∨k=4∨k=8)∧formulaArms k=2)∨formulaArms k = -1:=by
 by_cases h1:k=1
 ·subst h1;exact .inl ⟨rfl,rfl⟩
 by_cases h2:k=2
 ·subst h2;exact .inr (.inl ⟨by omega,rfl⟩)
 by_cases h5:k=5
 ·subst h5;exact .inr (.inl ⟨by omega,rfl⟩)
 by_cases h6:k=6
 ·subst h6;exact .inr (.inl ⟨by omega,rfl⟩)
 by_cases h7:k=7
 ·subst h7;exact .inr (.inl ⟨by omega,rfl⟩)
 by_cases h3:k=3
 ·subst h3;exact .inr (.inr (.inl ⟨by omega,rfl⟩))
 by_cases h4:k=4
 ·subst h4;exact .inr (.inr (.inl ⟨by omega,rfl⟩))
 by_cases h8:k=8
 ·subst h8;exact .inr (.inr (.inl ⟨by omega,rfl⟩))
 refine .inr (.inr (.inr ?_))
 unfold formulaArms
 have e:∀ n:Int,k≠n→(k == n)=false:=fun n h=>by simpa using h
 rw[e 1 h1,e 2 h2,e 5 h5,e 6 h6,e 7 h7,e 3 h3,e 4 h4,e 8 h8]
 rfl
theorem no_froms {F D:List Int} {p:List Int × List Int × Bool} (h:p=(F,D,true)) (e:p.2.2=false):False:=by
 rw[h] at e;cases e
theorem froms_l1_ok (l:List Sp.Node):∀ (xs:List Sp.Node) (i:Nat) (f d F D:List Int),formulaFroms_l1 l i xs (f,d)=(F,D,true)→f.length=i→d.length=i→(∀ (j:Nat) (y:Int),f[j]? = some y→0≤y∧y≤(j:Int)) →
  F.length=i+xs.length∧D.length=i+xs.length∧(∀ (j:Nat) (y:Int),F[j]? = some y→0≤y∧y≤(j:Int))∧(∀ j,j<i→F[j]? = f[j]?)∧∀ (k:Nat) (x:Sp.Node),xs[k]? = some x→Nd F (i+k) x
 | [],i,f,d,F,D,h,hf,hd,hy=>by
  simp only[formulaFroms_l1,Prod.mk.injEq,and_true] at h
  obtain⟨rfl,rfl⟩:=h
  exact⟨by simpa using hf,by simpa using hd,hy,fun _ _=>rfl,fun k x hk=>by simp at hk⟩
 |x::xs,i,f,d,F,D,h,hf,hd,hy=>by
  have step:∀ (z dz:Int),0≤z→z≤(i:Int)→formulaFroms_l1 l (i+1) xs (f ++ [z],d ++ [dz])=(F,D,true)→(F[i]? = some z→(∀ j,j<i→F[j]? = f[j]?)→Nd F i x) →
    F.length=i+(x::xs).length∧D.length=i+(x::xs).length∧(∀ (j:Nat) (y:Int),F[j]? = some y→0≤y∧y≤(j:Int))∧(∀ j,j<i→F[j]? = f[j]?)∧∀ (k:Nat) (y:Sp.Node),(x::xs)[k]? = some y→Nd F (i+k) y:=by
   intro z dz h0 h1 h2 h3
   obtain⟨a1,a2,a3,a4,a5⟩:=froms_l1_ok l xs (i+1) _ _ F D h2 (by simp[hf]) (by simp[hd]) (all_snoc (P:=fun(j:Nat) (y:Int)=>0≤y∧y≤(j:Int)) hy (by rw[hf];exact⟨h0,h1⟩))
   have e4:∀ j,j<i→F[j]? = f[j]?:=fun j hj=>by rw[a4 j (by omega),List.getElem?_append_left (by omega)]
   have e5:F[i]? = some z:=by
    rw[a4 i (by omega),List.getElem?_append_right (by omega),hf,Nat.sub_self];rfl
   refine⟨by rw[a1,List.length_cons];omega,by rw[a2,List.length_cons];omega,a3,e4,fun k y hk=>?_⟩
   cases k with
   |zero=>
    simp only[List.getElem?_cons_zero,Option.some.injEq] at hk
    subst hk;exact h3 e5 e4
   |succ k=>
    have:=a5 k y (by simpa using hk)
    rwa [show i+1+k=i+(k+1) by omega] at this
  rw[formulaFroms_l1] at h
  rcases arms_cases x.kind with⟨hk,ha⟩|⟨hk,ha⟩|⟨hk,ha⟩|ha
  ·rw[ha,show((0:Int) == 0)=true from rfl,cond_true] at h
   cases c2:(x.a == 0) with
   |false=>rw[c2] at h;exact(no_froms h rfl).elim
   |true=>
   cases c3:(x.b == 0) with
   |false=>rw[c2,c3] at h;exact(no_froms h rfl).elim
   |true=>
   cases c4:(matchCheck x.atom == 0) with
   |false=>rw[c2,c3,c4] at h;exact(no_froms h rfl).elim
   |true=>
   rw[c2,c3,c4] at h
   exact step i 1 (by omega) (Int.le_refl _) h fun e _=>.inl ⟨hk,by simpa using c2,by simpa using c3,by simpa using c4,e⟩
  ·rw[ha,show((1:Int) == 0)=false from rfl,show((1:Int) == 1)=true from rfl,cond_false,cond_true] at h
   cases c1:decide ((i:Int)<1) with
   |true=>rw[c1] at h;exact(no_froms h rfl).elim
   |false=>
   cases c2:(x.a == (i:Int)-1) with
   |false=>rw[c1,c2] at h;exact(no_froms h rfl).elim
   |true=>
   cases c3:(x.b == 0) with
   |false=>rw[c1,c2,c3] at h;exact(no_froms h rfl).elim
   |true=>
   cases c4:formulaEmpty x.atom with
   |false=>rw[c1,c2,c3,c4] at h;exact(no_froms h rfl).elim
   |true=>
   rw[c1,c2,c3,c4] at h
   simp only[cond_true,cond_false] at h
   have hi:((i:Int)-1).toNat=i-1:=by omega
   have hi1:1≤i:=by have:=of_decide_eq_false c1;omega
   rw[hi] at h
   cases c5:f[i-1]? with
   |none=>rw[c5] at h;exact(no_froms h rfl).elim
   |some y3=>
   cases c6:d[i-1]? with
   |none=>rw[c5,c6] at h;exact(no_froms h rfl).elim
   |some y4=>
   rw[c5,c6] at h
   obtain⟨q1,q2⟩:=hy _ _ c5
   exact step y3 (y4+1) q1 (by omega) h fun e e4=>.inr (.inl ⟨hk,hi1,by simpa using c2,by simpa using c3,c4,by rw[e,e4 (i-1) (by omega),c5]⟩)
  ·rw[ha,show((2:Int) == 0)=false from rfl,show((2:Int) == 1)=false from rfl,show((2:Int) == 2)=true from rfl,cond_false,cond_false,cond_true] at h
   cases c1:decide ((i:Int)<1) with
   |true=>rw[c1] at h;exact(no_froms h rfl).elim
   |false=>
   cases c2:(x.b == (i:Int)-1) with
   |false=>rw[c1,c2] at h;exact(no_froms h rfl).elim
   |true=>
   rw[c1,c2] at h
   simp only[cond_true,cond_false] at h
   have hi:((i:Int)-1).toNat=i-1:=by omega
   have hi1:1≤i:=by have:=of_decide_eq_false c1;omega
   rw[hi] at h
   cases c5:f[i-1]? with
   |none=>rw[c5] at h;exact(no_froms h rfl).elim
   |some y5=>
   rw[c5] at h
   simp only[onS] at h
   cases c6:decide (y5<1) with
   |true=>rw[c6] at h;exact(no_froms h rfl).elim
   |false=>
   cases c7:(x.a == y5-1) with
   |false=>rw[c6,c7] at h;exact(no_froms h rfl).elim
   |true=>
   cases c4:formulaEmpty x.atom with
   |false=>rw[c6,c7,c4] at h;exact(no_froms h rfl).elim
   |true=>
   rw[c6,c7,c4] at h
   simp only[cond_true,cond_false] at h
   have h7:x.a=y5-1:=by simpa using c7
   have h6:=of_decide_eq_false c6
   obtain⟨q1,q2⟩:=hy _ _ c5
   cases c8:f[x.a.toNat]? with
   |none=>rw[c8] at h;exact(no_froms h rfl).elim
   |some y6=>
   rw[c8] at h
   simp only[] at h
   cases c9:d[x.a.toNat]? with
   |none=>rw[c9] at h;exact(no_froms h rfl).elim
   |some y7=>
   rw[c9] at h
   simp only[] at h
   cases c10:d[x.b.toNat]? with
   |none=>rw[c10] at h;exact(no_froms h rfl).elim
   |some y8=>
   rw[c10] at h
   obtain⟨q3,q4⟩:=hy _ _ c8
   exact step y6 _ q3 (by omega) h fun e e4=>.inr (.inr ⟨hk,hi1,by simpa using c2,y5,by rw[e4 (i-1) (by omega),c5],by omega,h7,c4,by rw[e,e4 x.a.toNat (by omega),c8]⟩)
  ·rw[ha] at h
   exact(no_froms h rfl).elim
theorem froms_ok {l:List Sp.Node} (h:(formulaFroms l).2.2=true):(formulaFroms l).1.length=l.length∧(formulaFroms l).2.1.length=l.length∧(∀ (j:Nat) (y:Int),(formulaFroms l).1[j]? = some y→0≤y∧y≤(j:Int)) ∧
  ∀ (j:Nat) (x:Sp.Node),l[j]? = some x→Nd (formulaFroms l).1 j x:=by
 have e:formulaFroms_l1 l 0 l ([],[])=((formulaFroms l).1,(formulaFroms l).2.1,true):=by
  show formulaFroms l=_
  rw[← h]
 obtain⟨a1,a2,a3,_,a5⟩:=froms_l1_ok l l 0 [] [] _ _ e rfl rfl (fun j y hy=>by simp at hy)
 exact⟨by simpa using a1,by simpa using a2,a3,fun j x hx=>by simpa using a5 j x hx⟩
theorem froms_len (l:List Sp.Node) (h:(formulaFroms l).2.2=true):(formulaFroms l).1.length=l.length∧(formulaFroms l).2.1.length=l.length:=⟨(froms_ok h).1,(froms_ok h).2.1⟩
end Go.Vm
/- What functions of the program answer. Printed by spec2.py. -/
namespace Go.Vm
open Go Go.Sp
set_option maxRecDepth 100000
set_option maxHeartbeats 4000000
def formulaCheck (l:(List Sp.Node)):Int:=(bif (decide ((l.length:Int)<1)) then 17 else(bif (decide ((l.length:Int)>40)) then 17 else(bif (formulaFroms l).2.2 then(onS ((formulaFroms l).1)[((l.length:Int)-1).toNat]? (fun y1=>(bif (y1 == 0) then(onS ((formulaFroms l).2.1)[((l.length:Int)-1).toNat]? (fun y2=>(bif (decide (y2>12)) then 17 else 0)) default) else 17)) default) else 17)))
theorem formulaCheck_says (l:(List Sp.Node)) (ok_l:okL l):SaysT TX 140 [(eL 5 eNode) l] (eI (formulaCheck l)):=
 sy (e:=eI) (F:=c140) rfl fun sg=>gO 8<|kw 8 (len_map eNode l)<|gO 8<|dp 11 (fun h1=>gO 11<|en) (fun h1=>gO 4<|dp 14 (fun h2=>gO 7<|en) (fun h2=>gO 5<|cl (formulaFroms_says l (by first|assumption|omega|(have q:=froms_len _ (by assumption);omega)|simp) (by first|assumption|omega|(have q:=froms_len _ (by assumption);omega)|simp))<|gO 14<|dcn 23 (fun h3=>gO 3<|kw 26 (congrArg (V.int .i64) (wrap_id (n:=(l.length:Int)-1) (by omega) (by omega)))<|kw 26 (toNat_v (n:=((l.length:Int)-1)) (by first|assumption|omega|(have q:=froms_len _ (by assumption);omega)|simp))<|ia (en:=eI) (by first|assumption|omega|(have q:=froms_len _ (by assumption);omega)|simp) fun y1 h4=>gO 4<|dqn 31 (fun h5=>gO 3<|kw 34 (congrArg (V.int .i64) (wrap_id (n:=(l.length:Int)-1) (by omega) (by omega)))<|kw 34 (toNat_v (n:=((l.length:Int)-1)) (by first|assumption|omega|(have q:=froms_len _ (by assumption);omega)|simp))<|ia (en:=eI) (by first|assumption|omega|(have q:=froms_len _ (by assumption);omega)|simp) fun y2 h6=>gO 4<|dp 38 (fun h7=>gO 7<|en) (fun h7=>gO 7<|en)) (fun h5=>gO 15<|en)) (fun h3=>gO 23<|en)))
end Go.Vm
/- What functions of the program answer. Printed by spec2.py. -/
namespace Go.Vm
open Go Go.Sp
set_option maxRecDepth 100000
set_option maxHeartbeats 4000000
def indexOps_l1 (l:(List (List Sp.Op))) (p:(List Sp.Op)→Bool):Nat→List (List Sp.Op)→Unit→Int
 |i1,[],_=>(-1)
 |i1,x1::xs2,_=>(bif (p x1) then(i1:Int) else indexOps_l1 l p (i1+1) xs2 ())
def indexOps (l:(List (List Sp.Op))) (p:(List Sp.Op)→Bool):Int:=indexOps_l1 l p 0 l ()
theorem indexOps_in {sg:List Fr} {g_p:FuncId} {a_p b_p:List V} (l:(List (List Sp.Op))) (p:(List Sp.Op)→Bool) (h_l:l.length≤140737488351232) (hp_p:∀ x,x∈l→∀ f0:Fr,TX.call g_p ((a_p ++ [(eL 5 eOp) x]++b_p).map (argV (TX.C.keepA g_p))) (f0::sg)=some (eB (p x),f0::sg,0)):TX.call 126 [(eL 1 (eL 5 eOp)) l,.fn g_p a_p b_p] sg=some (eI (indexOps l p),sg,0):=
 sx (e:=fun r=>(eI r,sg,0)) (F:=c126) rfl<|gO 9<|kw 7 (len_map (eL 5 eOp) l)<|gO 3<|rg (β:=(List Sp.Op)) (A:=Unit) (fun i1 _=>{ vals:=[(.sl .no 1 (l.map (eL 5 eOp))),(.fn g_p a_p b_p),(.int .i64 (l.length:Int)),(.int .i64 (i1:Int))],fr:=[],sg:=sg,wd:=0 }) (L:=l) (acc0:=()) (fn:=indexOps_l1 l p) (fun i1 x1 xs2 _ hd1 ih1=>have hlt1:=drop_lt hd1;have hx1:=drop_get hd1;gO 5<|dk 9 (lt_true hlt1)<|gO 14<|iak (eL 5 eOp) hx1<|gO 1<|cli (hp_p x1 (List.mem_of_getElem? hx1) _)<|gO 1<|dc 16 (fun h1=>gO 12<|en) (fun h1=>gO 5<|kw 18 (congrArg (V.int .i64) (wrap_s hlt1 (by(first|assumption|omega|(simp only[List.length_cons,List.length_nil,List.length_append,List.length_map];omega)|grind))))<|gO 2<|nx (ih1 ()))) (fun i1 _ hd1=>have hge1:=drop_ge hd1;gO 5<|dk 9 (lt_false hge1)<|gO 10<|en)
def containsOps (l:(List (List Sp.Op))) (p:(List Sp.Op)→Bool):Bool:=(decide ((indexOps l p)≥0))
theorem containsOps_in {sg:List Fr} {g_p:FuncId} {a_p b_p:List V} (l:(List (List Sp.Op))) (p:(List Sp.Op)→Bool) (h_l:l.length≤140737488351232) (hp_p:∀ x,x∈l→∀ f0 f1:Fr,TX.call g_p (((a_p.map (sh0 1)) ++ [(eL 5 eOp) x]++(b_p.map (sh0 1))).map (argV (TX.C.keepA g_p))) (f1::f0::sg)=some (eB (p x),f1::f0::sg,0)):TX.call 65 [(eL 1 (eL 5 eOp)) l,.fn g_p a_p b_p] sg=some (eB (containsOps l p),sg,0):=
 sx (e:=fun r=>(eB r,sg,0)) (F:=c65) rfl<|gO 8<|cli (indexOps_in (g_p:=g_p) (a_p:=a_p.map (sh0 1)) (b_p:=b_p.map (sh0 1)) l p (by(first|assumption|omega|(simp only[List.length_cons,List.length_nil,List.length_append,List.length_map];omega)|grind)) (fun x hm f0_=>hp_p x hm _ f0_))<|gO 4<|en
def indexAct_l1 (l:(List Sp.Act)) (p:Sp.Act→Bool):Nat→List Sp.Act→Unit→Int
 |i1,[],_=>(-1)
 |i1,x1::xs2,_=>(bif (p x1) then(i1:Int) else indexAct_l1 l p (i1+1) xs2 ())
def indexAct (l:(List Sp.Act)) (p:Sp.Act→Bool):Int:=indexAct_l1 l p 0 l ()
theorem indexAct_in {sg:List Fr} {g_p:FuncId} {a_p b_p:List V} (l:(List Sp.Act)) (p:Sp.Act→Bool) (h_l:l.length≤140737488351232) (hp_p:∀ x,x∈l→∀ f0:Fr,TX.call g_p ((a_p ++ [eAct x]++b_p).map (argV (TX.C.keepA g_p))) (f0::sg)=some (eB (p x),f0::sg,0)):TX.call 186 [(eL 4 eAct) l,.fn g_p a_p b_p] sg=some (eI (indexAct l p),sg,0):=
 sx (e:=fun r=>(eI r,sg,0)) (F:=c186) rfl<|gO 9<|kw 7 (len_map eAct l)<|gO 3<|rg (β:=Sp.Act) (A:=Unit) (fun i1 _=>{ vals:=[(.sl .no 4 (l.map eAct)),(.fn g_p a_p b_p),(.int .i64 (l.length:Int)),(.int .i64 (i1:Int))],fr:=[],sg:=sg,wd:=0 }) (L:=l) (acc0:=()) (fn:=indexAct_l1 l p) (fun i1 x1 xs2 _ hd1 ih1=>have hlt1:=drop_lt hd1;have hx1:=drop_get hd1;gO 5<|dk 9 (lt_true hlt1)<|gO 14<|iak eAct hx1<|gO 1<|cli (hp_p x1 (List.mem_of_getElem? hx1) _)<|gO 1<|dc 16 (fun h1=>gO 12<|en) (fun h1=>gO 5<|kw 18 (congrArg (V.int .i64) (wrap_s hlt1 (by(first|assumption|omega|(simp only[List.length_cons,List.length_nil,List.length_append,List.length_map];omega)|grind))))<|gO 2<|nx (ih1 ()))) (fun i1 _ hd1=>have hge1:=drop_ge hd1;gO 5<|dk 9 (lt_false hge1)<|gO 10<|en)
def containsAct (l:(List Sp.Act)) (p:Sp.Act→Bool):Bool:=(decide ((indexAct l p)≥0))
theorem containsAct_in {sg:List Fr} {g_p:FuncId} {a_p b_p:List V} (l:(List Sp.Act)) (p:Sp.Act→Bool) (h_l:l.length≤140737488351232) (hp_p:∀ x,x∈l→∀ f0 f1:Fr,TX.call g_p (((a_p.map (sh0 1)) ++ [eAct x]++(b_p.map (sh0 1))).map (argV (TX.C.keepA g_p))) (f1::f0::sg)=some (eB (p x),f1::f0::sg,0)):TX.call 120 [(eL 4 eAct) l,.fn g_p a_p b_p] sg=some (eB (containsAct l p),sg,0):=
 sx (e:=fun r=>(eB r,sg,0)) (F:=c120) rfl<|gO 8<|cli (indexAct_in (g_p:=g_p) (a_p:=a_p.map (sh0 1)) (b_p:=b_p.map (sh0 1)) l p (by(first|assumption|omega|(simp only[List.length_cons,List.length_nil,List.length_append,List.length_map];omega)|grind)) (fun x hm f0_=>hp_p x hm _ f0_))<|gO 4<|en
def indexDecl_l1 (l:(List Sp.Decl)) (p:Sp.Decl→Bool):Nat→List Sp.Decl→Unit→Int
 |i1,[],_=>(-1)
 |i1,x1::xs2,_=>(bif (p x1) then(i1:Int) else indexDecl_l1 l p (i1+1) xs2 ())
def indexDecl (l:(List Sp.Decl)) (p:Sp.Decl→Bool):Int:=indexDecl_l1 l p 0 l ()
theorem indexDecl_in {sg:List Fr} {g_p:FuncId} {a_p b_p:List V} (l:(List Sp.Decl)) (p:Sp.Decl→Bool) (h_l:l.length≤140737488351232) (hp_p:∀ x,x∈l→∀ f0:Fr,TX.call g_p ((a_p ++ [eDecl x]++b_p).map (argV (TX.C.keepA g_p))) (f0::sg)=some (eB (p x),f0::sg,0)):TX.call 103 [(eL 3 eDecl) l,.fn g_p a_p b_p] sg=some (eI (indexDecl l p),sg,0):=
 sx (e:=fun r=>(eI r,sg,0)) (F:=c103) rfl<|gO 9<|kw 7 (len_map eDecl l)<|gO 3<|rg (β:=Sp.Decl) (A:=Unit) (fun i1 _=>{ vals:=[(.sl .no 3 (l.map eDecl)),(.fn g_p a_p b_p),(.int .i64 (l.length:Int)),(.int .i64 (i1:Int))],fr:=[],sg:=sg,wd:=0 }) (L:=l) (acc0:=()) (fn:=indexDecl_l1 l p) (fun i1 x1 xs2 _ hd1 ih1=>have hlt1:=drop_lt hd1;have hx1:=drop_get hd1;gO 5<|dk 9 (lt_true hlt1)<|gO 14<|iak eDecl hx1<|gO 1<|cli (hp_p x1 (List.mem_of_getElem? hx1) _)<|gO 1<|dc 16 (fun h1=>gO 12<|en) (fun h1=>gO 5<|kw 18 (congrArg (V.int .i64) (wrap_s hlt1 (by(first|assumption|omega|(simp only[List.length_cons,List.length_nil,List.length_append,List.length_map];omega)|grind))))<|gO 2<|nx (ih1 ()))) (fun i1 _ hd1=>have hge1:=drop_ge hd1;gO 5<|dk 9 (lt_false hge1)<|gO 10<|en)
def containsDecl (l:(List Sp.Decl)) (p:Sp.Decl→Bool):Bool:=(decide ((indexDecl l p)≥0))
theorem containsDecl_in {sg:List Fr} {g_p:FuncId} {a_p b_p:List V} (l:(List Sp.Decl)) (p:Sp.Decl→Bool) (h_l:l.length≤140737488351232) (hp_p:∀ x,x∈l→∀ f0 f1:Fr,TX.call g_p (((a_p.map (sh0 1)) ++ [eDecl x]++(b_p.map (sh0 1))).map (argV (TX.C.keepA g_p))) (f1::f0::sg)=some (eB (p x),f1::f0::sg,0)):TX.call 190 [(eL 3 eDecl) l,.fn g_p a_p b_p] sg=some (eB (containsDecl l p),sg,0):=
 sx (e:=fun r=>(eB r,sg,0)) (F:=c190) rfl<|gO 8<|cli (indexDecl_in (g_p:=g_p) (a_p:=a_p.map (sh0 1)) (b_p:=b_p.map (sh0 1)) l p (by(first|assumption|omega|(simp only[List.length_cons,List.length_nil,List.length_append,List.length_map];omega)|grind)) (fun x hm f0_=>hp_p x hm _ f0_))<|gO 4<|en
def indexRule_l1 (l:(List Sp.Rule)) (p:Sp.Rule→Bool):Nat→List Sp.Rule→Unit→Int
 |i1,[],_=>(-1)
 |i1,x1::xs2,_=>(bif (p x1) then(i1:Int) else indexRule_l1 l p (i1+1) xs2 ())
def indexRule (l:(List Sp.Rule)) (p:Sp.Rule→Bool):Int:=indexRule_l1 l p 0 l ()
theorem indexRule_in {sg:List Fr} {g_p:FuncId} {a_p b_p:List V} (l:(List Sp.Rule)) (p:Sp.Rule→Bool) (h_l:l.length≤140737488351232) (hp_p:∀ x,x∈l→∀ f0:Fr,TX.call g_p ((a_p ++ [eRule x]++b_p).map (argV (TX.C.keepA g_p))) (f0::sg)=some (eB (p x),f0::sg,0)):TX.call 253 [(eL 4 eRule) l,.fn g_p a_p b_p] sg=some (eI (indexRule l p),sg,0):=
 sx (e:=fun r=>(eI r,sg,0)) (F:=c253) rfl<|gO 9<|kw 7 (len_map eRule l)<|gO 3<|rg (β:=Sp.Rule) (A:=Unit) (fun i1 _=>{ vals:=[(.sl .no 4 (l.map eRule)),(.fn g_p a_p b_p),(.int .i64 (l.length:Int)),(.int .i64 (i1:Int))],fr:=[],sg:=sg,wd:=0 }) (L:=l) (acc0:=()) (fn:=indexRule_l1 l p) (fun i1 x1 xs2 _ hd1 ih1=>have hlt1:=drop_lt hd1;have hx1:=drop_get hd1;gO 5<|dk 9 (lt_true hlt1)<|gO 14<|iak eRule hx1<|gO 1<|cli (hp_p x1 (List.mem_of_getElem? hx1) _)<|gO 1<|dc 16 (fun h1=>gO 12<|en) (fun h1=>gO 5<|kw 18 (congrArg (V.int .i64) (wrap_s hlt1 (by(first|assumption|omega|(simp only[List.length_cons,List.length_nil,List.length_append,List.length_map];omega)|grind))))<|gO 2<|nx (ih1 ()))) (fun i1 _ hd1=>have hge1:=drop_ge hd1;gO 5<|dk 9 (lt_false hge1)<|gO 10<|en)
def containsRule (l:(List Sp.Rule)) (p:Sp.Rule→Bool):Bool:=(decide ((indexRule l p)≥0))
theorem containsRule_in {sg:List Fr} {g_p:FuncId} {a_p b_p:List V} (l:(List Sp.Rule)) (p:Sp.Rule→Bool) (h_l:l.length≤140737488351232) (hp_p:∀ x,x∈l→∀ f0 f1:Fr,TX.call g_p (((a_p.map (sh0 1)) ++ [eRule x]++(b_p.map (sh0 1))).map (argV (TX.C.keepA g_p))) (f1::f0::sg)=some (eB (p x),f1::f0::sg,0)):TX.call 193 [(eL 4 eRule) l,.fn g_p a_p b_p] sg=some (eB (containsRule l p),sg,0):=
 sx (e:=fun r=>(eB r,sg,0)) (F:=c193) rfl<|gO 8<|cli (indexRule_in (g_p:=g_p) (a_p:=a_p.map (sh0 1)) (b_p:=b_p.map (sh0 1)) l p (by(first|assumption|omega|(simp only[List.length_cons,List.length_nil,List.length_append,List.length_map];omega)|grind)) (fun x hm f0_=>hp_p x hm _ f0_))<|gO 4<|en
def indexPattern_l1 (l:(List Sp.Pattern)) (p:Sp.Pattern→Bool):Nat→List Sp.Pattern→Unit→Int
 |i1,[],_=>(-1)
 |i1,x1::xs2,_=>(bif (p x1) then(i1:Int) else indexPattern_l1 l p (i1+1) xs2 ())
def indexPattern (l:(List Sp.Pattern)) (p:Sp.Pattern→Bool):Int:=indexPattern_l1 l p 0 l ()
theorem indexPattern_in {sg:List Fr} {g_p:FuncId} {a_p b_p:List V} (l:(List Sp.Pattern)) (p:Sp.Pattern→Bool) (h_l:l.length≤140737488351232) (hp_p:∀ x,x∈l→∀ f0:Fr,TX.call g_p ((a_p ++ [ePattern x]++b_p).map (argV (TX.C.keepA g_p))) (f0::sg)=some (eB (p x),f0::sg,0)):TX.call 254 [(eL 4 ePattern) l,.fn g_p a_p b_p] sg=some (eI (indexPattern l p),sg,0):=
 sx (e:=fun r=>(eI r,sg,0)) (F:=c254) rfl<|gO 9<|kw 7 (len_map ePattern l)<|gO 3<|rg (β:=Sp.Pattern) (A:=Unit) (fun i1 _=>{ vals:=[(.sl .no 4 (l.map ePattern)),(.fn g_p a_p b_p),(.int .i64 (l.length:Int)),(.int .i64 (i1:Int))],fr:=[],sg:=sg,wd:=0 }) (L:=l) (acc0:=()) (fn:=indexPattern_l1 l p) (fun i1 x1 xs2 _ hd1 ih1=>have hlt1:=drop_lt hd1;have hx1:=drop_get hd1;gO 5<|dk 9 (lt_true hlt1)<|gO 14<|iak ePattern hx1<|gO 1<|cli (hp_p x1 (List.mem_of_getElem? hx1) _)<|gO 1<|dc 16 (fun h1=>gO 12<|en) (fun h1=>gO 5<|kw 18 (congrArg (V.int .i64) (wrap_s hlt1 (by(first|assumption|omega|(simp only[List.length_cons,List.length_nil,List.length_append,List.length_map];omega)|grind))))<|gO 2<|nx (ih1 ()))) (fun i1 _ hd1=>have hge1:=drop_ge hd1;gO 5<|dk 9 (lt_false hge1)<|gO 10<|en)
def containsPattern (l:(List Sp.Pattern)) (p:Sp.Pattern→Bool):Bool:=(decide ((indexPattern l p)≥0))
theorem containsPattern_in {sg:List Fr} {g_p:FuncId} {a_p b_p:List V} (l:(List Sp.Pattern)) (p:Sp.Pattern→Bool) (h_l:l.length≤140737488351232) (hp_p:∀ x,x∈l→∀ f0 f1:Fr,TX.call g_p (((a_p.map (sh0 1)) ++ [ePattern x]++(b_p.map (sh0 1))).map (argV (TX.C.keepA g_p))) (f1::f0::sg)=some (eB (p x),f1::f0::sg,0)):TX.call 195 [(eL 4 ePattern) l,.fn g_p a_p b_p] sg=some (eB (containsPattern l p),sg,0):=
 sx (e:=fun r=>(eB r,sg,0)) (F:=c195) rfl<|gO 8<|cli (indexPattern_in (g_p:=g_p) (a_p:=a_p.map (sh0 1)) (b_p:=b_p.map (sh0 1)) l p (by(first|assumption|omega|(simp only[List.length_cons,List.length_nil,List.length_append,List.length_map];omega)|grind)) (fun x hm f0_=>hp_p x hm _ f0_))<|gO 4<|en
def indexInt_l1 (l:(List Int)) (v:Int):Nat→List Int→Unit→Int
 |i1,[],_=>(-1)
 |i1,x1::xs2,_=>(bif (v == x1) then(i1:Int) else indexInt_l1 l v (i1+1) xs2 ())
def indexInt (l:(List Int)) (v:Int):Int:=indexInt_l1 l v 0 l ()
theorem indexInt_says (l:(List Int)) (v:Int) (h_l:l.length≤140737488351232):SaysT TX 297 [(eL 1 eI) l,eI v] (eI (indexInt l v)):=
 sy (e:=eI) (F:=c297) rfl fun sg=>gO 9<|kw 7 (len_map eI l)<|gO 3<|rg (β:=Int) (A:=Unit) (fun i1 _=>{ vals:=[(.sl .no 1 (l.map eI)),(.int .i64 v),(.int .i64 (l.length:Int)),(.int .i64 (i1:Int))],fr:=[],sg:=sg,wd:=0 }) (L:=l) (acc0:=()) (fn:=indexInt_l1 l v) (fun i1 x1 xs2 _ hd1 ih1=>have hlt1:=drop_lt hd1;have hx1:=drop_get hd1;gO 5<|dk 9 (lt_true hlt1)<|gO 14<|iak eI hx1<|gO 3<|dq 16 (fun h1=>gO 12<|en) (fun h1=>gO 5<|kw 18 (congrArg (V.int .i64) (wrap_s hlt1 (by(first|assumption|omega|(simp only[List.length_cons,List.length_nil,List.length_append,List.length_map];omega)|grind))))<|gO 2<|nx (ih1 ()))) (fun i1 _ hd1=>have hge1:=drop_ge hd1;gO 5<|dk 9 (lt_false hge1)<|gO 10<|en)
def containsInt (l:(List Int)) (v:Int):Bool:=(decide ((indexInt l v)≥0))
theorem containsInt_says (l:(List Int)) (v:Int) (h_l:l.length≤140737488351232):SaysT TX 255 [(eL 1 eI) l,eI v] (eB (containsInt l v)):=
 sy (e:=eB) (F:=c255) rfl fun sg=>gO 8<|cl (indexInt_says l v (by(first|assumption|omega|(simp only[List.length_cons,List.length_nil,List.length_append,List.length_map];omega)|grind)))<|gO 4<|en
def exprPushes (k:Int):Bool:=(bif (k == 1) then true else(k == 2))
theorem exprPushes_says (k:Int)  : SaysT TX 252 [eI k] (eB (exprPushes k)):=
 sy (e:=eB) (F:=c252) rfl fun sg=>gO 9<|dq 5 (fun h1=>gO 6<|en) (fun h1=>gO 6<|en)
def exprRight (o:Sp.Op):Bool:=(bif (o.kind == 1) then(bif (substVar o.var) then((o.val.kind == 0)&&((o.val.n == 0)&&((o.val.s == ([]:Txt))&&true))) else false) else(bif (o.kind == 2) then(bif (o.var == ([]:Txt)) then((valCheck o.val) == 0) else false) else(bif (o.kind == 3) then(bif (o.var == ([]:Txt)) then((o.val.kind == 0)&&((o.val.n == 0)&&((o.val.s == ([]:Txt))&&true))) else false) else(bif (o.kind == 4) then(bif (o.var == ([]:Txt)) then((o.val.kind == 0)&&((o.val.n == 0)&&((o.val.s == ([]:Txt))&&true))) else false) else(bif (o.kind == 5) then(bif (o.var == ([]:Txt)) then((o.val.kind == 0)&&((o.val.n == 0)&&((o.val.s == ([]:Txt))&&true))) else false) else false)))))
theorem exprRight_says (o:Sp.Op) (ok_o:o.ok):SaysT TX 251 [eOp o] (eB (exprRight o)):=
 sy (e:=eB) (F:=c251) rfl fun sg=>gO 17<|dq 5 (fun h1=>gO 5<|cl (substVar_says o.var (by first|exact ok_o.2.1|exact ok_o.2.2))<|gO 1<|dc 10 (fun h2=>gO 10<|en) (fun h2=>gO 10<|en)) (fun h1=>gO 6<|dq 16 (fun h3=>gO 7<|dq 21 (fun h4=>gO 2<|cl (valCheck_says o.val (by first|exact ok_o.2.1|exact ok_o.2.2))<|gO 7<|en) (fun h4=>gO 10<|en)) (fun h3=>gO 7<|dq 27 (fun h5=>gO 9<|dq 34 (fun h6=>gO 10<|en) (fun h6=>gO 10<|en)) (fun h5=>gO 6<|dq 27 (fun h7=>gO 9<|dq 34 (fun h8=>gO 10<|en) (fun h8=>gO 10<|en)) (fun h7=>gO 5<|dq 27 (fun h9=>gO 7<|dq 34 (fun h10=>gO 10<|en) (fun h10=>gO 10<|en)) (fun h9=>gO 8<|en)))))
def exprCheck_l1 (l:(List Sp.Op)):Nat→List Sp.Op→Int→Int
 |i1,[],a1_0=>(bif (a1_0 == 1) then 0 else 1)
 |i1,x1::xs2,a1_0=>(bif (exprRight x1) then(bif (exprPushes x1.kind) then exprCheck_l1 l (i1+1) xs2 (a1_0+1) else(bif (decide (a1_0<2)) then 1 else exprCheck_l1 l (i1+1) xs2 (a1_0-1))) else 1)
def exprCheck (l:(List Sp.Op)):Int:=(bif (decide ((l.length:Int)<1)) then 1 else(bif (decide ((l.length:Int)>15)) then 1 else exprCheck_l1 l 0 l 0))
theorem exprCheck_says (l:(List Sp.Op)) (ok_l:okOps l):SaysT TX 188 [(eL 5 eOp) l] (eI (exprCheck l)):=
 sy (e:=eI) (F:=c188) rfl fun sg=>gO 9<|kw 7 (len_map eOp l)<|gO 2<|dp 9 (fun h1=>gO 12<|en) (fun h1=>gO 2<|kw 11 (len_map eOp l)<|gO 3<|dp 13 (fun h2=>gO 7<|en) (fun h2=>gO 11<|kw 15 (len_map eOp l)<|gO 3<|rgI (β:=Sp.Op) (A:=Int) (fun i1 a1_0=>0≤a1_0∧a1_0≤i1∧i1≤15) (fun i1 a1_0=>{ vals:=[(.int .i64 a1_0),(.sl .no 5 (l.map eOp)),(.int .i64 (l.length:Int)),(.int .i64 (i1:Int))],fr:=[],sg:=sg,wd:=0 }) (L:=l) (acc0:=0) (fn:=exprCheck_l1 l) (by omega) (fun i1 x1 xs2 a1_0 hd1 hi1 ih1=>have hi1:0≤a1_0∧a1_0≤i1∧i1≤15:=hi1;have hlt1:=drop_lt hd1;have hx1:=drop_get hd1;have ok_x1:=okOps.get ok_l hx1;gO 5<|dk 17 (lt_true hlt1)<|gO 6<|iak eOp hx1<|gO 8<|cl (exprRight_says x1 (by first|omega|exact ok_x1|exact ok_l.1))<|gO 2<|dcn 23 (fun h3=>gO 2<|cl (exprPushes_says x1.kind)<|gO 2<|dcn 28 (fun h4=>gO 11<|cl (exprPushes_says x1.kind)<|gO 1<|dk 35 h4<|gO 4<|kw 37 (congrArg (V.int .i64) (wrap_id (n:=a1_0+1) (by omega) (by omega)))<|gO 5<|kw 40 (congrArg (V.int .i64) (wrap_s hlt1 (by first|omega|exact ok_x1|exact ok_l.1)))<|gO 2<|nx (ih1 (a1_0+1) (by omega))) (fun h4=>gO 5<|dp 32 (fun h5=>gO 12<|en) (fun h5=>gO 6<|cl (exprPushes_says x1.kind)<|gO 1<|dk 35 h4<|gO 4<|kw 39 (congrArg (V.int .i64) (wrap_id (n:=a1_0-1) (by omega) (by omega)))<|gO 5<|kw 40 (congrArg (V.int .i64) (wrap_s hlt1 (by first|omega|exact ok_x1|exact ok_l.1)))<|gO 2<|nx (ih1 (a1_0-1) (by omega))))) (fun h3=>gO 22<|en)) (fun i1 a1_0 hd1 hi1=>have hi1:0≤a1_0∧a1_0≤i1∧i1≤15:=hi1;have hge1:=drop_ge hd1;gO 5<|dk 17 (lt_false hge1)<|gO 11<|dqn 42 (fun h6=>gO 7<|en) (fun h6=>gO 7<|en))))
def guardRight (n:Int):Bool:=(bif (decide (n≥1)) then(decide (n≤4)) else false)
theorem guardRight_says (n:Int)  : SaysT TX 250 [eI n] (eB (guardRight n)):=
 sy (e:=eB) (F:=c250) rfl fun sg=>gO 9<|dp 5 (fun h1=>gO 6<|en) (fun h1=>gO 6<|en)
def guardCheck (c:Sp.Cond):Int:=(bif (c.kind == 3) then(bif (c.atom.name == ([]:Txt)) then(bif (decide ((c.atom.args.length:Int)>0)) then 1 else(bif (guardRight c.how) then(bif ((exprCheck c.left) == 0) then(bif ((exprCheck c.right) == 0) then 0 else 1) else 1) else 1)) else 1) else 1)
theorem guardCheck_says (c:Sp.Cond) (ok_c:c.ok):SaysT TX 185 [eCond c] (eI (guardCheck c)):=
 sy (e:=eI) (F:=c185) rfl fun sg=>gO 12<|dqn 6 (fun h1=>gO 6<|dqn 12 (fun h2=>gO 4<|kw 16 (len_map eTerm c.atom.args)<|gO 3<|dp 19 (fun h3=>gO 25<|en) (fun h3=>gO 2<|cl (guardRight_says c.how)<|gO 3<|dcn 25 (fun h4=>gO 2<|cl (exprCheck_says c.left (by first|exact ok_c.2.2.2.1|exact ok_c.2.2.2.2|exact ok_c.2.1.name|exact ok_c.2.1.args))<|gO 3<|dqn 31 (fun h5=>gO 2<|cl (exprCheck_says c.right (by first|exact ok_c.2.2.2.1|exact ok_c.2.2.2.2|exact ok_c.2.1.name|exact ok_c.2.1.args))<|gO 3<|dqn 36 (fun h6=>gO 7<|en) (fun h6=>gO 7<|en)) (fun h5=>gO 13<|en)) (fun h4=>gO 19<|en))) (fun h2=>gO 32<|en)) (fun h1=>gO 38<|en)
def rulesCond (c:Sp.Cond):Bool:=(bif (c.kind == 3) then((guardCheck c) == 0) else(bif (c.how == 0) then(bif ((c.left.length:Int) == 0) then(bif (c.kind == 1) then(bif ((c.right.length:Int) == 0) then((matchCheck c.atom) == 0) else false) else(bif (c.kind == 2) then(bif ((c.right.length:Int) == 0) then((matchCheck c.atom) == 0) else false) else false)) else(bif (c.kind == 1) then false else(bif (c.kind == 2) then false else false))) else(bif (c.kind == 1) then false else(bif (c.kind == 2) then false else false))))
theorem rulesCond_says (c:Sp.Cond) (ok_c:c.ok):SaysT TX 119 [eCond c] (eB (rulesCond c)):=
 sy (e:=eB) (F:=c119) rfl fun sg=>gO 12<|dq 6 (fun h1=>gO 4<|cl (guardCheck_says c (by first|exact ok_c|exact ok_c.2.1))<|gO 5<|en) (fun h1=>gO 8<|dq 13 (fun h2=>gO 3<|kw 16 (len_map eOp c.left)<|gO 3<|dq 19 (fun h3=>gO 3<|kw 22 (len_map eOp c.right)<|gO 10<|dq 28 (fun h4=>gO 8<|dq 36 (fun h5=>gO 2<|cl (matchCheck_says c.atom (by first|exact ok_c|exact ok_c.2.1))<|gO 5<|en) (fun h5=>gO 8<|en)) (fun h4=>gO 5<|dq 33 (fun h6=>gO 3<|dq 36 (fun h7=>gO 2<|cl (matchCheck_says c.atom (by first|exact ok_c|exact ok_c.2.1))<|gO 5<|en) (fun h7=>gO 8<|en)) (fun h6=>gO 11<|en))) (fun h3=>gO 13<|dq 28 (fun h8=>gO 16<|en) (fun h8=>gO 5<|dq 33 (fun h9=>gO 11<|en) (fun h9=>gO 11<|en)))) (fun h2=>gO 19<|dq 28 (fun h10=>gO 16<|en) (fun h10=>gO 5<|dq 33 (fun h11=>gO 11<|en) (fun h11=>gO 11<|en))))
def rulesAct1 (l:(List Sp.Op)):Bool:=(!((exprCheck l) == 0))
theorem rulesAct1_says (l:(List Sp.Op)) (ok_l:okOps l):SaysT TX 187 [(eL 5 eOp) l] (eB (rulesAct1 l)):=
 sy (e:=eB) (F:=c187) rfl fun sg=>gO 7<|cl (exprCheck_says l (by exact ok_l))<|gO 4<|en
def rulesAct (a:Sp.Act) (m:Int):Bool:=(bif (a.kind == 1) then(bif (factName a.name) then(bif (a.which == 0) then(bif (decide ((a.args.length:Int)≤5)) then(!(containsOps a.args (fun x=>rulesAct1 x))) else false) else false) else false) else(bif (a.kind == 2) then(bif (a.name == ([]:Txt)) then(bif ((a.args.length:Int) == 0) then(bif (decide (a.which≥0)) then(decide (a.which<m)) else false) else false) else false) else false))
theorem rulesAct_says (a:Sp.Act) (m:Int) (ok_a:a.ok):SaysT TX 122 [eAct a,eI m] (eB (rulesAct a m)):=
 sy (e:=eB) (F:=c122) rfl fun sg=>gO 17<|dq 7 (fun h1=>gO 5<|cl (factName_says a.name (by first|exact ok_a.2.1|exact ok_a.2.2.1.1|exact ok_a.2.2.1.2 _ (by assumption)))<|gO 1<|dc 12 (fun h2=>gO 5<|dq 17 (fun h3=>gO 3<|kw 20 (len_map (eL 5 eOp) a.args)<|gO 3<|dp 23 (fun h4=>gO 2<|cli (containsOps_in (g_p:=187) (a_p:=[]) (b_p:=[]) a.args (fun x=>rulesAct1 x) (by first|exact ok_a.2.1|exact ok_a.2.2.1.1|exact ok_a.2.2.1.2 _ (by assumption)) (fun x hm f0_ f1_=>rulesAct1_says x (by first|(first|exact ok_a.2.1|exact ok_a.2.2.1.1|exact ok_a.2.2.1.2 _ (by assumption))|(exact ok_l)) _))<|gO 7<|en) (fun h4=>gO 10<|en)) (fun h3=>gO 16<|en)) (fun h2=>gO 21<|en)) (fun h1=>gO 6<|dq 29 (fun h5=>gO 7<|dq 34 (fun h6=>gO 3<|kw 37 (len_map (eL 5 eOp) a.args)<|gO 3<|dq 40 (fun h7=>gO 5<|dp 45 (fun h8=>gO 10<|en) (fun h8=>gO 10<|en)) (fun h7=>gO 15<|en)) (fun h6=>gO 21<|en)) (fun h5=>gO 8<|en))
def rulesCheck1 (a:Sp.Act) (m:Int):Bool:=(!(rulesAct a m))
theorem rulesCheck1_in (a:Sp.Act) (m:Int) (ok_a:a.ok) {sg:List Fr} {d_m i_m:Nat} (hg_m:(sg[d_m]?).bind (·[i_m]?)=some (.box [(.int .i64 m)])):TX.call 121 [eAct a,.bp (d_m+1) i_m 0] sg=some (eB (rulesCheck1 a m),sg,0):=
 sx (e:=fun r=>(eB r,sg,0)) (F:=c121) rfl<|gO 8<|ldo (ag:=false) (sz:=1) (o:=0) (v:=(.int .i64 m)) hg_m (by kernel_rfl)<|cl (rulesAct_says a m (by exact ok_a))<|gO 4<|en
def rulesCheck_l1 (r:Sp.Rule) (y1:Sp.Cond):Nat→List Sp.Cond→Int→Int
 |i1,[],a1_0=>(bif (containsAct r.acts (fun x=>rulesCheck1 x a1_0)) then 1 else 0)
 |i1,x2::xs3,a1_0=>(bif (rulesCond x2) then(bif (x2.kind == 1) then rulesCheck_l1 r y1 (i1+1) xs3 (a1_0+1) else rulesCheck_l1 r y1 (i1+1) xs3 a1_0) else 1)
def rulesCheck (r:Sp.Rule):Int:=(bif (factName r.name) then(bif (decide (r.prio<(-1000))) then 1 else(bif (decide (r.prio>1000)) then 1 else(bif (decide ((r.conds.length:Int)<1)) then 1 else(bif (decide ((r.conds.length:Int)>6)) then 1 else(onS r.conds[0]? (fun y1=>(bif (y1.kind == 1) then(bif (decide ((r.acts.length:Int)<1)) then 1 else(bif (decide ((r.acts.length:Int)>6)) then 1 else rulesCheck_l1 r y1 0 r.conds 0)) else 1)) default))))) else 1)
theorem rulesCheck_says (r:Sp.Rule) (ok_r:r.ok):SaysT TX 61 [eRule r] (eI (rulesCheck r)):=
 sy (e:=eI) (F:=c61) rfl fun sg=>gO 10<|cl (factName_says r.name (by first|omega|exact ok_r.1|exact ok_x1|exact ok_r.2.2.2.1|exact ok_r.act (by assumption)))<|gO 2<|dcn 10 (fun h1=>gO 5<|dp 15 (fun h2=>gO 44<|en) (fun h2=>gO 5<|dp 20 (fun h3=>gO 39<|en) (fun h3=>gO 3<|kw 23 (len_map eCond r.conds)<|gO 3<|dp 26 (fun h4=>gO 33<|en) (fun h4=>gO 3<|kw 29 (len_map eCond r.conds)<|gO 3<|dp 32 (fun h5=>gO 27<|en) (fun h5=>gO 2<|ia (en:=eCond) (by first|omega|exact ok_r.1|exact ok_x1|exact ok_r.2.2.2.1|exact ok_r.act (by assumption)) fun y1 h6=>have ok_y1:=Rule.ok.cond ok_r h6;gO 5<|dqn 40 (fun h7=>gO 3<|kw 43 (len_map eAct r.acts)<|gO 3<|dp 46 (fun h8=>gO 13<|en) (fun h8=>gO 3<|kw 49 (len_map eAct r.acts)<|gO 3<|dp 51 (fun h9=>gO 7<|en) (fun h9=>gO 13<|kw 54 (len_map eCond r.conds)<|gO 3<|rgI (β:=Sp.Cond) (A:=Int) (fun i1 a1_0=>0≤a1_0∧a1_0≤i1∧i1≤6) (fun i1 a1_0=>{ vals:=[(.bp 0 0 0),(.bp 0 1 0),(.sl .no 6 (r.conds.map eCond)),(.int .i64 (r.conds.length:Int)),(.int .i64 (i1:Int))],fr:=[.box [(.str r.name),(.int .i64 r.prio),(.sl .no 6 (r.conds.map eCond)),(.sl .no 4 (r.acts.map eAct))],.box [(.int .i64 a1_0)]],sg:=sg,wd:=0 }) (L:=r.conds) (acc0:=0) (fn:=rulesCheck_l1 r y1) (by omega) (fun i1 x2 xs3 a1_0 hd1 hi1 ih1=>have hi1:0≤a1_0∧a1_0≤i1∧i1≤6:=hi1;have hlt1:=drop_lt hd1;have hx1:=drop_get hd1;have ok_x2:=Rule.ok.cond ok_r hx1;gO 5<|dk 56 (lt_true hlt1)<|gO 6<|iak eCond hx1<|gO 8<|cl (rulesCond_says x2 (by first|omega|exact ok_r.1|exact ok_x1|exact ok_r.2.2.2.1|exact ok_r.act (by assumption)))<|gO 2<|dcn 61 (fun h10=>gO 8<|dq 64 (fun h11=>gO 4<|kw 66 (congrArg (V.int .i64) (wrap_id (n:=a1_0+1) (by omega) (by omega)))<|gO 5<|kw 67 (congrArg (V.int .i64) (wrap_s hlt1 (by first|omega|exact ok_r.1|exact ok_x1|exact ok_r.2.2.2.1|exact ok_r.act (by assumption))))<|gO 2<|nx (ih1 (a1_0+1) (by omega))) (fun h11=>gO 5<|kw 67 (congrArg (V.int .i64) (wrap_s hlt1 (by first|omega|exact ok_r.1|exact ok_x1|exact ok_r.2.2.2.1|exact ok_r.act (by assumption))))<|gO 2<|nx (ih1 a1_0 (by omega)))) (fun h10=>gO 12<|en)) (fun i1 a1_0 hd1 hi1=>have hi1:0≤a1_0∧a1_0≤i1∧i1≤6:=hi1;have hge1:=drop_ge hd1;gO 5<|dk 56 (lt_false hge1)<|gO 11<|cli (containsAct_in (g_p:=121) (a_p:=[]) (b_p:=[(.bp 1 1 0)]) r.acts (fun x=>rulesCheck1 x a1_0) (by first|omega|exact ok_r.1|exact ok_x1|exact ok_r.2.2.2.1|exact ok_r.act (by assumption)) (fun x hm f0_ f1_=>rulesCheck1_in x a1_0 (by first|(first|omega|exact ok_r.1|exact ok_x1|exact ok_r.2.2.2.1|exact ok_r.act (by assumption))|(exact ok_a)) (by kernel_rfl)))<|gO 1<|dc 71 (fun h12=>gO 7<|en) (fun h12=>gO 7<|en))))) (fun h7=>gO 19<|en)))))) (fun h1=>gO 49<|en)
def formulaRight (p:Sp.Pattern):Bool:=(bif (factName p.name) then(bif ((matchCheck p.trigger) == 0) then((formulaCheck p.nodes) == 0) else false) else false)
theorem formulaRight_says (p:Sp.Pattern) (ok_p:p.ok):SaysT TX 73 [ePattern p] (eB (formulaRight p)):=
 sy (e:=eB) (F:=c73) rfl fun sg=>gO 9<|cl (factName_says p.name (by first|exact ok_p.1|exact ok_p.2.1|exact ok_p.2.2))<|gO 1<|dc 6 (fun h1=>gO 2<|cl (matchCheck_says p.trigger (by first|exact ok_p.1|exact ok_p.2.1|exact ok_p.2.2))<|gO 3<|dq 12 (fun h2=>gO 2<|cl (formulaCheck_says p.nodes (by first|exact ok_p.1|exact ok_p.2.1|exact ok_p.2.2))<|gO 5<|en) (fun h2=>gO 8<|en)) (fun h1=>gO 14<|en)
def specRight (d:Sp.Decl):Bool:=(bif (factName d.name) then(bif (decide (d.arity≥0)) then(bif (decide (d.arity≤5)) then(bif (decide (d.kind≥1)) then(decide (d.kind≤5)) else false) else false) else false) else false)
theorem specRight_says (d:Sp.Decl) (ok_d:d.ok):SaysT TX 192 [eDecl d] (eB (specRight d)):=
 sy (e:=eB) (F:=c192) rfl fun sg=>gO 9<|cl (factName_says d.name (by exact ok_d.1))<|gO 1<|dc 6 (fun h1=>gO 5<|dp 11 (fun h2=>gO 5<|dp 16 (fun h3=>gO 5<|dp 21 (fun h4=>gO 7<|en) (fun h4=>gO 7<|en)) (fun h3=>gO 12<|en)) (fun h2=>gO 17<|en)) (fun h1=>gO 22<|en)
def specMany (p:Sp.Prog):Bool:=(bif (decide ((p.decls.length:Int)>60)) then true else(bif (decide ((p.rules.length:Int)>60)) then true else(decide ((p.pats.length:Int)>10))))
theorem specMany_says (p:Sp.Prog)  : SaysT TX 159 [eProg p] (eB (specMany p)):=
 sy (e:=eB) (F:=c159) rfl fun sg=>gO 10<|kw 5 (len_map eDecl p.decls)<|gO 2<|dp 7 (fun h1=>gO 14<|en) (fun h1=>gO 3<|kw 10 (len_map eRule p.rules)<|gO 3<|dp 13 (fun h2=>gO 8<|en) (fun h2=>gO 3<|kw 16 (len_map ePattern p.pats)<|gO 5<|en))
def specCheck1 (d:Sp.Decl):Bool:=(!(specRight d))
theorem specCheck1_says (d:Sp.Decl) (ok_d:d.ok):SaysT TX 191 [eDecl d] (eB (specCheck1 d)):=
 sy (e:=eB) (F:=c191) rfl fun sg=>gO 8<|cl (specRight_says d (by exact ok_d))<|gO 4<|en
def specCheck2 (r:Sp.Rule):Bool:=(!((rulesCheck r) == 0))
theorem specCheck2_says (r:Sp.Rule) (ok_r:r.ok):SaysT TX 194 [eRule r] (eB (specCheck2 r)):=
 sy (e:=eB) (F:=c194) rfl fun sg=>gO 8<|cl (rulesCheck_says r (by exact ok_r))<|gO 4<|en
def specCheck3 (x:Sp.Pattern):Bool:=(!(formulaRight x))
theorem specCheck3_says (x:Sp.Pattern) (ok_x:x.ok):SaysT TX 196 [ePattern x] (eB (specCheck3 x)):=
 sy (e:=eB) (F:=c196) rfl fun sg=>gO 8<|cl (formulaRight_says x (by exact ok_x))<|gO 4<|en
def specCheck (p:Sp.Prog):Int:=(bif (specMany p) then 1 else(bif (containsDecl p.decls (fun x=>specCheck1 x)) then 1 else(bif (containsRule p.rules (fun x=>specCheck2 x)) then 1 else(bif (containsPattern p.pats (fun x=>specCheck3 x)) then 1 else 0))))
theorem specCheck_says (p:Sp.Prog) (ok_p:p.ok):SaysT TX 130 [eProg p] (eI (specCheck p)):=
 sy (e:=eI) (F:=c130) rfl fun sg=>gO 8<|cl (specMany_says p)<|gO 6<|dc 7 (fun h1=>gO 38<|en) (fun h1=>gO 2<|cli (containsDecl_in (g_p:=191) (a_p:=[]) (b_p:=[]) p.decls (fun x=>specCheck1 x) (by first|exact ok_p.1.1|exact ok_p.2.1.1|exact ok_p.2.2.1|exact ok_p.1.2 _ (by assumption)|exact ok_p.2.1.2 _ (by assumption)|exact ok_p.2.2.2 _ (by assumption)) (fun x hm f0_ f1_=>specCheck1_says x (by first|(first|exact ok_p.1.1|exact ok_p.2.1.1|exact ok_p.2.2.1|exact ok_p.1.2 _ (by assumption)|exact ok_p.2.1.2 _ (by assumption)|exact ok_p.2.2.2 _ (by assumption))|(exact ok_d)) _))<|gO 7<|dc 13 (fun h2=>gO 28<|en) (fun h2=>gO 2<|cli (containsRule_in (g_p:=194) (a_p:=[]) (b_p:=[]) p.rules (fun x=>specCheck2 x) (by first|exact ok_p.1.1|exact ok_p.2.1.1|exact ok_p.2.2.1|exact ok_p.1.2 _ (by assumption)|exact ok_p.2.1.2 _ (by assumption)|exact ok_p.2.2.2 _ (by assumption)) (fun x hm f0_ f1_=>specCheck2_says x (by first|(first|exact ok_p.1.1|exact ok_p.2.1.1|exact ok_p.2.2.1|exact ok_p.1.2 _ (by assumption)|exact ok_p.2.1.2 _ (by assumption)|exact ok_p.2.2.2 _ (by assumption))|(exact ok_r)) _))<|gO 7<|dc 19 (fun h3=>gO 18<|en) (fun h3=>gO 2<|cli (containsPattern_in (g_p:=196) (a_p:=[]) (b_p:=[]) p.pats (fun x=>specCheck3 x) (by first|exact ok_p.1.1|exact ok_p.2.1.1|exact ok_p.2.2.1|exact ok_p.1.2 _ (by assumption)|exact ok_p.2.1.2 _ (by assumption)|exact ok_p.2.2.2 _ (by assumption)) (fun x hm f0_ f1_=>specCheck3_says x (by first|(first|exact ok_p.1.1|exact ok_p.2.1.1|exact ok_p.2.2.1|exact ok_p.1.2 _ (by assumption)|exact ok_p.2.1.2 _ (by assumption)|exact ok_p.2.2.2 _ (by assumption))|(exact ok_x)) _))<|gO 8<|dc 24 (fun h4=>gO 7<|en) (fun h4=>gO 7<|en))))
def declFind1 (d:Sp.Decl) (name:Txt):Bool:=(d.name == name)
theorem declFind1_in (d:Sp.Decl) (name:Txt)  {sg:List Fr} {d_name i_name:Nat} (hg_name:(sg[d_name]?).bind (·[i_name]?)=some (.box [(.str name)])):TX.call 104 [eDecl d,.bp (d_name+1) i_name 0] sg=some (eB (declFind1 d name),sg,0):=
 sx (e:=fun r=>(eB r,sg,0)) (F:=c104) rfl<|gO 9<|ldo (ag:=false) (sz:=1) (o:=0) (v:=(.str name)) hg_name (by kernel_rfl)<|gO 4<|en
end Go.Vm
/- What functions of the program answer. Printed by spec2.py. -/
namespace Go.Vm
open Go Go.Sp
set_option maxRecDepth 100000
set_option maxHeartbeats 4000000
def insBind_l2 (data:(List Sp.Bind)) (a:Int) (b:Int) (cmp:Sp.Bind→Sp.Bind→Int) (a1_0:Int) (a1_1:(List Sp.Bind)) (q1:Nat) (rec1:(Int × (List Sp.Bind)→(List Sp.Bind))):Nat→Int × (List Sp.Bind)→(List Sp.Bind)
 |0,_=>default
 |q2+1,⟨a2_0,a2_1⟩=>(bif (decide (a2_0>a)) then(onS a2_1[a2_0.toNat]? (fun y1=>(onS a2_1[(a2_0-1).toNat]? (fun y2=>(bif (decide ((cmp y1 y2)<0)) then(onS (a2_1.set a2_0.toNat y2)[(a2_0-1).toNat]? (fun y4=>insBind_l2 data a b cmp a1_0 a1_1 q1 rec1 q2 ((a2_0-1),((a2_1.set a2_0.toNat y2).set ((a2_0-1).toNat) y1))) default) else rec1 ((a1_0+1),a2_1))) default)) default) else rec1 ((a1_0+1),a2_1))
def insBind_l1 (data:(List Sp.Bind)) (a:Int) (b:Int) (cmp:Sp.Bind→Sp.Bind→Int):Nat→Int × (List Sp.Bind)→(List Sp.Bind)
 |0,_=>default
 |q1+1,⟨a1_0,a1_1⟩=>(bif (decide (a1_0<b)) then insBind_l2 data a b cmp a1_0 a1_1 q1 (fun acc=>insBind_l1 data a b cmp q1 acc) (data.length+1) (a1_0,a1_1) else a1_1)
def insBind (data:(List Sp.Bind)) (a:Int) (b:Int) (cmp:Sp.Bind→Sp.Bind→Int):(List Sp.Bind):=insBind_l1 data a b cmp (data.length+1) ((a+1),data)
theorem insBind_w (data:(List Sp.Bind)) (a:Int) (b:Int) (cmp:Sp.Bind→Sp.Bind→Int) {sg:List Fr} {W:Nat} {d_data i_data v_data n_data:Nat} {g_cmp:FuncId} {P_cmp:Sp.Bind→Prop} (hp_data:Plc sg d_data i_data) (hn_data:data.length=n_data) (hW_data:d_data+1≤W) (hp_cmp:∀ x x1:Sp.Bind,P_cmp x→P_cmp x1→∀ sg:List Fr,TX.call g_cmp ([eBind x,eBind x1].map (argV (TX.C.keepA g_cmp))) sg=some (eI (cmp x x1),sg,0)) (okP:∀ x∈data,P_cmp x) (ha:0≤a) (hab:a≤b) (hb:b≤data.length) (hl:data.length≤1000000):(fun(r:(List Sp.Bind))=>∃ w,w≤W∧TX.call 322 [.bs (d_data+1) i_data v_data 0 n_data,eI a,eI b,.fn g_cmp [] []] (upB sg d_data i_data (.arr v_data 4 (data.map eBind)))=some ((.tup []),(upB sg d_data i_data (.arr v_data 4 (r.map eBind))),w)) (insBind data a b cmp):=by
 subst hn_data;
 exact sxw (e:=fun(r:(List Sp.Bind))=>(((.tup []),(upB sg d_data i_data (.arr v_data 4 (r.map eBind))),W):V × List Fr × Nat)) (F:=c322) rfl<|gO 4<|kw 11 (congrArg (V.int .i64) (wrap_id (n:=a+1) (by omega) (by omega)))<|gO 3<|lp (A:=(Int × (List Sp.Bind)) × Nat) (fun⟨⟨a1_0,a1_1⟩,w1⟩=>(a+1≤a1_0∧a1_0≤data.length+1∧a1_1.length=data.length∧(∀ x∈a1_1,P_cmp x))∧w1≤W) (fun⟨⟨a1_0,a1_1⟩,_⟩=>(b-a1_0).toNat) (fun(acc:(Int × (List Sp.Bind)) × Nat)=>{ vals:=[(.bs (d_data+1) i_data v_data 0 data.length),(.int .i64 a),(.int .i64 b),(.fn g_cmp [] []),(.int .i64 acc.1.1)],fr:=[],sg:=(upB sg d_data i_data (.arr v_data 4 (acc.1.2.map eBind))),wd:=acc.2 }) (acc0:=(((a+1),data),0)) (fn:=fun q p=>insBind_l1 data a b cmp q p.1) (q:=data.length+1) (And.intro (by exact⟨by omega,by omega,rfl,okP⟩) (Nat.zero_le _)) (by(try dsimp only);first|omega|(simp only[List.length_set];omega)) (fun q1 ⟨⟨a1_0,a1_1⟩,w1⟩ hi1 hm1 ih1=>have hb1:(a+1≤a1_0∧a1_0≤data.length+1∧a1_1.length=data.length∧(∀ x∈a1_1,P_cmp x))∧w1≤W:=hi1;have hi1:=hb1.1;have hw1:=hb1.2;have hm1:(b-a1_0).toNat<q1+1:=hm1;gO 7<|dp 14 (fun h1=>gO 10<|lp (A:=(Int × (List Sp.Bind)) × Nat) (fun⟨⟨a2_0,a2_1⟩,w2⟩=>(a≤a2_0∧a2_0<b∧a2_1.length=data.length∧(∀ x∈a2_1,P_cmp x))∧w2≤W) (fun⟨⟨a2_0,a2_1⟩,_⟩=>(a2_0-a).toNat) (fun(acc:(Int × (List Sp.Bind)) × Nat)=>{ vals:=[(.bs (d_data+1) i_data v_data 0 data.length),(.int .i64 a),(.int .i64 b),(.fn g_cmp [] []),(.int .i64 a1_0),(.int .i64 acc.1.1)],fr:=[],sg:=(upB sg d_data i_data (.arr v_data 4 (acc.1.2.map eBind))),wd:=acc.2 }) (acc0:=((a1_0,a1_1),w1)) (fn:=fun q p=>insBind_l2 data a b cmp a1_0 a1_1 q1 (fun acc=>insBind_l1 data a b cmp q1 acc) q p.1) (q:=data.length+1) (And.intro (by exact⟨by omega,by omega,hi1.2.2.1,hi1.2.2.2⟩) hw1) (by(try dsimp only);first|omega|(simp only[List.length_set];omega)) (fun q2 ⟨⟨a2_0,a2_1⟩,w2⟩ hi2 hm2 ih2=>have hb2:(a≤a2_0∧a2_0<b∧a2_1.length=data.length∧(∀ x∈a2_1,P_cmp x))∧w2≤W:=hi2;have hi2:=hb2.1;have hw2:=hb2.2;have hm2:(a2_0-a).toNat<q2+1:=hm2;gO 7<|dp 21 (fun h2=>gO 3<|kw 24 (toNat_v (n:=a2_0) (by first|omega|(simp only[List.length_set];omega)))<|iauz (n:=a2_0.toNat) (len:=data.length) (b:=i_data) (ver:=v_data) (z:=4) (es:=a2_1.map eBind) (get_up hp_data) (by first|omega|(simp only[List.length_set];omega))<|elx (by first|omega|(simp only[List.length_set];omega)) fun y1 h3=>ldu (ag:=true) (sz:=4) (ver:=v_data) (z:=4) (j:=a2_0.toNat) (o:=0) (en:=eBind) (L:=a2_1) (y:=y1) (v:=(.agg [(.str y1.var),(.int .i64 y1.val.kind),(.int .i64 y1.val.n),(.str y1.val.s)])) (get_up hp_data) h3 (by kernel_rfl)<|gO 3<|kw 29 (congrArg (V.int .i64) (wrap_id (n:=a2_0-1) (by omega) (by omega)))<|kw 29 (toNat_v (n:=(a2_0-1)) (by first|omega|(simp only[List.length_set];omega)))<|iauz (n:=(a2_0-1).toNat) (len:=data.length) (b:=i_data) (ver:=v_data) (z:=4) (es:=a2_1.map eBind) (get_up hp_data) (by first|omega|(simp only[List.length_set];omega))<|elx (by first|omega|(simp only[List.length_set];omega)) fun y2 h4=>ldu (ag:=true) (sz:=4) (ver:=v_data) (z:=4) (j:=(a2_0-1).toNat) (o:=0) (en:=eBind) (L:=a2_1) (y:=y2) (v:=(.agg [(.str y2.var),(.int .i64 y2.val.kind),(.int .i64 y2.val.n),(.str y2.val.s)])) (get_up hp_data) h4 (by kernel_rfl)<|clim (hp_cmp y1 y2 (by exact hi2.2.2.2 _ (List.mem_of_getElem? (by assumption))) (by exact hi2.2.2.2 _ (List.mem_of_getElem? (by assumption))) _)<|gO 3<|dp 34 (fun h5=>gO 10<|kw 41 (congrArg (V.int .i64) (wrap_id (n:=a2_0-1) (by omega) (by omega)))<|gO 3<|kw 44 (congrArg (V.int .i64) (wrap_id (n:=a2_0-1) (by omega) (by omega)))<|kw 44 (toNat_v (n:=(a2_0-1)) (by first|omega|(simp only[List.length_set];omega)))<|iauz (n:=(a2_0-1).toNat) (len:=data.length) (b:=i_data) (ver:=v_data) (z:=4) (es:=a2_1.map eBind) (get_up hp_data) (by first|omega|(simp only[List.length_set];omega))<|ldu (ag:=true) (sz:=4) (ver:=v_data) (z:=4) (j:=(a2_0-1).toNat) (o:=0) (en:=eBind) (L:=a2_1) (y:=y2) (v:=(.agg [(.str y2.var),(.int .i64 y2.val.kind),(.int .i64 y2.val.n),(.str y2.val.s)])) (get_up hp_data) h4 (by kernel_rfl)<|gO 2<|kw 48 (toNat_v (n:=a2_0) (by first|omega|(simp only[List.length_set];omega)))<|iauz (n:=a2_0.toNat) (len:=data.length) (b:=i_data) (ver:=v_data) (z:=4) (es:=a2_1.map eBind) (get_up hp_data) (by first|omega|(simp only[List.length_set];omega))<|ldu (ag:=true) (sz:=4) (ver:=v_data) (z:=4) (j:=a2_0.toNat) (o:=0) (en:=eBind) (L:=a2_1) (y:=y1) (v:=(.agg [(.str y1.var),(.int .i64 y1.val.kind),(.int .i64 y1.val.n),(.str y1.val.s)])) (get_up hp_data) h3 (by kernel_rfl)<|kw 38 (toNat_v (n:=a2_0) (by first|omega|(simp only[List.length_set];omega)))<|iauz (n:=a2_0.toNat) (len:=data.length) (b:=i_data) (ver:=v_data) (z:=4) (es:=a2_1.map eBind) (get_up hp_data) (by first|omega|(simp only[List.length_set];omega))<|smu (re:=[]) (ag:=true) (sz:=4) (ver:=v_data) (z:=4) (j:=a2_0.toNat) (o:=0) (v:=(.agg [(.str y2.var),(.int .i64 y2.val.kind),(.int .i64 y2.val.n),(.str y2.val.s)])) (en:=eBind) (L:=a2_1) (y:=y1) (y':=y2) (cs:=[(.str y2.var),(.int .i64 y2.val.kind),(.int .i64 y2.val.n),(.str y2.val.s)]) (w:=w2) (W:=W) (get_up hp_data) (up_up _ _ _ _ _) h3 (by kernel_rfl) (by kernel_rfl) (by kernel_rfl) hw2 hW_data (fun w_3 hw_3=>trivial) fun w_3 hw_3=>kw 41 (toNat_v (n:=(a2_0-1)) (by first|omega|(simp only[List.length_set];omega)))<|iauz (n:=(a2_0-1).toNat) (len:=data.length) (b:=i_data) (ver:=v_data) (z:=4) (es:=(a2_1.set a2_0.toNat y2).map eBind) (get_up hp_data) (by first|omega|(simp only[List.length_set];omega))<|elx (by first|omega|(simp only[List.length_set];omega)) fun y4 h6=>smu (re:=[]) (ag:=true) (sz:=4) (ver:=v_data) (z:=4) (j:=(a2_0-1).toNat) (o:=0) (v:=(.agg [(.str y1.var),(.int .i64 y1.val.kind),(.int .i64 y1.val.n),(.str y1.val.s)])) (en:=eBind) (L:=(a2_1.set a2_0.toNat y2)) (y:=y4) (y':=y1) (cs:=[(.str y1.var),(.int .i64 y1.val.kind),(.int .i64 y1.val.n),(.str y1.val.s)]) (w:=w_3) (W:=W) (get_up hp_data) (up_up _ _ _ _ _) h6 (by kernel_rfl) (by kernel_rfl) (by kernel_rfl) hw_3 hW_data (fun w_5 hw_5=>trivial) fun w_5 hw_5=>gO 5<|kw 36 (congrArg (V.int .i64) (wrap_id (n:=a2_0-1) (by omega) (by omega)))<|gO 2<|nx (ih2 (((a2_0-1),((a2_1.set a2_0.toNat y2).set ((a2_0-1).toNat) y1)),w_5) (And.intro (by exact⟨by omega,by omega,by(simp only[List.length_set];omega),all_set (all_set hi2.2.2.2 (hi2.2.2.2 _ (List.mem_of_getElem? (by assumption)))) (hi2.2.2.2 _ (List.mem_of_getElem? (by assumption)))⟩) hw_5) (by(try dsimp only);first|omega|(simp only[List.length_set];omega)))) (fun h5=>gO 9<|kw 16 (congrArg (V.int .i64) (wrap_id (n:=a1_0+1) (by omega) (by omega)))<|gO 2<|nx (ih1 (((a1_0+1),a2_1),w2) (And.intro (by exact⟨by omega,by omega,hi2.2.2.1,hi2.2.2.2⟩) hw2) (by(try dsimp only);first|omega|(simp only[List.length_set];omega))))) (fun h2=>gO 23<|kw 16 (congrArg (V.int .i64) (wrap_id (n:=a1_0+1) (by omega) (by omega)))<|gO 2<|nx (ih1 (((a1_0+1),a2_1),w2) (And.intro (by exact⟨by omega,by omega,hi2.2.2.1,hi2.2.2.2⟩) hw2) (by(try dsimp only);first|omega|(simp only[List.length_set];omega)))))) (fun h1=>gO 5<|enw (w:=w1) hw1))
def indexCondA_l1 (s:(List Sp.Cond)) (f:Sp.Cond→Bool):Nat→List Sp.Cond→Unit→Int
 |i1,[],_=>(-1)
 |i1,x1::xs2,_=>(bif (f x1) then(i1:Int) else indexCondA_l1 s f (i1+1) xs2 ())
def indexCondA (s:(List Sp.Cond)) (f:Sp.Cond→Bool):Int:=indexCondA_l1 s f 0 s ()
theorem indexCondA_w (s:(List Sp.Cond)) (f:Sp.Cond→Bool) {sg:List Fr} {d_s i_s v_s n_s:Nat} {g_f:FuncId} {P_f:Sp.Cond→Prop} (hp_s:Plc sg d_s i_s) (hn_s:s.length=n_s) (hp_f:∀ x:Sp.Cond,P_f x→∀ sg:List Fr,TX.call g_f ([eCond x].map (argV (TX.C.keepA g_f))) sg=some (eB (f x),sg,0)) (okP:∀ x∈s,P_f x) (hl:s.length≤1000000):(fun(r:Int)=>TX.call 298 [.bs (d_s+1) i_s v_s 0 n_s,.fn g_f [] []] (upB sg d_s i_s (.arr v_s 6 (s.map eCond)))=some ((eI r),(upB sg d_s i_s (.arr v_s 6 (s.map eCond))),0)) (indexCondA s f):=by
 subst hn_s;
 exact sx (e:=fun(r:Int)=>(((eI r),(upB sg d_s i_s (.arr v_s 6 (s.map eCond))),0):V × List Fr × Nat)) (F:=c298) rfl<|gO 12<|rg (β:=Sp.Cond) (A:=Unit) (fun i1 _=>{ vals:=[(.bs (d_s+1) i_s v_s 0 s.length),(.fn g_f [] []),(.int .i64 (s.length:Int)),(.int .i64 (i1:Int))],fr:=[],sg:=(upB sg d_s i_s (.arr v_s 6 (s.map eCond))),wd:=0 }) (L:=s) (acc0:=()) (fn:=indexCondA_l1 s f) (fun i1 x1 xs2 _ hd1 ih1=>have hlt1:=drop_lt hd1;have hx1:=drop_get hd1;gO 5<|dk 9 (lt_true hlt1)<|gO 14<|iauz (n:=i1) (len:=s.length) (b:=i_s) (ver:=v_s) (z:=6) (es:=s.map eCond) (get_up hp_s) (by(first|assumption|omega|(simp only[List.length_cons,List.length_nil,List.length_append,List.length_map];omega)|grind))<|ldu (ag:=true) (sz:=6) (ver:=v_s) (z:=6) (j:=i1) (o:=0) (en:=eCond) (L:=s) (y:=x1) (v:=(.agg [(.int .i64 x1.kind),(.str x1.atom.name),(.sl .no 4 (x1.atom.args.map eTerm)),(.int .i64 x1.how),(.sl .no 5 (x1.left.map eOp)),(.sl .no 5 (x1.right.map eOp))])) (get_up hp_s) hx1 (by kernel_rfl)<|cli (hp_f x1 (by exact okP _ (List.mem_of_getElem? (by assumption))) _)<|gO 1<|dc 16 (fun h1=>gO 12<|en) (fun h1=>gO 5<|kw 18 (congrArg (V.int .i64) (wrap_s hlt1 (by(first|assumption|omega|(simp only[List.length_cons,List.length_nil,List.length_append,List.length_map];omega)|grind))))<|gO 2<|nx (ih1 ()))) (fun i1 _ hd1=>have hge1:=drop_ge hd1;gO 5<|dk 9 (lt_false hge1)<|gO 10<|en)
def compactBind_l2 (s:(List Sp.Bind)) (a1_0:Int) (q1:Nat) (y1:Sp.Bind) (y2:Sp.Bind) (rec1:(Int→Nat × (List Sp.Bind))):Nat→Int × Int × (List Sp.Bind)→Nat × (List Sp.Bind)
 |0,_=>default
 |q2+1,⟨a2_0,a2_1,a2_2⟩=>(bif (decide (a2_1<(((s.length-a1_0.toNat):Nat):Int))) then(onS a2_2[(a1_0.toNat+a2_1.toNat)]? (fun y3=>(onS a2_2[(a1_0.toNat+(a2_1-1).toNat)]? (fun y4=>(bif ((y3.var == y4.var)&&((y3.val.kind == y4.val.kind)&&((y3.val.n == y4.val.n)&&((y3.val.s == y4.val.s)&&true)))) then compactBind_l2 s a1_0 q1 y1 y2 rec1 q2 (a2_0,(a2_1+1),a2_2) else(onS a2_2[a2_0.toNat]? (fun y5=>compactBind_l2 s a1_0 q1 y1 y2 rec1 q2 ((a2_0+1),(a2_1+1),(a2_2.set a2_0.toNat y3))) default))) default)) default) else(a2_0.toNat,(a2_2.take a2_0.toNat++List.replicate (s.length-a2_0.toNat) (⟨([]:Txt),(⟨0,0,([]:Txt)⟩:Sp.Val)⟩:Sp.Bind))))
def compactBind_l1 (s:(List Sp.Bind)):Nat→Int→Nat × (List Sp.Bind)
 |0,_=>default
 |q1+1,a1_0=>(bif (decide (a1_0<(s.length:Int))) then(onS s[a1_0.toNat]? (fun y1=>(onS s[(a1_0-1).toNat]? (fun y2=>(bif ((y1.var == y2.var)&&((y1.val.kind == y2.val.kind)&&((y1.val.n == y2.val.n)&&((y1.val.s == y2.val.s)&&true)))) then compactBind_l2 s a1_0 q1 y1 y2 (fun acc=>compactBind_l1 s q1 acc) (s.length+1) (a1_0,1,s) else compactBind_l1 s q1 (a1_0+1))) default)) default) else(s.length,s))
def compactBind (s:(List Sp.Bind)):Nat × (List Sp.Bind):=(bif (decide ((s.length:Int)<2)) then(s.length,s) else compactBind_l1 s (s.length+1) 1)
theorem compactBind_w (s:(List Sp.Bind)) {sg:List Fr} {W:Nat} {d_s i_s v_s n_s:Nat}  (hp_s:Plc sg d_s i_s) (hn_s:s.length=n_s) (hW_s:d_s+1≤W)  (hl:s.length≤1000000):(fun(r:Nat × (List Sp.Bind))=>∃ w,w≤W∧TX.call 246 [.bs (d_s+1) i_s v_s 0 n_s] (upB sg d_s i_s (.arr v_s 4 (s.map eBind)))=some ((.bs d_s i_s v_s 0 r.1),(upB sg d_s i_s (.arr v_s 4 (r.2.map eBind))),w)) (compactBind s):=by
 subst hn_s;
 exact sxw (e:=fun(r:Nat × (List Sp.Bind))=>(((.bs d_s i_s v_s 0 r.1),(upB sg d_s i_s (.arr v_s 4 (r.2.map eBind))),W):V × List Fr × Nat)) (F:=c246) rfl<|gO 11<|dp 8 (fun h1=>gO 8<|enu (t:=2) (d:=d_s) (i:=i_s) (ver:=v_s) (k:=s.length) (sg:=(upB sg d_s i_s (.arr v_s 4 (s.map eBind)))) (plc_up hp_s) (w:=0) (Nat.zero_le _) (hr:=by kernel_rfl)) (fun h1=>gO 8<|lp (A:=(Int) × Nat) (fun⟨a1_0,w1⟩=>(1≤a1_0∧a1_0≤s.length)∧w1≤W) (fun⟨a1_0,_⟩=>((s.length:Int)-a1_0).toNat) (fun(acc:(Int) × Nat)=>{ vals:=[(.bs (d_s+1) i_s v_s 0 s.length),(.int .i64 acc.1)],fr:=[.tok 0],sg:=(upB sg d_s i_s (.arr v_s 4 (s.map eBind))),wd:=acc.2 }) (acc0:=(1,0)) (fn:=fun q p=>compactBind_l1 s q p.1) (q:=s.length+1) (And.intro (by first|omega|(simp only[List.length_set];omega)) (Nat.zero_le _)) (by(try dsimp only);first|omega|(simp only[List.length_set];omega)) (fun q1 ⟨a1_0,w1⟩ hi1 hm1 ih1=>have hb1:(1≤a1_0∧a1_0≤s.length)∧w1≤W:=hi1;have hi1:=hb1.1;have hw1:=hb1.2;have hm1:((s.length:Int)-a1_0).toNat<q1+1:=hm1;gO 8<|dp 13 (fun h2=>gO 8<|kw 17 (toNat_v (n:=a1_0) (by first|omega|(simp only[List.length_set];omega)))<|iauz (n:=a1_0.toNat) (len:=s.length) (b:=i_s) (ver:=v_s) (z:=4) (es:=s.map eBind) (get_up hp_s) (by first|omega|(simp only[List.length_set];omega))<|elx (by first|omega|(simp only[List.length_set];omega)) fun y1 h3=>ldu (ag:=true) (sz:=4) (ver:=v_s) (z:=4) (j:=a1_0.toNat) (o:=0) (en:=eBind) (L:=s) (y:=y1) (v:=(.agg [(.str y1.var),(.int .i64 y1.val.kind),(.int .i64 y1.val.n),(.str y1.val.s)])) (get_up hp_s) h3 (by kernel_rfl)<|gO 3<|kw 22 (congrArg (V.int .i64) (wrap_id (n:=a1_0-1) (by omega) (by omega)))<|kw 22 (toNat_v (n:=(a1_0-1)) (by first|omega|(simp only[List.length_set];omega)))<|iauz (n:=(a1_0-1).toNat) (len:=s.length) (b:=i_s) (ver:=v_s) (z:=4) (es:=s.map eBind) (get_up hp_s) (by first|omega|(simp only[List.length_set];omega))<|elx (by first|omega|(simp only[List.length_set];omega)) fun y2 h4=>ldu (ag:=true) (sz:=4) (ver:=v_s) (z:=4) (j:=(a1_0-1).toNat) (o:=0) (en:=eBind) (L:=s) (y:=y2) (v:=(.agg [(.str y2.var),(.int .i64 y2.val.kind),(.int .i64 y2.val.n),(.str y2.val.s)])) (get_up hp_s) h4 (by kernel_rfl)<|gO 2<|dc 25 (fun h5=>gO 5<|kw 27 (toNat_v (n:=a1_0) (by first|omega|(simp only[List.length_set];omega)))<|cbu (es:=s.map eBind) (z:=4) (d:=d_s) (i:=i_s) (ver:=v_s) (o:=0) (l:=a1_0.toNat) (hh:=s.length) (len:=s.length) (o':=a1_0.toNat) (len':=(s.length-a1_0.toNat)) (get_up hp_s) (by first|omega|(simp only[List.length_set];omega)) (by first|omega|(simp only[List.length_set];omega)) (by omega) (by omega)<|gO 8<|lp (A:=(Int × Int × (List Sp.Bind)) × Nat) (fun⟨⟨a2_0,a2_1,a2_2⟩,w2⟩=>(a1_0≤a2_0∧a2_0+1≤a1_0+a2_1∧1≤a2_1∧a1_0+a2_1≤s.length∧a2_2.length=s.length)∧w2≤W) (fun⟨⟨a2_0,a2_1,a2_2⟩,_⟩=>((s.length:Int)-a2_1).toNat) (fun(acc:(Int × Int × (List Sp.Bind)) × Nat)=>{ vals:=[(.bs (d_s+1) i_s v_s 0 s.length),(.int .i64 acc.1.1),(.bs (d_s+1) i_s v_s a1_0.toNat (s.length-a1_0.toNat)),(.int .i64 acc.1.2.1)],fr:=[.tok 0],sg:=(upB sg d_s i_s (.arr v_s 4 (acc.1.2.2.map eBind))),wd:=acc.2 }) (acc0:=((a1_0,1,s),w1)) (fn:=fun q p=>compactBind_l2 s a1_0 q1 y1 y2 (fun acc=>compactBind_l1 s q1 acc) q p.1) (q:=s.length+1) (And.intro (by first|omega|(simp only[List.length_set];omega)) hw1) (by(try dsimp only);first|omega|(simp only[List.length_set];omega)) (fun q2 ⟨⟨a2_0,a2_1,a2_2⟩,w2⟩ hi2 hm2 ih2=>have hb2:(a1_0≤a2_0∧a2_0+1≤a1_0+a2_1∧1≤a2_1∧a1_0+a2_1≤s.length∧a2_2.length=s.length)∧w2≤W:=hi2;have hi2:=hb2.1;have hw2:=hb2.2;have hm2:((s.length:Int)-a2_1).toNat<q2+1:=hm2;gO 8<|dp 32 (fun h6=>gO 8<|kw 36 (toNat_v (n:=a2_1) (by first|omega|(simp only[List.length_set];omega)))<|iau (o:=a1_0.toNat) (n:=a2_1.toNat) (len:=(s.length-a1_0.toNat)) (b:=i_s) (ver:=v_s) (z:=4) (es:=a2_2.map eBind) (get_up hp_s) (by first|omega|(simp only[List.length_set];omega))<|elx (by first|omega|(simp only[List.length_set];omega)) fun y3 h7=>ldu (ag:=true) (sz:=4) (ver:=v_s) (z:=4) (j:=(a1_0.toNat+a2_1.toNat)) (o:=0) (en:=eBind) (L:=a2_2) (y:=y3) (v:=(.agg [(.str y3.var),(.int .i64 y3.val.kind),(.int .i64 y3.val.n),(.str y3.val.s)])) (get_up hp_s) h7 (by kernel_rfl)<|gO 3<|kw 41 (congrArg (V.int .i64) (wrap_id (n:=a2_1-1) (by omega) (by omega)))<|kw 41 (toNat_v (n:=(a2_1-1)) (by first|omega|(simp only[List.length_set];omega)))<|iau (o:=a1_0.toNat) (n:=(a2_1-1).toNat) (len:=(s.length-a1_0.toNat)) (b:=i_s) (ver:=v_s) (z:=4) (es:=a2_2.map eBind) (get_up hp_s) (by first|omega|(simp only[List.length_set];omega))<|elx (by first|omega|(simp only[List.length_set];omega)) fun y4 h8=>ldu (ag:=true) (sz:=4) (ver:=v_s) (z:=4) (j:=(a1_0.toNat+(a2_1-1).toNat)) (o:=0) (en:=eBind) (L:=a2_2) (y:=y4) (v:=(.agg [(.str y4.var),(.int .i64 y4.val.kind),(.int .i64 y4.val.n),(.str y4.val.s)])) (get_up hp_s) h8 (by kernel_rfl)<|gO 2<|dcn 44 (fun h9=>gO 6<|kw 34 (congrArg (V.int .i64) (wrap_id (n:=a2_1+1) (by omega) (by omega)))<|gO 2<|nx (ih2 ((a2_0,(a2_1+1),a2_2),w2) (And.intro (by first|omega|(simp only[List.length_set];omega)) hw2) (by(try dsimp only);first|omega|(simp only[List.length_set];omega)))) (fun h9=>gO 7<|kw 48 (toNat_v (n:=a2_1) (by first|omega|(simp only[List.length_set];omega)))<|iau (o:=a1_0.toNat) (n:=a2_1.toNat) (len:=(s.length-a1_0.toNat)) (b:=i_s) (ver:=v_s) (z:=4) (es:=a2_2.map eBind) (get_up hp_s) (by first|omega|(simp only[List.length_set];omega))<|ldu (ag:=true) (sz:=4) (ver:=v_s) (z:=4) (j:=(a1_0.toNat+a2_1.toNat)) (o:=0) (en:=eBind) (L:=a2_2) (y:=y3) (v:=(.agg [(.str y3.var),(.int .i64 y3.val.kind),(.int .i64 y3.val.n),(.str y3.val.s)])) (get_up hp_s) h7 (by kernel_rfl)<|kw 46 (toNat_v (n:=a2_0) (by first|omega|(simp only[List.length_set];omega)))<|iauz (n:=a2_0.toNat) (len:=s.length) (b:=i_s) (ver:=v_s) (z:=4) (es:=a2_2.map eBind) (get_up hp_s) (by first|omega|(simp only[List.length_set];omega))<|elx (by first|omega|(simp only[List.length_set];omega)) fun y5 h10=>stu (ag:=true) (sz:=4) (ver:=v_s) (z:=4) (j:=a2_0.toNat) (o:=0) (v:=(.agg [(.str y3.var),(.int .i64 y3.val.kind),(.int .i64 y3.val.n),(.str y3.val.s)])) (en:=eBind) (L:=a2_2) (y:=y5) (y':=y3) (cs:=[(.str y3.var),(.int .i64 y3.val.kind),(.int .i64 y3.val.n),(.str y3.val.s)]) (w:=w2) (W:=W) (get_up hp_s) (up_up _ _ _ _ _) h10 (by kernel_rfl) (by kernel_rfl) (by kernel_rfl) hw2 hW_s fun w_6 hw_6=>gO 4<|kw 53 (congrArg (V.int .i64) (wrap_id (n:=a2_0+1) (by omega) (by omega)))<|gO 6<|kw 34 (congrArg (V.int .i64) (wrap_id (n:=a2_1+1) (by omega) (by omega)))<|gO 2<|nx (ih2 (((a2_0+1),(a2_1+1),(a2_2.set a2_0.toNat y3)),w_6) (And.intro (by first|omega|(simp only[List.length_set];omega)) hw_6) (by(try dsimp only);first|omega|(simp only[List.length_set];omega))))) (fun h6=>gO 9<|kw 55 (toNat_v (n:=a2_0) (by first|omega|(simp only[List.length_set];omega)))<|cbu (es:=a2_2.map eBind) (z:=4) (d:=d_s) (i:=i_s) (ver:=v_s) (o:=0) (l:=a2_0.toNat) (hh:=s.length) (len:=s.length) (o':=a2_0.toNat) (len':=(s.length-a2_0.toNat)) (get_up hp_s) (by first|omega|(simp only[List.length_set];omega)) (by first|omega|(simp only[List.length_set];omega)) (by omega) (by omega)<|clru (en:=eBind) (L:=a2_2) (ver:=v_s) (o:=a2_0.toNat) (len:=(s.length-a2_0.toNat)) (zz:=4) (w:=w2) (W:=W) (⟨([]:Txt),(⟨0,0,([]:Txt)⟩:Sp.Val)⟩:Sp.Bind) (get_up hp_s) (up_up _ _ _ _ _) (by first|omega|(simp only[List.length_set];omega)) (by intro y;rfl) (by kernel_rfl) hw2 hW_s fun w_7 hw_7=>gO 5<|kw 58 (toNat_v (n:=a2_0) (by first|omega|(simp only[List.length_set];omega)))<|cbu (es:=(a2_2.take a2_0.toNat++List.replicate (s.length-a2_0.toNat) (⟨([]:Txt),(⟨0,0,([]:Txt)⟩:Sp.Val)⟩:Sp.Bind)).map eBind) (z:=4) (d:=d_s) (i:=i_s) (ver:=v_s) (o:=0) (l:=0) (hh:=a2_0.toNat) (len:=s.length) (o':=0) (len':=a2_0.toNat) (get_up hp_s) (by first|omega|(simp only[List.length_set];omega)) (by first|omega|(simp only[List.length_set];omega)) (by omega) (by omega)<|gO 8<|enu (t:=2) (d:=d_s) (i:=i_s) (ver:=v_s) (k:=a2_0.toNat) (sg:=(upB sg d_s i_s (.arr v_s 4 ((a2_2.take a2_0.toNat++List.replicate (s.length-a2_0.toNat) (⟨([]:Txt),(⟨0,0,([]:Txt)⟩:Sp.Val)⟩:Sp.Bind)).map eBind)))) (plc_up hp_s) (w:=w_7) hw_7 (hr:=by kernel_rfl)))) (fun h5=>gO 6<|kw 15 (congrArg (V.int .i64) (wrap_id (n:=a1_0+1) (by omega) (by omega)))<|gO 2<|nx (ih1 ((a1_0+1),w1) (And.intro (by first|omega|(simp only[List.length_set];omega)) hw1) (by(try dsimp only);first|omega|(simp only[List.length_set];omega))))) (fun h2=>gO 11<|enu (t:=2) (d:=d_s) (i:=i_s) (ver:=v_s) (k:=s.length) (sg:=(upB sg d_s i_s (.arr v_s 4 (s.map eBind)))) (plc_up hp_s) (w:=w1) hw1 (hr:=by kernel_rfl))))
def growBind (n:Int):(List Sp.Bind) × Nat × Nat:=((List.replicate ((n-0).toNat) (⟨([]:Txt),(⟨0,0,([]:Txt)⟩:Sp.Val)⟩:Sp.Bind)),(n-0).toNat,0)
theorem growBind_in (n:Int) (h0:0<n) (hn:n≤1000000) {f0:Fr} {sg:List Fr}:(fun(r:(List Sp.Bind) × Nat × Nat)=>∃ w,w≤1∧TX.call 294 [.sl .ex 4 [],eI n] (f0::sg)=some (V.bs 0 (f0.length+1) r.2.1 0 r.2.2,(f0 ++ [Blk.arr 0 4 [],Blk.arr r.2.1 4 (r.1.map eBind)])::sg,w)) (growBind n):=
 sxw (e:=fun(r:(List Sp.Bind) × Nat × Nat)=>((V.bs 0 (f0.length+1) r.2.1 0 r.2.2,(f0 ++ [Blk.arr 0 4 [],Blk.arr r.2.1 4 (r.1.map eBind)])::sg,1):V × List Fr × Nat)) (r:=growBind n) (F:=c294) rfl<|gO 10<|dk 6 (fd (show ¬ (n<0) by omega))<|gO 12<|kw 14 (congrArg (V.int .i64) (wrap_id (n:=n-0) (by omega) (by omega)))<|gO 7<|dk 16 (td (show(n-0)>0 by omega))<|gO 5<|gO 1<|gO 1<|kw 21 (toNat_v (n:=(n-0)) (by omega))<|azw (en:=eBind) (ag:=true) (z:=[(.str ([]:Txt)),(.int .i64 0),(.int .i64 0),(.str ([]:Txt))]) (zl:=4) (n:=(n-0).toNat) (i:=1) (⟨([]:Txt),(⟨0,0,([]:Txt)⟩:Sp.Val)⟩:Sp.Bind) (by omega) (by(unfold lim;omega)) (by kernel_rfl) (by kernel_rfl)<|gO 2<|cbo (es:=(List.replicate ((n-0).toNat) (⟨([]:Txt),(⟨0,0,([]:Txt)⟩:Sp.Val)⟩:Sp.Bind)).map eBind) (z:=4) (ver:=(n-0).toNat) (i:=1) (o:=0) (l:=0) (hh:=0) (len:=(n-0).toNat) (o':=0) (len':=0) (by omega) (by omega) (by omega) (by omega)<|gO 8<|en
end Go.Vm
/-
  Sorted by putting each to its place; the same ones side by side made one: what these answer.
-/
namespace Go.Vm
open Go Go.Sp
theorem get_app {α:Type} (p:List α) (x:α) (s:List α) {n:Nat} (h:n=p.length):(p++x::s)[n]? = some x:=by
 subst h;rw[List.getElem?_append_right (Nat.le_refl _),Nat.sub_self];rfl
theorem get_app1 {α:Type} (p:List α) (x y:α) (s:List α) {n:Nat} (h:n=p.length+1):(p++x::y::s)[n]? = some y:=by
 subst h;rw[List.getElem?_append_right (Nat.le_succ _)];simp
theorem set_app {α:Type} (p:List α) (x z:α) (s:List α) {n:Nat} (h:n=p.length):(p++x::s).set n z=p++z::s:=by
 subst h;rw[List.set_append_right _ _ (Nat.le_refl _),Nat.sub_self];rfl
theorem set_app1 {α:Type} (p:List α) (x y z:α) (s:List α) {n:Nat} (h:n=p.length+1):(p++x::y::s).set n z=p++x::z::s:=by
 subst h;rw[List.set_append_right _ _ (Nat.le_succ _)];simp
section
variable (cmp:Sp.Bind→Sp.Bind→Int)
theorem insBind_l2_eq (data:List Sp.Bind) (b a1:Int) (a1_1:List Sp.Bind) (q1:Nat) (rec1:Int × List Sp.Bind→List Sp.Bind):∀ (q:List Sp.Bind) (x:Sp.Bind) (s:List Sp.Bind) (fuel:Nat),q.length<fuel →
  insBind_l2 data 0 b cmp a1 a1_1 q1 rec1 fuel ((q.length:Int),q.reverse++x::s)=rec1 (a1+1,srtI cmp q x s)
 | [],x,s,fuel+1,_=>by
  rw[insBind_l2]
  have:decide (((([]:List Sp.Bind).length:Nat):Int)>0)=false:=by simp
  rw[this];rfl
 |y::q,x,s,fuel+1,h=>by
  rw[insBind_l2]
  have h0:decide ((((y::q).length:Nat):Int)>0)=true:=decide_eq_true (by simp only[List.length_cons];omega)
  have e1:(((y::q).length:Nat):Int).toNat=q.reverse.length+1:=by simp
  have e2:((((y::q).length:Nat):Int)-1).toNat=q.reverse.length:=by simp
  have e3:(((y::q).length:Nat):Int)-1=((q.length:Nat):Int):=by simp only[List.length_cons];omega
  have eL:(y::q).reverse++x::s=q.reverse++y::x::s:=by simp
  rw[h0,cond_true,eL,e1,e2,get_app1 _ _ _ _ rfl,get_app _ _ _ rfl]
  simp only[onS]
  rw[srtI]
  cases hc:decide (cmp x y<0) with
  |true=>
   rw[cond_true,cond_true,set_app1 _ _ _ _ _ rfl,get_app _ _ _ rfl]
   simp only[]
   rw[set_app _ _ _ _ rfl,e3]
   exact insBind_l2_eq data b a1 a1_1 q1 rec1 q x (y::s) fuel (by simp only[List.length_cons] at h;omega)
  |false=>rw[cond_false,cond_false]
theorem insBind_l1_eq (data:List Sp.Bind):∀ (s p:List Sp.Bind) (fuel:Nat),s.length<fuel→(p++s).length=data.length→insBind_l1 data 0 (data.length:Int) cmp fuel ((p.length:Int),p++s)=srtL cmp p s
 | [],p,fuel+1,_,hl=>by
  rw[insBind_l1]
  have:decide (((p.length:Nat):Int)<(data.length:Int))=false:=decide_eq_false (by rw[List.append_nil] at hl;omega)
  rw[this,cond_false,List.append_nil,srtL]
 |x::s,p,fuel+1,h,hl=>by
  rw[insBind_l1]
  have hl':p.length+(s.length+1)=data.length:=by rw[← hl];simp
  have:decide (((p.length:Nat):Int)<(data.length:Int))=true:=decide_eq_true (by omega)
  rw[this,cond_true]
  have h1:=insBind_l2_eq cmp data (data.length:Int) ((p.length:Nat):Int) (p++x::s) fuel (fun acc=>insBind_l1 data 0 (data.length:Int) cmp fuel acc) p.reverse x s (data.length+1) (by rw[List.length_reverse];omega)
  rw[List.length_reverse,List.reverse_reverse] at h1
  rw[h1,srtL]
  have h2:srtI cmp p.reverse x s=srtI cmp p.reverse x []++s:=by rw[← srtI_app,List.nil_append]
  have h3:(srtI cmp p.reverse x []).length=p.length+1:=by rw[(srtI_perm cmp _ _ _).length_eq];simp
  have h4:((p.length:Nat):Int)+1=(((srtI cmp p.reverse x []).length:Nat):Int):=by rw[h3];rfl
  rw[h2,h4]
  exact insBind_l1_eq data s _ fuel (by simp only[List.length_cons] at h;omega) (by rw[List.length_append,h3,← hl'];omega)
theorem insBind_eq (data:List Sp.Bind):insBind data 0 (data.length:Int) cmp=isrt cmp data:=by
 unfold insBind
 cases data with
 |nil=>rfl
 |cons x s=>
  have:=insBind_l1_eq cmp (x::s) s [x] ((x::s).length+1) (by simp only[List.length_cons];omega) rfl
  exact this
theorem insBind_end (data:List Sp.Bind) (n:Int):insBind data n n cmp=data:=by
 unfold insBind
 rw[insBind_l1]
 have:decide (n+1<n)=false:=decide_eq_false (by omega)
 rw[this];rfl
theorem insBind_ok {data:List Sp.Bind} {a b:Int} (h:(a=0∧b=(data.length:Int))∨a=b):(insBind data a b cmp).length=data.length∧∀ x,x∈insBind data a b cmp→x∈data:=by
 rcases h with⟨rfl,rfl⟩|rfl
 ·rw[insBind_eq]
  have hp:=srtL_perm cmp data []
  exact⟨hp.length_eq,fun x hx=>hp.mem_iff.1 hx⟩
 ·rw[insBind_end];exact⟨rfl,fun x hx=>hx⟩
end
theorem beqBind (x y:Sp.Bind):((x.var == y.var)&&((x.val.kind == y.val.kind)&&((x.val.n == y.val.n)&&((x.val.s == y.val.s)&&true))))=(x == y):=by
 rw[Bool.eq_iff_iff]
 simp only[Bool.and_eq_true,beq_iff_eq,and_true]
 constructor
 ·rintro ⟨h1,h2,h3,h4⟩
  obtain⟨a,b,c,d⟩:=x
  obtain⟨a',b',c',d'⟩:=y
  simp_all
 ·rintro rfl;exact⟨rfl,rfl,rfl,rfl⟩
theorem drop_two {α:Type} {l:List α} {n:Nat} {x y:α} (h1:l[n]? = some x) (h2:l[n+1]? = some y):l.drop n=x::y::l.drop (n+2):=by
 obtain⟨a1,a2⟩:=List.getElem?_eq_some_iff.1 h1
 obtain⟨b1,b2⟩:=List.getElem?_eq_some_iff.1 h2
 rw[List.drop_eq_getElem_cons a1,List.drop_eq_getElem_cons b1,a2,b2]
theorem drop_oneL {α:Type} {l:List α} {n:Nat} {x:α} (h1:l[n]? = some x):l.drop n=x::l.drop (n+1):=by
 obtain⟨a1,a2⟩:=List.getElem?_eq_some_iff.1 h1
 rw[List.drop_eq_getElem_cons a1,a2]
theorem take_oneL {α:Type} {l:List α} {n:Nat} {x:α} (h1:l[n]? = some x):l.take (n+1)=l.take n ++ [x]:=by
 rw[List.take_add_one,h1];rfl
theorem get_of_drop {α:Type} {l m:List α} {n k:Nat} (h:l.drop n=m.drop n) (hk:n≤k):l[k]? = m[k]?:=by
 have:=congrArg (·[k-n]?) h
 simp only[List.getElem?_drop] at this
 rwa [show n+(k-n)=k by omega] at this
theorem compactBind_l2_eq (s:List Sp.Bind) (a1:Int) (q1:Nat) (y1 y2:Sp.Bind) (rec1:Int→Nat × List Sp.Bind) (k0:Nat) (ha:a1=(k0:Int)):∀ (fuel k k2:Nat) (A:List Sp.Bind),s.length<k2+fuel→k0≤k→k+1≤k0+k2→1≤k2→k0+k2≤s.length→A.length=s.length→A.drop (k0+k2-1)=s.drop (k0+k2-1) →
  let r:=compactBind_l2 s a1 q1 y1 y2 rec1 fuel ((k:Int),(k2:Int),A)
  r.2.take r.1=A.take k++(dd (s.drop (k0+k2-1))).tail∧r.1≤r.2.length
 |0,k,k2,A,h,_,_,_,_,_,_=>by omega
 |fuel+1,k,k2,A,h,h1,h2,h3,h4,h5,h6=>by
  intro r
  have hr:r=compactBind_l2 s a1 q1 y1 y2 rec1 (fuel+1) ((k:Int),(k2:Int),A):=rfl
  subst ha
  rw[compactBind_l2] at hr
  have e0:((k0:Nat):Int).toNat=k0:=rfl
  have e1:((k2:Nat):Int).toNat=k2:=rfl
  have e2:((k:Nat):Int).toNat=k:=rfl
  have e3:(((k2:Nat):Int)-1).toNat=k2-1:=by omega
  rw[e0,e1,e2,e3] at hr
  by_cases hc:((k2:Nat):Int)<(((s.length-k0):Nat):Int)
  ·rw[decide_eq_true hc,cond_true] at hr
   have hlt:k0+k2<s.length:=by omega
   obtain⟨y3,g3⟩:∃ y,s[k0+k2]? = some y:=⟨_,List.getElem?_eq_getElem hlt⟩
   obtain⟨y4,g4⟩:∃ y,s[k0+k2-1]? = some y:=⟨_,List.getElem?_eq_getElem (by omega)⟩
   have g3':A[k0+k2]? = some y3:=by rw[get_of_drop h6 (by omega)];exact g3
   have g4':A[k0+(k2-1)]? = some y4:=by rw[show k0+(k2-1)=k0+k2-1 by omega,get_of_drop h6 (Nat.le_refl _)];exact g4
   rw[g3',g4'] at hr
   simp only[onS] at hr
   rw[beqBind] at hr
   have hd:=drop_two g4 (by rw[show k0+k2-1+1=k0+k2 by omega];exact g3)
   have hd2:=drop_oneL g3
   rw[show k0+k2-1+2=k0+k2+1 by omega] at hd
   rw[hd,dd_two]
   have hdr:A.drop (k0+k2)=s.drop (k0+k2):=by
    have:=congrArg (List.drop 1) h6
    rwa [List.drop_drop,List.drop_drop,show k0+k2-1+1=k0+k2 by omega] at this
   cases hb:y3 == y4 with
   |true=>
    have:y3=y4:=by simpa using hb
    subst this
    rw[hb,cond_true] at hr
    rw[BEq.rfl,cond_true]
    have ih:=compactBind_l2_eq s (k0:Int) q1 y1 y2 rec1 k0 rfl fuel k (k2+1) A (by omega) h1 (by omega) (by omega) (by omega) h5 (by rw[show k0+(k2+1)-1=k0+k2 by omega];exact hdr)
    rw[show k0+(k2+1)-1=k0+k2 by omega,hd2] at ih
    have e9:(((k2+1:Nat)):Int)=(k2:Int)+1:=rfl
    rw[e9,← hr] at ih
    exact ih
   |false=>
    have hb':(y4 == y3)=false:=by
     rw[Bool.eq_false_iff] at hb ⊢
     intro h;apply hb;simp at h ⊢;exact h.symm
    rw[hb,cond_false] at hr
    rw[hb',cond_false]
    have hk:k<A.length:=by omega
    obtain⟨y5,g5⟩:∃ y,A[k]? = some y:=⟨_,List.getElem?_eq_getElem hk⟩
    rw[g5] at hr
    simp only[] at hr
    have ih:=compactBind_l2_eq s (k0:Int) q1 y1 y2 rec1 k0 rfl fuel (k+1) (k2+1) (A.set k y3) (by omega) (by omega) (by omega) (by omega) (by omega) (by rw[List.length_set];exact h5) (by
     rw[show k0+(k2+1)-1=k0+k2 by omega,List.drop_set_of_lt (by omega)];exact hdr)
    rw[show k0+(k2+1)-1=k0+k2 by omega,hd2] at ih
    have e9:(((k2+1:Nat)):Int)=(k2:Int)+1:=rfl
    have e8:(((k+1:Nat)):Int)=(k:Int)+1:=rfl
    rw[e9,e8,← hr] at ih
    obtain⟨i1,i2⟩:=ih
    refine⟨?_,i2⟩
    rw[i1,take_oneL (List.getElem?_set_self hk),List.take_set_of_le (Nat.le_refl _),List.append_assoc]
    obtain⟨m,hm⟩:=dd_head y3 (s.drop (k0+k2+1))
    rw[hm];rfl
  ·rw[decide_eq_false hc,cond_false] at hr
   have hn:k0+k2=s.length:=by omega
   have hdl:s.drop (k0+k2-1) = [s[k0+k2-1]'(by omega)]:=by
    rw[List.drop_eq_getElem_cons (by omega),List.drop_eq_nil_of_le (by omega)]
   rw[hdl,hr]
   simp only[dd,List.tail_cons,List.append_nil,List.length_append,List.length_take,List.length_replicate]
   refine⟨?_,by omega⟩
   rw[List.take_append_of_le_length (by rw[List.length_take];omega),List.take_take,Nat.min_self]
theorem compactBind_l1_eq (s:List Sp.Bind):∀ (fuel k:Nat),s.length<k+fuel→1≤k→k≤s.length→dd s=s.take (k-1)++dd (s.drop (k-1)) →
  let r:=compactBind_l1 s fuel (k:Int)
  r.2.take r.1=dd s∧r.1≤r.2.length
 |0,k,h,_,_,_=>by omega
 |fuel+1,k,h,h1,h2,h3=>by
  intro r
  have hr:r=compactBind_l1 s (fuel+1) (k:Int):=rfl
  rw[compactBind_l1] at hr
  have e0:((k:Nat):Int).toNat=k:=rfl
  have e1:(((k:Nat):Int)-1).toNat=k-1:=by omega
  rw[e0,e1] at hr
  by_cases hc:((k:Nat):Int)<(s.length:Int)
  ·rw[decide_eq_true hc,cond_true] at hr
   obtain⟨y1,g1⟩:∃ y,s[k]? = some y:=⟨_,List.getElem?_eq_getElem (by omega)⟩
   obtain⟨y2,g2⟩:∃ y,s[k-1]? = some y:=⟨_,List.getElem?_eq_getElem (by omega)⟩
   rw[g1,g2] at hr
   simp only[onS] at hr
   rw[beqBind] at hr
   have hd:=drop_two g2 (by rw[show k-1+1=k by omega];exact g1)
   rw[show k-1+2=k+1 by omega] at hd
   have hd1:=drop_oneL g1
   cases hb:y1 == y2 with
   |true=>
    have:y1=y2:=by simpa using hb
    subst this
    rw[hb,cond_true] at hr
    obtain⟨i1,i2⟩:=compactBind_l2_eq s (k:Int) fuel y1 y1 (fun acc=>compactBind_l1 s fuel acc) k rfl (s.length+1) k 1 s (by omega) (Nat.le_refl _) (Nat.le_refl _) (Nat.le_refl _) (by omega) rfl rfl
    have e9:(((1:Nat)):Int)=1:=rfl
    rw[e9,← hr] at i1 i2
    refine⟨?_,i2⟩
    rw[i1,h3,hd,dd_two,BEq.rfl,cond_true,show k+1-1=k by omega,hd1]
    obtain⟨m,hm⟩:=dd_head y1 (s.drop (k+1))
    have:=take_oneL g2
    rw[show k-1+1=k by omega] at this
    rw[hm,this,List.append_assoc];rfl
   |false=>
    have hb':(y2 == y1)=false:=by
     rw[Bool.eq_false_iff] at hb ⊢
     intro h;apply hb;simp at h ⊢;exact h.symm
    rw[hb,cond_false] at hr
    have e9:(((k+1:Nat)):Int)=(k:Int)+1:=rfl
    have ih:=compactBind_l1_eq s fuel (k+1) (by omega) (by omega) (by omega) (by
     rw[show k+1-1=k by omega,h3,hd,dd_two,hb',cond_false,hd1]
     have:=take_oneL g2
     rw[show k-1+1=k by omega] at this
     rw[this,List.append_assoc];rfl)
    rw[e9,← hr] at ih
    exact ih
  ·rw[decide_eq_false hc,cond_false] at hr
   have hn:k=s.length:=by omega
   rw[hr]
   refine⟨?_,Nat.le_refl _⟩
   rw[List.take_length,h3,hn]
   have hdl:s.drop (s.length-1) = [s[s.length-1]'(by omega)]:=by
    rw[List.drop_eq_getElem_cons (by omega),List.drop_eq_nil_of_le (by omega)]
   rw[hdl]
   simp only[dd]
   rw[← hdl,List.take_append_drop]
theorem compactBind_eq (s:List Sp.Bind):(compactBind s).2.take (compactBind s).1=dd s∧(compactBind s).1≤(compactBind s).2.length:=by
 unfold compactBind
 by_cases h:(s.length:Int)<2
 ·rw[decide_eq_true h,cond_true]
  refine⟨?_,Nat.le_refl _⟩
  rw[List.take_length]
  cases s with
  |nil=>rfl
  |cons x s=>
   cases s with
   |nil=>rfl
   |cons y s=>simp only[List.length_cons] at h;omega
 ·rw[decide_eq_false h,cond_false]
  exact compactBind_l1_eq s (s.length+1) 1 (by omega) (Nat.le_refl _) (by omega) (by simp)
theorem indexCondA_l1_b (l:List Sp.Cond) (f:Sp.Cond→Bool):∀ (xs:List Sp.Cond) (i:Nat),i+xs.length=l.length→indexCondA_l1 l f i xs () = -1∨(0≤indexCondA_l1 l f i xs ()∧indexCondA_l1 l f i xs ()<l.length)
 | [],i,_=>.inl rfl
 |x::xs,i,h=>by
  rw[indexCondA_l1]
  simp only[List.length_cons] at h
  cases f x with
  |true=>right;simp only[cond_true];omega
  |false=>exact indexCondA_l1_b l f xs (i+1) (by omega)
theorem indexCondA_b (l:List Sp.Cond) (f:Sp.Cond→Bool):indexCondA l f = -1∨(0≤indexCondA l f∧indexCondA l f<l.length):=indexCondA_l1_b l f l 0 (by simp)
end Go.Vm
/- What functions of the program answer. Printed by spec2.py. -/
namespace Go.Vm
open Go Go.Sp
set_option maxRecDepth 100000
set_option maxHeartbeats 4000000
def stabBind_l1 (data:(List Sp.Bind)) (n:Int) (cmp:Sp.Bind→Sp.Bind→Int):Nat→Int × Int × (List Sp.Bind)→(List Sp.Bind)
 |0,_=>default
 |q1+1,⟨a1_0,a1_1,a1_2⟩=>(bif (decide (a1_1≤n)) then stabBind_l1 data n cmp q1 (a1_1,(a1_1+20),(insBind a1_2 a1_0 a1_1 cmp)) else(insBind a1_2 a1_0 n cmp))
def stabBind (data:(List Sp.Bind)) (n:Int) (cmp:Sp.Bind→Sp.Bind→Int):(List Sp.Bind):=stabBind_l1 data n cmp 2 (0,20,data)
theorem stabBind_w (data:(List Sp.Bind)) (n:Int) (cmp:Sp.Bind→Sp.Bind→Int) {sg:List Fr} {W:Nat} {d_data i_data v_data n_data:Nat} {g_cmp:FuncId} {P_cmp:Sp.Bind→Prop} (hp_data:Plc sg d_data i_data) (hn_data:data.length=n_data) (hW_data:d_data+1≤W) (hp_cmp:∀ x x1:Sp.Bind,P_cmp x→P_cmp x1→∀ sg:List Fr,TX.call g_cmp ([eBind x,eBind x1].map (argV (TX.C.keepA g_cmp))) sg=some (eI (cmp x x1),sg,0)) (okP:∀ x∈data,P_cmp x) (hn:n=data.length) (hk:data.length≤20):(fun(r:(List Sp.Bind))=>∃ w,w≤W∧TX.call 295 [.bs (d_data+1) i_data v_data 0 n_data,eI n,.fn g_cmp [] []] (upB sg d_data i_data (.arr v_data 4 (data.map eBind)))=some ((.tup []),(upB sg d_data i_data (.arr v_data 4 (r.map eBind))),w)) (stabBind data n cmp):=by
 subst hn_data;
 exact sxw (e:=fun(r:(List Sp.Bind))=>(((.tup []),(upB sg d_data i_data (.arr v_data 4 (r.map eBind))),W):V × List Fr × Nat)) (F:=c295) rfl<|gO 12<|lp (A:=(Int × Int × (List Sp.Bind)) × Nat) (fun⟨⟨a1_0,a1_1,a1_2⟩,w1⟩=>(0≤a1_0∧a1_0≤20∧a1_1=a1_0+20∧(a1_0=0∨n=20)∧a1_2.length=data.length∧(∀ x∈a1_2,P_cmp x))∧w1≤W) (fun⟨⟨a1_0,a1_1,a1_2⟩,_⟩=>(1-a1_0).toNat) (fun(acc:(Int × Int × (List Sp.Bind)) × Nat)=>{ vals:=[(.bs (d_data+1) i_data v_data 0 data.length),(.int .i64 n),(.fn g_cmp [] []),(.int .i64 20),(.int .i64 acc.1.1),(.int .i64 acc.1.2.1)],fr:=[],sg:=(upB sg d_data i_data (.arr v_data 4 (acc.1.2.2.map eBind))),wd:=acc.2 }) (acc0:=((0,20,data),0)) (fn:=fun q p=>stabBind_l1 data n cmp q p.1) (q:=2) (And.intro (by exact⟨by omega,by omega,by omega,by omega,rfl,okP⟩) (Nat.zero_le _)) (by(try dsimp only);first|omega|exact hi1.2.2.2.2.2) (fun q1 ⟨⟨a1_0,a1_1,a1_2⟩,w1⟩ hi1 hm1 ih1=>have hb1:(0≤a1_0∧a1_0≤20∧a1_1=a1_0+20∧(a1_0=0∨n=20)∧a1_2.length=data.length∧(∀ x∈a1_2,P_cmp x))∧w1≤W:=hi1;have hi1:=hb1.1;have hw1:=hb1.2;have hm1:(1-a1_0).toNat<q1+1:=hm1;gO 7<|dp 13 (fun h1=>gO 9<|clu (fr:=[]) (sg:=(upB sg d_data i_data (.arr v_data 4 ((insBind a1_2 a1_0 a1_1 cmp).map eBind)))) (w:=w1) (W:=W) (insBind_w (d_data:=d_data+1) (i_data:=i_data) (v_data:=v_data) (n_data:=data.length) (g_cmp:=g_cmp) (P_cmp:=P_cmp) a1_2 a1_0 a1_1 cmp (sg:=([]::sg)) (W:=(W+1)) (plc_s hp_data) (by first|rfl|(first|omega|exact hi1.2.2.2.2.2)) (Nat.succ_le_succ hW_data) hp_cmp (by first|omega|exact hi1.2.2.2.2.2) (by first|omega|exact hi1.2.2.2.2.2) (by first|omega|exact hi1.2.2.2.2.2) (by first|omega|exact hi1.2.2.2.2.2) (by first|omega|exact hi1.2.2.2.2.2)) hw1 (Nat.le_refl _) fun w_1 hw_1=>gO 10<|kw 22 (congrArg (V.int .i64) (wrap_id (n:=a1_1+20) (by omega) (by omega)))<|gO 3<|nx (ih1 ((a1_1,(a1_1+20),(insBind a1_2 a1_0 a1_1 cmp)),w_1) (And.intro (by(have q:=insBind_ok cmp (data:=a1_2) (a:=a1_0) (b:=a1_1) (by omega);exact⟨by omega,by omega,by omega,by omega,by omega,fun x hx=>hi1.2.2.2.2.2 x (q.2 x hx)⟩)) hw_1) (by(try dsimp only);first|omega|exact hi1.2.2.2.2.2))) (fun h1=>gO 11<|clu (fr:=[]) (sg:=(upB sg d_data i_data (.arr v_data 4 ((insBind a1_2 a1_0 n cmp).map eBind)))) (w:=w1) (W:=W) (insBind_w (d_data:=d_data+1) (i_data:=i_data) (v_data:=v_data) (n_data:=data.length) (g_cmp:=g_cmp) (P_cmp:=P_cmp) a1_2 a1_0 n cmp (sg:=([]::sg)) (W:=(W+1)) (plc_s hp_data) (by first|rfl|(first|omega|exact hi1.2.2.2.2.2)) (Nat.succ_le_succ hW_data) hp_cmp (by first|omega|exact hi1.2.2.2.2.2) (by first|omega|exact hi1.2.2.2.2.2) (by first|omega|exact hi1.2.2.2.2.2) (by first|omega|exact hi1.2.2.2.2.2) (by first|omega|exact hi1.2.2.2.2.2)) hw1 (Nat.le_refl _) fun w_2 hw_2=>gO 2<|unr<|gO 7<|dk 30 (fd (show ¬ ((20:Int)<n) by omega))<|gO 5<|enw (w:=w_2) hw_2))
def sortBind (x:(List Sp.Bind)) (cmp:Sp.Bind→Sp.Bind→Int):(List Sp.Bind):=(stabBind x (x.length:Int) cmp)
theorem sortBind_w (x:(List Sp.Bind)) (cmp:Sp.Bind→Sp.Bind→Int) {sg:List Fr} {W:Nat} {d_x i_x v_x n_x:Nat} {g_cmp:FuncId} {P_cmp:Sp.Bind→Prop} (hp_x:Plc sg d_x i_x) (hn_x:x.length=n_x) (hW_x:d_x+1≤W) (hp_cmp:∀ x x1:Sp.Bind,P_cmp x→P_cmp x1→∀ sg:List Fr,TX.call g_cmp ([eBind x,eBind x1].map (argV (TX.C.keepA g_cmp))) sg=some (eI (cmp x x1),sg,0)) (okP:∀ x_∈x,P_cmp x_) (hk:x.length≤20):(fun(r:(List Sp.Bind))=>∃ w,w≤W∧TX.call 244 [.bs (d_x+1) i_x v_x 0 n_x,.fn g_cmp [] []] (upB sg d_x i_x (.arr v_x 4 (x.map eBind)))=some ((.tup []),(upB sg d_x i_x (.arr v_x 4 (r.map eBind))),w)) (sortBind x cmp):=by
 subst hn_x;
 exact sxw (e:=fun(r:(List Sp.Bind))=>(((.tup []),(upB sg d_x i_x (.arr v_x 4 (r.map eBind))),W):V × List Fr × Nat)) (F:=c244) rfl<|gO 5<|clu (fr:=[]) (sg:=(upB sg d_x i_x (.arr v_x 4 ((stabBind x (x.length:Int) cmp).map eBind)))) (w:=0) (W:=W) (stabBind_w (d_data:=d_x+1) (i_data:=i_x) (v_data:=v_x) (n_data:=x.length) (g_cmp:=g_cmp) (P_cmp:=P_cmp) x (x.length:Int) cmp (sg:=([]::sg)) (W:=(W+1)) (plc_s hp_x) (by first|rfl|(first|omega|exact okP|rfl)) (Nat.succ_le_succ hW_x) hp_cmp (by first|omega|exact okP|rfl) (by first|omega|exact okP|rfl) (by first|omega|exact okP|rfl)) (Nat.zero_le _) (Nat.le_refl _) fun w_1 hw_1=>gO 1<|enw (w:=w_1) hw_1
def bytesCompare (a:Txt) (b:Txt):Int:=(cmpBytes a b)
theorem bytesCompare_says (a:Txt) (b:Txt)  : SaysT TX 248 [eS a,eS b] (eI (bytesCompare a b)):=
 sy (e:=eI) (F:=c248) rfl fun sg=>gO 8<|cl (cmpBytes_says a b)<|gO 3<|en
def strCompare (a:Txt) (b:Txt):Int:=(bytesCompare a b)
theorem strCompare_says (a:Txt) (b:Txt)  : SaysT TX 180 [eS a,eS b] (eI (strCompare a b)):=
 sy (e:=eI) (F:=c180) rfl fun sg=>gO 8<|cl (bytesCompare_says a b)<|gO 3<|en
def substBoth1 (x:Sp.Bind) (y:Sp.Bind):Int:=(strCompare x.var y.var)
theorem substBoth1_says (x:Sp.Bind) (y:Sp.Bind)  : SaysT TX 245 [eBind x,eBind y] (eI (substBoth1 x y)):=
 sy (e:=eI) (F:=c245) rfl fun sg=>gO 12<|cl (strCompare_says x.var y.var)<|gO 3<|en
def concatBind (a:(List Sp.Bind)) (b:(List Sp.Bind)):(List Sp.Bind) × Nat × Nat:=((amC (amC ((growBind ((0+(a.length:Int))+(b.length:Int))).1) ((growBind ((0+(a.length:Int))+(b.length:Int))).2.2) a) ((growBind ((0+(a.length:Int))+(b.length:Int))).2.2+a.length) b),(((growBind ((0+(a.length:Int))+(b.length:Int))).2.1+a.length)+b.length),(((growBind ((0+(a.length:Int))+(b.length:Int))).2.2+a.length)+b.length))
theorem concatBind_in (a:(List Sp.Bind)) (b:(List Sp.Bind)) (h0:0<a.length+b.length) (h1:a.length+b.length≤1000000) {f0:Fr} {sg:List Fr}:(fun(r:(List Sp.Bind) × Nat × Nat)=>∃ w,w≤1∧TX.call 243 [.sl .no 1 [(eL 4 eBind) a,(eL 4 eBind) b]] (f0::sg)=some (V.bs 0 (f0.length+2) r.2.1 0 r.2.2,(f0 ++ [Blk.arr 0 4 [],Blk.arr 0 4 [],Blk.arr r.2.1 4 (r.1.map eBind)])::sg,w)) (concatBind a b):=
 sxw (e:=fun(r:(List Sp.Bind) × Nat × Nat)=>((V.bs 0 (f0.length+2) r.2.1 0 r.2.2,(f0 ++ [Blk.arr 0 4 [],Blk.arr 0 4 [],Blk.arr r.2.1 4 (r.1.map eBind)])::sg,1):V × List Fr × Nat)) (r:=concatBind a b) (F:=c243) rfl<|gO 16<|unl3 ({ vals:=[(.sl .no 1 [(.sl .no 4 (a.map eBind)),(.sl .no 4 (b.map eBind))]),(.int .i64 0),(.sl .no 1 [(.sl .no 4 (a.map eBind)),(.sl .no 4 (b.map eBind))]),(.int .i64 2),(.int .i64 0)],fr:=[.arr (([]:List Sp.Bind).length) 4 (([]:List Sp.Bind).map eBind)],sg:=(f0::sg),wd:=0 }) ({ vals:=[(.sl .no 1 [(.sl .no 4 (a.map eBind)),(.sl .no 4 (b.map eBind))]),(.int .i64 (0+(a.length:Int))),(.sl .no 1 [(.sl .no 4 (a.map eBind)),(.sl .no 4 (b.map eBind))]),(.int .i64 2),(.int .i64 1)],fr:=[.arr (([]:List Sp.Bind).length) 4 (([]:List Sp.Bind).map eBind)],sg:=(f0::sg),wd:=0 }) ({ vals:=[(.sl .no 1 [(.sl .no 4 (a.map eBind)),(.sl .no 4 (b.map eBind))]),(.int .i64 ((0+(a.length:Int))+(b.length:Int))),(.sl .no 1 [(.sl .no 4 (a.map eBind)),(.sl .no 4 (b.map eBind))]),(.int .i64 2),(.int .i64 2)],fr:=[.arr (([]:List Sp.Bind).length) 4 (([]:List Sp.Bind).map eBind)],sg:=(f0::sg),wd:=0 }) (gO 13<|clr (growBind_in ((0+(a.length:Int))+(b.length:Int)) (by omega) (by omega))<|gO 10<|unl3 ({ vals:=[(.bs 0 2 ((growBind ((0+(a.length:Int))+(b.length:Int))).2.1) 0 ((growBind ((0+(a.length:Int))+(b.length:Int))).2.2)),(.sl .no 1 [(.sl .no 4 (a.map eBind)),(.sl .no 4 (b.map eBind))]),(.int .i64 2),(.int .i64 0)],fr:=[.arr (([]:List Sp.Bind).length) 4 (([]:List Sp.Bind).map eBind),.arr 0 4 (([]:List Sp.Bind).map eBind),.arr ((growBind ((0+(a.length:Int))+(b.length:Int))).2.1) 4 (((growBind ((0+(a.length:Int))+(b.length:Int))).1).map eBind)],sg:=(f0::sg),wd:=0 }) ({ vals:=[(.bs 0 2 ((growBind ((0+(a.length:Int))+(b.length:Int))).2.1+a.length) 0 ((growBind ((0+(a.length:Int))+(b.length:Int))).2.2+a.length)),(.sl .no 1 [(.sl .no 4 (a.map eBind)),(.sl .no 4 (b.map eBind))]),(.int .i64 2),(.int .i64 1)],fr:=[.arr (([]:List Sp.Bind).length) 4 (([]:List Sp.Bind).map eBind),.arr 0 4 (([]:List Sp.Bind).map eBind),.arr ((growBind ((0+(a.length:Int))+(b.length:Int))).2.1+a.length) 4 ((amC ((growBind ((0+(a.length:Int))+(b.length:Int))).1) ((growBind ((0+(a.length:Int))+(b.length:Int))).2.2) a).map eBind)],sg:=(f0::sg),wd:=0 }) ({ vals:=[(.bs 0 2 (((growBind ((0+(a.length:Int))+(b.length:Int))).2.1+a.length)+b.length) 0 (((growBind ((0+(a.length:Int))+(b.length:Int))).2.2+a.length)+b.length)),(.sl .no 1 [(.sl .no 4 (a.map eBind)),(.sl .no 4 (b.map eBind))]),(.int .i64 2),(.int .i64 2)],fr:=[.arr (([]:List Sp.Bind).length) 4 (([]:List Sp.Bind).map eBind),.arr 0 4 (([]:List Sp.Bind).map eBind),.arr (((growBind ((0+(a.length:Int))+(b.length:Int))).2.1+a.length)+b.length) 4 ((amC (amC ((growBind ((0+(a.length:Int))+(b.length:Int))).1) ((growBind ((0+(a.length:Int))+(b.length:Int))).2.2) a) ((growBind ((0+(a.length:Int))+(b.length:Int))).2.2+a.length) b).map eBind)],sg:=(f0::sg),wd:=0 }) (gO 16<|en) (fun ih_u1=>gO 11<|gO 1<|gO 6<|amw (en:=eBind) (L:=(amC ((growBind ((0+(a.length:Int))+(b.length:Int))).1) ((growBind ((0+(a.length:Int))+(b.length:Int))).2.2) a)) (M:=b) (i:=2) (z:=4) (ver:=((growBind ((0+(a.length:Int))+(b.length:Int))).2.1+a.length)) (n:=((growBind ((0+(a.length:Int))+(b.length:Int))).2.2+a.length)) (by first|(simp only[growBind,List.length_replicate];omega)|exact amC_len (by simp only[growBind,List.length_replicate];omega)) (by(simp only[growBind];unfold lim;omega)) (fun _ _=>rfl)<|gO 7<|nx ih_u1) (fun ih_u0=>gO 11<|gO 1<|gO 6<|amw (en:=eBind) (L:=(growBind ((0+(a.length:Int))+(b.length:Int))).1) (M:=a) (i:=2) (z:=4) (ver:=(growBind ((0+(a.length:Int))+(b.length:Int))).2.1) (n:=(growBind ((0+(a.length:Int))+(b.length:Int))).2.2) (by first|(simp only[growBind,List.length_replicate];omega)|exact amC_len (by simp only[growBind,List.length_replicate];omega)) (by(simp only[growBind];unfold lim;omega)) (fun _ _=>rfl)<|gO 7<|nx ih_u0)) (fun ih_u1=>gO 11<|gO 1<|gO 8<|kw 17 (len_map eBind b)<|gO 1<|kw 18 (congrArg (V.int .i64) (wrap_id (n:=(0+(a.length:Int))+(b.length:Int)) (by omega) (by omega)))<|gO 7<|dk 20 (fd (show ¬ (((0+(a.length:Int))+(b.length:Int))<0) by omega))<|gO 7<|nx ih_u1) (fun ih_u0=>gO 11<|gO 1<|gO 8<|kw 17 (len_map eBind a)<|gO 1<|kw 18 (congrArg (V.int .i64) (wrap_id (n:=0+(a.length:Int)) (by omega) (by omega)))<|gO 7<|dk 20 (fd (show ¬ ((0+(a.length:Int))<0) by omega))<|gO 7<|nx ih_u0)
def deleteCond_l1 (s:(List Sp.Cond)) (del:Sp.Cond→Bool):Nat→Int × Int × (List Sp.Cond)→Nat × (List Sp.Cond)
 |0,_=>default
 |q1+1,⟨a1_0,a1_1,a1_2⟩=>(bif (decide (a1_1<(s.length:Int))) then(onS a1_2[a1_1.toNat]? (fun y1=>(bif (del y1) then deleteCond_l1 s del q1 (a1_0,(a1_1+1),a1_2) else(onS a1_2[a1_0.toNat]? (fun y2=>deleteCond_l1 s del q1 ((a1_0+1),(a1_1+1),(a1_2.set a1_0.toNat y1))) default))) default) else(a1_0.toNat,(a1_2.take a1_0.toNat++List.replicate (s.length-a1_0.toNat) (⟨0,(⟨([]:Txt),([]:(List Sp.Term))⟩:Sp.Atom),0,([]:(List Sp.Op)),([]:(List Sp.Op))⟩:Sp.Cond))))
def deleteCond (s:(List Sp.Cond)) (del:Sp.Cond→Bool):Nat × (List Sp.Cond):=(bif ((indexCondA s del) == (-1)) then(s.length,s) else deleteCond_l1 s del (s.length+1) ((indexCondA s del),((indexCondA s del)+1),s))
theorem deleteCond_w (s:(List Sp.Cond)) (del:Sp.Cond→Bool) {sg:List Fr} {W:Nat} {d_s i_s v_s n_s:Nat} {g_del:FuncId} {P_del:Sp.Cond→Prop} (hp_s:Plc sg d_s i_s) (hn_s:s.length=n_s) (hW_s:d_s+1≤W) (hp_del:∀ x:Sp.Cond,P_del x→∀ sg:List Fr,TX.call g_del ([eCond x].map (argV (TX.C.keepA g_del))) sg=some (eB (del x),sg,0)) (okP:∀ x∈s,P_del x) (hl:s.length≤1000000):(fun(r:Nat × (List Sp.Cond))=>∃ w,w≤W∧TX.call 256 [.bs (d_s+1) i_s v_s 0 n_s,.fn g_del [] []] (upB sg d_s i_s (.arr v_s 6 (s.map eCond)))=some ((.bs d_s i_s v_s 0 r.1),(upB sg d_s i_s (.arr v_s 6 (r.2.map eCond))),w)) (deleteCond s del):=by
 subst hn_s;
 exact sxw (e:=fun(r:Nat × (List Sp.Cond))=>(((.bs d_s i_s v_s 0 r.1),(upB sg d_s i_s (.arr v_s 6 (r.2.map eCond))),W):V × List Fr × Nat)) (F:=c256) rfl<|gO 8<|clq (indexCondA_w (d_s:=d_s+1) (i_s:=i_s) (v_s:=v_s) (n_s:=s.length) (g_f:=g_del) (P_f:=P_del) s del (sg:=([.tok 0]::sg)) (plc_s hp_s) (by first|rfl|(first|omega|exact okP|(simp only[List.length_set];omega)|(have q:=indexCondA_b s del;omega)))  hp_del (by first|omega|exact okP|(simp only[List.length_set];omega)|(have q:=indexCondA_b s del;omega)) (by first|omega|exact okP|(simp only[List.length_set];omega)|(have q:=indexCondA_b s del;omega)))<|gO 8<|dq 12 (fun h1=>gO 8<|enu (t:=4) (d:=d_s) (i:=i_s) (ver:=v_s) (k:=s.length) (sg:=(upB sg d_s i_s (.arr v_s 6 (s.map eCond)))) (plc_up hp_s) (w:=0) (Nat.zero_le _) (hr:=by kernel_rfl)) (fun h1=>gO 7<|kw 15 (congrArg (V.int .i64) (wrap_id (n:=(indexCondA s del)+1) (by first|omega|(have q:=indexCondA_b s del;omega)) (by first|omega|(have q:=indexCondA_b s del;omega))))<|gO 3<|lp (A:=(Int × Int × (List Sp.Cond)) × Nat) (fun⟨⟨a1_0,a1_1,a1_2⟩,w1⟩=>(0≤a1_0∧a1_0<a1_1∧a1_1≤s.length∧a1_2.length=s.length∧(∀ x∈a1_2,P_del x))∧w1≤W) (fun⟨⟨a1_0,a1_1,a1_2⟩,_⟩=>((s.length:Int)-a1_1).toNat) (fun(acc:(Int × Int × (List Sp.Cond)) × Nat)=>{ vals:=[(.bs (d_s+1) i_s v_s 0 s.length),(.fn g_del [] []),(.int .i64 acc.1.1),(.int .i64 acc.1.2.1)],fr:=[.tok 0],sg:=(upB sg d_s i_s (.arr v_s 6 (acc.1.2.2.map eCond))),wd:=acc.2 }) (acc0:=(((indexCondA s del),((indexCondA s del)+1),s),0)) (fn:=fun q p=>deleteCond_l1 s del q p.1) (q:=s.length+1) (And.intro (by(have q:=indexCondA_b s del;exact⟨by omega,by omega,by omega,rfl,okP⟩)) (Nat.zero_le _)) (by(try dsimp only);(have q:=indexCondA_b s del;omega)) (fun q1 ⟨⟨a1_0,a1_1,a1_2⟩,w1⟩ hi1 hm1 ih1=>have hb1:(0≤a1_0∧a1_0<a1_1∧a1_1≤s.length∧a1_2.length=s.length∧(∀ x∈a1_2,P_del x))∧w1≤W:=hi1;have hi1:=hb1.1;have hw1:=hb1.2;have hm1:((s.length:Int)-a1_1).toNat<q1+1:=hm1;gO 8<|dp 19 (fun h2=>gO 8<|kw 23 (toNat_v (n:=a1_1) (by first|omega|exact okP|(simp only[List.length_set];omega)|(have q:=indexCondA_b s del;omega)))<|iauz (n:=a1_1.toNat) (len:=s.length) (b:=i_s) (ver:=v_s) (z:=6) (es:=a1_2.map eCond) (get_up hp_s) (by first|omega|exact okP|(simp only[List.length_set];omega)|(have q:=indexCondA_b s del;omega))<|elx (by first|omega|exact okP|(simp only[List.length_set];omega)|(have q:=indexCondA_b s del;omega)) fun y1 h3=>ldu (ag:=true) (sz:=6) (ver:=v_s) (z:=6) (j:=a1_1.toNat) (o:=0) (en:=eCond) (L:=a1_2) (y:=y1) (v:=(.agg [(.int .i64 y1.kind),(.str y1.atom.name),(.sl .no 4 (y1.atom.args.map eTerm)),(.int .i64 y1.how),(.sl .no 5 (y1.left.map eOp)),(.sl .no 5 (y1.right.map eOp))])) (get_up hp_s) h3 (by kernel_rfl)<|gO 7<|cli (hp_del y1 (by exact hi1.2.2.2.2 _ (List.mem_of_getElem? (by assumption))) _)<|gO 2<|dcn 29 (fun h4=>gO 6<|kw 21 (congrArg (V.int .i64) (wrap_id (n:=a1_1+1) (by first|omega|(have q:=indexCondA_b s del;omega)) (by first|omega|(have q:=indexCondA_b s del;omega))))<|gO 2<|nx (ih1 ((a1_0,(a1_1+1),a1_2),w1) (And.intro (by first|exact⟨by omega,by omega,by omega,by omega,hi1.2.2.2.2⟩|exact⟨by omega,by omega,by omega,by(simp only[List.length_set];omega),all_set hi1.2.2.2.2 (hi1.2.2.2.2 _ (List.mem_of_getElem? (by assumption)))⟩) hw1) (by(try dsimp only);first|omega|exact okP|(simp only[List.length_set];omega)|(have q:=indexCondA_b s del;omega)))) (fun h4=>gO 6<|kw 31 (toNat_v (n:=a1_0) (by first|omega|exact okP|(simp only[List.length_set];omega)|(have q:=indexCondA_b s del;omega)))<|iauz (n:=a1_0.toNat) (len:=s.length) (b:=i_s) (ver:=v_s) (z:=6) (es:=a1_2.map eCond) (get_up hp_s) (by first|omega|exact okP|(simp only[List.length_set];omega)|(have q:=indexCondA_b s del;omega))<|elx (by first|omega|exact okP|(simp only[List.length_set];omega)|(have q:=indexCondA_b s del;omega)) fun y2 h5=>stu (ag:=true) (sz:=6) (ver:=v_s) (z:=6) (j:=a1_0.toNat) (o:=0) (v:=(.agg [(.int .i64 y1.kind),(.str y1.atom.name),(.sl .no 4 (y1.atom.args.map eTerm)),(.int .i64 y1.how),(.sl .no 5 (y1.left.map eOp)),(.sl .no 5 (y1.right.map eOp))])) (en:=eCond) (L:=a1_2) (y:=y2) (y':=y1) (cs:=[(.int .i64 y1.kind),(.str y1.atom.name),(.sl .no 4 (y1.atom.args.map eTerm)),(.int .i64 y1.how),(.sl .no 5 (y1.left.map eOp)),(.sl .no 5 (y1.right.map eOp))]) (w:=w1) (W:=W) (get_up hp_s) (up_up _ _ _ _ _) h5 (by kernel_rfl) (by kernel_rfl) (by kernel_rfl) hw1 hW_s fun w_3 hw_3=>gO 4<|kw 35 (congrArg (V.int .i64) (wrap_id (n:=a1_0+1) (by first|omega|(have q:=indexCondA_b s del;omega)) (by first|omega|(have q:=indexCondA_b s del;omega))))<|gO 6<|kw 21 (congrArg (V.int .i64) (wrap_id (n:=a1_1+1) (by first|omega|(have q:=indexCondA_b s del;omega)) (by first|omega|(have q:=indexCondA_b s del;omega))))<|gO 2<|nx (ih1 (((a1_0+1),(a1_1+1),(a1_2.set a1_0.toNat y1)),w_3) (And.intro (by first|exact⟨by omega,by omega,by omega,by omega,hi1.2.2.2.2⟩|exact⟨by omega,by omega,by omega,by(simp only[List.length_set];omega),all_set hi1.2.2.2.2 (hi1.2.2.2.2 _ (List.mem_of_getElem? (by assumption)))⟩) hw_3) (by(try dsimp only);first|omega|exact okP|(simp only[List.length_set];omega)|(have q:=indexCondA_b s del;omega))))) (fun h2=>gO 9<|kw 37 (toNat_v (n:=a1_0) (by first|omega|exact okP|(simp only[List.length_set];omega)|(have q:=indexCondA_b s del;omega)))<|cbu (es:=a1_2.map eCond) (z:=6) (d:=d_s) (i:=i_s) (ver:=v_s) (o:=0) (l:=a1_0.toNat) (hh:=s.length) (len:=s.length) (o':=a1_0.toNat) (len':=(s.length-a1_0.toNat)) (get_up hp_s) (by first|omega|exact okP|(simp only[List.length_set];omega)|(have q:=indexCondA_b s del;omega)) (by first|omega|exact okP|(simp only[List.length_set];omega)|(have q:=indexCondA_b s del;omega)) (by omega) (by omega)<|clru (en:=eCond) (L:=a1_2) (ver:=v_s) (o:=a1_0.toNat) (len:=(s.length-a1_0.toNat)) (zz:=6) (w:=w1) (W:=W) (⟨0,(⟨([]:Txt),([]:(List Sp.Term))⟩:Sp.Atom),0,([]:(List Sp.Op)),([]:(List Sp.Op))⟩:Sp.Cond) (get_up hp_s) (up_up _ _ _ _ _) (by first|omega|(simp only[List.length_set];omega)) (by intro y;rfl) (by kernel_rfl) hw1 hW_s fun w_4 hw_4=>gO 5<|kw 40 (toNat_v (n:=a1_0) (by first|omega|exact okP|(simp only[List.length_set];omega)|(have q:=indexCondA_b s del;omega)))<|cbu (es:=(a1_2.take a1_0.toNat++List.replicate (s.length-a1_0.toNat) (⟨0,(⟨([]:Txt),([]:(List Sp.Term))⟩:Sp.Atom),0,([]:(List Sp.Op)),([]:(List Sp.Op))⟩:Sp.Cond)).map eCond) (z:=6) (d:=d_s) (i:=i_s) (ver:=v_s) (o:=0) (l:=0) (hh:=a1_0.toNat) (len:=s.length) (o':=0) (len':=a1_0.toNat) (get_up hp_s) (by first|omega|exact okP|(simp only[List.length_set];omega)|(have q:=indexCondA_b s del;omega)) (by first|omega|exact okP|(simp only[List.length_set];omega)|(have q:=indexCondA_b s del;omega)) (by omega) (by omega)<|gO 3<|enu (t:=4) (d:=d_s) (i:=i_s) (ver:=v_s) (k:=a1_0.toNat) (sg:=(upB sg d_s i_s (.arr v_s 6 ((a1_2.take a1_0.toNat++List.replicate (s.length-a1_0.toNat) (⟨0,(⟨([]:Txt),([]:(List Sp.Term))⟩:Sp.Atom),0,([]:(List Sp.Op)),([]:(List Sp.Op))⟩:Sp.Cond)).map eCond)))) (plc_up hp_s) (w:=w_4) hw_4 (hr:=by kernel_rfl))))
def substRight (x:Sp.Bind):Bool:=(bif (substVar x.var) then((valCheck x.val) == 0) else false)
theorem substRight_says (x:Sp.Bind) (ok_x:x.ok):SaysT TX 171 [eBind x] (eB (substRight x)):=
 sy (e:=eB) (F:=c171) rfl fun sg=>gO 9<|cl (substVar_says x.var (by first|exact ok_x.1|exact ok_x.2))<|gO 1<|dc 6 (fun h1=>gO 2<|cl (valCheck_says x.val (by first|exact ok_x.1|exact ok_x.2))<|gO 5<|en) (fun h1=>gO 8<|en)
def substCheck_l1 (l:(List Sp.Bind)):Nat→List Sp.Bind→Unit→Int
 |i1,[],_=>0
 |i1,x1::xs2,_=>(bif (substRight x1) then(bif (decide ((i1:Int)>0)) then(onS l[i1-1]? (fun y3=>(bif (bLess y3.var x1.var) then substCheck_l1 l (i1+1) xs2 () else 1)) default) else substCheck_l1 l (i1+1) xs2 ()) else 1)
def substCheck (l:(List Sp.Bind)):Int:=(bif (decide ((l.length:Int)>100)) then 1 else substCheck_l1 l 0 l ())
theorem substCheck_says (l:(List Sp.Bind)) (ok_l:okB l):SaysT TX 107 [(eL 4 eBind) l] (eI (substCheck l)):=
 sy (e:=eI) (F:=c107) rfl fun sg=>gO 9<|kw 6 (len_map eBind l)<|gO 2<|dp 7 (fun h1=>gO 7<|en) (fun h1=>gO 7<|kw 9 (len_map eBind l)<|gO 3<|rg (β:=Sp.Bind) (A:=Unit) (fun i1 _=>{ vals:=[(.sl .no 4 (l.map eBind)),(.sl .no 4 (l.map eBind)),(.int .i64 (l.length:Int)),(.int .i64 (i1:Int))],fr:=[],sg:=sg,wd:=0 }) (L:=l) (acc0:=()) (fn:=substCheck_l1 l) (fun i1 x1 xs2 _ hd1 ih1=>have hlt1:=drop_lt hd1;have hx1:=drop_get hd1;have ok_x1:=okB.get ok_l hx1;gO 5<|dk 11 (lt_true hlt1)<|gO 7<|iak eBind hx1<|gO 8<|cl (substRight_says x1 (by first|exact ok_x1|omega|(have q:=ok_l.1;omega)))<|gO 2<|dcn 18 (fun h2=>gO 3<|dp 21 (fun h3=>gO 3<|kw 24 (congrArg (V.int .i64) (wrap_p hlt1 (by first|exact ok_x1|omega|(have q:=ok_l.1;omega)) (by omega)))<|ia (en:=eBind) (by first|exact ok_x1|omega|(have q:=ok_l.1;omega)) fun y3 h4=>have ok_y3:=okB.get ok_l h4;gO 8<|dcn 32 (fun h5=>gO 5<|kw 33 (congrArg (V.int .i64) (wrap_s hlt1 (by first|exact ok_x1|omega|(have q:=ok_l.1;omega))))<|gO 2<|nx (ih1 ())) (fun h5=>gO 11<|en)) (fun h3=>gO 17<|kw 33 (congrArg (V.int .i64) (wrap_s hlt1 (by first|exact ok_x1|omega|(have q:=ok_l.1;omega))))<|gO 2<|nx (ih1 ()))) (fun h2=>gO 26<|en)) (fun i1 _ hd1=>have hge1:=drop_ge hd1;gO 5<|dk 11 (lt_false hge1)<|gO 10<|en))
def indexVal_l1 (l:(List Sp.Val)) (p:Sp.Val→Bool):Nat→List Sp.Val→Unit→Int
 |i1,[],_=>(-1)
 |i1,x1::xs2,_=>(bif (p x1) then(i1:Int) else indexVal_l1 l p (i1+1) xs2 ())
def indexVal (l:(List Sp.Val)) (p:Sp.Val→Bool):Int:=indexVal_l1 l p 0 l ()
theorem indexVal_in {sg:List Fr} {g_p:FuncId} {a_p b_p:List V} (l:(List Sp.Val)) (p:Sp.Val→Bool) (h_l:l.length≤140737488351232) (hp_p:∀ x,x∈l→∀ f0:Fr,TX.call g_p ((a_p ++ [eVal x]++b_p).map (argV (TX.C.keepA g_p))) (f0::sg)=some (eB (p x),f0::sg,0)):TX.call 240 [(eL 3 eVal) l,.fn g_p a_p b_p] sg=some (eI (indexVal l p),sg,0):=
 sx (e:=fun r=>(eI r,sg,0)) (F:=c240) rfl<|gO 9<|kw 7 (len_map eVal l)<|gO 3<|rg (β:=Sp.Val) (A:=Unit) (fun i1 _=>{ vals:=[(.sl .no 3 (l.map eVal)),(.fn g_p a_p b_p),(.int .i64 (l.length:Int)),(.int .i64 (i1:Int))],fr:=[],sg:=sg,wd:=0 }) (L:=l) (acc0:=()) (fn:=indexVal_l1 l p) (fun i1 x1 xs2 _ hd1 ih1=>have hlt1:=drop_lt hd1;have hx1:=drop_get hd1;gO 5<|dk 9 (lt_true hlt1)<|gO 14<|iak eVal hx1<|gO 1<|cli (hp_p x1 (List.mem_of_getElem? hx1) _)<|gO 1<|dc 16 (fun h1=>gO 12<|en) (fun h1=>gO 5<|kw 18 (congrArg (V.int .i64) (wrap_s hlt1 (by(first|assumption|omega|(simp only[List.length_cons,List.length_nil,List.length_append,List.length_map];omega)|grind))))<|gO 2<|nx (ih1 ()))) (fun i1 _ hd1=>have hge1:=drop_ge hd1;gO 5<|dk 9 (lt_false hge1)<|gO 10<|en)
def containsVal (l:(List Sp.Val)) (p:Sp.Val→Bool):Bool:=(decide ((indexVal l p)≥0))
theorem containsVal_in {sg:List Fr} {g_p:FuncId} {a_p b_p:List V} (l:(List Sp.Val)) (p:Sp.Val→Bool) (h_l:l.length≤140737488351232) (hp_p:∀ x,x∈l→∀ f0 f1:Fr,TX.call g_p (((a_p.map (sh0 1)) ++ [eVal x]++(b_p.map (sh0 1))).map (argV (TX.C.keepA g_p))) (f1::f0::sg)=some (eB (p x),f1::f0::sg,0)):TX.call 168 [(eL 3 eVal) l,.fn g_p a_p b_p] sg=some (eB (containsVal l p),sg,0):=
 sx (e:=fun r=>(eB r,sg,0)) (F:=c168) rfl<|gO 8<|cli (indexVal_in (g_p:=g_p) (a_p:=a_p.map (sh0 1)) (b_p:=b_p.map (sh0 1)) l p (by(first|assumption|omega|(simp only[List.length_cons,List.length_nil,List.length_append,List.length_map];omega)|grind)) (fun x hm f0_=>hp_p x hm _ f0_))<|gO 4<|en
def factCheck1 (v:Sp.Val):Bool:=(!((valCheck v) == 0))
theorem factCheck1_says (v:Sp.Val) (ok_v:v.ok):SaysT TX 169 [eVal v] (eB (factCheck1 v)):=
 sy (e:=eB) (F:=c169) rfl fun sg=>gO 8<|cl (valCheck_says v (by(first|assumption|omega|(simp only[List.length_cons,List.length_nil,List.length_append,List.length_map];omega)|grind)))<|gO 4<|en
def factCheck (f:Sp.Fact):Int:=(bif (factName f.name) then(bif (decide ((f.args.length:Int)>5)) then 1 else(bif (containsVal f.args (fun x=>factCheck1 x)) then 1 else 0)) else 1)
theorem factCheck_says (f:Sp.Fact) (ok_f:f.ok):SaysT TX 106 [eFact f] (eI (factCheck f)):=
 sy (e:=eI) (F:=c106) rfl fun sg=>gO 10<|cl (factName_says f.name (by first|exact ok_f.1|exact ok_f.2.1|exact ok_f.2.2 _ (by assumption)|omega))<|gO 2<|dcn 7 (fun h1=>gO 3<|kw 10 (len_map eVal f.args)<|gO 3<|dp 13 (fun h2=>gO 12<|en) (fun h2=>gO 2<|cli (containsVal_in (g_p:=169) (a_p:=[]) (b_p:=[]) f.args (fun x=>factCheck1 x) (by first|exact ok_f.1|exact ok_f.2.1|exact ok_f.2.2 _ (by assumption)|omega) (fun x hm f0_ f1_=>factCheck1_says x (by first|(first|exact ok_f.1|exact ok_f.2.1|exact ok_f.2.2 _ (by assumption)|omega)|(omega)) _))<|gO 2<|dc 17 (fun h3=>gO 7<|en) (fun h3=>gO 7<|en))) (fun h1=>gO 18<|en)
def alphaFirst1 (t:Sp.Term) (a:Sp.Atom) (at_:Int):Bool:=(onS a.args[at_.toNat]? (fun y1=>(t.var == y1.var)) default)
theorem alphaFirst1_in (t:Sp.Term) (a:Sp.Atom) (at_:Int) (h0:0≤at_) (h1:at_<a.args.length) {sg:List Fr} {d_a i_a:Nat} (hg_a:(sg[d_a]?).bind (·[i_a]?)=some (.box [(.str a.name),(.sl .no 4 (a.args.map eTerm))])) {d_at_ i_at_:Nat} (hg_at_:(sg[d_at_]?).bind (·[i_at_]?)=some (.box [(.int .i64 at_)])):TX.call 161 [eTerm t,.bp (d_a+1) i_a 0,.bp (d_at_+1) i_at_ 0] sg=some (eB (alphaFirst1 t a at_),sg,0):=
 sx (e:=fun r=>(eB r,sg,0)) (F:=c161) rfl<|gO 10<|ldo (ag:=false) (sz:=1) (o:=1) (v:=(.sl .no 4 (a.args.map eTerm))) hg_a (by kernel_rfl)<|ldo (ag:=false) (sz:=1) (o:=0) (v:=(.int .i64 at_)) hg_at_ (by kernel_rfl)<|kw 9 (toNat_v (n:=at_) (by omega))<|ia (en:=eTerm) (by omega) fun y1 h1=>gO 6<|en
def alphaFirst (a:Sp.Atom) (at_:Int):Int:=(indexTerm a.args (fun x=>alphaFirst1 x a at_))
theorem alphaFirst_says (a:Sp.Atom) (at_:Int) (ok_a:a.ok) (h0:0≤at_) (h1:at_<a.args.length):SaysT TX 97 [eAtom a,eI at_] (eI (alphaFirst a at_)):=
 sy (e:=eI) (F:=c97) rfl fun sg=>gO 11<|cli (indexTerm_in (g_p:=161) (a_p:=[]) (b_p:=[(.bp 1 0 0),(.bp 1 1 0)]) a.args (fun x=>alphaFirst1 x a at_) (by first|omega|exact ok_a.2.1) (fun x hm f0_=>alphaFirst1_in x a at_ (by first|(first|omega|exact ok_a.2.1)|(omega)) (by first|(first|omega|exact ok_a.2.1)|(omega)) (by kernel_rfl) (by kernel_rfl)))<|gO 3<|en
def alphaAlike_l1 (a:Sp.Atom) (b:Sp.Atom):Nat→List Sp.Term→Unit→Bool
 |i1,[],_=>true
 |i1,x1::xs2,_=>(onS b.args[i1]? (fun y3=>(bif ((x1.var == ([]:Txt)) == (y3.var == ([]:Txt))) then(bif (x1.var == ([]:Txt)) then(bif ((x1.val.kind == y3.val.kind)&&((x1.val.n == y3.val.n)&&((x1.val.s == y3.val.s)&&true))) then alphaAlike_l1 a b (i1+1) xs2 () else false) else(bif ((alphaFirst a (i1:Int)) == (alphaFirst b (i1:Int))) then alphaAlike_l1 a b (i1+1) xs2 () else false)) else false)) default)
def alphaAlike (a:Sp.Atom) (b:Sp.Atom):Bool:=(bif (a.name == b.name) then(bif ((a.args.length:Int) == (b.args.length:Int)) then alphaAlike_l1 a b 0 a.args () else false) else false)
theorem alphaAlike_says (a:Sp.Atom) (b:Sp.Atom) (ok_a:a.ok) (ok_b:b.ok):SaysT TX 41 [eAtom a,eAtom b] (eB (alphaAlike a b)):=
 sy (e:=eB) (F:=c41) rfl fun sg=>gO 15<|dqn 13 (fun h1=>gO 3<|kw 16 (len_map eTerm a.args)<|gO 3<|kw 19 (len_map eTerm b.args)<|gO 3<|dqn 21 (fun h2=>gO 8<|kw 24 (len_map eTerm a.args)<|gO 3<|rg (β:=Sp.Term) (A:=Unit) (fun i1 _=>{ vals:=[(.bp 0 0 0),(.bp 0 1 0),(.sl .no 4 (a.args.map eTerm)),(.int .i64 (a.args.length:Int)),(.int .i64 (i1:Int))],fr:=[.box [(.str a.name),(.sl .no 4 (a.args.map eTerm))],.box [(.str b.name),(.sl .no 4 (b.args.map eTerm))]],sg:=sg,wd:=0 }) (L:=a.args) (acc0:=()) (fn:=alphaAlike_l1 a b) (fun i1 x1 xs2 _ hd1 ih1=>have hlt1:=drop_lt hd1;have hx1:=drop_get hd1;gO 5<|dk 26 (lt_true hlt1)<|gO 7<|iak eTerm hx1<|gO 10<|ia (en:=eTerm) (by first|omega|exact ok_a|exact ok_b|(have q:=ok_a.2.1;omega)) fun y3 h3=>gO 16<|dcn 35 (fun h4=>gO 7<|dq 47 (fun h5=>gO 7<|dcn 54 (fun h6=>gO 4<|dk 58 (congrArg not (tq h5))<|gO 17<|kw 68 (congrArg (V.int .i64) (wrap_s hlt1 (by first|omega|exact ok_a|exact ok_b|(have q:=ok_a.2.1;omega))))<|gO 2<|nx (ih1 ())) (fun h6=>gO 27<|en)) (fun h5=>gO 11<|dk 58 (congrArg not (fq h5))<|gO 2<|cl (alphaFirst_says a (i1:Int) (by first|omega|exact ok_a|exact ok_b|(have q:=ok_a.2.1;omega)) (by first|omega|exact ok_a|exact ok_b|(have q:=ok_a.2.1;omega)) (by first|omega|exact ok_a|exact ok_b|(have q:=ok_a.2.1;omega)))<|gO 2<|cl (alphaFirst_says b (i1:Int) (by first|omega|exact ok_a|exact ok_b|(have q:=ok_a.2.1;omega)) (by first|omega|exact ok_a|exact ok_b|(have q:=ok_a.2.1;omega)) (by first|omega|exact ok_a|exact ok_b|(have q:=ok_a.2.1;omega)))<|gO 5<|dqn 43 (fun h7=>gO 6<|kw 68 (congrArg (V.int .i64) (wrap_s hlt1 (by first|omega|exact ok_a|exact ok_b|(have q:=ok_a.2.1;omega))))<|gO 2<|nx (ih1 ())) (fun h7=>gO 12<|en))) (fun h4=>gO 12<|en)) (fun i1 _ hd1=>have hge1:=drop_ge hd1;gO 5<|dk 26 (lt_false hge1)<|gO 10<|en)) (fun h2=>gO 7<|en)) (fun h1=>gO 16<|en)
end Go.Vm
/-
  Lists of values of variables: sorted, one behind another, right; conditions left out.
-/
namespace Go.Vm
open Go Go.Sp
theorem stabBind_eq (cmp:Sp.Bind→Sp.Bind→Int) (data:List Sp.Bind) (hk:data.length≤20):stabBind data (data.length:Int) cmp=isrt cmp data:=by
 unfold stabBind
 rw[stabBind_l1]
 by_cases h:(20:Int)≤(data.length:Int)
 ·have hl:(data.length:Int)=20:=by omega
  rw[decide_eq_true h,cond_true,stabBind_l1]
  have h2:¬ ((20:Int)+20≤(data.length:Int)):=by omega
  rw[decide_eq_false h2,cond_false]
  have h3:=insBind_eq cmp data
  rw[hl] at h3 ⊢
  rw[h3,insBind_end]
 ·rw[decide_eq_false h,cond_false,insBind_eq]
theorem sortBind_eq (cmp:Sp.Bind→Sp.Bind→Int) (data:List Sp.Bind) (hk:data.length≤20):sortBind data cmp=isrt cmp data:=stabBind_eq cmp data hk
theorem concatBind_eq {a b:List Sp.Bind} (h0:0<a.length+b.length):(concatBind a b).1=a++b∧(concatBind a b).2.2=(a++b).length:=by
 have e2:(concatBind a b).2.2=0+a.length+b.length:=rfl
 refine⟨?_,by rw[e2,List.length_append];omega⟩
 show amC (amC _ 0 a) (0+a.length) b=a++b
 cases b with
 |nil=>
  cases a with
  |nil=>simp at h0
  |cons x a=>simp[amC]
 |cons y b=>
  cases a with
  |nil=>simp[amC]
  |cons x a=>simp[amC]
section
variable {a b:List Sp.Bind} (h0:0<b.length) (h20:a.length+b.length≤20)
include h0
theorem both_len:(concatBind a b).1.length=(concatBind a b).2.2:=by
 obtain⟨h1,h2⟩:=concatBind_eq (a:=a) (b:=b) (by omega)
 rw[h1,h2]
include h20
theorem both_20:(concatBind a b).1.length≤20:=by
 obtain⟨h1,h2⟩:=concatBind_eq (a:=a) (b:=b) (by omega)
 rw[h1,List.length_append];exact h20
theorem both_sort:sortBind (concatBind a b).1 (fun x x1=>substBoth1 x x1)=isrt (fun x x1=>substBoth1 x x1) (a++b):=by
 rw[sortBind_eq _ _ (both_20 h0 h20),(concatBind_eq (a:=a) (b:=b) (by omega)).1]
theorem both_slen:(sortBind (concatBind a b).1 (fun x x1=>substBoth1 x x1)).length=(concatBind a b).2.2:=by
 rw[both_sort h0 h20,(concatBind_eq (a:=a) (b:=b) (by omega)).2]
 exact(srtL_perm _ (a++b) []).length_eq
theorem both_s20:(sortBind (concatBind a b).1 (fun x x1=>substBoth1 x x1)).length≤1000000:=by
 rw[both_slen h0 h20,(concatBind_eq (a:=a) (b:=b) (by omega)).2,List.length_append];omega
theorem both_ok (oka:okB a) (okb:okB b):okB ((compactBind (sortBind (concatBind a b).1 (fun x x1=>substBoth1 x x1))).2.take (compactBind (sortBind (concatBind a b).1 (fun x x1=>substBoth1 x x1))).1):=by
 rw[(compactBind_eq _).1,both_sort h0 h20]
 have hp:=srtL_perm (fun x x1=>substBoth1 x x1) (a++b) []
 refine⟨Nat.le_trans (dd_len _) (by rw[hp.length_eq];simp only[List.nil_append,List.length_append];omega),fun x hx=>?_⟩
 rw[mem_dd,hp.mem_iff,List.nil_append,List.mem_append] at hx
 exact hx.elim (oka.2 x) (okb.2 x)
end
theorem both_k (l:List Sp.Bind):(compactBind l).1≤(compactBind l).2.length:=(compactBind_eq l).2
theorem deleteCond_l1_eq (s:List Sp.Cond) (del:Sp.Cond→Bool):∀ (fuel i j:Nat) (A:List Sp.Cond),s.length<j+fuel→i<j→j≤s.length→A.length=s.length→A.drop j=s.drop j →
  let r:=deleteCond_l1 s del fuel ((i:Int),(j:Int),A)
  r.2.take r.1=A.take i++(s.drop j).filter (fun x=>!del x)∧r.1≤r.2.length
 |0,i,j,A,h,_,_,_,_=>by omega
 |fuel+1,i,j,A,h,h1,h2,h3,h4=>by
  intro r
  have hr:r=deleteCond_l1 s del (fuel+1) ((i:Int),(j:Int),A):=rfl
  rw[deleteCond_l1] at hr
  have e0:((i:Nat):Int).toNat=i:=rfl
  have e1:((j:Nat):Int).toNat=j:=rfl
  have e8:(((i+1:Nat)):Int)=(i:Int)+1:=rfl
  have e9:(((j+1:Nat)):Int)=(j:Int)+1:=rfl
  rw[e0,e1] at hr
  by_cases hc:((j:Nat):Int)<(s.length:Int)
  ·rw[decide_eq_true hc,cond_true] at hr
   obtain⟨y,g⟩:∃ y,s[j]? = some y:=⟨_,List.getElem?_eq_getElem (by omega)⟩
   have g':A[j]? = some y:=by rw[get_of_drop h4 (Nat.le_refl _)];exact g
   rw[g'] at hr
   simp only[onS] at hr
   have hdr:A.drop (j+1)=s.drop (j+1):=by
    have:=congrArg (List.drop 1) h4
    rwa [List.drop_drop,List.drop_drop] at this
   rw[drop_oneL g,List.filter_cons]
   cases hb:del y with
   |true=>
    rw[hb,cond_true] at hr
    have ih:=deleteCond_l1_eq s del fuel i (j+1) A (by omega) (by omega) (by omega) h3 hdr
    rw[e9,← hr] at ih
    exact ih
   |false=>
    rw[hb,cond_false] at hr
    have hi:i<A.length:=by omega
    obtain⟨y5,g5⟩:∃ y,A[i]? = some y:=⟨_,List.getElem?_eq_getElem hi⟩
    rw[g5] at hr
    simp only[] at hr
    have ih:=deleteCond_l1_eq s del fuel (i+1) (j+1) (A.set i y) (by omega) (by omega) (by omega) (by rw[List.length_set];exact h3) (by rw[List.drop_set_of_lt (by omega)];exact hdr)
    rw[e8,e9,← hr] at ih
    obtain⟨i1,i2⟩:=ih
    refine⟨?_,i2⟩
    rw[i1,take_oneL (List.getElem?_set_self hi),List.take_set_of_le (Nat.le_refl _),List.append_assoc]
    rfl
  ·rw[decide_eq_false hc,cond_false] at hr
   rw[hr,List.drop_eq_nil_of_le (by omega)]
   simp only[List.filter_nil,List.append_nil,List.length_append,List.length_take,List.length_replicate]
   refine⟨?_,by omega⟩
   rw[List.take_append_of_le_length (by rw[List.length_take];omega),List.take_take,Nat.min_self]
theorem indexCondA_l1_eq (l:List Sp.Cond) (f:Sp.Cond→Bool):∀ (xs p:List Sp.Cond),l=p++xs→(∀ x∈p,f x=false)→(indexCondA_l1 l f p.length xs () = -1∧∀ x∈l,f x=false)∨∃ q y r,l=q++y::r∧(∀ x∈q,f x=false)∧f y=true∧indexCondA_l1 l f p.length xs ()=(q.length:Int)
 | [],p,h,hp=>.inl ⟨rfl,fun x hx=>hp x (by rw[h,List.append_nil] at hx;exact hx)⟩
 |x::xs,p,h,hp=>by
  rw[indexCondA_l1]
  cases hf:f x with
  |true=>exact .inr ⟨p,x,xs,h,hp,hf,rfl⟩
  |false=>
   rw[cond_false]
   have:=indexCondA_l1_eq l f xs (p ++ [x]) (by rw[h];simp) (fun y hy=>(List.mem_append.1 hy).elim (hp y) (fun hy=>by rw[List.mem_singleton.1 hy];exact hf))
   rw[List.length_append,List.length_singleton] at this
   exact this
theorem deleteCond_eq (s:List Sp.Cond) (del:Sp.Cond→Bool):(deleteCond s del).2.take (deleteCond s del).1=s.filter (fun x=>!del x)∧(deleteCond s del).1≤(deleteCond s del).2.length:=by
 unfold deleteCond
 rcases indexCondA_l1_eq s del s [] rfl (fun x hx=>by cases hx) with⟨h1,h2⟩|⟨q,y,r,h1,h2,h3,h4⟩
 ·have:indexCondA s del = -1:=h1
  rw[this]
  refine⟨?_,Nat.le_refl _⟩
  show s.take s.length=_
  rw[List.take_length,List.filter_eq_self.2]
  intro x hx;rw[h2 x hx];rfl
 ·have hi:indexCondA s del=(q.length:Int):=h4
  have hne:((q.length:Int) == -1)=false:=by
   rw[Bool.eq_false_iff];intro h;rw[beq_iff_eq] at h;omega
  rw[hi,hne,cond_false]
  have hl:s.length=q.length+(r.length+1):=by rw[h1];simp
  obtain⟨i1,i2⟩:=deleteCond_l1_eq s del (s.length+1) q.length (q.length+1) s (by omega) (by omega) (by omega) rfl rfl
  have e9:(((q.length+1:Nat)):Int)=(q.length:Int)+1:=rfl
  rw[e9] at i1 i2
  refine⟨?_,i2⟩
  rw[i1]
  have ht:s.take q.length=q:=by rw[h1];simp
  have hd:s.drop (q.length+1)=r:=by rw[h1,← List.drop_drop];simp
  rw[ht,hd]
  have:s.filter (fun x=>!del x)=q.filter (fun x=>!del x)++((y::r).filter (fun x=>!del x)):=by rw[h1,List.filter_append]
  rw[this,List.filter_cons,h3]
  have hq:q.filter (fun x=>!del x)=q:=List.filter_eq_self.2 fun x hx=>by rw[h2 x hx];rfl
  rw[hq];rfl
end Go.Vm
/- What functions of the program answer. Printed by spec2.py. -/
namespace Go.Vm
open Go Go.Sp
set_option maxRecDepth 100000
set_option maxHeartbeats 4000000
def substBoth (a:(List Sp.Bind)) (b:(List Sp.Bind)):(List Sp.Bind) × Bool:=(bif ((substCheck a) == 0) then(bif ((substCheck b) == 0) then(bif ((substCheck (((compactBind (sortBind ((concatBind a b).1) (fun x x1=>substBoth1 x x1))).2).take ((compactBind (sortBind ((concatBind a b).1) (fun x x1=>substBoth1 x x1))).1))) == 0) then((((compactBind (sortBind ((concatBind a b).1) (fun x x1=>substBoth1 x x1))).2).take ((compactBind (sortBind ((concatBind a b).1) (fun x x1=>substBoth1 x x1))).1)),true) else(([]:(List Sp.Bind)),false)) else(([]:(List Sp.Bind)),false)) else(([]:(List Sp.Bind)),false))
theorem substBoth_says (a:(List Sp.Bind)) (b:(List Sp.Bind)) (ok_a:okB a) (ok_b:okB b) (h0:0<b.length) (h20:a.length+b.length≤20):SaysT TX 172 [(eL 4 eBind) a,(eL 4 eBind) b] ((eP (eL 4 eBind) eB) (substBoth a b)):=
 sy (e:=(eP (eL 4 eBind) eB)) (F:=c172) rfl fun sg=>gO 9<|cl (substCheck_says a (by first|exact ok_a|exact ok_b|omega|exact fun _ _=>trivial|exact both_20 h0 h20|exact both_s20 h0 h20|exact both_ok h0 h20 ok_a ok_b))<|gO 2<|dqn 10 (fun h1=>gO 1<|cl (substCheck_says b (by first|exact ok_a|exact ok_b|omega|exact fun _ _=>trivial|exact both_20 h0 h20|exact both_s20 h0 h20|exact both_ok h0 h20 ok_a ok_b))<|gO 3<|dqn 14 (fun h2=>gO 7<|clr (concatBind_in a b (by first|exact ok_a|exact ok_b|omega|exact fun _ _=>trivial|exact both_20 h0 h20|exact both_s20 h0 h20|exact both_ok h0 h20 ok_a ok_b) (by first|exact ok_a|exact ok_b|omega|exact fun _ _=>trivial|exact both_20 h0 h20|exact both_s20 h0 h20|exact both_ok h0 h20 ok_a ok_b))<|gO 5<|clo (fr:=[.tok 0,.arr 0 4 (([]:List Sp.Bind).map eBind),.arr 0 4 (([]:List Sp.Bind).map eBind),.arr ((concatBind a b).2.1) 4 ((sortBind ((concatBind a b).1) (fun x x1=>substBoth1 x x1)).map eBind)]) (sortBind_w (d_x:=0) (i_x:=3) (v_x:=(concatBind a b).2.1) (n_x:=(concatBind a b).2.2) (g_cmp:=245) (P_cmp:=(fun _=>True)) ((concatBind a b).1) (fun x x1=>substBoth1 x x1) (sg:=([.tok 0,.arr 0 4 (([]:List Sp.Bind).map eBind),.arr 0 4 (([]:List Sp.Bind).map eBind),.arr ((concatBind a b).2.1) 4 (((concatBind a b).1).map eBind)]::sg)) (W:=1) (plc_own (b:=.arr (concatBind a b).2.1 4 (((concatBind a b).1).map eBind)) (by kernel_rfl)) (by first|rfl|(first|exact both_len h0|exact both_slen h0 h20|exact both_k _)) (Nat.le_refl 1) (fun x x1 hx hx1 sg=>substBoth1_says x x1 sg) (by first|exact ok_a|exact ok_b|omega|exact fun _ _=>trivial|exact both_20 h0 h20|exact both_s20 h0 h20|exact both_ok h0 h20 ok_a ok_b) (by first|exact ok_a|exact ok_b|omega|exact fun _ _=>trivial|exact both_20 h0 h20|exact both_s20 h0 h20|exact both_ok h0 h20 ok_a ok_b))<|gO 4<|clo (fr:=[.tok 0,.arr 0 4 (([]:List Sp.Bind).map eBind),.arr 0 4 (([]:List Sp.Bind).map eBind),.arr ((concatBind a b).2.1) 4 (((compactBind (sortBind ((concatBind a b).1) (fun x x1=>substBoth1 x x1))).2).map eBind)]) (compactBind_w (d_s:=0) (i_s:=3) (v_s:=(concatBind a b).2.1) (n_s:=(concatBind a b).2.2) (sortBind ((concatBind a b).1) (fun x x1=>substBoth1 x x1)) (sg:=([.tok 0,.arr 0 4 (([]:List Sp.Bind).map eBind),.arr 0 4 (([]:List Sp.Bind).map eBind),.arr ((concatBind a b).2.1) 4 ((sortBind ((concatBind a b).1) (fun x x1=>substBoth1 x x1)).map eBind)]::sg)) (W:=1) (plc_own (b:=.arr (concatBind a b).2.1 4 ((sortBind ((concatBind a b).1) (fun x x1=>substBoth1 x x1)).map eBind)) (by kernel_rfl)) (by first|rfl|(first|exact both_len h0|exact both_slen h0 h20|exact both_k _)) (Nat.le_refl 1) (by first|exact ok_a|exact ok_b|omega|exact fun _ _=>trivial|exact both_20 h0 h20|exact both_s20 h0 h20|exact both_ok h0 h20 ok_a ok_b))<|fzw (en:=eBind) (L:=(compactBind (sortBind ((concatBind a b).1) (fun x x1=>substBoth1 x x1))).2) (i:=3) (ver:=(concatBind a b).2.1) (z:=4) (len:=(compactBind (sortBind ((concatBind a b).1) (fun x x1=>substBoth1 x x1))).1) (by first|exact both_len h0|exact both_slen h0 h20|exact both_k _)<|gO 5<|cl (substCheck_says (((compactBind (sortBind ((concatBind a b).1) (fun x x1=>substBoth1 x x1))).2).take ((compactBind (sortBind ((concatBind a b).1) (fun x x1=>substBoth1 x x1))).1)) (by first|exact ok_a|exact ok_b|omega|exact fun _ _=>trivial|exact both_20 h0 h20|exact both_s20 h0 h20|exact both_ok h0 h20 ok_a ok_b))<|gO 2<|dqn 25 (fun h3=>gO 9<|en) (fun h3=>gO 8<|en)) (fun h2=>gO 8<|en)) (fun h1=>gO 13<|en)
def substPut (l:(List Sp.Bind)) (name:Txt) (v:Sp.Val):(List Sp.Bind) × Bool:=(bif (substRight (⟨name,v⟩:Sp.Bind)) then((substBoth l ([(⟨name,v⟩:Sp.Bind)]:(List Sp.Bind))).1,(substBoth l ([(⟨name,v⟩:Sp.Bind)]:(List Sp.Bind))).2) else(([]:(List Sp.Bind)),false))
theorem substPut_says (l:(List Sp.Bind)) (name:Txt) (v:Sp.Val) (ok_l:okB l) (h_n:name.length≤140737488351232) (ok_v:v.ok) (h20:l.length+1≤20):SaysT TX 109 [(eL 4 eBind) l,eS name,eVal v] ((eP (eL 4 eBind) eB) (substPut l name v)):=
 sy (e:=(eP (eL 4 eBind) eB)) (F:=c109) rfl fun sg=>gO 12<|cl (substRight_says (⟨name,v⟩:Sp.Bind) (by first|exact⟨h_n,ok_v⟩|exact ok_l|exact⟨by simp only[List.length_cons,List.length_nil];omega,fun x hx=>by rw[List.mem_singleton.1 hx];exact⟨h_n,ok_v⟩⟩|exact h20|exact Nat.zero_lt_one))<|gO 2<|dcn 12 (fun h1=>gO 9<|cl (substBoth_says l ([(⟨name,v⟩:Sp.Bind)]:(List Sp.Bind)) (by first|exact⟨h_n,ok_v⟩|exact ok_l|exact⟨by simp only[List.length_cons,List.length_nil];omega,fun x hx=>by rw[List.mem_singleton.1 hx];exact⟨h_n,ok_v⟩⟩|exact h20|exact Nat.zero_lt_one) (by first|exact⟨h_n,ok_v⟩|exact ok_l|exact⟨by simp only[List.length_cons,List.length_nil];omega,fun x hx=>by rw[List.mem_singleton.1 hx];exact⟨h_n,ok_v⟩⟩|exact h20|exact Nat.zero_lt_one) (by first|exact⟨h_n,ok_v⟩|exact ok_l|exact⟨by simp only[List.length_cons,List.length_nil];omega,fun x hx=>by rw[List.mem_singleton.1 hx];exact⟨h_n,ok_v⟩⟩|exact h20|exact Nat.zero_lt_one) (by first|exact⟨h_n,ok_v⟩|exact ok_l|exact⟨by simp only[List.length_cons,List.length_nil];omega,fun x hx=>by rw[List.mem_singleton.1 hx];exact⟨h_n,ok_v⟩⟩|exact h20|exact Nat.zero_lt_one))<|gO 6<|en) (fun h1=>gO 8<|en)
end Go.Vm
/-
  Values of variables put to others: right together where each variable has one value.
-/
namespace Go.Vm
open Go Go.Sp
abbrev kB (x:Sp.Bind):Txt:=x.var
theorem both_eq {a b:List Sp.Bind} (h0:0<b.length) (h20:a.length+b.length≤20):substBoth a b=bif substCheck a == 0 then bif substCheck b == 0 then bif substCheck (dd (isrt (fun x x1=>substBoth1 x x1) (a++b))) == 0 then(dd (isrt (fun x x1=>substBoth1 x x1) (a++b)),true) else([],false) else([],false) else([],false):=by
 unfold substBoth
 rw[(compactBind_eq _).1,both_sort h0 h20]
theorem isrt_mem (cmp:Sp.Bind→Sp.Bind→Int) (l:List Sp.Bind) (x:Sp.Bind):x∈dd (isrt cmp l)↔x∈l:=by
 rw[mem_dd,(srtL_perm cmp l []).mem_iff];rfl
theorem isrt_len (cmp:Sp.Bind→Sp.Bind→Int) (l:List Sp.Bind):(dd (isrt cmp l)).length≤l.length:=Nat.le_trans (dd_len _) (by rw[(srtL_perm cmp l []).length_eq];exact Nat.le_refl _)
theorem both_val {a b:List Sp.Bind} (h0:0<b.length) (h20:a.length+b.length≤20) (h:(substBoth a b).2=true):(substBoth a b).1=dd (isrt (fun x x1=>substBoth1 x x1) (a++b))∧substCheck (substBoth a b).1=0:=by
 rw[both_eq h0 h20] at h ⊢
 cases h1:substCheck a == 0 with
 |false=>rw[h1] at h;cases h
 |true=>
 cases h2:substCheck b == 0 with
 |false=>rw[h1,h2] at h;cases h
 |true=>
 cases h3:substCheck (dd (isrt (fun x x1=>substBoth1 x x1) (a++b))) == 0 with
 |false=>rw[h1,h2,h3] at h;cases h
 |true=>simp only[cond_true];exact⟨trivial,by simpa using h3⟩
section
variable {l:List Sp.Bind} {v:Txt} {x:Sp.Val}
theorem put_both (h:(substPut l v x).2=true):substRight ⟨v,x⟩=true∧substPut l v x=substBoth l [⟨v,x⟩]:=by
 unfold substPut at h ⊢
 cases hr:substRight ⟨v,x⟩ with
 |false=>rw[hr] at h;cases h
 |true=>exact⟨rfl,rfl⟩
theorem put_mem (h20:l.length+1≤20) (h:(substPut l v x).2=true) (y:Sp.Bind):y∈(substPut l v x).1↔y∈l∨y=⟨v,x⟩:=by
 obtain⟨_,h2⟩:=put_both h
 rw[h2] at h ⊢
 rw[(both_val (by simp) h20 h).1,isrt_mem,List.mem_append,List.mem_singleton]
theorem put_len (h20:l.length+1≤20) (h:(substPut l v x).2=true):(substPut l v x).1.length≤l.length+1:=by
 obtain⟨_,h2⟩:=put_both h
 rw[h2] at h ⊢
 rw[(both_val (by simp) h20 h).1]
 refine Nat.le_trans (isrt_len _ _) (by simp)
end
theorem put_ok {l:List Sp.Bind} {v:Txt} {x:Sp.Val} (ok_l:okB l) (h_n:v.length≤140737488351232) (ok_v:x.ok) (h20:l.length+1≤20) (h:(substPut l v x).2=true):okB (substPut l v x).1∧(substPut l v x).1.length≤l.length+1:=by
 have hl:=put_len h20 h
 refine⟨⟨by omega,fun y hy=>?_⟩,hl⟩
 rcases(put_mem h20 h y).1 hy with hy|rfl
 ·exact ok_l.2 y hy
 ·exact⟨h_n,ok_v⟩
theorem mc_len {a:Sp.Atom} (h:matchCheck a=0):a.args.length≤5:=by
 unfold matchCheck at h
 cases hf:factName a.name with
 |false=>rw[hf] at h;cases h
 |true=>
  by_cases hc:(a.args.length:Int)>5
  ·rw[hf,decide_eq_true hc] at h;cases h
  ·omega
end Go.Vm
/- What functions of the program answer. Printed by spec2.py. -/
namespace Go.Vm
open Go Go.Sp
set_option maxRecDepth 100000
set_option maxHeartbeats 4000000
def matchOne_l1 (a:Sp.Atom) (f:Sp.Fact) (l:(List Sp.Bind)):Nat→List Sp.Term→(List Sp.Bind)→(List Sp.Bind) × Bool
 |i1,[],a1_0=>(a1_0,true)
 |i1,x1::xs2,a1_0=>(bif (x1.var == ([]:Txt)) then(onS f.args[i1]? (fun y3=>(bif ((x1.val.kind == y3.kind)&&((x1.val.n == y3.n)&&((x1.val.s == y3.s)&&true))) then matchOne_l1 a f l (i1+1) xs2 a1_0 else(([]:(List Sp.Bind)),false))) default) else(onS f.args[i1]? (fun y4=>(bif (substPut a1_0 x1.var y4).2 then matchOne_l1 a f l (i1+1) xs2 ((substPut a1_0 x1.var y4).1) else(([]:(List Sp.Bind)),false))) default))
def matchOne (a:Sp.Atom) (f:Sp.Fact) (l:(List Sp.Bind)):(List Sp.Bind) × Bool:=(bif ((matchCheck a) == 0) then(bif ((factCheck f) == 0) then(bif ((substCheck l) == 0) then(bif (a.name == f.name) then(bif ((a.args.length:Int) == (f.args.length:Int)) then matchOne_l1 a f l 0 a.args (cloneBind l) else(([]:(List Sp.Bind)),false)) else(([]:(List Sp.Bind)),false)) else(([]:(List Sp.Bind)),false)) else(([]:(List Sp.Bind)),false)) else(([]:(List Sp.Bind)),false))
theorem matchOne_says (a:Sp.Atom) (f:Sp.Fact) (l:(List Sp.Bind)) (ok_a:a.ok) (ok_f:f.ok) (ok_l:okB l) (hl:l.length≤14):SaysT TX 50 [eAtom a,eFact f,(eL 4 eBind) l] ((eP (eL 4 eBind) eB) (matchOne a f l)):=
 sy (e:=(eP (eL 4 eBind) eB)) (F:=c50) rfl fun sg=>gO 11<|cl (matchCheck_says a (by first|exact ok_a|exact ok_f|exact ok_l|omega|exact ok_x1.1|exact hi1.1|exact ok_f.2.2 _ (List.mem_of_getElem? (by assumption))|(have q:=mc_len (by assumption);omega)|(have q:=ok_a.2.1;omega)))<|gO 2<|dqn 16 (fun h1=>gO 1<|cl (factCheck_says f (by first|exact ok_a|exact ok_f|exact ok_l|omega|exact ok_x1.1|exact hi1.1|exact ok_f.2.2 _ (List.mem_of_getElem? (by assumption))|(have q:=mc_len (by assumption);omega)|(have q:=ok_a.2.1;omega)))<|gO 3<|dqn 21 (fun h2=>gO 1<|cl (substCheck_says l (by first|exact ok_a|exact ok_f|exact ok_l|omega|exact ok_x1.1|exact hi1.1|exact ok_f.2.2 _ (List.mem_of_getElem? (by assumption))|(have q:=mc_len (by assumption);omega)|(have q:=ok_a.2.1;omega)))<|gO 3<|dqn 26 (fun h3=>gO 7<|dqn 33 (fun h4=>gO 3<|kw 36 (len_map eTerm a.args)<|gO 3<|kw 39 (len_map eVal f.args)<|gO 3<|dqn 41 (fun h5=>gO 5<|cl (cloneBind_says l (by first|exact ok_a|exact ok_f|exact ok_l|omega|exact ok_x1.1|exact hi1.1|exact ok_f.2.2 _ (List.mem_of_getElem? (by assumption))|(have q:=mc_len (by assumption);omega)|(have q:=ok_a.2.1;omega)))<|gO 8<|kw 46 (len_map eTerm a.args)<|gO 3<|rgI (β:=Sp.Term) (A:=(List Sp.Bind)) (fun i1 a1_0=>okB a1_0∧a1_0.length≤l.length+i1) (fun i1 a1_0=>{ vals:=[(.bp 0 1 0),(.sl .no 4 (a1_0.map eBind)),(.sl .no 4 (a.args.map eTerm)),(.int .i64 (a.args.length:Int)),(.int .i64 (i1:Int))],fr:=[.box [(.str a.name),(.sl .no 4 (a.args.map eTerm))],.box [(.str f.name),(.sl .no 3 (f.args.map eVal))],.tok 0],sg:=sg,wd:=0 }) (L:=a.args) (acc0:=(cloneBind l)) (fn:=matchOne_l1 a f l) (by exact⟨ok_l,Nat.le_refl _⟩) (fun i1 x1 xs2 a1_0 hd1 hi1 ih1=>have hi1:okB a1_0∧a1_0.length≤l.length+i1:=hi1;have hlt1:=drop_lt hd1;have hx1:=drop_get hd1;have ok_x1:=Atom.ok.arg ok_a hx1;gO 5<|dk 48 (lt_true hlt1)<|gO 7<|iak eTerm hx1<|gO 12<|dq 54 (fun h6=>gO 9<|ia (en:=eVal) (by first|exact ok_a|exact ok_f|exact ok_l|omega|exact ok_x1.1|exact hi1.1|exact ok_f.2.2 _ (List.mem_of_getElem? (by assumption))|(have q:=mc_len (by assumption);omega)|(have q:=ok_a.2.1;omega)) fun y3 h7=>gO 3<|dcn 62 (fun h8=>gO 7<|kw 78 (congrArg (V.int .i64) (wrap_s hlt1 (by first|exact ok_a|exact ok_f|exact ok_l|omega|exact ok_x1.1|exact hi1.1|exact ok_f.2.2 _ (List.mem_of_getElem? (by assumption))|(have q:=mc_len (by assumption);omega)|(have q:=ok_a.2.1;omega))))<|gO 2<|nx (ih1 a1_0 (by first|exact⟨hi1.1,by omega⟩|(have q0:=mc_len h1;have q:=put_ok hi1.1 ok_x1.1 (ok_f.2.2 _ (List.mem_of_getElem? (by assumption))) (by omega) (by assumption);exact⟨q.1,by omega⟩)))) (fun h8=>gO 14<|en)) (fun h6=>gO 10<|ia (en:=eVal) (by first|exact ok_a|exact ok_f|exact ok_l|omega|exact ok_x1.1|exact hi1.1|exact ok_f.2.2 _ (List.mem_of_getElem? (by assumption))|(have q:=mc_len (by assumption);omega)|(have q:=ok_a.2.1;omega)) fun y4 h9=>gO 1<|cl (substPut_says a1_0 x1.var y4 (by first|exact ok_a|exact ok_f|exact ok_l|omega|exact ok_x1.1|exact hi1.1|exact ok_f.2.2 _ (List.mem_of_getElem? (by assumption))|(have q:=mc_len (by assumption);omega)|(have q:=ok_a.2.1;omega)) (by first|exact ok_a|exact ok_f|exact ok_l|omega|exact ok_x1.1|exact hi1.1|exact ok_f.2.2 _ (List.mem_of_getElem? (by assumption))|(have q:=mc_len (by assumption);omega)|(have q:=ok_a.2.1;omega)) (by first|exact ok_a|exact ok_f|exact ok_l|omega|exact ok_x1.1|exact hi1.1|exact ok_f.2.2 _ (List.mem_of_getElem? (by assumption))|(have q:=mc_len (by assumption);omega)|(have q:=ok_a.2.1;omega)) (by first|exact ok_a|exact ok_f|exact ok_l|omega|exact ok_x1.1|exact hi1.1|exact ok_f.2.2 _ (List.mem_of_getElem? (by assumption))|(have q:=mc_len (by assumption);omega)|(have q:=ok_a.2.1;omega)))<|gO 12<|dcn 76 (fun h10=>gO 9<|kw 78 (congrArg (V.int .i64) (wrap_s hlt1 (by first|exact ok_a|exact ok_f|exact ok_l|omega|exact ok_x1.1|exact hi1.1|exact ok_f.2.2 _ (List.mem_of_getElem? (by assumption))|(have q:=mc_len (by assumption);omega)|(have q:=ok_a.2.1;omega))))<|gO 2<|nx (ih1 ((substPut a1_0 x1.var y4).1) (by first|exact⟨hi1.1,by omega⟩|(have q0:=mc_len h1;have q:=put_ok hi1.1 ok_x1.1 (ok_f.2.2 _ (List.mem_of_getElem? (by assumption))) (by omega) (by assumption);exact⟨q.1,by omega⟩)))) (fun h10=>gO 13<|en))) (fun i1 a1_0 hd1 hi1=>have hi1:okB a1_0∧a1_0.length≤l.length+i1:=hi1;have hge1:=drop_ge hd1;gO 5<|dk 48 (lt_false hge1)<|gO 12<|en)) (fun h5=>gO 8<|en)) (fun h4=>gO 17<|en)) (fun h3=>gO 24<|en)) (fun h2=>gO 29<|en)) (fun h1=>gO 34<|en)
end Go.Vm
/-
  What lists contain.
-/
namespace Go.Vm
open Go Go.Sp
end Go.Vm
/-
  An atom matches a fact: where its values are the fact's, and each variable has one value.
-/
namespace Go.Vm
open Go Go.Sp
theorem beqVal (x y:Sp.Val):((x.kind == y.kind)&&((x.n == y.n)&&((x.s == y.s)&&true)))=(x == y):=by
 rw[Bool.eq_iff_iff]
 simp only[Bool.and_eq_true,beq_iff_eq,and_true]
 constructor
 ·rintro ⟨h1,h2,h3⟩
  obtain⟨a,b,c⟩:=x
  obtain⟨a',b',c'⟩:=y
  simp_all
 ·rintro rfl;exact⟨rfl,rfl,rfl⟩
theorem Fn1.congr {l m:List Sp.Bind} (h:∀ b,b∈l↔b∈m):Fn1 kB l↔Fn1 kB m:=
 ⟨fun q x hx y hy=>q x ((h x).2 hx) y ((h y).2 hy),fun q x hx y hy=>q x ((h x).1 hx) y ((h y).1 hy)⟩
theorem Fn1.sub {l m:List Sp.Bind} (h:∀ b,b∈l→b∈m) (q:Fn1 kB m):Fn1 kB l:=fun x hx y hy=>q x (h x hx) y (h y hy)
theorem containsVal_eq (l:List Sp.Val) (p:Sp.Val→Bool):containsVal l p=l.any p:=by
 have:∀ (xs:List Sp.Val) (i:Nat),decide (indexVal_l1 l p i xs ()≥0)=xs.any p:=by
  intro xs
  induction xs with
  |nil=>intro i;rfl
  |cons x xs ih=>
   intro i
   rw[indexVal_l1,List.any_cons]
   cases p x with
   |true=>simp
   |false=>simp only[cond_false,Bool.false_or];exact ih (i+1)
 exact this l 0
theorem factCheck_eq (f:Sp.Fact):factCheck f=0↔factName f.name=true∧f.args.length≤5∧∀ v∈f.args,valCheck v=0:=by
 unfold factCheck
 cases hf:factName f.name with
 |false=>exact⟨fun h=>(by cases h),fun h=>(by cases h.1)⟩
 |true=>
  rw[cond_true]
  by_cases hc:(f.args.length:Int)>5
  ·rw[decide_eq_true hc];exact⟨fun h=>(by cases h),fun h=>absurd h.2.1 (by omega)⟩
  ·rw[decide_eq_false hc,cond_false,containsVal_eq]
   cases ha:f.args.any (fun x=>factCheck1 x) with
   |true=>
    refine⟨fun h=>(by cases h),fun h=>?_⟩
    obtain⟨v,hv,h1⟩:=List.any_eq_true.1 ha
    have:=h.2.2 v hv
    unfold factCheck1 at h1
    rw[this] at h1;cases h1
   |false=>
    refine⟨fun _=>⟨rfl,by omega,fun v hv=>?_⟩,fun _=>rfl⟩
    have:=List.any_eq_false.1 ha v hv
    unfold factCheck1 at this
    simpa using this
end Go.Vm
/-
  When atoms are alike.
-/
namespace Go.Vm
open Go Go.Sp
def AtL (a b:Sp.Atom) (k:Nat) (x y:Sp.Term):Prop:=(x.var = []↔y.var = [])∧(x.var = []→x.val=y.val)∧(x.var≠[]→alphaFirst a (k:Int)=alphaFirst b (k:Int))
theorem alike_l1 (a b:Sp.Atom):∀ (xs:List Sp.Term) (i:Nat),a.args.drop i=xs→a.args.length=b.args.length→(alphaAlike_l1 a b i xs ()=true↔∀ (k:Nat) (x y:Sp.Term),i≤k→a.args[k]? = some x→b.args[k]? = some y→AtL a b k x y)
 | [],i,hd,hl=>by
  rw[alphaAlike_l1]
  refine⟨fun _ k x y hk hx _=>?_,fun _=>rfl⟩
  have:=drop_ge hd
  rw[List.getElem?_eq_none (by omega)] at hx;cases hx
 |x::xs,i,hd,hl=>by
  have hlt:=drop_lt hd
  have hx:=drop_get hd
  have hd':a.args.drop (i+1)=xs:=by rw[← List.drop_drop,hd];rfl
  obtain⟨y,hy⟩:∃ y,b.args[i]? = some y:=⟨_,List.getElem?_eq_getElem (by omega)⟩
  have ih:=alike_l1 a b xs (i+1) hd' hl
  rw[alphaAlike_l1,hy]
  simp only[onS]
  rw[beqVal]
  have split:(∀ (k:Nat) (x y:Sp.Term),i≤k→a.args[k]? = some x→b.args[k]? = some y→AtL a b k x y)↔AtL a b i x y∧∀ (k:Nat) (x y:Sp.Term),i+1≤k→a.args[k]? = some x→b.args[k]? = some y→AtL a b k x y:=by
   constructor
   ·intro h;exact⟨h i x y (Nat.le_refl _) hx hy,fun k u w hk=>h k u w (by omega)⟩
   ·rintro ⟨h1,h2⟩ k u w hk hu hw
    rcases Nat.eq_or_lt_of_le hk with e|hk
    ·subst e
     rw[hx] at hu;rw[hy] at hw
     cases hu;cases hw;exact h1
    ·exact h2 k u w hk hu hw
  rw[split,← ih]
  cases h1:x.var == [] with
  |true=>
   have hv:x.var = []:=by simpa using h1
   cases h2:y.var == [] with
   |false=>
    have hw:y.var≠[]:=by simpa using h2
    exact⟨fun h=>(by cases h),fun h=>absurd (h.1.1.1 hv) hw⟩
   |true=>
    have hw:y.var = []:=by simpa using h2
    cases h3:x.val == y.val with
    |true=>
     have e:x.val=y.val:=by simpa using h3
     exact⟨fun h=>⟨⟨⟨fun _=>hw,fun _=>hv⟩,fun _=>e,fun h=>absurd hv h⟩,h⟩,fun h=>h.2⟩
    |false=>
     have e:x.val≠y.val:=by simpa using h3
     exact⟨fun h=>(by cases h),fun h=>absurd (h.1.2.1 hv) e⟩
  |false=>
   have hv:x.var≠[]:=by simpa using h1
   cases h2:y.var == [] with
   |true=>
    have hw:y.var = []:=by simpa using h2
    exact⟨fun h=>(by cases h),fun h=>absurd (h.1.1.2 hw) hv⟩
   |false=>
    have hw:y.var≠[]:=by simpa using h2
    cases h3:alphaFirst a (i:Int) == alphaFirst b (i:Int) with
    |true=>
     have e:alphaFirst a (i:Int)=alphaFirst b (i:Int):=by simpa using h3
     exact⟨fun h=>⟨⟨⟨fun h=>absurd h hv,fun h=>absurd h hw⟩,fun h=>absurd h hv,fun _=>e⟩,h⟩,fun h=>h.2⟩
    |false=>
     have e:alphaFirst a (i:Int)≠alphaFirst b (i:Int):=by simpa using h3
     exact⟨fun h=>(by cases h),fun h=>absurd (h.1.2.2 hv) e⟩
theorem alike_iff (a b:Sp.Atom):alphaAlike a b=true↔a.name=b.name∧a.args.length=b.args.length∧∀ (k:Nat) (x y:Sp.Term),a.args[k]? = some x→b.args[k]? = some y→AtL a b k x y:=by
 unfold alphaAlike
 by_cases h1:a.name=b.name
 case neg=>
  have e:(a.name == b.name)=false:=by simpa using h1
  rw[e];exact⟨fun h=>(by cases h),fun h=>absurd h.1 h1⟩
 by_cases h2:a.args.length=b.args.length
 case neg=>
  have e:((a.args.length:Int) == (b.args.length:Int))=false:=by
   rw[Bool.eq_false_iff];intro h;rw[beq_iff_eq] at h;omega
  rw[h1,e,BEq.rfl];exact⟨fun h=>(by cases h),fun h=>absurd h.2.1 h2⟩
 rw[h1,h2,BEq.rfl,BEq.rfl,cond_true,cond_true,alike_l1 a b a.args 0 rfl h2]
 exact⟨fun h=>⟨rfl,rfl,fun k x y=>h k x y (Nat.zero_le _)⟩,fun h k x y _=>h.2.2 k x y⟩
theorem alike_symm {a b:Sp.Atom} (h:alphaAlike a b=true):alphaAlike b a=true:=by
 obtain⟨h1,h2,h3⟩:=(alike_iff a b).1 h
 refine(alike_iff b a).2 ⟨h1.symm,h2.symm,fun k x y hx hy=>?_⟩
 obtain⟨q1,q2,q3⟩:=h3 k y x hy hx
 exact⟨q1.symm,fun e=>(q2 (q1.2 e)).symm,fun e=>(q3 (fun e2=>e (q1.1 e2))).symm⟩
theorem alike_comm (a b:Sp.Atom):alphaAlike a b=alphaAlike b a:=by
 rw[Bool.eq_iff_iff];exact⟨alike_symm,alike_symm⟩
end Go.Vm
/-
  Where something is found in a list.
-/
namespace Go.Vm
open Go Go.Sp
theorem indexDecl_l1_lt (l:List Sp.Decl) (p:Sp.Decl→Bool):∀ (xs:List Sp.Decl) (i:Nat),indexDecl_l1 l p i xs ()<((i+xs.length:Nat):Int)
 | [],i=>by rw[indexDecl_l1];omega
 |x::xs,i=>by
  rw[indexDecl_l1]
  cases p x with
  |true=>simp only[cond_true,List.length_cons];omega
  |false=>
   have:=indexDecl_l1_lt l p xs (i+1)
   simp only[cond_false,List.length_cons]
   omega
theorem indexDecl_lt (l:List Sp.Decl) (p:Sp.Decl→Bool):indexDecl l p<(l.length:Int):=by
 have:=indexDecl_l1_lt l p l 0
 unfold indexDecl
 omega
theorem Rule_actI {r:Sp.Rule} (h:r.ok) {i:Nat} {a:Sp.Act} (ha:r.acts[i]? = some a):a.ok:=h.act (List.mem_of_getElem? ha)
theorem Act_argI {a:Sp.Act} (h:a.ok) {i:Nat} {l:List Sp.Op} (hl:a.args[i]? = some l):okOps l:=h.2.2.1.2 l (List.mem_of_getElem? hl)
theorem Prog_ruleI {p:Sp.Prog} (h:p.ok) {i:Nat} {r:Sp.Rule} (hr:p.rules[i]? = some r):r.ok:=h.2.1.2 r (List.mem_of_getElem? hr)
end Go.Vm
/- What functions of the program answer. Printed by spec2.py. -/
namespace Go.Vm
open Go Go.Sp
set_option maxRecDepth 100000
set_option maxHeartbeats 4000000
def declFind (l:(List Sp.Decl)) (name:Txt):Sp.Decl × Bool:=(bif (decide ((indexDecl l (fun x=>declFind1 x name))<0)) then((⟨([]:Txt),0,0⟩:Sp.Decl),false) else(onS l[(indexDecl l (fun x=>declFind1 x name)).toNat]? (fun y1=>(y1,true)) default))
theorem declFind_says (l:(List Sp.Decl)) (name:Txt) (h_l:l.length≤140737488351232):SaysT TX 48 [(eL 3 eDecl) l,eS name] ((eP eDecl eB) (declFind l name)):=
 sy (e:=(eP eDecl eB)) (F:=c48) rfl fun sg=>gO 10<|cli (indexDecl_in (g_p:=104) (a_p:=[]) (b_p:=[(.bp 1 0 0)]) l (fun x=>declFind1 x name) (by first|assumption|omega|(have q:=indexDecl_lt l (fun x=>declFind1 x name);omega)) (fun x hm f0_=>declFind1_in x name (by kernel_rfl)))<|gO 8<|dp 11 (fun h1=>gO 9<|en) (fun h1=>gO 6<|kw 14 (toNat_v (n:=(indexDecl l (fun x=>declFind1 x name))) (by first|assumption|omega|(have q:=indexDecl_lt l (fun x=>declFind1 x name);omega)))<|ia (en:=eDecl) (by first|assumption|omega|(have q:=indexDecl_lt l (fun x=>declFind1 x name);omega)) fun y1 h2=>gO 5<|en)
def declTwiceDecl_l1 (l:(List Sp.Decl)) (p:Sp.Decl→Txt):Nat→List Sp.Decl→(List (Txt × Bool))→Bool
 |i1,[],a1_0=>false
 |i1,x1::xs2,a1_0=>(bif (mGet a1_0 (p x1) false) then true else declTwiceDecl_l1 l p (i1+1) xs2 (mPut a1_0 (p x1) true))
def declTwiceDecl (l:(List Sp.Decl)) (p:Sp.Decl→Txt):Bool:=declTwiceDecl_l1 l p 0 l ([]:List (Txt × Bool))
theorem declTwiceDecl_in {sg:List Fr} {g_p:FuncId} (l:(List Sp.Decl)) (p:Sp.Decl→Txt) (h_l:l.length≤140737488351232) (hp_p:∀ x,x∈l→∀ f0:Fr,TX.call g_p ([eDecl x].map (argV (TX.C.keepA g_p))) (f0::sg)=some (eS (p x),f0::sg,0)):TX.call 197 [(eL 3 eDecl) l,.fn g_p [] []] sg=some (eB (declTwiceDecl l p),sg,0):=
 sx (e:=fun r=>(eB r,sg,0)) (F:=c197) rfl<|gO 14<|kw 11 (len_map eDecl l)<|gO 3<|rg (β:=Sp.Decl) (A:=(List (Txt × Bool))) (fun i1 a1_0=>{ vals:=[(.fn g_p [] []),(.mp 0 0),(.sl .no 3 (l.map eDecl)),(.int .i64 (l.length:Int)),(.int .i64 (i1:Int))],fr:=[.map (a1_0.map (eM eB))],sg:=sg,wd:=0 }) (L:=l) (acc0:=([]:List (Txt × Bool))) (fn:=declTwiceDecl_l1 l p) (fun i1 x1 xs2 a1_0 hd1 ih1=>have hlt1:=drop_lt hd1;have hx1:=drop_get hd1;gO 5<|dk 13 (lt_true hlt1)<|gO 6<|iak eDecl hx1<|gO 8<|cli (hp_p x1 (List.mem_of_getElem? hx1) _)<|gO 7<|mgw (en:=eB) (M:=a1_0) (k:=(p x1)) (z:=false) (i:=0)<|gO 1<|dc 21 (fun h1=>gO 12<|en) (fun h1=>gO 5<|muw (en:=eB) (M:=a1_0) (k:=(p x1)) (v:=true) (i:=0) (by kernel_rfl)<|gO 4<|kw 24 (congrArg (V.int .i64) (wrap_s hlt1 (by(first|assumption|omega|(simp only[List.length_cons,List.length_nil,List.length_append,List.length_map];omega)|grind))))<|gO 2<|nx (ih1 (mPut a1_0 (p x1) true)))) (fun i1 a1_0 hd1=>have hge1:=drop_ge hd1;gO 5<|dk 13 (lt_false hge1)<|gO 10<|en)
def declTwiceRule_l1 (l:(List Sp.Rule)) (p:Sp.Rule→Txt):Nat→List Sp.Rule→(List (Txt × Bool))→Bool
 |i1,[],a1_0=>false
 |i1,x1::xs2,a1_0=>(bif (mGet a1_0 (p x1) false) then true else declTwiceRule_l1 l p (i1+1) xs2 (mPut a1_0 (p x1) true))
def declTwiceRule (l:(List Sp.Rule)) (p:Sp.Rule→Txt):Bool:=declTwiceRule_l1 l p 0 l ([]:List (Txt × Bool))
theorem declTwiceRule_in {sg:List Fr} {g_p:FuncId} (l:(List Sp.Rule)) (p:Sp.Rule→Txt) (h_l:l.length≤140737488351232) (hp_p:∀ x,x∈l→∀ f0:Fr,TX.call g_p ([eRule x].map (argV (TX.C.keepA g_p))) (f0::sg)=some (eS (p x),f0::sg,0)):TX.call 199 [(eL 4 eRule) l,.fn g_p [] []] sg=some (eB (declTwiceRule l p),sg,0):=
 sx (e:=fun r=>(eB r,sg,0)) (F:=c199) rfl<|gO 14<|kw 11 (len_map eRule l)<|gO 3<|rg (β:=Sp.Rule) (A:=(List (Txt × Bool))) (fun i1 a1_0=>{ vals:=[(.fn g_p [] []),(.mp 0 0),(.sl .no 4 (l.map eRule)),(.int .i64 (l.length:Int)),(.int .i64 (i1:Int))],fr:=[.map (a1_0.map (eM eB))],sg:=sg,wd:=0 }) (L:=l) (acc0:=([]:List (Txt × Bool))) (fn:=declTwiceRule_l1 l p) (fun i1 x1 xs2 a1_0 hd1 ih1=>have hlt1:=drop_lt hd1;have hx1:=drop_get hd1;gO 5<|dk 13 (lt_true hlt1)<|gO 6<|iak eRule hx1<|gO 8<|cli (hp_p x1 (List.mem_of_getElem? hx1) _)<|gO 7<|mgw (en:=eB) (M:=a1_0) (k:=(p x1)) (z:=false) (i:=0)<|gO 1<|dc 21 (fun h1=>gO 12<|en) (fun h1=>gO 5<|muw (en:=eB) (M:=a1_0) (k:=(p x1)) (v:=true) (i:=0) (by kernel_rfl)<|gO 4<|kw 24 (congrArg (V.int .i64) (wrap_s hlt1 (by(first|assumption|omega|(simp only[List.length_cons,List.length_nil,List.length_append,List.length_map];omega)|grind))))<|gO 2<|nx (ih1 (mPut a1_0 (p x1) true)))) (fun i1 a1_0 hd1=>have hge1:=drop_ge hd1;gO 5<|dk 13 (lt_false hge1)<|gO 10<|en)
def declTwicePattern_l1 (l:(List Sp.Pattern)) (p:Sp.Pattern→Txt):Nat→List Sp.Pattern→(List (Txt × Bool))→Bool
 |i1,[],a1_0=>false
 |i1,x1::xs2,a1_0=>(bif (mGet a1_0 (p x1) false) then true else declTwicePattern_l1 l p (i1+1) xs2 (mPut a1_0 (p x1) true))
def declTwicePattern (l:(List Sp.Pattern)) (p:Sp.Pattern→Txt):Bool:=declTwicePattern_l1 l p 0 l ([]:List (Txt × Bool))
theorem declTwicePattern_in {sg:List Fr} {g_p:FuncId} (l:(List Sp.Pattern)) (p:Sp.Pattern→Txt) (h_l:l.length≤140737488351232) (hp_p:∀ x,x∈l→∀ f0:Fr,TX.call g_p ([ePattern x].map (argV (TX.C.keepA g_p))) (f0::sg)=some (eS (p x),f0::sg,0)):TX.call 201 [(eL 4 ePattern) l,.fn g_p [] []] sg=some (eB (declTwicePattern l p),sg,0):=
 sx (e:=fun r=>(eB r,sg,0)) (F:=c201) rfl<|gO 14<|kw 11 (len_map ePattern l)<|gO 3<|rg (β:=Sp.Pattern) (A:=(List (Txt × Bool))) (fun i1 a1_0=>{ vals:=[(.fn g_p [] []),(.mp 0 0),(.sl .no 4 (l.map ePattern)),(.int .i64 (l.length:Int)),(.int .i64 (i1:Int))],fr:=[.map (a1_0.map (eM eB))],sg:=sg,wd:=0 }) (L:=l) (acc0:=([]:List (Txt × Bool))) (fn:=declTwicePattern_l1 l p) (fun i1 x1 xs2 a1_0 hd1 ih1=>have hlt1:=drop_lt hd1;have hx1:=drop_get hd1;gO 5<|dk 13 (lt_true hlt1)<|gO 6<|iak ePattern hx1<|gO 8<|cli (hp_p x1 (List.mem_of_getElem? hx1) _)<|gO 7<|mgw (en:=eB) (M:=a1_0) (k:=(p x1)) (z:=false) (i:=0)<|gO 1<|dc 21 (fun h1=>gO 12<|en) (fun h1=>gO 5<|muw (en:=eB) (M:=a1_0) (k:=(p x1)) (v:=true) (i:=0) (by kernel_rfl)<|gO 4<|kw 24 (congrArg (V.int .i64) (wrap_s hlt1 (by(first|assumption|omega|(simp only[List.length_cons,List.length_nil,List.length_append,List.length_map];omega)|grind))))<|gO 2<|nx (ih1 (mPut a1_0 (p x1) true)))) (fun i1 a1_0 hd1=>have hge1:=drop_ge hd1;gO 5<|dk 13 (lt_false hge1)<|gO 10<|en)
def declTwice1 (d:Sp.Decl):Txt:=d.name
theorem declTwice1_says (d:Sp.Decl)  : SaysT TX 198 [eDecl d] (eS (declTwice1 d)):=
 sy (e:=eS) (F:=c198) rfl fun sg=>gO 12<|en
def declTwice2 (r:Sp.Rule):Txt:=r.name
theorem declTwice2_says (r:Sp.Rule)  : SaysT TX 200 [eRule r] (eS (declTwice2 r)):=
 sy (e:=eS) (F:=c200) rfl fun sg=>gO 12<|en
def declTwice3 (x:Sp.Pattern):Txt:=x.name
theorem declTwice3_says (x:Sp.Pattern)  : SaysT TX 202 [ePattern x] (eS (declTwice3 x)):=
 sy (e:=eS) (F:=c202) rfl fun sg=>gO 12<|en
def declTwice (p:Sp.Prog):Bool:=(bif (declTwiceDecl p.decls (fun x=>declTwice1 x)) then true else(bif (declTwiceRule p.rules (fun x=>declTwice2 x)) then true else(declTwicePattern p.pats (fun x=>declTwice3 x))))
theorem declTwice_says (p:Sp.Prog) (ok_p:p.ok):SaysT TX 131 [eProg p] (eB (declTwice p)):=
 sy (e:=eB) (F:=c131) rfl fun sg=>gO 9<|cli (declTwiceDecl_in (g_p:=198) p.decls (fun x=>declTwice1 x) (by first|exact ok_p.1.1|exact ok_p.2.1.1|exact ok_p.2.2.1) (fun x hm f0_=>declTwice1_says x _))<|gO 1<|dc 6 (fun h1=>gO 12<|en) (fun h1=>gO 2<|cli (declTwiceRule_in (g_p:=200) p.rules (fun x=>declTwice2 x) (by first|exact ok_p.1.1|exact ok_p.2.1.1|exact ok_p.2.2.1) (fun x hm f0_=>declTwice2_says x _))<|gO 2<|dc 11 (fun h2=>gO 7<|en) (fun h2=>gO 2<|cli (declTwicePattern_in (g_p:=202) p.pats (fun x=>declTwice3 x) (by first|exact ok_p.1.1|exact ok_p.2.1.1|exact ok_p.2.2.1) (fun x hm f0_=>declTwice3_says x _))<|gO 4<|en))
def declNamed (p:Sp.Prog) (name:Txt) (many:Int) (kinds:(List Int)):Int:=(bif (declFind p.decls name).2 then(bif (containsInt kinds (((declFind p.decls name).1).kind)) then(bif (((declFind p.decls name).1).arity == many) then 0 else 9) else 8) else 8)
theorem declNamed_says (p:Sp.Prog) (name:Txt) (many:Int) (kinds:(List Int)) (ok_p:p.ok) (h1:kinds.length≤1000):SaysT TX 203 [eProg p,eS name,eI many,(eL 1 eI) kinds] (eI (declNamed p name many kinds)):=
 sy (e:=eI) (F:=c203) rfl fun sg=>gO 10<|cl (declFind_says p.decls name (by first|exact ok_p.1.1|omega))<|gO 14<|dcn 21 (fun h1=>gO 3<|cl (containsInt_says kinds (((declFind p.decls name).1).kind) (by first|exact ok_p.1.1|omega))<|gO 4<|dcn 18 (fun h2=>gO 9<|dqn 28 (fun h3=>gO 8<|en) (fun h3=>gO 8<|en)) (fun h2=>gO 8<|en)) (fun h1=>gO 16<|en)
def declPattern_l2 (p:Sp.Prog) (x:Sp.Pattern) (a1_0:(List Sp.Atom)) (i1:Nat):Nat→List Sp.Atom→Unit→Int
 |i2,[],_=>0
 |i2,x3::xs4,_=>(bif ((declNamed p x3.name (x3.args.length:Int) ([1]:(List Int))) == 0) then declPattern_l2 p x a1_0 i1 (i2+1) xs4 () else(declNamed p x3.name (x3.args.length:Int) ([1]:(List Int))))
def declPattern_l1 (p:Sp.Prog) (x:Sp.Pattern):Nat→List Sp.Node→(List Sp.Atom)→Int
 |i1,[],a1_0=>declPattern_l2 p x a1_0 i1 0 a1_0 ()
 |i1,x1::xs2,a1_0=>(bif (x1.kind == 1) then declPattern_l1 p x (i1+1) xs2 (a1_0++([x1.atom]:List Sp.Atom)) else declPattern_l1 p x (i1+1) xs2 a1_0)
def declPattern (p:Sp.Prog) (x:Sp.Pattern):Int:=declPattern_l1 p x 0 x.nodes ([x.trigger]:List Sp.Atom)
theorem declPattern_says (p:Sp.Prog) (x:Sp.Pattern) (ok_p:p.ok) (h_n:x.nodes.length≤1000):SaysT TX 133 [eProg p,ePattern x] (eI (declPattern p x)):=
 sy (e:=eI) (F:=c133) rfl fun sg=>gO 19<|kw 16 (len_map eNode x.nodes)<|gO 3<|rgI (β:=Sp.Node) (A:=(List Sp.Atom)) (fun i1 a1_0=>a1_0.length≤i1+1∧i1≤x.nodes.length) (fun i1 a1_0=>{ vals:=[(.bp 0 0 0),(.bs 0 2 a1_0.length 0 a1_0.length),(.sl .no 5 (x.nodes.map eNode)),(.int .i64 (x.nodes.length:Int)),(.int .i64 (i1:Int))],fr:=[.box [(.sl .no 3 (p.decls.map eDecl)),(.sl .no 4 (p.rules.map eRule)),(.sl .no 4 (p.pats.map ePattern))],.box [(.str x.name),(.str x.trigger.name),(.sl .no 4 (x.trigger.args.map eTerm)),(.sl .no 5 (x.nodes.map eNode))],.arr a1_0.length 2 (a1_0.map eAtom)],sg:=sg,wd:=0 }) (L:=x.nodes) (acc0:=([x.trigger]:List Sp.Atom)) (fn:=declPattern_l1 p x) (by simp) (fun i1 x1 xs2 a1_0 hd1 hi1 ih1=>have hi1:a1_0.length≤i1+1∧i1≤x.nodes.length:=hi1;have hlt1:=drop_lt hd1;have hx1:=drop_get hd1;gO 5<|dk 18 (lt_true hlt1)<|gO 6<|iak eNode hx1<|gO 10<|dq 23 (fun h1=>gO 6<|apb (en:=eAtom) (L:=a1_0) (M:=([x1.atom]:List Sp.Atom)) (by(simp only[List.length_append,List.length_cons,List.length_nil];unfold lim;omega)) (fun _ _=>rfl)<|gO 5<|kw 29 (congrArg (V.int .i64) (wrap_s hlt1 (by first|exact ok_p|omega|decide|(simp only[List.length_append,List.length_cons,List.length_nil];omega))))<|gO 2<|nx (ih1 (a1_0++([x1.atom]:List Sp.Atom)) (by first|omega|(simp only[List.length_append,List.length_cons,List.length_nil];omega)))) (fun h1=>gO 5<|kw 29 (congrArg (V.int .i64) (wrap_s hlt1 (by first|exact ok_p|omega|decide|(simp only[List.length_append,List.length_cons,List.length_nil];omega))))<|gO 2<|nx (ih1 a1_0 (by first|omega|(simp only[List.length_append,List.length_cons,List.length_nil];omega))))) (fun i1 a1_0 hd1 hi1=>have hi1:a1_0.length≤i1+1∧i1≤x.nodes.length:=hi1;have hge1:=drop_ge hd1;gO 5<|dk 18 (lt_false hge1)<|gO 13<|rg (β:=Sp.Atom) (A:=Unit) (fun i2 _=>{ vals:=[(.bp 0 0 0),(.bs 0 2 a1_0.length 0 a1_0.length),(.int .i64 (a1_0.length:Int)),(.int .i64 (i2:Int))],fr:=[.box [(.sl .no 3 (p.decls.map eDecl)),(.sl .no 4 (p.rules.map eRule)),(.sl .no 4 (p.pats.map ePattern))],.box [(.str x.name),(.str x.trigger.name),(.sl .no 4 (x.trigger.args.map eTerm)),(.sl .no 5 (x.nodes.map eNode))],.arr a1_0.length 2 (a1_0.map eAtom)],sg:=sg,wd:=0 }) (L:=a1_0) (acc0:=()) (fn:=declPattern_l2 p x a1_0 i1) (fun i2 x3 xs4 _ hd2 ih2=>have hlt2:=drop_lt hd2;have hx2:=drop_get hd2;gO 5<|dk 33 (lt_true hlt2)<|gO 6<|iaz (n:=i2) (len:=a1_0.length) (d:=0) (b:=2) (ver:=a1_0.length) (z:=2) (es:=a1_0.map eAtom) (by first|exact ok_p|omega|decide|(simp only[List.length_append,List.length_cons,List.length_nil];omega))<|lda (ag:=true) (sz:=2) (d:=0) (i:=2) (ver:=a1_0.length) (z:=2) (j:=i2) (o:=0) (en:=eAtom) (L:=a1_0) (y:=x3) (v:=(.agg [(.str x3.name),(.sl .no 4 (x3.args.map eTerm))])) hx2 (by kernel_rfl)<|gO 11<|kw 41 (len_map eTerm x3.args)<|gO 1<|cl (declNamed_says p x3.name (x3.args.length:Int) ([1]:(List Int)) (by first|exact ok_p|omega|decide|(simp only[List.length_append,List.length_cons,List.length_nil];omega)) (by first|exact ok_p|omega|decide|(simp only[List.length_append,List.length_cons,List.length_nil];omega)))<|gO 7<|dqn 45 (fun h2=>gO 5<|kw 47 (congrArg (V.int .i64) (wrap_s hlt2 (by first|exact ok_p|omega|decide|(simp only[List.length_append,List.length_cons,List.length_nil];omega))))<|gO 2<|nx (ih2 ())) (fun h2=>gO 12<|en)) (fun i2 _ hd2=>have hge2:=drop_ge hd2;gO 5<|dk 33 (lt_false hge2)<|gO 10<|en))
def exprVars_l1 (l:(List Sp.Op)):Nat→List Sp.Op→(List Txt)→(List Txt)
 |i1,[],a1_0=>a1_0
 |i1,x1::xs2,a1_0=>(bif (x1.var == ([]:Txt)) then exprVars_l1 l (i1+1) xs2 a1_0 else(bif (containsTxt a1_0 x1.var) then exprVars_l1 l (i1+1) xs2 a1_0 else exprVars_l1 l (i1+1) xs2 (a1_0 ++ [x1.var])))
def exprVars (l:(List Sp.Op)):(List Txt):=exprVars_l1 l 0 l ([]:List Txt)
theorem exprVars_says (l:(List Sp.Op)) (h1:l.length≤1000000):SaysT TX 63 [(eL 5 eOp) l] ((eL 1 eS) (exprVars l)):=
 sy (e:=(eL 1 eS)) (F:=c63) rfl fun sg=>gO 13<|kw 7 (len_map eOp l)<|gO 3<|rgI (β:=Sp.Op) (A:=(List Txt)) (fun i1 a1_0=>a1_0.length≤i1) (fun i1 a1_0=>{ vals:=[(.sl (.at 0 1 a1_0.length) 1 (a1_0.map eS)),(.sl .no 5 (l.map eOp)),(.int .i64 (l.length:Int)),(.int .i64 (i1:Int))],fr:=[.tok 0,.tok a1_0.length],sg:=sg,wd:=0 }) (L:=l) (acc0:=([]:List Txt)) (fn:=exprVars_l1 l) (by simp) (fun i1 x1 xs2 a1_0 hd1 hi1 ih1=>have hi1:a1_0.length≤i1:=hi1;have hlt1:=drop_lt hd1;have hx1:=drop_get hd1;gO 5<|dk 9 (lt_true hlt1)<|gO 6<|iak eOp hx1<|gO 10<|dqn 15 (fun h1=>gO 12<|kw 27 (congrArg (V.int .i64) (wrap_s hlt1 (by(first|assumption|omega|(simp only[List.length_cons,List.length_nil,List.length_append,List.length_map];omega)|grind))))<|gO 2<|nx (ih1 a1_0 (by first|omega|(simp only[List.length_append,List.length_cons,List.length_nil];omega)))) (fun h1=>gO 3<|cl (containsTxt_says a1_0 x1.var (by(first|assumption|omega|(simp only[List.length_cons,List.length_nil,List.length_append,List.length_map];omega)|grind)))<|gO 3<|dcn 21 (fun h2=>gO 5<|kw 27 (congrArg (V.int .i64) (wrap_s hlt1 (by(first|assumption|omega|(simp only[List.length_cons,List.length_nil,List.length_append,List.length_map];omega)|grind))))<|gO 2<|nx (ih1 a1_0 (by first|omega|(simp only[List.length_append,List.length_cons,List.length_nil];omega)))) (fun h2=>gO 6<|ap (en:=eS) (L:=a1_0) (M:=[x1.var]) (by simp only[List.length_append,List.length_cons,List.length_nil];unfold lim;omega) (fun _ _=>rfl)<|gO 5<|kw 27 (congrArg (V.int .i64) (wrap_s hlt1 (by(first|assumption|omega|(simp only[List.length_cons,List.length_nil,List.length_append,List.length_map];omega)|grind))))<|gO 2<|nx (ih1 (a1_0 ++ [x1.var]) (by first|omega|(simp only[List.length_append,List.length_cons,List.length_nil];omega)))))) (fun i1 a1_0 hd1 hi1=>have hi1:a1_0.length≤i1:=hi1;have hge1:=drop_ge hd1;gO 5<|dk 9 (lt_false hge1)<|gO 11<|en)
end Go.Vm
/-
  How many variables an expression, an atom has.
-/
namespace Go.Vm
open Go Go.Sp
theorem exprVars_l1_len (l:List Sp.Op):∀ (xs:List Sp.Op) (i:Nat) (acc:List Txt),(exprVars_l1 l i xs acc).length≤acc.length+xs.length
 | [],i,acc=>by rw[exprVars_l1];simp
 |x::xs,i,acc=>by
  rw[exprVars_l1]
  have h1:=exprVars_l1_len l xs (i+1) acc
  have h2:=exprVars_l1_len l xs (i+1) (acc ++ [x.var])
  simp only[List.length_append,List.length_cons,List.length_nil] at h1 h2 ⊢
  cases x.var == [] with
  |true=>simp only[cond_true];omega
  |false=>
   simp only[cond_false]
   cases containsTxt acc x.var with
   |true=>simp only[cond_true];omega
   |false=>simp only[cond_false];omega
theorem exprVars_len (l:List Sp.Op):(exprVars l).length≤l.length:=by
 have:=exprVars_l1_len l l 0 []
 simpa[exprVars] using this
theorem atomVars_l1_len (a:Sp.Atom):∀ (xs:List Sp.Term) (i:Nat) (acc:List Txt),(matchVars_l1 a i xs acc).length≤acc.length+xs.length
 | [],i,acc=>by rw[matchVars_l1];simp
 |x::xs,i,acc=>by
  rw[matchVars_l1]
  have h1:=atomVars_l1_len a xs (i+1) acc
  have h2:=atomVars_l1_len a xs (i+1) (acc ++ [x.var])
  simp only[List.length_append,List.length_cons,List.length_nil] at h1 h2 ⊢
  cases x.var == [] with
  |true=>simp only[cond_true];omega
  |false=>
   simp only[cond_false]
   cases containsTxt acc x.var with
   |true=>simp only[cond_true];omega
   |false=>simp only[cond_false];omega
theorem atomVars_len (a:Sp.Atom):(matchVars a).length≤a.args.length:=by
 have:=atomVars_l1_len a a.args 0 []
 simpa[matchVars] using this
end Go.Vm
/- What functions of the program answer. Printed by spec2.py. -/
namespace Go.Vm
open Go Go.Sp
set_option maxRecDepth 100000
set_option maxHeartbeats 4000000
def growTxt (n:Int):(List Txt) × Nat × Nat:=((List.replicate ((n-0).toNat) ([]:Txt)),(n-0).toNat,0)
theorem growTxt_in (n:Int) (h0:0<n) (hn:n≤1000000) {f0:Fr} {sg:List Fr}:(fun(r:(List Txt) × Nat × Nat)=>∃ w,w≤1∧TX.call 123 [.sl .ex 1 [],eI n] (f0::sg)=some (V.bs 0 (f0.length+1) r.2.1 0 r.2.2,(f0 ++ [Blk.arr 0 1 [],Blk.arr r.2.1 1 (r.1.map eS)])::sg,w)) (growTxt n):=
 sxw (e:=fun(r:(List Txt) × Nat × Nat)=>((V.bs 0 (f0.length+1) r.2.1 0 r.2.2,(f0 ++ [Blk.arr 0 1 [],Blk.arr r.2.1 1 (r.1.map eS)])::sg,1):V × List Fr × Nat)) (r:=growTxt n) (F:=c123) rfl<|gO 10<|dk 6 (fd (show ¬ (n<0) by omega))<|gO 12<|kw 14 (congrArg (V.int .i64) (wrap_id (n:=n-0) (by omega) (by omega)))<|gO 7<|dk 16 (td (show(n-0)>0 by omega))<|gO 5<|gO 1<|gO 1<|kw 21 (toNat_v (n:=(n-0)) (by omega))<|azw (en:=eS) (ag:=false) (z:=[(.str ([]:Txt))]) (zl:=1) (n:=(n-0).toNat) (i:=1) ([]:Txt) (by omega) (by(unfold lim;omega)) (by kernel_rfl) (by kernel_rfl)<|gO 2<|cbo (es:=(List.replicate ((n-0).toNat) ([]:Txt)).map eS) (z:=1) (ver:=(n-0).toNat) (i:=1) (o:=0) (l:=0) (hh:=0) (len:=(n-0).toNat) (o':=0) (len':=0) (by omega) (by omega) (by omega) (by omega)<|gO 8<|en
def concatTxtP (a:(List Txt)) (b:(List Txt)):(List Txt):=((amC (amC ((growTxt ((0+(a.length:Int))+(b.length:Int))).1) ((growTxt ((0+(a.length:Int))+(b.length:Int))).2.2) a) ((growTxt ((0+(a.length:Int))+(b.length:Int))).2.2+a.length) b).take (((growTxt ((0+(a.length:Int))+(b.length:Int))).2.2+a.length)+b.length))
theorem concatTxtP_says (a:(List Txt)) (b:(List Txt)) (h0:0<a.length+b.length) (h1:a.length+b.length≤1000000):SaysT TX 62 [.sl .no 1 [(eL 1 eS) a,(eL 1 eS) b]] ((eL 1 eS) (concatTxtP a b)):=
 sy (e:=(eL 1 eS)) (F:=c62) rfl fun sg=>gO 16<|unl3 ({ vals:=[(.sl .no 1 [(.sl .no 1 (a.map eS)),(.sl .no 1 (b.map eS))]),(.int .i64 0),(.sl .no 1 [(.sl .no 1 (a.map eS)),(.sl .no 1 (b.map eS))]),(.int .i64 2),(.int .i64 0)],fr:=[.arr (([]:List Txt).length) 1 (([]:List Txt).map eS)],sg:=sg,wd:=0 }) ({ vals:=[(.sl .no 1 [(.sl .no 1 (a.map eS)),(.sl .no 1 (b.map eS))]),(.int .i64 (0+(a.length:Int))),(.sl .no 1 [(.sl .no 1 (a.map eS)),(.sl .no 1 (b.map eS))]),(.int .i64 2),(.int .i64 1)],fr:=[.arr (([]:List Txt).length) 1 (([]:List Txt).map eS)],sg:=sg,wd:=0 }) ({ vals:=[(.sl .no 1 [(.sl .no 1 (a.map eS)),(.sl .no 1 (b.map eS))]),(.int .i64 ((0+(a.length:Int))+(b.length:Int))),(.sl .no 1 [(.sl .no 1 (a.map eS)),(.sl .no 1 (b.map eS))]),(.int .i64 2),(.int .i64 2)],fr:=[.arr (([]:List Txt).length) 1 (([]:List Txt).map eS)],sg:=sg,wd:=0 }) (gO 13<|clr (growTxt_in ((0+(a.length:Int))+(b.length:Int)) (by first|omega|exact amC_len (amC_len (Nat.zero_le _))) (by first|omega|exact amC_len (amC_len (Nat.zero_le _))))<|gO 10<|unl3 ({ vals:=[(.bs 0 2 ((growTxt ((0+(a.length:Int))+(b.length:Int))).2.1) 0 ((growTxt ((0+(a.length:Int))+(b.length:Int))).2.2)),(.sl .no 1 [(.sl .no 1 (a.map eS)),(.sl .no 1 (b.map eS))]),(.int .i64 2),(.int .i64 0)],fr:=[.arr (([]:List Txt).length) 1 (([]:List Txt).map eS),.arr 0 1 (([]:List Txt).map eS),.arr ((growTxt ((0+(a.length:Int))+(b.length:Int))).2.1) 1 (((growTxt ((0+(a.length:Int))+(b.length:Int))).1).map eS)],sg:=sg,wd:=0 }) ({ vals:=[(.bs 0 2 ((growTxt ((0+(a.length:Int))+(b.length:Int))).2.1+a.length) 0 ((growTxt ((0+(a.length:Int))+(b.length:Int))).2.2+a.length)),(.sl .no 1 [(.sl .no 1 (a.map eS)),(.sl .no 1 (b.map eS))]),(.int .i64 2),(.int .i64 1)],fr:=[.arr (([]:List Txt).length) 1 (([]:List Txt).map eS),.arr 0 1 (([]:List Txt).map eS),.arr ((growTxt ((0+(a.length:Int))+(b.length:Int))).2.1+a.length) 1 ((amC ((growTxt ((0+(a.length:Int))+(b.length:Int))).1) ((growTxt ((0+(a.length:Int))+(b.length:Int))).2.2) a).map eS)],sg:=sg,wd:=0 }) ({ vals:=[(.bs 0 2 (((growTxt ((0+(a.length:Int))+(b.length:Int))).2.1+a.length)+b.length) 0 (((growTxt ((0+(a.length:Int))+(b.length:Int))).2.2+a.length)+b.length)),(.sl .no 1 [(.sl .no 1 (a.map eS)),(.sl .no 1 (b.map eS))]),(.int .i64 2),(.int .i64 2)],fr:=[.arr (([]:List Txt).length) 1 (([]:List Txt).map eS),.arr 0 1 (([]:List Txt).map eS),.arr (((growTxt ((0+(a.length:Int))+(b.length:Int))).2.1+a.length)+b.length) 1 ((amC (amC ((growTxt ((0+(a.length:Int))+(b.length:Int))).1) ((growTxt ((0+(a.length:Int))+(b.length:Int))).2.2) a) ((growTxt ((0+(a.length:Int))+(b.length:Int))).2.2+a.length) b).map eS)],sg:=sg,wd:=0 }) (gO 16<|enb (en:=eS) (L:=(amC (amC ((growTxt ((0+(a.length:Int))+(b.length:Int))).1) ((growTxt ((0+(a.length:Int))+(b.length:Int))).2.2) a) ((growTxt ((0+(a.length:Int))+(b.length:Int))).2.2+a.length) b)) (i:=2) (ver:=(((growTxt ((0+(a.length:Int))+(b.length:Int))).2.1+a.length)+b.length)) (z:=1) (k:=(((growTxt ((0+(a.length:Int))+(b.length:Int))).2.2+a.length)+b.length)) 2 (by first|exact Nat.le_refl _|(first|omega|exact amC_len (amC_len (Nat.zero_le _))))) (fun ih_u1=>gO 11<|gO 1<|gO 6<|amw (en:=eS) (L:=(amC ((growTxt ((0+(a.length:Int))+(b.length:Int))).1) ((growTxt ((0+(a.length:Int))+(b.length:Int))).2.2) a)) (M:=b) (i:=2) (z:=1) (ver:=((growTxt ((0+(a.length:Int))+(b.length:Int))).2.1+a.length)) (n:=((growTxt ((0+(a.length:Int))+(b.length:Int))).2.2+a.length)) (by first|(simp only[growTxt,List.length_replicate];omega)|exact amC_len (by simp only[growTxt,List.length_replicate];omega)) (by(simp only[growTxt];unfold lim;omega)) (fun _ _=>rfl)<|gO 7<|nx ih_u1) (fun ih_u0=>gO 11<|gO 1<|gO 6<|amw (en:=eS) (L:=(growTxt ((0+(a.length:Int))+(b.length:Int))).1) (M:=a) (i:=2) (z:=1) (ver:=(growTxt ((0+(a.length:Int))+(b.length:Int))).2.1) (n:=(growTxt ((0+(a.length:Int))+(b.length:Int))).2.2) (by first|(simp only[growTxt,List.length_replicate];omega)|exact amC_len (by simp only[growTxt,List.length_replicate];omega)) (by(simp only[growTxt];unfold lim;omega)) (fun _ _=>rfl)<|gO 7<|nx ih_u0)) (fun ih_u1=>gO 11<|gO 1<|gO 8<|kw 17 (len_map eS b)<|gO 1<|kw 18 (congrArg (V.int .i64) (wrap_id (n:=(0+(a.length:Int))+(b.length:Int)) (by omega) (by omega)))<|gO 7<|dk 20 (fd (show ¬ (((0+(a.length:Int))+(b.length:Int))<0) by omega))<|gO 7<|nx ih_u1) (fun ih_u0=>gO 11<|gO 1<|gO 8<|kw 17 (len_map eS a)<|gO 1<|kw 18 (congrArg (V.int .i64) (wrap_id (n:=0+(a.length:Int)) (by omega) (by omega)))<|gO 7<|dk 20 (fd (show ¬ ((0+(a.length:Int))<0) by omega))<|gO 7<|nx ih_u0)
def declAct1 (c:Sp.Cond):Bool:=(!(c.kind == 1))
theorem declAct1_says (c:Sp.Cond)  : SaysT TX 258 [eCond c] (eB (declAct1 c)):=
 sy (e:=eB) (F:=c258) rfl fun sg=>gO 13<|en
def safeRule1 (l:(List Sp.Op)) (bound:(List Txt)):Bool:=(!(safeWithin (exprVars l) bound))
theorem safeRule1_in (l:(List Sp.Op)) (bound:(List Txt)) (ok_l:okOps l) (h1:l.length≤1000) (h2:bound.length≤1000) {sg:List Fr}  {dd_bound ii_bound vv_bound:Nat} {d_bound i_bound:Nat} (hg_bound:(sg[d_bound]?).bind (·[i_bound]?)=some (.box [(.sl (.at dd_bound ii_bound vv_bound) 1 (bound.map eS))])):TX.call 66 [(eL 5 eOp) l,.bp (d_bound+1) i_bound 0] sg=some (eB (safeRule1 l bound),sg,0):=
 sx (e:=fun r=>(eB r,sg,0)) (F:=c66) rfl<|gO 7<|cl (exprVars_says l (by first|omega|(have q:=exprVars_len l;omega)))<|ldo (ag:=false) (sz:=1) (o:=0) (v:=(.sl (.at (dd_bound+(d_bound+1)) ii_bound vv_bound) 1 (bound.map eS))) hg_bound (by kernel_rfl)<|cl (safeWithin_says (exprVars l) bound (by first|omega|(have q:=exprVars_len l;omega)) (by first|omega|(have q:=exprVars_len l;omega)))<|gO 4<|en
end Go.Vm
/-
  Lists of texts one behind the other; the conditions that ask for a fact; what a right rule's acts take back is one of them.
-/
namespace Go.Vm
open Go Go.Sp
set_option maxRecDepth 100000
def concatTxt (a b:List Txt):List Txt:=a++b
theorem concatTxt_nil (p:List Fr→Bool) (sg:List Fr):callC C0 orcN TX.funs TX.prim 200 62 [.sl .no 1 [.sl .no 1 [],.sl .no 1 []]] sg (fun v' sg' wd=>ifK (veq v' (.sl .no 1 [])) (ifK (Nat.beq wd 0) (p sg') false) false)=p sg:=by kernel_rfl
theorem concatTxtP_eq {a b:List Txt} (h0:0<a.length+b.length):concatTxtP a b=a++b:=by
 unfold concatTxtP
 show(amC (amC _ 0 a) (0+a.length) b).take (0+a.length+b.length)=a++b
 cases b with
 |nil=>
  cases a with
  |nil=>simp at h0
  |cons x a=>simp[amC]
 |cons y b=>
  cases a with
  |nil=>simp[amC]
  |cons x a=>
   simp only[amC,List.isEmpty_cons,cond_false,List.take_zero,List.nil_append,Nat.zero_add]
   rw[List.take_of_length_le (Nat.le_refl _),List.take_of_length_le (by simp;omega)]
theorem concatTxt_says (a b:List Txt) (h1:a.length+b.length≤1000000):SaysT TX 62 [.sl .no 1 [eL 1 eS a,eL 1 eS b]] (eL 1 eS (concatTxt a b)):=by
 by_cases h0:0<a.length+b.length
 ·have:=concatTxtP_says a b h0 h1
  rw[concatTxtP_eq h0] at this
  exact this
 ·have ha:a = []:=List.eq_nil_of_length_eq_zero (by omega)
  have hb:b = []:=List.eq_nil_of_length_eq_zero (by omega)
  subst ha;subst hb
  exact says_of_C orcN_ok (prim_su num0) cl_ok concatTxt_nil
theorem act1_has:(fun c:Sp.Cond=>!(declAct1 c))=fun c=>c.kind == 1:=by
 funext c
 unfold declAct1
 rw[Bool.not_not]
theorem del_le (l:List Sp.Cond):(deleteCond ((cloneCond l).1) (fun x=>declAct1 x)).1≤(deleteCond ((cloneCond l).1) (fun x=>declAct1 x)).2.length:=(deleteCond_eq _ _).2
theorem del_take (l:List Sp.Cond):(deleteCond ((cloneCond l).1) (fun x=>declAct1 x)).2.take (deleteCond ((cloneCond l).1) (fun x=>declAct1 x)).1=l.filter (fun c=>c.kind == 1):=by
 rw[(deleteCond_eq _ _).1,act1_has];rfl
theorem del_len (l:List Sp.Cond):(deleteCond ((cloneCond l).1) (fun x=>declAct1 x)).1=(l.filter (fun c=>c.kind == 1)).length:=by
 have h1:=congrArg List.length (del_take l)
 rw[List.length_take] at h1
 have:=del_le l
 omega
theorem rulesCheck_l1_which (r:Sp.Rule) (y:Sp.Cond):∀ (xs:List Sp.Cond) (i:Nat) (n:Int),rulesCheck_l1 r y i xs n=0→∀ a∈r.acts,rulesAct a (n+((xs.filter (fun c=>c.kind == 1)).length:Int))=true
 | [],i,n,h,a,ha=>by
  rw[rulesCheck_l1] at h
  have hc:containsAct r.acts (fun x=>rulesCheck1 x n)=false:=by
   cases hc:containsAct r.acts (fun x=>rulesCheck1 x n) with
   |true=>rw[hc] at h;cases h
   |false=>rfl
  have:∀ (xs:List Sp.Act) (i:Nat),decide (indexAct_l1 r.acts (fun x=>rulesCheck1 x n) i xs ()≥0)=xs.any (fun x=>rulesCheck1 x n):=by
   intro xs
   induction xs with
   |nil=>intro i;rfl
   |cons x xs ih=>
    intro i
    rw[indexAct_l1,List.any_cons]
    cases rulesCheck1 x n with
    |true=>simp
    |false=>simp only[cond_false,Bool.false_or];exact ih (i+1)
  have h2:r.acts.any (fun x=>rulesCheck1 x n)=false:=by rw[← this r.acts 0];exact hc
  have:=List.any_eq_false.1 h2 a ha
  unfold rulesCheck1 at this
  simpa using this
 |x::xs,i,n,h,a,ha=>by
  rw[rulesCheck_l1] at h
  rw[List.filter_cons]
  cases hc:rulesCond x with
  |false=>rw[hc] at h;cases h
  |true=>
   rw[hc,cond_true] at h
   cases hk:x.kind == 1 with
   |true=>
    rw[hk,cond_true] at h
    have:=rulesCheck_l1_which r y xs (i+1) (n+1) h a ha
    simp only[if_true,List.length_cons]
    rwa [show n+1+((xs.filter (fun c=>c.kind == 1)).length:Int)=n+(((xs.filter (fun c=>c.kind == 1)).length+1:Nat):Int) by omega] at this
   |false=>
    rw[hk,cond_false] at h
    exact rulesCheck_l1_which r y xs (i+1) n h a ha
theorem rulesAct_which {a:Sp.Act} {m:Int} (h:rulesAct a m=true):a.kind=1∨(0≤a.which∧a.which<m):=by
 by_cases h1:a.kind=1
 ·exact .inl h1
 ·right
  unfold rulesAct at h
  have e1:(a.kind == 1)=false:=by simpa using h1
  rw[e1,cond_false] at h
  cases h2:a.kind == 2 with
  |false=>rw[h2] at h;cases h
  |true=>
  cases h3:a.name == [] with
  |false=>rw[h2,h3] at h;cases h
  |true=>
  rw[h2,h3,cond_true,cond_true] at h
  cases h4:((a.args.length:Int) == 0) with
  |false=>rw[h4] at h;cases h
  |true=>
  rw[h4,cond_true] at h
  by_cases h5:a.which≥0
  ·rw[decide_eq_true h5,cond_true] at h
   exact⟨h5,of_decide_eq_true h⟩
  ·rw[decide_eq_false h5] at h;cases h
theorem rulesCheck_which {r:Sp.Rule} (h:rulesCheck r=0):r.conds.length≤6∧∀ a∈r.acts,a.kind=1∨(0≤a.which∧a.which<((r.conds.filter (fun c=>c.kind == 1)).length:Int)):=by
 unfold rulesCheck at h
 cases h1:factName r.name with
 |false=>rw[h1] at h;cases h
 |true=>
 cases h2:decide (r.prio < -1000) with
 |true=>rw[h1,h2] at h;cases h
 |false=>
 cases h3:decide (r.prio>1000) with
 |true=>rw[h1,h2,h3] at h;cases h
 |false=>
 cases h4:decide ((r.conds.length:Int)<1) with
 |true=>rw[h1,h2,h3,h4] at h;cases h
 |false=>
 cases h5:decide ((r.conds.length:Int)>6) with
 |true=>rw[h1,h2,h3,h4,h5] at h;cases h
 |false=>
 have h4':=of_decide_eq_false h4
 have h5':=of_decide_eq_false h5
 obtain⟨y,hy⟩:∃ y,r.conds[0]? = some y:=⟨_,List.getElem?_eq_getElem (by omega)⟩
 rw[h1,h2,h3,h4,h5,hy] at h
 simp only[cond_true,cond_false,onS] at h
 cases h6:y.kind == 1 with
 |false=>rw[h6] at h;cases h
 |true=>
 rw[h6,cond_true] at h
 cases h7:decide ((r.acts.length:Int)<1) with
 |true=>rw[h7] at h;cases h
 |false=>
 cases h8:decide ((r.acts.length:Int)>6) with
 |true=>rw[h7,h8] at h;cases h
 |false=>
 rw[h7,h8,cond_false,cond_false] at h
 refine⟨by omega,fun a ha=>?_⟩
 have:=rulesAct_which (rulesCheck_l1_which r y r.conds 0 0 h a ha)
 rwa [Int.zero_add] at this
end Go.Vm
/- What functions of the program answer. Printed by spec2.py. -/
namespace Go.Vm
open Go Go.Sp
set_option maxRecDepth 100000
set_option maxHeartbeats 4000000
def declAct (p:Sp.Prog) (r:Sp.Rule) (a:Sp.Act):Int:=(bif (a.kind == 1) then(declNamed p a.name (a.args.length:Int) ([2,3,4,5]:(List Int))) else(onS ((deleteCond ((cloneCond r.conds).1) (fun x=>declAct1 x)).2)[a.which.toNat]? (fun y1=>(declNamed p y1.atom.name (y1.atom.args.length:Int) ([2,3]:(List Int)))) default))
theorem declAct_says (p:Sp.Prog) (r:Sp.Rule) (a:Sp.Act) (ok_p:p.ok) (ok_r:r.ok) (ok_a:a.ok) (h_w:a.kind=1∨(0≤a.which∧a.which<((r.conds.filter (fun c=>c.kind == 1)).length:Int))) (h_c:r.conds.length≤1000):SaysT TX 204 [eProg p,eRule r,eAct a] (eI (declAct p r a)):=
 sy (e:=eI) (F:=c204) rfl fun sg=>gO 14<|dq 11 (fun h1=>gO 9<|kw 17 (len_map (eL 5 eOp) a.args)<|gO 1<|cl (declNamed_says p a.name (a.args.length:Int) ([2,3,4,5]:(List Int)) (by first|exact ok_p|exact fun _ _=>trivial|omega|decide|(have q:=del_len r.conds;omega)|(have q:=del_len r.conds;have q2:=del_le r.conds;omega)|exact Nat.le_trans h_c (by decide)) (by first|exact ok_p|exact fun _ _=>trivial|omega|decide|(have q:=del_len r.conds;omega)|(have q:=del_len r.conds;have q2:=del_le r.conds;omega)|exact Nat.le_trans h_c (by decide)))<|gO 4<|en) (fun h1=>gO 6<|clr (cloneCond_in r.conds (by first|exact ok_p|exact fun _ _=>trivial|omega|decide|(have q:=del_len r.conds;omega)|(have q:=del_len r.conds;have q2:=del_le r.conds;omega)|exact Nat.le_trans h_c (by decide)))<|clo (fr:=[.box [(.sl .no 3 (p.decls.map eDecl)),(.sl .no 4 (p.rules.map eRule)),(.sl .no 4 (p.pats.map ePattern))],.box [(.str r.name),(.int .i64 r.prio),(.sl .no 6 (r.conds.map eCond)),(.sl .no 4 (r.acts.map eAct))],.box [(.int .i64 a.kind),(.str a.name),(.sl .no 1 (a.args.map (eL 5 eOp))),(.int .i64 a.which)],.arr ((cloneCond r.conds).2.1) 6 (((deleteCond ((cloneCond r.conds).1) (fun x=>declAct1 x)).2).map eCond)]) (deleteCond_w (d_s:=0) (i_s:=3) (v_s:=(cloneCond r.conds).2.1) (n_s:=(cloneCond r.conds).2.2) (g_del:=258) (P_del:=(fun _=>True)) ((cloneCond r.conds).1) (fun x=>declAct1 x) (sg:=([.box [(.sl .no 3 (p.decls.map eDecl)),(.sl .no 4 (p.rules.map eRule)),(.sl .no 4 (p.pats.map ePattern))],.box [(.str r.name),(.int .i64 r.prio),(.sl .no 6 (r.conds.map eCond)),(.sl .no 4 (r.acts.map eAct))],.box [(.int .i64 a.kind),(.str a.name),(.sl .no 1 (a.args.map (eL 5 eOp))),(.int .i64 a.which)],.arr ((cloneCond r.conds).2.1) 6 (((cloneCond r.conds).1).map eCond)]::sg)) (W:=1) (plc_own (b:=.arr (cloneCond r.conds).2.1 6 (((cloneCond r.conds).1).map eCond)) (by kernel_rfl)) (by first|rfl|(first|exact ok_p|exact fun _ _=>trivial|omega|decide|(have q:=del_len r.conds;omega)|(have q:=del_len r.conds;have q2:=del_le r.conds;omega)|exact Nat.le_trans h_c (by decide))) (Nat.le_refl 1) (fun x hx sg=>declAct1_says x sg) (by first|exact ok_p|exact fun _ _=>trivial|omega|decide|(have q:=del_len r.conds;omega)|(have q:=del_len r.conds;have q2:=del_le r.conds;omega)|exact Nat.le_trans h_c (by decide)) (by first|exact ok_p|exact fun _ _=>trivial|omega|decide|(have q:=del_len r.conds;omega)|(have q:=del_len r.conds;have q2:=del_le r.conds;omega)|exact Nat.le_trans h_c (by decide)))<|gO 7<|kw 26 (toNat_v (n:=a.which) (by first|exact ok_p|exact fun _ _=>trivial|omega|decide|(have q:=del_len r.conds;omega)|(have q:=del_len r.conds;have q2:=del_le r.conds;omega)|exact Nat.le_trans h_c (by decide)))<|iaz (n:=a.which.toNat) (len:=(deleteCond ((cloneCond r.conds).1) (fun x=>declAct1 x)).1) (d:=0) (b:=3) (ver:=(cloneCond r.conds).2.1) (z:=6) (es:=((deleteCond ((cloneCond r.conds).1) (fun x=>declAct1 x)).2).map eCond) (by first|exact ok_p|exact fun _ _=>trivial|omega|decide|(have q:=del_len r.conds;omega)|(have q:=del_len r.conds;have q2:=del_le r.conds;omega)|exact Nat.le_trans h_c (by decide))<|gO 1<|elx (by first|exact ok_p|exact fun _ _=>trivial|omega|decide|(have q:=del_len r.conds;omega)|(have q:=del_len r.conds;have q2:=del_le r.conds;omega)|exact Nat.le_trans h_c (by decide)) fun y1 h2=>lda (ag:=true) (sz:=2) (d:=0) (i:=3) (ver:=(cloneCond r.conds).2.1) (z:=6) (j:=a.which.toNat) (o:=1) (en:=eCond) (L:=(deleteCond ((cloneCond r.conds).1) (fun x=>declAct1 x)).2) (y:=y1) (v:=(.agg [(.str y1.atom.name),(.sl .no 4 (y1.atom.args.map eTerm))])) h2 (by kernel_rfl)<|gO 11<|kw 35 (len_map eTerm y1.atom.args)<|gO 1<|cl (declNamed_says p y1.atom.name (y1.atom.args.length:Int) ([2,3]:(List Int)) (by first|exact ok_p|exact fun _ _=>trivial|omega|decide|(have q:=del_len r.conds;omega)|(have q:=del_len r.conds;have q2:=del_le r.conds;omega)|exact Nat.le_trans h_c (by decide)) (by first|exact ok_p|exact fun _ _=>trivial|omega|decide|(have q:=del_len r.conds;omega)|(have q:=del_len r.conds;have q2:=del_le r.conds;omega)|exact Nat.le_trans h_c (by decide)))<|gO 3<|en)
def declRule_l2 (p:Sp.Prog) (r:Sp.Rule) (i1:Nat):Nat→List Sp.Act→Unit→Int
 |i2,[],_=>0
 |i2,x3::xs4,_=>(bif ((declAct p r x3) == 0) then declRule_l2 p r i1 (i2+1) xs4 () else(declAct p r x3))
def declRule_l1 (p:Sp.Prog) (r:Sp.Rule):Nat→List Sp.Cond→Unit→Int
 |i1,[],_=>declRule_l2 p r i1 0 r.acts ()
 |i1,x1::xs2,_=>(bif (x1.kind == 3) then declRule_l1 p r (i1+1) xs2 () else(bif ((declNamed p x1.atom.name (x1.atom.args.length:Int) ([1,2,3,4]:(List Int))) == 0) then declRule_l1 p r (i1+1) xs2 () else(declNamed p x1.atom.name (x1.atom.args.length:Int) ([1,2,3,4]:(List Int)))))
def declRule (p:Sp.Prog) (r:Sp.Rule):Int:=declRule_l1 p r 0 r.conds ()
theorem declRule_says (p:Sp.Prog) (r:Sp.Rule) (ok_p:p.ok) (ok_r:r.ok) (h_w:∀ a∈r.acts,a.kind=1∨(0≤a.which∧a.which<((r.conds.filter (fun c=>c.kind == 1)).length:Int))) (h_c:r.conds.length≤1000):SaysT TX 132 [eProg p,eRule r] (eI (declRule p r)):=
 sy (e:=eI) (F:=c132) rfl fun sg=>gO 12<|kw 13 (len_map eCond r.conds)<|gO 3<|rg (β:=Sp.Cond) (A:=Unit) (fun i1 _=>{ vals:=[(.bp 0 0 0),(.bp 0 1 0),(.sl .no 6 (r.conds.map eCond)),(.int .i64 (r.conds.length:Int)),(.int .i64 (i1:Int))],fr:=[.box [(.sl .no 3 (p.decls.map eDecl)),(.sl .no 4 (p.rules.map eRule)),(.sl .no 4 (p.pats.map ePattern))],.box [(.str r.name),(.int .i64 r.prio),(.sl .no 6 (r.conds.map eCond)),(.sl .no 4 (r.acts.map eAct))]],sg:=sg,wd:=0 }) (L:=r.conds) (acc0:=()) (fn:=declRule_l1 p r) (fun i1 x1 xs2 _ hd1 ih1=>have hlt1:=drop_lt hd1;have hx1:=drop_get hd1;gO 5<|dk 15 (lt_true hlt1)<|gO 6<|iak eCond hx1<|gO 11<|dq 20 (fun h1=>gO 6<|kw 34 (congrArg (V.int .i64) (wrap_s hlt1 (by first|exact ok_p|exact ok_r|exact h_w _ (List.mem_of_getElem? (by assumption))|exact ok_r.2.2.2.2 _ (List.mem_of_getElem? (by assumption))|omega|(have q:=ok_r.2.2.2.1;omega)|decide)))<|gO 2<|nx (ih1 ())) (fun h1=>gO 12<|kw 28 (len_map eTerm x1.atom.args)<|gO 1<|cl (declNamed_says p x1.atom.name (x1.atom.args.length:Int) ([1,2,3,4]:(List Int)) (by first|exact ok_p|exact ok_r|exact h_w _ (List.mem_of_getElem? (by assumption))|exact ok_r.2.2.2.2 _ (List.mem_of_getElem? (by assumption))|omega|(have q:=ok_r.2.2.2.1;omega)|decide) (by first|exact ok_p|exact ok_r|exact h_w _ (List.mem_of_getElem? (by assumption))|exact ok_r.2.2.2.2 _ (List.mem_of_getElem? (by assumption))|omega|(have q:=ok_r.2.2.2.1;omega)|decide))<|gO 7<|dqn 32 (fun h2=>gO 5<|kw 34 (congrArg (V.int .i64) (wrap_s hlt1 (by first|exact ok_p|exact ok_r|exact h_w _ (List.mem_of_getElem? (by assumption))|exact ok_r.2.2.2.2 _ (List.mem_of_getElem? (by assumption))|omega|(have q:=ok_r.2.2.2.1;omega)|decide)))<|gO 2<|nx (ih1 ())) (fun h2=>gO 12<|en))) (fun i1 _ hd1=>have hge1:=drop_ge hd1;gO 5<|dk 15 (lt_false hge1)<|gO 11<|kw 37 (len_map eAct r.acts)<|gO 3<|rg (β:=Sp.Act) (A:=Unit) (fun i2 _=>{ vals:=[(.bp 0 0 0),(.bp 0 1 0),(.sl .no 4 (r.acts.map eAct)),(.int .i64 (r.acts.length:Int)),(.int .i64 (i2:Int))],fr:=[.box [(.sl .no 3 (p.decls.map eDecl)),(.sl .no 4 (p.rules.map eRule)),(.sl .no 4 (p.pats.map ePattern))],.box [(.str r.name),(.int .i64 r.prio),(.sl .no 6 (r.conds.map eCond)),(.sl .no 4 (r.acts.map eAct))]],sg:=sg,wd:=0 }) (L:=r.acts) (acc0:=()) (fn:=declRule_l2 p r i1) (fun i2 x3 xs4 _ hd2 ih2=>have hlt2:=drop_lt hd2;have hx2:=drop_get hd2;gO 5<|dk 39 (lt_true hlt2)<|gO 6<|iak eAct hx2<|gO 9<|cl (declAct_says p r x3 (by first|exact ok_p|exact ok_r|exact h_w _ (List.mem_of_getElem? (by assumption))|exact ok_r.2.2.2.2 _ (List.mem_of_getElem? (by assumption))|omega|(have q:=ok_r.2.2.2.1;omega)|decide) (by first|exact ok_p|exact ok_r|exact h_w _ (List.mem_of_getElem? (by assumption))|exact ok_r.2.2.2.2 _ (List.mem_of_getElem? (by assumption))|omega|(have q:=ok_r.2.2.2.1;omega)|decide) (by first|exact ok_p|exact ok_r|exact h_w _ (List.mem_of_getElem? (by assumption))|exact ok_r.2.2.2.2 _ (List.mem_of_getElem? (by assumption))|omega|(have q:=ok_r.2.2.2.1;omega)|decide) (by first|exact ok_p|exact ok_r|exact h_w _ (List.mem_of_getElem? (by assumption))|exact ok_r.2.2.2.2 _ (List.mem_of_getElem? (by assumption))|omega|(have q:=ok_r.2.2.2.1;omega)|decide) (by first|exact ok_p|exact ok_r|exact h_w _ (List.mem_of_getElem? (by assumption))|exact ok_r.2.2.2.2 _ (List.mem_of_getElem? (by assumption))|omega|(have q:=ok_r.2.2.2.1;omega)|decide))<|gO 7<|dqn 47 (fun h3=>gO 5<|kw 49 (congrArg (V.int .i64) (wrap_s hlt2 (by first|exact ok_p|exact ok_r|exact h_w _ (List.mem_of_getElem? (by assumption))|exact ok_r.2.2.2.2 _ (List.mem_of_getElem? (by assumption))|omega|(have q:=ok_r.2.2.2.1;omega)|decide)))<|gO 2<|nx (ih2 ())) (fun h3=>gO 12<|en)) (fun i2 _ hd2=>have hge2:=drop_ge hd2;gO 5<|dk 39 (lt_false hge2)<|gO 10<|en))
end Go.Vm
/-
  What a program that is right of form has.
-/
namespace Go.Vm
open Go Go.Sp
theorem any_of {α:Type} {f:(α→Bool)→Nat→List α→Int} (h0:∀ p i,f p i [] = -1) (h1:∀ p i x xs,f p i (x::xs)=bif p x then(i:Int) else f p (i+1) xs) (p:α→Bool):∀ (xs:List α) (i:Nat),decide (f p i xs≥0)=xs.any p
 | [],i=>by rw[h0];rfl
 |x::xs,i=>by
  rw[h1,List.any_cons]
  cases p x with
  |true=>simp
  |false=>simp only[cond_false,Bool.false_or];exact any_of h0 h1 p xs (i+1)
theorem containsDecl_eq (l:List Sp.Decl) (p:Sp.Decl→Bool):containsDecl l p=l.any p:=any_of (f:=fun p i xs=>indexDecl_l1 l p i xs ()) (fun _ _=>rfl) (fun _ _ _ _=>rfl) p l 0
theorem containsRule_eq (l:List Sp.Rule) (p:Sp.Rule→Bool):containsRule l p=l.any p:=any_of (f:=fun p i xs=>indexRule_l1 l p i xs ()) (fun _ _=>rfl) (fun _ _ _ _=>rfl) p l 0
theorem containsPattern_eq (l:List Sp.Pattern) (p:Sp.Pattern→Bool):containsPattern l p=l.any p:=any_of (f:=fun p i xs=>indexPattern_l1 l p i xs ()) (fun _ _=>rfl) (fun _ _ _ _=>rfl) p l 0
theorem containsOps_eq (l:List (List Sp.Op)) (p:List Sp.Op→Bool):containsOps l p=l.any p:=any_of (f:=fun p i xs=>indexOps_l1 l p i xs ()) (fun _ _=>rfl) (fun _ _ _ _=>rfl) p l 0
theorem specCheck_eq (p:Sp.Prog):specCheck p=0↔specMany p=false∧(∀ d∈p.decls,specRight d=true)∧(∀ r∈p.rules,rulesCheck r=0)∧∀ x∈p.pats,formulaRight x=true:=by
 unfold specCheck
 rw[containsDecl_eq,containsRule_eq,containsPattern_eq]
 have e1:(p.decls.any fun x=>specCheck1 x)=false↔∀ d∈p.decls,specRight d=true:=by
  rw[List.any_eq_false];unfold specCheck1;simp
 have e2:(p.rules.any fun x=>specCheck2 x)=false↔∀ d∈p.rules,rulesCheck d=0:=by
  rw[List.any_eq_false];unfold specCheck2;simp
 have e3:(p.pats.any fun x=>specCheck3 x)=false↔∀ d∈p.pats,formulaRight d=true:=by
  rw[List.any_eq_false];unfold specCheck3;simp
 rw[← e1,← e2,← e3]
 cases specMany p<;>cases (p.decls.any fun x=>specCheck1 x)<;>cases (p.rules.any fun x=>specCheck2 x)<;>cases (p.pats.any fun x=>specCheck3 x)<;>simp
theorem spec_rule {p:Sp.Prog} {r:Sp.Rule} (h:specCheck p=0) (hr:r∈p.rules):r.conds.length≤1000∧∀ a∈r.acts,a.kind=1∨(0≤a.which∧a.which<((r.conds.filter (fun c=>c.kind == 1)).length:Int)):=by
 have:=rulesCheck_which (((specCheck_eq p).1 h).2.2.1 r hr)
 exact⟨by omega,this.2⟩
theorem right_nodes {x:Sp.Pattern} (h:formulaRight x=true):formulaCheck x.nodes=0:=by
 unfold formulaRight at h
 cases h1:factName x.name with
 |false=>rw[h1] at h;cases h
 |true=>
 cases h2:matchCheck x.trigger == 0 with
 |false=>rw[h1,h2] at h;cases h
 |true=>rw[h1,h2] at h;simpa using h
theorem spec_pat {p:Sp.Prog} {x:Sp.Pattern} (h:specCheck p=0) (hx:x∈p.pats):x.nodes.length≤1000:=by
 have:=right_nodes (((specCheck_eq p).1 h).2.2.2 x hx)
 unfold formulaCheck at this
 by_cases h1:(x.nodes.length:Int)<1
 ·omega
 ·by_cases h2:(x.nodes.length:Int)>40
  ·rw[decide_eq_false h1,decide_eq_true h2] at this;cases this
  ·omega
theorem right_trig {x:Sp.Pattern} (h:formulaRight x=true):x.trigger.args.length≤5:=by
 unfold formulaRight at h
 cases h1:factName x.name with
 |false=>rw[h1] at h;cases h
 |true=>
 cases h2:matchCheck x.trigger == 0 with
 |false=>rw[h1,h2] at h;cases h
 |true=>
  have h2:matchCheck x.trigger=0:=by simpa using h2
  unfold matchCheck at h2
  cases hf:factName x.trigger.name with
  |false=>rw[hf] at h2;cases h2
  |true=>
   by_cases hc:(x.trigger.args.length:Int)>5
   ·rw[hf,decide_eq_true hc] at h2;cases h2
   ·omega
theorem rule_6 {r:Sp.Rule} (h:rulesCheck r=0):r.conds.length≤6:=(rulesCheck_which h).1
theorem rulesCheck_l1_cond (r:Sp.Rule) (y:Sp.Cond):∀ (xs:List Sp.Cond) (i:Nat) (n:Int),rulesCheck_l1 r y i xs n=0→∀ c∈xs,rulesCond c=true
 | [],i,n,h,c,hc=>by cases hc
 |x::xs,i,n,h,c,hc=>by
  rw[rulesCheck_l1] at h
  cases hx:rulesCond x with
  |false=>rw[hx] at h;cases h
  |true=>
   rw[hx,cond_true] at h
   rcases List.mem_cons.1 hc with rfl|hc
   ·exact hx
   ·cases hk:x.kind == 1 with
    |true=>rw[hk] at h;exact rulesCheck_l1_cond r y xs _ _ h c hc
    |false=>rw[hk] at h;exact rulesCheck_l1_cond r y xs _ _ h c hc
theorem rule_conds {r:Sp.Rule} (h:rulesCheck r=0):(∀ c∈r.conds,rulesCond c=true)∧∀ a∈r.acts,rulesAct a ((r.conds.filter (fun c=>c.kind == 1)).length:Int)=true:=by
 unfold rulesCheck at h
 cases h1:factName r.name with
 |false=>rw[h1] at h;cases h
 |true=>
 cases h2:decide (r.prio < -1000) with
 |true=>rw[h1,h2] at h;cases h
 |false=>
 cases h3:decide (r.prio>1000) with
 |true=>rw[h1,h2,h3] at h;cases h
 |false=>
 cases h4:decide ((r.conds.length:Int)<1) with
 |true=>rw[h1,h2,h3,h4] at h;cases h
 |false=>
 cases h5:decide ((r.conds.length:Int)>6) with
 |true=>rw[h1,h2,h3,h4,h5] at h;cases h
 |false=>
 have h4':=of_decide_eq_false h4
 obtain⟨y,hy⟩:∃ y,r.conds[0]? = some y:=⟨_,List.getElem?_eq_getElem (by omega)⟩
 rw[h1,h2,h3,h4,h5,hy] at h
 simp only[cond_true,cond_false,onS] at h
 cases h6:y.kind == 1 with
 |false=>rw[h6] at h;cases h
 |true=>
 rw[h6,cond_true] at h
 cases h7:decide ((r.acts.length:Int)<1) with
 |true=>rw[h7] at h;cases h
 |false=>
 cases h8:decide ((r.acts.length:Int)>6) with
 |true=>rw[h7,h8] at h;cases h
 |false=>
 rw[h7,h8,cond_false,cond_false] at h
 refine⟨rulesCheck_l1_cond r y r.conds 0 0 h,fun a ha=>?_⟩
 have:=rulesCheck_l1_which r y r.conds 0 0 h a ha
 rwa [Int.zero_add] at this
theorem atom5 {a:Sp.Atom} (h:matchCheck a=0):a.args.length≤5:=by
 unfold matchCheck at h
 cases hf:factName a.name with
 |false=>rw[hf] at h;cases h
 |true=>
  by_cases hc:(a.args.length:Int)>5
  ·rw[hf,decide_eq_true hc] at h;cases h
  ·omega
theorem cond_cases {c:Sp.Cond} (h:rulesCond c=true):(c.kind=3∧guardCheck c=0)∨((c.kind=1∨c.kind=2)∧matchCheck c.atom=0∧c.how=0∧c.left = []∧c.right = []):=by
 unfold rulesCond at h
 cases h1:c.kind == 3 with
 |true=>rw[h1,cond_true] at h;exact .inl ⟨by simpa using h1,by simpa using h⟩
 |false=>
 rw[h1,cond_false] at h
 cases h2:c.how == 0 with
 |false=>rw[h2] at h;revert h;cases c.kind == 1<;>cases c.kind == 2<;>exact fun h=>(by cases h)
 |true=>
 rw[h2,cond_true] at h
 cases h3:((c.left.length:Int) == 0) with
 |false=>rw[h3] at h;revert h;cases c.kind == 1<;>cases c.kind == 2<;>exact fun h=>(by cases h)
 |true=>
 rw[h3,cond_true] at h
 have e2:c.how=0:=by simpa using h2
 have e3:c.left = []:=by simpa using h3
 cases h4:c.kind == 1 with
 |true=>
  rw[h4,cond_true] at h
  cases h5:((c.right.length:Int) == 0) with
  |false=>rw[h5] at h;cases h
  |true=>rw[h5,cond_true] at h;exact .inr ⟨.inl (by simpa using h4),by simpa using h,e2,e3,by simpa using h5⟩
 |false=>
  rw[h4,cond_false] at h
  cases h6:c.kind == 2 with
  |false=>rw[h6] at h;cases h
  |true=>
   rw[h6,cond_true] at h
   cases h5:((c.right.length:Int) == 0) with
   |false=>rw[h5] at h;cases h
   |true=>rw[h5,cond_true] at h;exact .inr ⟨.inr (by simpa using h6),by simpa using h,e2,e3,by simpa using h5⟩
theorem expr15 {l:List Sp.Op} (h:exprCheck l=0):1≤l.length∧l.length≤15:=by
 unfold exprCheck at h
 by_cases h1:(l.length:Int)<1
 ·rw[decide_eq_true h1] at h;cases h
 ·by_cases h2:(l.length:Int)>15
  ·rw[decide_eq_false h1,decide_eq_true h2] at h;cases h
  ·omega
theorem guard_cases {c:Sp.Cond} (h:guardCheck c=0):c.kind=3∧c.atom.name = []∧c.atom.args = []∧guardRight c.how=true∧exprCheck c.left=0∧exprCheck c.right=0:=by
 unfold guardCheck at h
 cases h1:c.kind == 3 with
 |false=>rw[h1] at h;cases h
 |true=>
 cases h2:c.atom.name == [] with
 |false=>rw[h1,h2] at h;cases h
 |true=>
 cases h3:decide ((c.atom.args.length:Int)>0) with
 |true=>rw[h1,h2,h3] at h;cases h
 |false=>
 cases h4:guardRight c.how with
 |false=>rw[h1,h2,h3,h4] at h;cases h
 |true=>
 cases h5:exprCheck c.left == 0 with
 |false=>rw[h1,h2,h3,h4,h5] at h;cases h
 |true=>
 cases h6:exprCheck c.right == 0 with
 |false=>rw[h1,h2,h3,h4,h5,h6] at h;cases h
 |true=>exact⟨by simpa using h1,by simpa using h2,List.eq_nil_of_length_eq_zero (by have:=of_decide_eq_false h3;omega),rfl,by simpa using h5,by simpa using h6⟩
theorem rule_atom {r:Sp.Rule} {c:Sp.Cond} (h:rulesCheck r=0) (hc:c∈r.conds):c.atom.args.length≤5∧c.left.length≤15∧c.right.length≤15:=by
 rcases cond_cases ((rule_conds h).1 c hc) with⟨_,h2⟩|⟨_,h2,_,h3,h4⟩
 ·obtain⟨_,_,q1,_,q2,q3⟩:=guard_cases h2
  rw[q1]
  exact⟨Nat.zero_le _,(expr15 q2).2,(expr15 q3).2⟩
 ·rw[h3,h4];exact⟨atom5 h2,Nat.zero_le _,Nat.zero_le _⟩
theorem rule_vars {r:Sp.Rule} {c:Sp.Cond} (h:rulesCheck r=0) (hc:c∈r.conds):(matchVars c.atom).length≤5:=Nat.le_trans (atomVars_len _) (rule_atom h hc).1
theorem rulesAct_args {a:Sp.Act} {m:Int} (h:rulesAct a m=true):∀ l∈a.args,exprCheck l=0:=by
 unfold rulesAct at h
 cases h1:a.kind == 1 with
 |true=>
  rw[h1,cond_true] at h
  cases h2:factName a.name with
  |false=>rw[h2] at h;cases h
  |true=>
  cases h3:a.which == 0 with
  |false=>rw[h2,h3] at h;cases h
  |true=>
  cases h4:decide ((a.args.length:Int)≤5) with
  |false=>rw[h2,h3,h4] at h;cases h
  |true=>
  rw[h2,h3,h4] at h
  simp only[cond_true,Bool.not_eq_true'] at h
  rw[containsOps_eq,List.any_eq_false] at h
  intro l hl
  have:=h l hl
  unfold rulesAct1 at this
  simpa using this
 |false=>
  rw[h1,cond_false] at h
  cases h2:a.kind == 2 with
  |false=>rw[h2] at h;cases h
  |true=>
  cases h3:a.name == [] with
  |false=>rw[h2,h3] at h;cases h
  |true=>
  cases h4:((a.args.length:Int) == 0) with
  |false=>rw[h2,h3,h4] at h;cases h
  |true=>
   have:a.args = []:=by simpa using h4
   rw[this];intro l hl;cases hl
theorem rule_args {r:Sp.Rule} {a:Sp.Act} (h:rulesCheck r=0) (ha:a∈r.acts):∀ l∈a.args,l.length≤15:=fun l hl=>(expr15 (rulesAct_args ((rule_conds h).2 a ha) l hl)).2
end Go.Vm
/-
  What it means that formula.Check finds a formula right.
-/
namespace Go.Vm
open Go Go.Sp
theorem fc_all {l:List Sp.Node} (h:formulaCheck l=0):1≤l.length∧l.length≤40∧(formulaFroms l).2.2=true∧(formulaFroms l).1[l.length-1]? = some 0:=by
 unfold formulaCheck at h
 cases c1:decide ((l.length:Int)<1) with
 |true=>rw[c1] at h;cases h
 |false=>
 cases c2:decide ((l.length:Int)>40) with
 |true=>rw[c1,c2] at h;cases h
 |false=>
 cases c3:(formulaFroms l).2.2 with
 |false=>rw[c1,c2,c3] at h;cases h
 |true=>
 rw[c1,c2,c3] at h
 simp only[cond_true,cond_false] at h
 have h1:=of_decide_eq_false c1
 have h2:=of_decide_eq_false c2
 have e:((l.length:Int)-1).toNat=l.length-1:=by omega
 obtain⟨g1,g2⟩:=froms_len l c3
 have hlt:l.length-1<(formulaFroms l).1.length:=by omega
 rw[e] at h
 cases c4:(formulaFroms l).1[l.length-1]? with
 |none=>rw[List.getElem?_eq_getElem hlt] at c4;cases c4
 |some y=>
 rw[c4] at h
 simp only[onS] at h
 cases c5:(y == 0) with
 |false=>rw[c5] at h;cases h
 |true=>
  have:y=0:=by simpa using c5
  subst this
  exact⟨by omega,by omega,rfl,rfl⟩
theorem fc_le {l:List Sp.Node} (h:formulaCheck l=0):1≤l.length∧l.length≤40:=⟨(fc_all h).1,(fc_all h).2.1⟩
theorem fc_froms {l:List Sp.Node} (h:formulaCheck l=0):(formulaFroms l).2.2=true:=(fc_all h).2.2.1
theorem fc_len {l:List Sp.Node} (h:formulaCheck l=0):(formulaFroms l).1.length=l.length:=(froms_len l (fc_froms h)).1
theorem fc_Nd {l:List Sp.Node} (h:formulaCheck l=0) {j:Nat} {x:Sp.Node} (hx:l[j]? = some x):Nd (formulaFroms l).1 j x:=(froms_ok (fc_froms h)).2.2.2 j x hx
end Go.Vm
/- What functions of the program answer. Printed by spec2.py. -/
namespace Go.Vm
open Go Go.Sp
set_option maxRecDepth 100000
set_option maxHeartbeats 4000000
def formulaFrom (l:(List Sp.Node)) (at_:Int):Int:=(bif ((formulaCheck l) == 0) then(bif (decide (at_<0)) then(-1) else(bif (decide (at_≥(l.length:Int))) then(-1) else(onS ((formulaFroms l).1)[at_.toNat]? (fun y1=>y1) default))) else(-1))
theorem formulaFrom_says (l:(List Sp.Node)) (at_:Int) (ok_l:okL l):SaysT TX 142 [(eL 5 eNode) l,eI at_] (eI (formulaFrom l at_)):=
 sy (e:=eI) (F:=c142) rfl fun sg=>gO 8<|cl (formulaCheck_says l (by first|assumption|omega|(have q:=fc_le (by assumption);omega)|(have q:=froms_len _ (fc_froms (by assumption));omega)))<|gO 2<|dqn 11 (fun h1=>gO 4<|dp 15 (fun h2=>gO 13<|en) (fun h2=>gO 3<|kw 18 (len_map eNode l)<|gO 3<|dp 20 (fun h3=>gO 7<|en) (fun h3=>gO 5<|cl (formulaFroms_says l (by first|assumption|omega|(have q:=fc_le (by assumption);omega)|(have q:=froms_len _ (fc_froms (by assumption));omega)) (by first|assumption|omega|(have q:=fc_le (by assumption);omega)|(have q:=froms_len _ (fc_froms (by assumption));omega)))<|gO 12<|kw 28 (toNat_v (n:=at_) (by first|assumption|omega|(have q:=fc_le (by assumption);omega)|(have q:=froms_len _ (fc_froms (by assumption));omega)))<|ia (en:=eI) (by first|assumption|omega|(have q:=fc_le (by assumption);omega)|(have q:=froms_len _ (fc_froms (by assumption));omega)) fun y1 h4=>gO 4<|en))) (fun h1=>gO 17<|en)
end Go.Vm
/-
  Right formulas: where a node's own begin, its kids, its atom.
-/
namespace Go.Vm
open Go Go.Sp
theorem from_eq {l:List Sp.Node} (h:formulaCheck l=0) {at_:Int} (h0:0≤at_) (h1:at_<l.length):(formulaFroms l).1[at_.toNat]? = some (formulaFrom l at_):=by
 unfold formulaFrom
 rw[h,show((0:Int) == 0)=true from rfl,cond_true,show decide (at_<0)=false from decide_eq_false (by omega),cond_false,show decide (at_≥(l.length:Int))=false from decide_eq_false (by omega),cond_false]
 have hlt:at_.toNat<(formulaFroms l).1.length:=by rw[fc_len h];omega
 rw[List.getElem?_eq_getElem hlt]
 rfl
theorem from_le {l:List Sp.Node} (h:formulaCheck l=0) {at_:Int} (h0:0≤at_) (h1:at_<l.length):0≤formulaFrom l at_∧formulaFrom l at_≤at_:=by
 have:=(froms_ok (fc_froms h)).2.2.1 _ _ (from_eq h h0 h1)
 omega
theorem kids {l:List Sp.Node} (h:formulaCheck l=0) {j:Nat} {x:Sp.Node} (hx:l[j]? = some x) :
  (x.kind=1∨(0≤x.a∧x.a<(j:Int)))∧((x.kind=3∨x.kind=4∨x.kind=8)→0≤x.b∧x.b<(j:Int))∧(j:Int)<l.length:=by
 have hj:j<l.length:=(List.getElem?_eq_some_iff.1 hx).1
 rcases fc_Nd h hx with⟨h1,_⟩|⟨h1,h2,h3,h4,_⟩|⟨h1,h2,h3,y,h4,h5,h6,_⟩
 ·exact⟨.inl h1,by omega,by omega⟩
 ·exact⟨by omega,by omega,by omega⟩
 ·have:=(froms_ok (fc_froms h)).2.2.1 _ _ h4
  exact⟨by omega,by omega,by omega⟩
theorem empty_args {a:Sp.Atom} (h:formulaEmpty a=true):a.args.length=0:=by
 unfold formulaEmpty at h
 cases c:(a.name == ([]:Txt)) with
 |false=>rw[c] at h;cases h
 |true=>rw[c] at h;have:((a.args.length:Int) == 0)=true:=h;simp only[beq_iff_eq] at this;omega
theorem check_args {a:Sp.Atom} (h:matchCheck a=0):a.args.length≤5:=by
 unfold matchCheck at h
 cases c:factName a.name with
 |false=>rw[c] at h;cases h
 |true=>
 rw[c,cond_true] at h
 cases c2:decide ((a.args.length:Int)>5) with
 |true=>rw[c2] at h;cases h
 |false=>have:=of_decide_eq_false c2;omega
theorem node_args {l:List Sp.Node} (h:formulaCheck l=0) {j:Nat} {x:Sp.Node} (hx:l[j]? = some x):x.atom.args.length≤5:=by
 rcases fc_Nd h hx with⟨_,_,_,h1,_⟩|⟨_,_,_,_,h1,_⟩|⟨_,_,_,y,_,_,_,h1,_⟩
 ·exact check_args h1
 ·have:=empty_args h1;omega
 ·have:=empty_args h1;omega
theorem mem_cut {l:List Sp.Node} {a b i:Nat} {x:Sp.Node} (h:((l.drop a).take b)[i]? = some x):∃ j:Nat,l[j]? = some x:=by
 rw[List.getElem?_take] at h
 split at h
 ·rw[List.getElem?_drop] at h;exact⟨_,h⟩
 ·cases h
theorem cut_len {l:List Sp.Node} {a b i:Nat} {x:Sp.Node} (h:((l.drop a).take b)[i]? = some x):i<l.length:=by
 have:=(List.getElem?_eq_some_iff.1 h).1
 simp only[List.length_take,List.length_drop] at this
 omega
theorem vars_args {l:List Sp.Node} (h:formulaCheck l=0) {x:Sp.Node} (hx:∃ j:Nat,l[j]? = some x):x.atom.args.length≤5:=by
 obtain⟨j,hj⟩:=hx;exact node_args h hj
theorem matchVars_len (a:Sp.Atom):∀ (xs:List Sp.Term) (i:Nat) (acc:List Txt),(matchVars_l1 a i xs acc).length≤acc.length+xs.length
 | [],i,acc=>by simp[matchVars_l1]
 |x::xs,i,acc=>by
  rw[matchVars_l1]
  cases (x.var == ([]:Txt)) with
  |true=>simp only[cond_true];have:=matchVars_len a xs (i+1) acc;simp only[List.length_cons];omega
  |false=>
   simp only[cond_false]
   cases containsTxt acc x.var with
   |true=>simp only[cond_true];have:=matchVars_len a xs (i+1) acc;simp only[List.length_cons];omega
   |false=>simp only[cond_false];have:=matchVars_len a xs (i+1) (acc ++ [x.var]);simp only[List.length_cons,List.length_append,List.length_nil] at *;omega
theorem vars_len {l:List Sp.Node} (h:formulaCheck l=0) {x:Sp.Node} (hx:∃ j:Nat,l[j]? = some x):(matchVars x.atom).length≤5:=by
 have h1:=vars_args h hx
 have h2:=matchVars_len x.atom x.atom.args 0 []
 unfold matchVars
 simp only[List.length_nil] at h2
 omega
end Go.Vm
/- What functions of the program answer. Printed by spec2.py. -/
namespace Go.Vm
open Go Go.Sp
set_option maxRecDepth 100000
set_option maxHeartbeats 4000000
def lookerVars_l1 (k:Sp.Looker) (at_:Int):Nat→List Sp.Node→(List Txt)→(List Txt)
 |i1,[],a1_0=>((rowT true (rowT false a1_0)).take (rowN true (rowT false a1_0)))
 |i1,x1::xs2,a1_0=>lookerVars_l1 k at_ (i1+1) xs2 (a1_0++(matchVars x1.atom))
def lookerVars (k:Sp.Looker) (at_:Int):(List Txt):=lookerVars_l1 k at_ 0 ((k.l.drop ((formulaFrom k.l at_).toNat)).take ((at_+1).toNat-((formulaFrom k.l at_).toNat))) ([]:List Txt)
theorem lookerVars_says (k:Sp.Looker) (at_:Int) (ok_l:okL k.l) (fm:formulaCheck k.l=0) (h0_at_:0≤at_) (h1_at_:at_<k.l.length):SaysT TX 75 [eLooker k,eI at_] ((eL 1 eS) (lookerVars k at_)):=
 sy (e:=(eL 1 eS)) (F:=c75) rfl fun sg=>gO 17<|cl (formulaFrom_says k.l at_ (by first|assumption|omega|(have q:=fc_le fm;omega)|(have q:=fc_le fm;simp only[List.length_take,List.length_drop];omega)|(have q:=from_le fm h0_at_ h1_at_;have q2:=fc_le fm;omega)|exact Nat.le_trans (rowN_le _ _) (Nat.le_of_eq (rowT_len _ _).symm)|(exact Nat.le_trans (vars_args fm (mem_cut (by assumption))) (by decide))))<|gO 2<|kw 15 (congrArg (V.int .i64) (wrap_id (n:=at_+1) (by first|assumption|omega|(have q:=fc_le fm;omega)|(have q:=fc_le fm;simp only[List.length_take,List.length_drop];omega)|(have q:=from_le fm h0_at_ h1_at_;have q2:=fc_le fm;omega)|exact Nat.le_trans (rowN_le _ _) (Nat.le_of_eq (rowT_len _ _).symm)) (by first|assumption|omega|(have q:=fc_le fm;omega)|(have q:=fc_le fm;simp only[List.length_take,List.length_drop];omega)|(have q:=from_le fm h0_at_ h1_at_;have q2:=fc_le fm;omega)|exact Nat.le_trans (rowN_le _ _) (Nat.le_of_eq (rowT_len _ _).symm))))<|kw 13 (toNat_v (n:=(formulaFrom k.l at_)) (by first|assumption|omega|(have q:=fc_le fm;omega)|(have q:=fc_le fm;simp only[List.length_take,List.length_drop];omega)|(have q:=from_le fm h0_at_ h1_at_;have q2:=fc_le fm;omega)|exact Nat.le_trans (rowN_le _ _) (Nat.le_of_eq (rowT_len _ _).symm)|(exact Nat.le_trans (vars_args fm (mem_cut (by assumption))) (by decide))))<|kw 15 (toNat_v (n:=(at_+1)) (by first|assumption|omega|(have q:=fc_le fm;omega)|(have q:=fc_le fm;simp only[List.length_take,List.length_drop];omega)|(have q:=from_le fm h0_at_ h1_at_;have q2:=fc_le fm;omega)|exact Nat.le_trans (rowN_le _ _) (Nat.le_of_eq (rowT_len _ _).symm)|(exact Nat.le_trans (vars_args fm (mem_cut (by assumption))) (by decide))))<|ct (en:=eNode) (z:=5) (L:=k.l) (l:=(formulaFrom k.l at_).toNat) (hh:=(at_+1).toNat) (by first|assumption|omega|(have q:=fc_le fm;omega)|(have q:=fc_le fm;simp only[List.length_take,List.length_drop];omega)|(have q:=from_le fm h0_at_ h1_at_;have q2:=fc_le fm;omega)|exact Nat.le_trans (rowN_le _ _) (Nat.le_of_eq (rowT_len _ _).symm)|(exact Nat.le_trans (vars_args fm (mem_cut (by assumption))) (by decide))) (by first|assumption|omega|(have q:=fc_le fm;omega)|(have q:=fc_le fm;simp only[List.length_take,List.length_drop];omega)|(have q:=from_le fm h0_at_ h1_at_;have q2:=fc_le fm;omega)|exact Nat.le_trans (rowN_le _ _) (Nat.le_of_eq (rowT_len _ _).symm)|(exact Nat.le_trans (vars_args fm (mem_cut (by assumption))) (by decide)))<|gO 1<|kw 17 (len_map eNode ((k.l.drop ((formulaFrom k.l at_).toNat)).take ((at_+1).toNat-((formulaFrom k.l at_).toNat))))<|gO 3<|rgI (β:=Sp.Node) (A:=(List Txt)) (fun i1 a1_0=>a1_0.length≤5*i1∧i1≤40) (fun i1 a1_0=>{ vals:=[(.bs 0 2 a1_0.length 0 a1_0.length),(.sl .no 5 (((k.l.drop ((formulaFrom k.l at_).toNat)).take ((at_+1).toNat-((formulaFrom k.l at_).toNat))).map eNode)),(.int .i64 (((k.l.drop ((formulaFrom k.l at_).toNat)).take ((at_+1).toNat-((formulaFrom k.l at_).toNat))).length:Int)),(.int .i64 (i1:Int))],fr:=[.box [(.sl .no 5 (k.l.map eNode))],.arr (([]:List Txt).length) 1 (([]:List Txt).map eS),.arr a1_0.length 1 (a1_0.map eS)],sg:=sg,wd:=0 }) (L:=((k.l.drop ((formulaFrom k.l at_).toNat)).take ((at_+1).toNat-((formulaFrom k.l at_).toNat)))) (acc0:=([]:List Txt)) (fn:=lookerVars_l1 k at_) (by simp) (fun i1 x1 xs2 a1_0 hd1 hi1 ih1=>have hi1:a1_0.length≤5*i1∧i1≤40:=hi1;have hlt1:=drop_lt hd1;have hx1:=drop_get hd1;gO 5<|dk 19 (lt_true hlt1)<|gO 6<|iak eNode hx1<|gO 8<|cl (matchVars_says x1.atom (by first|assumption|omega|(have q:=fc_le fm;omega)|(have q:=fc_le fm;simp only[List.length_take,List.length_drop];omega)|(have q:=from_le fm h0_at_ h1_at_;have q2:=fc_le fm;omega)|exact Nat.le_trans (rowN_le _ _) (Nat.le_of_eq (rowT_len _ _).symm)|(exact Nat.le_trans (vars_args fm (mem_cut (by assumption))) (by decide))))<|apb (en:=eS) (L:=a1_0) (M:=(matchVars x1.atom)) (by first|omega|(rw[rowT_len];omega)|(simp only[List.length_append];have q2:=vars_len fm (mem_cut (by assumption));unfold lim;omega)) (fun _ _=>rfl)<|gO 5<|kw 27 (congrArg (V.int .i64) (wrap_s hlt1 (by first|assumption|omega|(have q:=fc_le fm;omega)|(have q:=fc_le fm;simp only[List.length_take,List.length_drop];omega)|(have q:=from_le fm h0_at_ h1_at_;have q2:=fc_le fm;omega)|exact Nat.le_trans (rowN_le _ _) (Nat.le_of_eq (rowT_len _ _).symm)|(exact Nat.le_trans (vars_args fm (mem_cut (by assumption))) (by decide)))))<|gO 2<|nx (ih1 (a1_0++(matchVars x1.atom)) (by(have q:=fc_le fm;have q2:=vars_len fm (mem_cut (by assumption));have q3:=cut_len (by assumption);simp only[List.length_append];omega)))) (fun i1 a1_0 hd1 hi1=>have hi1:a1_0.length≤5*i1∧i1≤40:=hi1;have hge1:=drop_ge hd1;gO 5<|dk 19 (lt_false hge1)<|gO 8<|rwc (K:=RX) (f:=143) (k:=false) (i:=2) (L:=a1_0) (n:=a1_0.length) (by first|rfl|exact(rowT_len _ _).symm) (by kernel_rfl) (by kernel_rfl) (by kernel_rfl) (by first|omega|(rw[rowT_len];omega)|(simp only[List.length_append];have q2:=vars_len fm (mem_cut (by assumption));unfold lim;omega))<|gO 4<|rwc (K:=RX) (f:=144) (k:=true) (i:=2) (L:=(rowT false a1_0)) (n:=a1_0.length) (by first|rfl|exact(rowT_len _ _).symm) (by kernel_rfl) (by kernel_rfl) (by kernel_rfl) (by first|omega|(rw[rowT_len];omega)|(simp only[List.length_append];have q2:=vars_len fm (mem_cut (by assumption));unfold lim;omega))<|gO 3<|enb (en:=eS) (L:=(rowT true (rowT false a1_0))) (i:=2) (ver:=a1_0.length) (z:=1) (k:=(rowN true (rowT false a1_0))) 4 (by first|exact Nat.le_refl _|(first|assumption|omega|(have q:=fc_le fm;omega)|(have q:=fc_le fm;simp only[List.length_take,List.length_drop];omega)|(have q:=from_le fm h0_at_ h1_at_;have q2:=fc_le fm;omega)|exact Nat.le_trans (rowN_le _ _) (Nat.le_of_eq (rowT_len _ _).symm)|(exact Nat.le_trans (vars_args fm (mem_cut (by assumption))) (by decide)))))
end Go.Vm
/-
  A right formula's variables.
-/
namespace Go.Vm
open Go Go.Sp
theorem vars_l1 (k:Sp.Looker) (at_:Int):∀ (xs:List Sp.Node) (i:Nat) (acc:List Txt),lookerVars_l1 k at_ i xs acc=cmpT (sortT (acc++(xs.map (·.atom)).flatMap matchVars))
 | [],i,acc=>by
  rw[lookerVars_l1]
  simp only[rowT,rowN,List.map_nil,List.flatMap_nil,List.append_nil]
  exact List.take_left' rfl
 |x::xs,i,acc=>by
  rw[lookerVars_l1,vars_l1 k at_ xs]
  simp[List.append_assoc]
theorem vars_eq (k:Sp.Looker) (at_:Int):lookerVars k at_=cmpT (sortT ((((k.l.drop (formulaFrom k.l at_).toNat).take ((at_+1).toNat-(formulaFrom k.l at_).toNat)).map (·.atom)).flatMap matchVars)):=by
 unfold lookerVars
 rw[vars_l1]
 rfl
theorem flat_len:∀ (xs:List Sp.Atom),(∀ a∈xs,(matchVars a).length≤5)→(xs.flatMap matchVars).length≤5*xs.length
 | [],_=>Nat.le_refl _
 |a::xs,h=>by
  have h1:=h a List.mem_cons_self
  have h2:=flat_len xs fun b hb=>h b (List.mem_cons_of_mem _ hb)
  simp only[List.flatMap_cons,List.length_append,List.length_cons]
  omega
theorem lookerVars_len {k:Sp.Looker} (fm:formulaCheck k.l=0) {at_:Int}:(lookerVars k at_).length≤200:=by
 rw[vars_eq]
 refine Nat.le_trans (cmpT_le _) ?_
 rw[(sortT_perm _).length_eq]
 refine Nat.le_trans (flat_len _ fun a ha=>?_) ?_
 ·obtain⟨x,hx,rfl⟩:=List.mem_map.1 ha
  obtain⟨i,hi⟩:=List.getElem?_of_mem hx
  exact vars_len fm (mem_cut hi)
 ·have:=fc_le fm
  simp only[List.length_map,List.length_take,List.length_drop]
  omega
end Go.Vm
/- What functions of the program answer. Printed by spec2.py. -/
namespace Go.Vm
open Go Go.Sp
set_option maxRecDepth 100000
set_option maxHeartbeats 4000000
def lookerHolds (k:Sp.Looker) (a:Int) (f:Int):Bool:=(safeWithin (lookerVars k a) (lookerVars k f))
theorem lookerHolds_says (k:Sp.Looker) (a:Int) (f:Int) (ok_l:okL k.l) (fm:formulaCheck k.l=0) (h0_a:0≤a) (h1_a:a<k.l.length) (h0_f:0≤f) (h1_f:f<k.l.length):SaysT TX 146 [eLooker k,eI a,eI f] (eB (lookerHolds k a f)):=
 sy (e:=eB) (F:=c146) rfl fun sg=>gO 9<|cl (lookerVars_says k a (by first|assumption|exact Nat.le_trans (lookerVars_len fm) (by decide)) (by first|assumption|exact Nat.le_trans (lookerVars_len fm) (by decide)) (by first|assumption|exact Nat.le_trans (lookerVars_len fm) (by decide)) (by first|assumption|exact Nat.le_trans (lookerVars_len fm) (by decide)))<|gO 2<|cl (lookerVars_says k f (by first|assumption|exact Nat.le_trans (lookerVars_len fm) (by decide)) (by first|assumption|exact Nat.le_trans (lookerVars_len fm) (by decide)) (by first|assumption|exact Nat.le_trans (lookerVars_len fm) (by decide)) (by first|assumption|exact Nat.le_trans (lookerVars_len fm) (by decide)))<|cl (safeWithin_says (lookerVars k a) (lookerVars k f) (by first|assumption|exact Nat.le_trans (lookerVars_len fm) (by decide)) (by first|assumption|exact Nat.le_trans (lookerVars_len fm) (by decide)))<|gO 3<|en
mutual
def lookerFoundF:Nat→Sp.Looker→Int→Bool
 |0,_,_=>default
 |q+1,k,at_=>(onS k.l[at_.toNat]? (fun y1=>(bif (y1.kind == 1) then true else(bif (y1.kind == 5) then(lookerFoundF q k y1.a) else(bif (y1.kind == 6) then(lookerFoundF q k y1.a) else(bif (y1.kind == 3) then(bif (lookerFoundF q k y1.a) then(bif (lookerHolds k y1.b y1.a) then(lookerTestedF q k y1.b) else false) else false) else(bif (y1.kind == 4) then(bif (lookerFoundF q k y1.a) then(bif (lookerFoundF q k y1.b) then(bif (lookerHolds k y1.a y1.b) then(lookerHolds k y1.b y1.a) else false) else false) else false) else(bif (y1.kind == 8) then(bif (lookerFoundF q k y1.b) then(bif (lookerHolds k y1.a y1.b) then(lookerTestedF q k y1.a) else false) else false) else false))))))) default)
def lookerTestedF:Nat→Sp.Looker→Int→Bool
 |0,_,_=>default
 |q+1,k,at_=>(onS k.l[at_.toNat]? (fun y1=>(bif (y1.kind == 2) then(lookerTestedF q k y1.a) else(bif (y1.kind == 3) then(bif (lookerTestedF q k y1.a) then(bif (lookerTestedF q k y1.b) then true else(lookerFoundF q k at_)) else(lookerFoundF q k at_)) else(bif (y1.kind == 4) then(bif (lookerTestedF q k y1.a) then(bif (lookerTestedF q k y1.b) then true else(lookerFoundF q k at_)) else(lookerFoundF q k at_)) else(bif (y1.kind == 7) then(lookerAlwaysF q k y1.a) else(lookerFoundF q k at_)))))) default)
def lookerAlwaysF:Nat→Sp.Looker→Int→Bool
 |0,_,_=>default
 |q+1,k,at_=>(onS k.l[at_.toNat]? (fun y1=>(bif (y1.kind == 2) then(lookerFoundF q k y1.a) else(bif (y1.kind == 4) then(onS k.l[y1.a.toNat]? (fun y2=>(bif (y2.kind == 2) then(bif (lookerFoundF q k y2.a) then(bif (lookerHolds k y1.b y1.a) then(lookerTestedF q k y1.b) else false) else false) else false)) default) else false))) default)
end
def lookerTested (k:Sp.Looker) (at_:Int):Bool:=lookerTestedF (3*at_.toNat+1+1) k at_
theorem lookerFound_grp:∀ q:Nat,(∀ (k:Sp.Looker) (at_:Int) (ok_l:okL k.l) (fm:formulaCheck k.l=0) (h0_at_:0≤at_) (h1_at_:at_<k.l.length),3*at_.toNat<q→SaysT TX 83 [eLooker k,eI at_] (eB (lookerFoundF q k at_)))∧(∀ (k:Sp.Looker) (at_:Int) (ok_l:okL k.l) (fm:formulaCheck k.l=0) (h0_at_:0≤at_) (h1_at_:at_<k.l.length),3*at_.toNat+1<q→SaysT TX 74 [eLooker k,eI at_] (eB (lookerTestedF q k at_)))∧(∀ (k:Sp.Looker) (at_:Int) (ok_l:okL k.l) (fm:formulaCheck k.l=0) (h0_at_:0≤at_) (h1_at_:at_<k.l.length),3*at_.toNat+2<q→SaysT TX 141 [eLooker k,eI at_] (eB (lookerAlwaysF q k at_)))
 |0=>⟨fun _ _ _ _ _ _ hm=>absurd hm (by omega),fun _ _ _ _ _ _ hm=>absurd hm (by omega),fun _ _ _ _ _ _ hm=>absurd hm (by omega)⟩
 |q+1=>by
  obtain⟨ih_lookerFound,ih_lookerTested,ih_lookerAlways⟩:=lookerFound_grp q
  refine⟨?_,?_,?_⟩
  ·intro k at_ ok_l fm h0_at_ h1_at_ hm
   exact sy (e:=eB) (F:=c83) rfl fun sg=>gO 10<|kw 8 (toNat_v (n:=at_) (by first|assumption|omega))<|ia (en:=eNode) (by first|assumption|omega) fun y1 h1=>have kd_y1:=kids fm h1;gO 16<|dq 13 (fun h2=>gO 8<|en) (fun h2=>gO 7<|dq 15 (fun h3=>gO 8<|cl (ih_lookerFound k y1.a (by first|assumption|omega) (by first|assumption|omega) (by first|assumption|omega) (by first|assumption|omega) (by first|assumption|omega))<|gO 5<|en) (fun h3=>gO 5<|dq 15 (fun h4=>gO 6<|cl (ih_lookerFound k y1.a (by first|assumption|omega) (by first|assumption|omega) (by first|assumption|omega) (by first|assumption|omega) (by first|assumption|omega))<|gO 5<|en) (fun h4=>gO 6<|dq 22 (fun h5=>gO 6<|cl (ih_lookerFound k y1.a (by first|assumption|omega) (by first|assumption|omega) (by first|assumption|omega) (by first|assumption|omega) (by first|assumption|omega))<|gO 1<|dc 28 (fun h6=>gO 5<|cl (lookerHolds_says k y1.b y1.a (by first|assumption|omega) (by first|assumption|omega) (by first|assumption|omega) (by first|assumption|omega) (by first|assumption|omega) (by first|assumption|omega))<|gO 2<|dc 36 (fun h7=>gO 3<|cl (ih_lookerTested k y1.b (by first|assumption|omega) (by first|assumption|omega) (by first|assumption|omega) (by first|assumption|omega) (by first|assumption|omega))<|gO 6<|en) (fun h7=>gO 10<|en)) (fun h6=>gO 18<|en)) (fun h5=>gO 6<|dq 42 (fun h8=>gO 6<|cl (ih_lookerFound k y1.a (by first|assumption|omega) (by first|assumption|omega) (by first|assumption|omega) (by first|assumption|omega) (by first|assumption|omega))<|gO 1<|dc 48 (fun h9=>gO 3<|cl (ih_lookerFound k y1.b (by first|assumption|omega) (by first|assumption|omega) (by first|assumption|omega) (by first|assumption|omega) (by first|assumption|omega))<|gO 2<|dc 54 (fun h10=>gO 5<|cl (lookerHolds_says k y1.a y1.b (by first|assumption|omega) (by first|assumption|omega) (by first|assumption|omega) (by first|assumption|omega) (by first|assumption|omega) (by first|assumption|omega))<|gO 2<|dc 62 (fun h11=>gO 5<|cl (lookerHolds_says k y1.b y1.a (by first|assumption|omega) (by first|assumption|omega) (by first|assumption|omega) (by first|assumption|omega) (by first|assumption|omega) (by first|assumption|omega))<|gO 6<|en) (fun h11=>gO 12<|en)) (fun h10=>gO 20<|en)) (fun h9=>gO 26<|en)) (fun h8=>gO 6<|dq 70 (fun h12=>gO 6<|cl (ih_lookerFound k y1.b (by first|assumption|omega) (by first|assumption|omega) (by first|assumption|omega) (by first|assumption|omega) (by first|assumption|omega))<|gO 1<|dc 76 (fun h13=>gO 5<|cl (lookerHolds_says k y1.a y1.b (by first|assumption|omega) (by first|assumption|omega) (by first|assumption|omega) (by first|assumption|omega) (by first|assumption|omega) (by first|assumption|omega))<|gO 2<|dc 84 (fun h14=>gO 3<|cl (ih_lookerTested k y1.a (by first|assumption|omega) (by first|assumption|omega) (by first|assumption|omega) (by first|assumption|omega) (by first|assumption|omega))<|gO 6<|en) (fun h14=>gO 10<|en)) (fun h13=>gO 18<|en)) (fun h12=>gO 8<|en))))))
  ·intro k at_ ok_l fm h0_at_ h1_at_ hm
   exact sy (e:=eB) (F:=c74) rfl fun sg=>gO 10<|kw 8 (toNat_v (n:=at_) (by first|assumption|omega))<|ia (en:=eNode) (by first|assumption|omega) fun y1 h1=>have kd_y1:=kids fm h1;gO 16<|dq 13 (fun h2=>gO 6<|cl (ih_lookerTested k y1.a (by first|assumption|omega) (by first|assumption|omega) (by first|assumption|omega) (by first|assumption|omega) (by first|assumption|omega))<|gO 5<|en) (fun h2=>gO 7<|dq 19 (fun h3=>gO 8<|cl (ih_lookerTested k y1.a (by first|assumption|omega) (by first|assumption|omega) (by first|assumption|omega) (by first|assumption|omega) (by first|assumption|omega))<|gO 1<|dc 26 (fun h4=>gO 3<|cl (ih_lookerTested k y1.b (by first|assumption|omega) (by first|assumption|omega) (by first|assumption|omega) (by first|assumption|omega) (by first|assumption|omega))<|gO 2<|dc 32 (fun h5=>gO 9<|en) (fun h5=>gO 2<|cl (ih_lookerFound k at_ (by first|assumption|omega) (by first|assumption|omega) (by first|assumption|omega) (by first|assumption|omega) (by first|assumption|omega))<|gO 6<|en)) (fun h4=>gO 8<|cl (ih_lookerFound k at_ (by first|assumption|omega) (by first|assumption|omega) (by first|assumption|omega) (by first|assumption|omega) (by first|assumption|omega))<|gO 6<|en)) (fun h3=>gO 5<|dq 19 (fun h6=>gO 6<|cl (ih_lookerTested k y1.a (by first|assumption|omega) (by first|assumption|omega) (by first|assumption|omega) (by first|assumption|omega) (by first|assumption|omega))<|gO 1<|dc 26 (fun h7=>gO 3<|cl (ih_lookerTested k y1.b (by first|assumption|omega) (by first|assumption|omega) (by first|assumption|omega) (by first|assumption|omega) (by first|assumption|omega))<|gO 2<|dc 32 (fun h8=>gO 9<|en) (fun h8=>gO 2<|cl (ih_lookerFound k at_ (by first|assumption|omega) (by first|assumption|omega) (by first|assumption|omega) (by first|assumption|omega) (by first|assumption|omega))<|gO 6<|en)) (fun h7=>gO 8<|cl (ih_lookerFound k at_ (by first|assumption|omega) (by first|assumption|omega) (by first|assumption|omega) (by first|assumption|omega) (by first|assumption|omega))<|gO 6<|en)) (fun h6=>gO 6<|dq 37 (fun h9=>gO 6<|cl (ih_lookerAlways k y1.a (by first|assumption|omega) (by first|assumption|omega) (by first|assumption|omega) (by first|assumption|omega) (by first|assumption|omega))<|gO 5<|en) (fun h9=>gO 7<|cl (ih_lookerFound k at_ (by first|assumption|omega) (by first|assumption|omega) (by first|assumption|omega) (by first|assumption|omega) (by first|assumption|omega))<|gO 3<|en))))
  ·intro k at_ ok_l fm h0_at_ h1_at_ hm
   exact sy (e:=eB) (F:=c141) rfl fun sg=>gO 10<|kw 8 (toNat_v (n:=at_) (by first|assumption|omega))<|ia (en:=eNode) (by first|assumption|omega) fun y1 h1=>have kd_y1:=kids fm h1;gO 11<|dq 13 (fun h2=>gO 6<|cl (ih_lookerFound k y1.a (by first|assumption|omega) (by first|assumption|omega) (by first|assumption|omega) (by first|assumption|omega) (by first|assumption|omega))<|gO 4<|en) (fun h2=>gO 8<|dq 21 (fun h3=>gO 4<|kw 25 (toNat_v (n:=y1.a) (by first|assumption|omega))<|ia (en:=eNode) (by first|assumption|omega) fun y2 h4=>have kd_y2:=kids fm h4;gO 5<|dq 31 (fun h5=>gO 5<|kw 36 (toNat_v (n:=y1.a) (by first|assumption|omega))<|iak eNode h4<|gO 2<|cl (ih_lookerFound k y2.a (by first|assumption|omega) (by first|assumption|omega) (by first|assumption|omega) (by first|assumption|omega) (by first|assumption|omega))<|gO 2<|dc 42 (fun h6=>gO 5<|cl (lookerHolds_says k y1.b y1.a (by first|assumption|omega) (by first|assumption|omega) (by first|assumption|omega) (by first|assumption|omega) (by first|assumption|omega) (by first|assumption|omega))<|gO 2<|dc 50 (fun h7=>gO 3<|cl (ih_lookerTested k y1.b (by first|assumption|omega) (by first|assumption|omega) (by first|assumption|omega) (by first|assumption|omega) (by first|assumption|omega))<|gO 4<|en) (fun h7=>gO 8<|en)) (fun h6=>gO 16<|en)) (fun h5=>gO 27<|en)) (fun h3=>gO 37<|en))
theorem lookerTested_says (k:Sp.Looker) (at_:Int) (ok_l:okL k.l) (fm:formulaCheck k.l=0) (h0_at_:0≤at_) (h1_at_:at_<k.l.length):SaysT TX 74 [eLooker k,eI at_] (eB (lookerTested k at_)):=(lookerFound_grp (3*at_.toNat+1+1)).2.1 k at_ ok_l fm h0_at_ h1_at_ (Nat.lt_succ_self _)
end Go.Vm
