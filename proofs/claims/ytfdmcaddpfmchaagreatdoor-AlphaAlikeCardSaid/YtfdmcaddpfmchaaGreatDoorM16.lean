/-
  A part of a proof: the last text of the claim says what is proved, and under which conditions.
-/
import Derived.Test.YtfdmcaddpfmchaaGreatDoorM9
import Derived.Test.YtfdmcaddpfmchaaGreatDoorM15
import Derived.Test.YtfdmcaddpfmchaaGreatDoorM8
set_option linter.unusedSimpArgs false
set_option linter.unusedVariables false
set_option linter.unnecessarySimpa false
/- What functions of the program answer. Printed by spec2.py. -/
namespace Go.Vm
open Go Go.Sp
set_option maxRecDepth 100000
set_option maxHeartbeats 4000000

def valSmall (c : UInt8) : Bool:=(bif (decide ((c.toNat : Int) ≥ 97)) then (decide ((c.toNat : Int) ≤ 122)) else false)
theorem valSmall_says (c : UInt8)  : SaysT TX 292 [b8 c] (eB (valSmall c)) :=
  sy (e:=eB) (F:=c292) rfl fun sg=>gO 9<|dp 5 (fun h1=>gO 6<|en) (fun h1=>gO 6<|en)

def valLarge (c : UInt8) : Bool:=(bif (decide ((c.toNat : Int) ≥ 65)) then (decide ((c.toNat : Int) ≤ 90)) else false)
theorem valLarge_says (c : UInt8)  : SaysT TX 293 [b8 c] (eB (valLarge c)) :=
  sy (e:=eB) (F:=c293) rfl fun sg=>gO 9<|dp 5 (fun h1=>gO 6<|en) (fun h1=>gO 6<|en)

def valDigit (c : UInt8) : Bool:=(bif (decide ((c.toNat : Int) ≥ 48)) then (decide ((c.toNat : Int) ≤ 57)) else false)
theorem valDigit_says (c : UInt8)  : SaysT TX 279 [b8 c] (eB (valDigit c)) :=
  sy (e:=eB) (F:=c279) rfl fun sg=>gO 9<|dp 5 (fun h1=>gO 6<|en) (fun h1=>gO 6<|en)

def substLetter (c : UInt8) : Bool:=(bif (decide ((c.toNat : Int) ≥ 97)) then (bif (decide ((c.toNat : Int) ≤ 122)) then true else (bif (decide ((c.toNat : Int) ≥ 65)) then (bif (decide ((c.toNat : Int) ≤ 90)) then true else (bif (decide ((c.toNat : Int) ≥ 48)) then (bif (decide ((c.toNat : Int) ≤ 57)) then true else ((c.toNat : Int) == 95)) else ((c.toNat : Int) == 95))) else (bif (decide ((c.toNat : Int) ≥ 48)) then (bif (decide ((c.toNat : Int) ≤ 57)) then true else ((c.toNat : Int) == 95)) else ((c.toNat : Int) == 95)))) else (bif (decide ((c.toNat : Int) ≥ 65)) then (bif (decide ((c.toNat : Int) ≤ 90)) then true else (bif (decide ((c.toNat : Int) ≥ 48)) then (bif (decide ((c.toNat : Int) ≤ 57)) then true else ((c.toNat : Int) == 95)) else ((c.toNat : Int) == 95))) else (bif (decide ((c.toNat : Int) ≥ 48)) then (bif (decide ((c.toNat : Int) ≤ 57)) then true else ((c.toNat : Int) == 95)) else ((c.toNat : Int) == 95))))
theorem substLetter_says (c : UInt8)  : SaysT TX 291 [b8 c] (eB (substLetter c)) :=
  sy (e:=eB) (F:=c291) rfl fun sg=>gO 9<|dp 5 (fun h1=>gO 4<|dp 9 (fun h2=>gO 22<|en) (fun h2=>gO 3<|dp 12 (fun h3=>gO 5<|dp 17 (fun h4=>gO 14<|en) (fun h4=>gO 3<|dp 20 (fun h5=>gO 5<|dp 25 (fun h6=>gO 6<|en) (fun h6=>gO 6<|en)) (fun h5=>gO 11<|en))) (fun h3=>gO 8<|dp 20 (fun h7=>gO 5<|dp 25 (fun h8=>gO 6<|en) (fun h8=>gO 6<|en)) (fun h7=>gO 11<|en)))) (fun h1=>gO 7<|dp 12 (fun h9=>gO 5<|dp 17 (fun h10=>gO 14<|en) (fun h10=>gO 3<|dp 20 (fun h11=>gO 5<|dp 25 (fun h12=>gO 6<|en) (fun h12=>gO 6<|en)) (fun h11=>gO 11<|en))) (fun h9=>gO 8<|dp 20 (fun h13=>gO 5<|dp 25 (fun h14=>gO 6<|en) (fun h14=>gO 6<|en)) (fun h13=>gO 11<|en)))

def refLower (c : UInt8) : Bool:=(bif (decide ((c.toNat : Int) ≥ 97)) then (decide ((c.toNat : Int) ≤ 122)) else false)
theorem refLower_says (c : UInt8)  : SaysT TX 214 [b8 c] (eB (refLower c)) :=
  sy (e:=eB) (F:=c214) rfl fun sg=>gO 9<|dp 5 (fun h1=>gO 6<|en) (fun h1=>gO 6<|en)

def refUpper (c : UInt8) : Bool:=(bif (decide ((c.toNat : Int) ≥ 65)) then (decide ((c.toNat : Int) ≤ 90)) else false)
theorem refUpper_says (c : UInt8)  : SaysT TX 213 [b8 c] (eB (refUpper c)) :=
  sy (e:=eB) (F:=c213) rfl fun sg=>gO 9<|dp 5 (fun h1=>gO 6<|en) (fun h1=>gO 6<|en)

def refDigit (c : UInt8) : Bool:=(bif (decide ((c.toNat : Int) ≥ 48)) then (decide ((c.toNat : Int) ≤ 57)) else false)
theorem refDigit_says (c : UInt8)  : SaysT TX 274 [b8 c] (eB (refDigit c)) :=
  sy (e:=eB) (F:=c274) rfl fun sg=>gO 9<|dp 5 (fun h1=>gO 6<|en) (fun h1=>gO 6<|en)

def refInner (c : UInt8) : Bool:=(bif (refLower c) then true else (bif (refUpper c) then true else (bif (refDigit c) then true else ((c.toNat : Int) == 95))))
theorem refInner_says (c : UInt8)  : SaysT TX 215 [b8 c] (eB (refInner c)) :=
  sy (e:=eB) (F:=c215) rfl fun sg=>gO 7<|cl (refLower_says c)<|gO 1<|dc 5 (fun h1=>gO 14<|en) (fun h1=>gO 1<|cl (refUpper_says c)<|gO 2<|dc 9 (fun h2=>gO 10<|en) (fun h2=>gO 1<|cl (refDigit_says c)<|gO 2<|dc 13 (fun h3=>gO 6<|en) (fun h3=>gO 6<|en)))

def refIn (n : Int) (lo : Int) (hi : Int) : Bool:=(bif (decide (n ≥ lo)) then (decide (n ≤ hi)) else false)
theorem refIn_says (n : Int) (lo : Int) (hi : Int)  : SaysT TX 151 [eI n,eI lo,eI hi] (eB (refIn n lo hi)) :=
  sy (e:=eB) (F:=c151) rfl fun sg=>gO 10<|dp 10 (fun h1=>gO 7<|en) (fun h1=>gO 7<|en)

def valSymbol_l1 (b : Txt) (y1 : UInt8) : Nat → List UInt8 → Unit → Bool
  | i1,[],_=>true
  | i1,x2 :: xs3,_=>(bif (valSmall x2) then valSymbol_l1 b y1 (i1 + 1) xs3 () else (bif (valLarge x2) then valSymbol_l1 b y1 (i1 + 1) xs3 () else (bif (valDigit x2) then valSymbol_l1 b y1 (i1 + 1) xs3 () else (bif ((x2.toNat : Int) == 95) then valSymbol_l1 b y1 (i1 + 1) xs3 () else false))))
def valSymbol (b : Txt) : Bool:=(bif (decide ((b.length : Int) < 1)) then false else (bif (decide ((b.length : Int) > 24)) then false else (onS b[0]? (fun y1=>(bif (valSmall y1) then valSymbol_l1 b y1 0 b () else false)) default)))
theorem valSymbol_says (b : Txt) (h_b : b.length ≤ 140737488351232) : SaysT TX 241 [eS b] (eB (valSymbol b)) :=
  sy (e:=eB) (F:=c241) rfl fun sg=>gO 11<|dp 7 (fun h1=>gO 18<|en) (fun h1=>gO 5<|dp 12 (fun h2=>gO 13<|en) (fun h2=>gO 1<|ix (by (first | assumption | omega | (simp only [List.length_cons,List.length_nil,List.length_append,List.length_map];omega) | grind)) fun y1 h3=>cl (valSmall_says y1)<|gO 3<|dcn 17 (fun h4=>gO 10<|rg (β:=UInt8) (A:=Unit) (fun i1 _=>{ vals:=[(.str b),(.int .i64 (b.length : Int)),(.int .i64 (i1 : Int))],fr:=[],sg:=sg,wd:=0 }) (L:=b) (acc0:=()) (fn:=valSymbol_l1 b y1) (fun i1 x2 xs3 _ hd1 ih1=>have hlt1:=drop_lt hd1;have hx1:=drop_get hd1;gO 5<|dk 21 (lt_true hlt1)<|gO 13<|ixk hx1<|cl (valSmall_says x2)<|gO 2<|dcn 28 (fun h5=>gO 25<|kw 48 (congrArg (V.int .i64) (wrap_s hlt1 (by (first | assumption | omega | (simp only [List.length_cons,List.length_nil,List.length_append,List.length_map];omega) | grind))))<|gO 2<|nx (ih1 ())) (fun h5=>gO 2<|ixk hx1<|cl (valLarge_says x2)<|gO 3<|dcn 35 (fun h6=>gO 18<|kw 48 (congrArg (V.int .i64) (wrap_s hlt1 (by (first | assumption | omega | (simp only [List.length_cons,List.length_nil,List.length_append,List.length_map];omega) | grind))))<|gO 2<|nx (ih1 ())) (fun h6=>gO 2<|ixk hx1<|cl (valDigit_says x2)<|gO 3<|dcn 42 (fun h7=>gO 11<|kw 48 (congrArg (V.int .i64) (wrap_s hlt1 (by (first | assumption | omega | (simp only [List.length_cons,List.length_nil,List.length_append,List.length_map];omega) | grind))))<|gO 2<|nx (ih1 ())) (fun h7=>gO 2<|ixk hx1<|gO 3<|dqn 47 (fun h8=>gO 5<|kw 48 (congrArg (V.int .i64) (wrap_s hlt1 (by (first | assumption | omega | (simp only [List.length_cons,List.length_nil,List.length_append,List.length_map];omega) | grind))))<|gO 2<|nx (ih1 ())) (fun h8=>gO 11<|en))))) (fun i1 _ hd1=>have hge1:=drop_ge hd1;gO 5<|dk 21 (lt_false hge1)<|gO 10<|en)) (fun h4=>gO 7<|en)))

def valPlain_l1 (b : Txt) : Nat → List UInt8 → Unit → Bool
  | i1,[],_=>(decide ((b.length : Int) ≤ 60))
  | i1,x1 :: xs2,_=>(bif (decide ((x1.toNat : Int) < 32)) then false else (bif (decide ((x1.toNat : Int) > 126)) then false else valPlain_l1 b (i1 + 1) xs2 ()))
def valPlain (b : Txt) : Bool:=valPlain_l1 b 0 b ()
theorem valPlain_says (b : Txt) (h_b : b.length ≤ 140737488351232) : SaysT TX 242 [eS b] (eB (valPlain b)) :=
  sy (e:=eB) (F:=c242) rfl fun sg=>gO 12<|rg (β:=UInt8) (A:=Unit) (fun i1 _=>{ vals:=[(.str b),(.int .i64 (b.length : Int)),(.int .i64 (i1 : Int))],fr:=[],sg:=sg,wd:=0 }) (L:=b) (acc0:=()) (fn:=valPlain_l1 b) (fun i1 x1 xs2 _ hd1 ih1=>have hlt1:=drop_lt hd1;have hx1:=drop_get hd1;gO 5<|dk 7 (lt_true hlt1)<|gO 13<|ixk hx1<|gO 2<|dp 13 (fun h1=>gO 17<|en) (fun h1=>gO 2<|ixk hx1<|gO 3<|dp 18 (fun h2=>gO 11<|en) (fun h2=>gO 5<|kw 19 (congrArg (V.int .i64) (wrap_s hlt1 (by (first | assumption | omega | (simp only [List.length_cons,List.length_nil,List.length_append,List.length_map];omega) | grind))))<|gO 2<|nx (ih1 ())))) (fun i1 _ hd1=>have hge1:=drop_ge hd1;gO 5<|dk 7 (lt_false hge1)<|gO 13<|en)

def valCheck (v : Sp.Val) : Int:=(bif (v.kind == 1) then (bif (decide (v.n ≥ (-4611686018427387904))) then (bif (decide (v.n ≤ 4611686018427387904)) then (bif (v.s == ([] : Txt)) then 0 else 1) else 1) else 1) else (bif (v.kind == 2) then (bif (v.n == 0) then (bif (valSymbol v.s) then 0 else 1) else 1) else (bif (v.kind == 3) then (bif (v.n == 0) then (bif (valPlain v.s) then 0 else 1) else 1) else 1)))
theorem valCheck_says (v : Sp.Val) (ok_v : v.ok) : SaysT TX 170 [eVal v] (eI (valCheck v)) :=
  sy (e:=eI) (F:=c170) rfl fun sg=>gO 21<|dq 6 (fun h1=>gO 6<|dp 11 (fun h2=>gO 5<|dp 16 (fun h3=>gO 13<|dqn 42 (fun h4=>gO 7<|en) (fun h4=>gO 7<|en)) (fun h3=>gO 20<|en)) (fun h2=>gO 25<|en)) (fun h1=>gO 6<|dq 21 (fun h5=>gO 6<|dq 26 (fun h6=>gO 2<|cl (valSymbol_says v.s (by (first | assumption | omega | (simp only [List.length_cons,List.length_nil,List.length_append,List.length_map];omega) | grind)))<|gO 10<|dcn 42 (fun h7=>gO 7<|en) (fun h7=>gO 7<|en)) (fun h6=>gO 20<|en)) (fun h5=>gO 6<|dq 31 (fun h8=>gO 6<|dq 36 (fun h9=>gO 2<|cl (valPlain_says v.s (by (first | assumption | omega | (simp only [List.length_cons,List.length_nil,List.length_append,List.length_map];omega) | grind)))<|gO 10<|dcn 42 (fun h10=>gO 7<|en) (fun h10=>gO 7<|en)) (fun h9=>gO 20<|en)) (fun h8=>gO 16<|en)))

def substVar_l1 (b : Txt) (y1 : UInt8) : Nat → List UInt8 → Unit → Bool
  | i1,[],_=>true
  | i1,x2 :: xs3,_=>(bif (substLetter x2) then substVar_l1 b y1 (i1 + 1) xs3 () else false)
def substVar (b : Txt) : Bool:=(bif (decide ((b.length : Int) < 1)) then false else (bif (decide ((b.length : Int) > 24)) then false else (onS b[0]? (fun y1=>(bif (decide ((y1.toNat : Int) < 65)) then false else (bif (decide ((y1.toNat : Int) > 90)) then false else substVar_l1 b y1 0 b ()))) default)))
theorem substVar_says (b : Txt) (h_b : b.length ≤ 140737488351232) : SaysT TX 239 [eS b] (eB (substVar b)) :=
  sy (e:=eB) (F:=c239) rfl fun sg=>gO 11<|dp 7 (fun h1=>gO 22<|en) (fun h1=>gO 5<|dp 12 (fun h2=>gO 17<|en) (fun h2=>gO 1<|ix (by (first | assumption | omega | (simp only [List.length_cons,List.length_nil,List.length_append,List.length_map];omega) | grind)) fun y1 h3=>gO 3<|dp 17 (fun h4=>gO 12<|en) (fun h4=>gO 1<|ixk h3<|gO 3<|dp 21 (fun h5=>gO 7<|en) (fun h5=>gO 10<|rg (β:=UInt8) (A:=Unit) (fun i1 _=>{ vals:=[(.str b),(.int .i64 (b.length : Int)),(.int .i64 (i1 : Int))],fr:=[],sg:=sg,wd:=0 }) (L:=b) (acc0:=()) (fn:=substVar_l1 b y1) (fun i1 x2 xs3 _ hd1 ih1=>have hlt1:=drop_lt hd1;have hx1:=drop_get hd1;gO 5<|dk 25 (lt_true hlt1)<|gO 13<|ixk hx1<|cl (substLetter_says x2)<|gO 2<|dcn 31 (fun h6=>gO 5<|kw 32 (congrArg (V.int .i64) (wrap_s hlt1 (by (first | assumption | omega | (simp only [List.length_cons,List.length_nil,List.length_append,List.length_map];omega) | grind))))<|gO 2<|nx (ih1 ())) (fun h6=>gO 11<|en)) (fun i1 _ hd1=>have hge1:=drop_ge hd1;gO 5<|dk 25 (lt_false hge1)<|gO 10<|en)))))

def refWord_l1 (s : Txt) (large : Bool) (y1 : UInt8) : Nat → List UInt8 → Unit → Bool
  | i1,[],_=>true
  | i1,x2 :: xs3,_=>(bif (refInner x2) then refWord_l1 s large y1 (i1 + 1) xs3 () else false)
def refWord_l2 (s : Txt) (large : Bool) (y1 : UInt8) : Nat → List UInt8 → Unit → Bool
  | i2,[],_=>true
  | i2,x4 :: xs5,_=>(bif (refInner x4) then refWord_l2 s large y1 (i2 + 1) xs5 () else false)
def refWord (s : Txt) (large : Bool) : Bool:=(bif (refIn (s.length : Int) 1 24) then (onS s[0]? (fun y1=>(bif (large == (refUpper y1)) then (bif large then refWord_l1 s large y1 0 s () else (bif (refLower y1) then refWord_l2 s large y1 0 s () else false)) else false)) default) else false)
theorem refWord_says (s : Txt) (large : Bool) (h_s : s.length ≤ 140737488351232) : SaysT TX 148 [eS s,eB large] (eB (refWord s large)) :=
  sy (e:=eB) (F:=c148) rfl fun sg=>gO 9<|cl (refIn_says (s.length : Int) 1 24)<|gO 2<|dcn 10 (fun h1=>gO 2<|ix (by first | assumption | omega | (simp only [List.length_cons,List.length_nil,List.length_append,List.length_map];omega) | grind | ((simp [refIn] at *;omega))) fun y1 h2=>cl (refUpper_says y1)<|gO 3<|dcn 17 (fun h3=>gO 3<|dcn 20 (fun h4=>gO 15<|rg (β:=UInt8) (A:=Unit) (fun i1 _=>{ vals:=[(.str s),(.int .i64 (i1 : Int))],fr:=[],sg:=sg,wd:=0 }) (L:=s) (acc0:=()) (fn:=refWord_l1 s large y1) (fun i1 x2 xs3 _ hd1 ih1=>have hlt1:=drop_lt hd1;have hx1:=drop_get hd1;gO 8<|dk 30 (lt_true hlt1)<|gO 8<|ixk hx1<|cl (refInner_says x2)<|gO 2<|dcn 37 (fun h5=>gO 6<|kw 32 (congrArg (V.int .i64) (wrap_s hlt1 (by first | assumption | omega | (simp only [List.length_cons,List.length_nil,List.length_append,List.length_map];omega) | grind | ((simp [refIn] at *;omega)))))<|gO 2<|nx (ih1 ())) (fun h5=>gO 11<|en)) (fun i1 _ hd1=>have hge1:=drop_ge hd1;gO 8<|dk 30 (lt_false hge1)<|gO 10<|en)) (fun h4=>gO 1<|ixk h2<|cl (refLower_says y1)<|gO 4<|dcn 26 (fun h6=>gO 8<|rg (β:=UInt8) (A:=Unit) (fun i2 _=>{ vals:=[(.str s),(.int .i64 (i2 : Int))],fr:=[],sg:=sg,wd:=0 }) (L:=s) (acc0:=()) (fn:=refWord_l2 s large y1) (fun i2 x4 xs5 _ hd2 ih2=>have hlt2:=drop_lt hd2;have hx2:=drop_get hd2;gO 8<|dk 30 (lt_true hlt2)<|gO 8<|ixk hx2<|cl (refInner_says x4)<|gO 2<|dcn 37 (fun h7=>gO 6<|kw 32 (congrArg (V.int .i64) (wrap_s hlt2 (by first | assumption | omega | (simp only [List.length_cons,List.length_nil,List.length_append,List.length_map];omega) | grind | ((simp [refIn] at *;omega)))))<|gO 2<|nx (ih2 ())) (fun h7=>gO 11<|en)) (fun i2 _ hd2=>have hge2:=drop_ge hd2;gO 8<|dk 30 (lt_false hge2)<|gO 10<|en)) (fun h6=>gO 7<|en))) (fun h3=>gO 17<|en)) (fun h1=>gO 24<|en)

def refValue_l1 (v : Sp.Val) : Nat → List UInt8 → Unit → Bool
  | i1,[],_=>true
  | i1,x1 :: xs2,_=>(bif (refIn (IntKind.i64.wrap (x1.toNat : Int)) 32 126) then refValue_l1 v (i1 + 1) xs2 () else false)
def refValue (v : Sp.Val) : Bool:=(bif (v.kind == 1) then (bif (refIn v.n (-4611686018427387904) 4611686018427387904) then ((v.s.length : Int) == 0) else false) else (bif (v.kind == 2) then (bif (v.n == 0) then (refWord v.s false) else false) else (bif (v.kind == 3) then (bif (v.n == 0) then (bif (decide ((v.s.length : Int) > 60)) then false else refValue_l1 v 0 v.s ()) else false) else false)))
theorem refValue_says (v : Sp.Val) (ok_v : v.ok) : SaysT TX 152 [eVal v] (eB (refValue v)) :=
  sy (e:=eB) (F:=c152) rfl fun sg=>gO 17<|dq 6 (fun h1=>gO 5<|cl (refIn_says v.n (-4611686018427387904) 4611686018427387904)<|gO 1<|dc 11 (fun h2=>gO 10<|en) (fun h2=>gO 10<|en)) (fun h1=>gO 6<|dq 17 (fun h3=>gO 7<|dq 22 (fun h4=>gO 2<|cl (refWord_says v.s false (by (first | assumption | omega | (simp only [List.length_cons,List.length_nil,List.length_append,List.length_map];omega) | grind)))<|gO 6<|en) (fun h4=>gO 9<|en)) (fun h3=>gO 6<|dq 27 (fun h5=>gO 8<|dqn 32 (fun h6=>gO 6<|dp 37 (fun h7=>gO 9<|en) (fun h7=>gO 8<|rg (β:=UInt8) (A:=Unit) (fun i1 _=>{ vals:=[(.bp 0 0 0),(.int .i64 (i1 : Int))],fr:=[.box [(.int .i64 v.kind),(.int .i64 v.n),(.str v.s)]],sg:=sg,wd:=0 }) (L:=v.s) (acc0:=()) (fn:=refValue_l1 v) (fun i1 x1 xs2 _ hd1 ih1=>have hlt1:=drop_lt hd1;have hx1:=drop_get hd1;gO 9<|dk 42 (lt_true hlt1)<|gO 9<|ixk hx1<|gO 1<|cl (refIn_says (IntKind.i64.wrap (x1.toNat : Int)) 32 126)<|gO 2<|dcn 51 (fun h8=>gO 6<|kw 44 (congrArg (V.int .i64) (wrap_s hlt1 (by (first | assumption | omega | (simp only [List.length_cons,List.length_nil,List.length_append,List.length_map];omega) | grind))))<|gO 2<|nx (ih1 ())) (fun h8=>gO 13<|en)) (fun i1 _ hd1=>have hge1:=drop_ge hd1;gO 9<|dk 42 (lt_false hge1)<|gO 12<|en))) (fun h6=>gO 15<|en)) (fun h5=>gO 8<|en)))

def refWords  : (List Txt):=([([102,97,99,116] : Txt),([114,117,108,101] : Txt),([112,97,116,116,101,114,110] : Txt),([110,111,116] : Txt),([97,110,100] : Txt),([111,114] : Txt),([98,101,102,111,114,101] : Txt),([111,110,99,101] : Txt),([97,108,119,97,121,115] : Txt),([115,105,110,99,101] : Txt),([100,114,111,112] : Txt)] : (List Txt))
theorem refWords_says   : SaysT TX 149 [] ((eL 1 eS) (refWords)) :=
  sy (e:=(eL 1 eS)) (F:=c149) rfl fun sg=>gO 10<|en

def refName_l1 (s : Txt) : Nat → List Txt → Unit → Bool
  | i1,[],_=>true
  | i1,x1 :: xs2,_=>(bif (x1 == s) then false else refName_l1 s (i1 + 1) xs2 ())
def refName (s : Txt) : Bool:=(bif (refWord s false) then refName_l1 s 0 (refWords) () else false)
theorem refName_says (s : Txt) (h_s : s.length ≤ 140737488351232) : SaysT TX 87 [eS s] (eB (refName s)) :=
  sy (e:=eB) (F:=c87) rfl fun sg=>gO 8<|cl (refWord_says s false (by first | assumption | omega | (simp only [List.length_cons,List.length_nil,List.length_append,List.length_map];omega) | grind | ((simp [refWords]))))<|gO 2<|dcn 7 (fun h1=>gO 4<|cl (refWords_says )<|gO 8<|rg (β:=Txt) (A:=Unit) (fun i1 _=>{ vals:=[(.str s),(.sl .no 1 ((refWords).map eS)),(.int .i64 (i1 : Int))],fr:=[],sg:=sg,wd:=0 }) (L:=(refWords)) (acc0:=()) (fn:=refName_l1 s) (fun i1 x1 xs2 _ hd1 ih1=>have hlt1:=drop_lt hd1;have hx1:=drop_get hd1;gO 6<|kw 11 (len_map eS (refWords))<|gO 2<|dk 12 (lt_true hlt1)<|gO 8<|iak eS hx1<|gO 4<|dq 20 (fun h2=>gO 11<|en) (fun h2=>gO 6<|kw 14 (congrArg (V.int .i64) (wrap_s hlt1 (by first | assumption | omega | (simp only [List.length_cons,List.length_nil,List.length_append,List.length_map];omega) | grind | ((simp [refWords])))))<|gO 2<|nx (ih1 ()))) (fun i1 _ hd1=>have hge1:=drop_ge hd1;gO 6<|kw 11 (len_map eS (refWords))<|gO 2<|dk 12 (lt_false hge1)<|gO 10<|en)) (fun h1=>gO 7<|en)

def refTerm (t : Sp.Term) : Bool:=(bif (decide ((t.var.length : Int) > 0)) then (bif (refWord t.var true) then ((t.val.kind == 0) && ((t.val.n == 0) && ((t.val.s == ([] : Txt)) && true))) else false) else (refValue t.val))
theorem refTerm_says (t : Sp.Term) (ok_t : t.ok) : SaysT TX 96 [eTerm t] (eB (refTerm t)) :=
  sy (e:=eB) (F:=c96) rfl fun sg=>gO 13<|dp 6 (fun h1=>gO 5<|cl (refWord_says t.var true (by (first | assumption | omega | (simp only [List.length_cons,List.length_nil,List.length_append,List.length_map];omega) | grind)))<|gO 1<|dc 10 (fun h2=>gO 9<|en) (fun h2=>gO 9<|en)) (fun h1=>gO 6<|cl (refValue_says t.val (by (first | assumption | omega | (simp only [List.length_cons,List.length_nil,List.length_append,List.length_map];omega) | grind)))<|gO 3<|en)

def refAtom_l1 (a : Sp.Atom) : Nat → List Sp.Term → Unit → Bool
  | i1,[],_=>true
  | i1,x1 :: xs2,_=>(bif (refTerm x1) then refAtom_l1 a (i1 + 1) xs2 () else false)
def refAtom (a : Sp.Atom) : Bool:=(bif (refName a.name) then (bif (decide ((a.args.length : Int) > 5)) then false else refAtom_l1 a 0 a.args ()) else false)
theorem refAtom_says (a : Sp.Atom) (ok_a : a.ok) : SaysT TX 39 [eAtom a] (eB (refAtom a)) :=
  sy (e:=eB) (F:=c39) rfl fun sg=>gO 10<|cl (refName_says a.name (by (first | assumption | omega | (simp only [List.length_cons,List.length_nil,List.length_append,List.length_map];omega) | grind)))<|gO 2<|dcn 8 (fun h1=>gO 3<|kw 11 (len_map eTerm a.args)<|gO 3<|dp 13 (fun h2=>gO 7<|en) (fun h2=>gO 8<|rg (β:=Sp.Term) (A:=Unit) (fun i1 _=>{ vals:=[(.bp 0 0 0),(.int .i64 (i1 : Int))],fr:=[.box [(.str a.name),(.sl .no 4 (a.args.map eTerm))]],sg:=sg,wd:=0 }) (L:=a.args) (acc0:=()) (fn:=refAtom_l1 a) (fun i1 x1 xs2 _ hd1 ih1=>have hlt1:=drop_lt hd1;have hx1:=drop_get hd1;gO 7<|kw 17 (len_map eTerm a.args)<|gO 2<|dk 18 (lt_true hlt1)<|gO 9<|iak eTerm hx1<|gO 1<|cl (refTerm_says x1 (by (first | assumption | omega | (simp only [List.length_cons,List.length_nil,List.length_append,List.length_map];omega) | grind)))<|gO 2<|dcn 27 (fun h3=>gO 6<|kw 20 (congrArg (V.int .i64) (wrap_s hlt1 (by (first | assumption | omega | (simp only [List.length_cons,List.length_nil,List.length_append,List.length_map];omega) | grind))))<|gO 2<|nx (ih1 ())) (fun h3=>gO 11<|en)) (fun i1 _ hd1=>have hge1:=drop_ge hd1;gO 7<|kw 17 (len_map eTerm a.args)<|gO 2<|dk 18 (lt_false hge1)<|gO 10<|en))) (fun h1=>gO 13<|en)

def matchTerm (t : Sp.Term) : Bool:=(bif (t.var == ([] : Txt)) then ((valCheck t.val) == 0) else (bif (substVar t.var) then ((t.val.kind == 0) && ((t.val.n == 0) && ((t.val.s == ([] : Txt)) && true))) else false))
theorem matchTerm_says (t : Sp.Term) (ok_t : t.ok) : SaysT TX 167 [eTerm t] (eB (matchTerm t)) :=
  sy (e:=eB) (F:=c167) rfl fun sg=>gO 12<|dq 5 (fun h1=>gO 5<|cl (valCheck_says t.val (by (first | assumption | omega | (simp only [List.length_cons,List.length_nil,List.length_append,List.length_map];omega) | grind)))<|gO 5<|en) (fun h1=>gO 6<|cl (substVar_says t.var (by (first | assumption | omega | (simp only [List.length_cons,List.length_nil,List.length_append,List.length_map];omega) | grind)))<|gO 1<|dc 13 (fun h2=>gO 8<|en) (fun h2=>gO 8<|en))

def indexTxt_l1 (l : (List Txt)) (v : Txt) : Nat → List Txt → Unit → Int
  | i1,[],_=>(-1)
  | i1,x1 :: xs2,_=>(bif (v == x1) then (i1 : Int) else indexTxt_l1 l v (i1 + 1) xs2 ())
def indexTxt (l : (List Txt)) (v : Txt) : Int:=indexTxt_l1 l v 0 l ()
theorem indexTxt_says (l : (List Txt)) (v : Txt) (h_l : l.length ≤ 140737488351232) : SaysT TX 162 [(eL 1 eS) l,eS v] (eI (indexTxt l v)) :=
  sy (e:=eI) (F:=c162) rfl fun sg=>gO 9<|kw 7 (len_map eS l)<|gO 3<|rg (β:=Txt) (A:=Unit) (fun i1 _=>{ vals:=[(.sl .no 1 (l.map eS)),(.str v),(.int .i64 (l.length : Int)),(.int .i64 (i1 : Int))],fr:=[],sg:=sg,wd:=0 }) (L:=l) (acc0:=()) (fn:=indexTxt_l1 l v) (fun i1 x1 xs2 _ hd1 ih1=>have hlt1:=drop_lt hd1;have hx1:=drop_get hd1;gO 5<|dk 9 (lt_true hlt1)<|gO 14<|iak eS hx1<|gO 3<|dq 16 (fun h1=>gO 12<|en) (fun h1=>gO 5<|kw 18 (congrArg (V.int .i64) (wrap_s hlt1 (by (first | assumption | omega | (simp only [List.length_cons,List.length_nil,List.length_append,List.length_map];omega) | grind))))<|gO 2<|nx (ih1 ()))) (fun i1 _ hd1=>have hge1:=drop_ge hd1;gO 5<|dk 9 (lt_false hge1)<|gO 10<|en)

def containsTxt (l : (List Txt)) (v : Txt) : Bool:=(decide ((indexTxt l v) ≥ 0))
theorem containsTxt_says (l : (List Txt)) (v : Txt) (h_l : l.length ≤ 140737488351232) : SaysT TX 99 [(eL 1 eS) l,eS v] (eB (containsTxt l v)) :=
  sy (e:=eB) (F:=c99) rfl fun sg=>gO 8<|cl (indexTxt_says l v (by (first | assumption | omega | (simp only [List.length_cons,List.length_nil,List.length_append,List.length_map];omega) | grind)))<|gO 4<|en

def factWord (b : Txt) : Bool:=(containsTxt ([([102,97,99,116] : Txt),([114,117,108,101] : Txt),([112,97,116,116,101,114,110] : Txt),([110,111,116] : Txt),([97,110,100] : Txt),([111,114] : Txt),([98,101,102,111,114,101] : Txt),([111,110,99,101] : Txt),([97,108,119,97,121,115] : Txt),([115,105,110,99,101] : Txt),([100,114,111,112] : Txt)] : (List Txt)) b)
theorem factWord_says (b : Txt)  : SaysT TX 184 [eS b] (eB (factWord b)) :=
  sy (e:=eB) (F:=c184) rfl fun sg=>gO 8<|cl (containsTxt_says ([([102,97,99,116] : Txt),([114,117,108,101] : Txt),([112,97,116,116,101,114,110] : Txt),([110,111,116] : Txt),([97,110,100] : Txt),([111,114] : Txt),([98,101,102,111,114,101] : Txt),([111,110,99,101] : Txt),([97,108,119,97,121,115] : Txt),([115,105,110,99,101] : Txt),([100,114,111,112] : Txt)] : (List Txt)) b (by (first | assumption | omega | (simp only [List.length_cons,List.length_nil,List.length_append,List.length_map];omega) | grind)))<|gO 3<|en

def factName (b : Txt) : Bool:=(bif ((valCheck (⟨2,0,b⟩ : Sp.Val)) == 0) then (!(factWord b)) else false)
theorem factName_says (b : Txt) (h_b : b.length ≤ 140737488351232) : SaysT TX 118 [eS b] (eB (factName b)) :=
  sy (e:=eB) (F:=c118) rfl fun sg=>gO 8<|cl (valCheck_says (⟨2,0,b⟩ : Sp.Val) (by first | assumption | omega | (simp only [List.length_cons,List.length_nil,List.length_append,List.length_map];omega) | grind | ((simp [Val.ok,i64ok];omega))))<|gO 2<|dq 7 (fun h1=>gO 1<|cl (factWord_says b)<|gO 5<|en) (fun h1=>gO 7<|en)

def indexTerm_l1 (l : (List Sp.Term)) (p : Sp.Term → Bool) : Nat → List Sp.Term → Unit → Int
  | i1,[],_=>(-1)
  | i1,x1 :: xs2,_=>(bif (p x1) then (i1 : Int) else indexTerm_l1 l p (i1 + 1) xs2 ())
def indexTerm (l : (List Sp.Term)) (p : Sp.Term → Bool) : Int:=indexTerm_l1 l p 0 l ()
theorem indexTerm_in {sg : List Fr} {g_p : FuncId} {a_p b_p : List V} (l : (List Sp.Term)) (p : Sp.Term → Bool) (h_l : l.length ≤ 140737488351232) (hp_p : ∀ x,x ∈ l → ∀ f0 : Fr,TX.call g_p ((a_p ++ [eTerm x] ++ b_p).map (argV (TX.C.keepA g_p))) (f0 :: sg) = some (eB (p x),f0 :: sg,0)) : TX.call 160 [(eL 4 eTerm) l,.fn g_p a_p b_p] sg = some (eI (indexTerm l p),sg,0) :=
  sx (e:=fun r=>(eI r,sg,0)) (F:=c160) rfl<|gO 9<|kw 7 (len_map eTerm l)<|gO 3<|rg (β:=Sp.Term) (A:=Unit) (fun i1 _=>{ vals:=[(.sl .no 4 (l.map eTerm)),(.fn g_p a_p b_p),(.int .i64 (l.length : Int)),(.int .i64 (i1 : Int))],fr:=[],sg:=sg,wd:=0 }) (L:=l) (acc0:=()) (fn:=indexTerm_l1 l p) (fun i1 x1 xs2 _ hd1 ih1=>have hlt1:=drop_lt hd1;have hx1:=drop_get hd1;gO 5<|dk 9 (lt_true hlt1)<|gO 14<|iak eTerm hx1<|gO 1<|cli (hp_p x1 (List.mem_of_getElem? hx1) _)<|gO 1<|dc 16 (fun h1=>gO 12<|en) (fun h1=>gO 5<|kw 18 (congrArg (V.int .i64) (wrap_s hlt1 (by (first | assumption | omega | (simp only [List.length_cons,List.length_nil,List.length_append,List.length_map];omega) | grind))))<|gO 2<|nx (ih1 ()))) (fun i1 _ hd1=>have hge1:=drop_ge hd1;gO 5<|dk 9 (lt_false hge1)<|gO 10<|en)

def containsTerm (l : (List Sp.Term)) (p : Sp.Term → Bool) : Bool:=(decide ((indexTerm l p) ≥ 0))
theorem containsTerm_in {sg : List Fr} {g_p : FuncId} {a_p b_p : List V} (l : (List Sp.Term)) (p : Sp.Term → Bool) (h_l : l.length ≤ 140737488351232) (hp_p : ∀ x,x ∈ l → ∀ f0 f1 : Fr,TX.call g_p (((a_p.map (sh0 1)) ++ [eTerm x] ++ (b_p.map (sh0 1))).map (argV (TX.C.keepA g_p))) (f1 :: f0 :: sg) = some (eB (p x),f1 :: f0 :: sg,0)) : TX.call 165 [(eL 4 eTerm) l,.fn g_p a_p b_p] sg = some (eB (containsTerm l p),sg,0) :=
  sx (e:=fun r=>(eB r,sg,0)) (F:=c165) rfl<|gO 8<|cli (indexTerm_in (g_p:=g_p) (a_p:=a_p.map (sh0 1)) (b_p:=b_p.map (sh0 1)) l p (by (first | assumption | omega | (simp only [List.length_cons,List.length_nil,List.length_append,List.length_map];omega) | grind)) (fun x hm f0_=>hp_p x hm _ f0_))<|gO 4<|en

def matchCheck1 (t : Sp.Term) : Bool:=(!(matchTerm t))
theorem matchCheck1_says (t : Sp.Term) (ok_t : t.ok) : SaysT TX 166 [eTerm t] (eB (matchCheck1 t)) :=
  sy (e:=eB) (F:=c166) rfl fun sg=>gO 8<|cl (matchTerm_says t (by (first | assumption | omega | (simp only [List.length_cons,List.length_nil,List.length_append,List.length_map];omega) | grind)))<|gO 4<|en

def matchCheck (a : Sp.Atom) : Int:=(bif (factName a.name) then (bif (decide ((a.args.length : Int) > 5)) then 1 else (bif (containsTerm a.args (fun x=>matchCheck1 x)) then 1 else 0)) else 1)
theorem matchCheck_says (a : Sp.Atom) (ok_a : a.ok) : SaysT TX 105 [eAtom a] (eI (matchCheck a)) :=
  sy (e:=eI) (F:=c105) rfl fun sg=>gO 10<|cl (factName_says a.name (by (first | assumption | omega | (simp only [List.length_cons,List.length_nil,List.length_append,List.length_map];omega) | grind)))<|gO 2<|dcn 7 (fun h1=>gO 3<|kw 10 (len_map eTerm a.args)<|gO 3<|dp 13 (fun h2=>gO 12<|en) (fun h2=>gO 2<|cli (containsTerm_in (g_p:=166) (a_p:=[]) (b_p:=[]) a.args (fun x=>matchCheck1 x) (by (first | assumption | omega | (simp only [List.length_cons,List.length_nil,List.length_append,List.length_map];omega) | grind)) (fun x hm f0_ f1_=>matchCheck1_says x (by first | (first | assumption | omega | (simp only [List.length_cons,List.length_nil,List.length_append,List.length_map];omega) | grind) | (omega)) _))<|gO 2<|dc 17 (fun h3=>gO 7<|en) (fun h3=>gO 7<|en))) (fun h1=>gO 18<|en)

def heavyAtom_l1 (a : Sp.Atom) : Nat → List Sp.Term → Unit → Bool
  | i1,[],_=>false
  | i1,x1 :: xs2,_=>(bif (decide ((x1.var.length : Int) > 200)) then true else (bif (decide ((x1.val.s.length : Int) > 200)) then true else heavyAtom_l1 a (i1 + 1) xs2 ()))
def heavyAtom (a : Sp.Atom) : Bool:=(bif (decide ((a.name.length : Int) > 200)) then true else (bif (decide ((a.args.length : Int) > 20)) then true else heavyAtom_l1 a 0 a.args ()))
theorem heavyAtom_says (a : Sp.Atom) (ok_a : a.ok) : SaysT TX 38 [eAtom a] (eB (heavyAtom a)) :=
  sy (e:=eB) (F:=c38) rfl fun sg=>gO 13<|dp 8 (fun h1=>gO 13<|en) (fun h1=>gO 3<|kw 11 (len_map eTerm a.args)<|gO 3<|dp 13 (fun h2=>gO 7<|en) (fun h2=>gO 8<|rg (β:=Sp.Term) (A:=Unit) (fun i1 _=>{ vals:=[(.bp 0 0 0),(.int .i64 (i1 : Int))],fr:=[.box [(.str a.name),(.sl .no 4 (a.args.map eTerm))]],sg:=sg,wd:=0 }) (L:=a.args) (acc0:=()) (fn:=heavyAtom_l1 a) (fun i1 x1 xs2 _ hd1 ih1=>have hlt1:=drop_lt hd1;have hx1:=drop_get hd1;gO 7<|kw 17 (len_map eTerm a.args)<|gO 2<|dk 18 (lt_true hlt1)<|gO 9<|iak eTerm hx1<|gO 5<|dp 29 (fun h3=>gO 22<|en) (fun h3=>gO 3<|iak eTerm hx1<|gO 7<|dp 39 (fun h4=>gO 11<|en) (fun h4=>gO 6<|kw 20 (congrArg (V.int .i64) (wrap_s hlt1 (by (first | assumption | omega | (simp only [List.length_cons,List.length_nil,List.length_append,List.length_map];omega) | grind))))<|gO 2<|nx (ih1 ())))) (fun i1 _ hd1=>have hge1:=drop_ge hd1;gO 7<|kw 17 (len_map eTerm a.args)<|gO 2<|dk 18 (lt_false hge1)<|gO 10<|en)))

end Go.Vm

/- What functions of the program answer. Printed by spec2.py. -/
namespace Go.Vm
open Go Go.Sp
set_option maxRecDepth 100000
set_option maxHeartbeats 4000000

def insBind_l2 (data : (List Sp.Bind)) (a : Int) (b : Int) (cmp : Sp.Bind → Sp.Bind → Int) (a1_0 : Int) (a1_1 : (List Sp.Bind)) (q1 : Nat) (rec1 : (Int × (List Sp.Bind) → (List Sp.Bind))) : Nat → Int × (List Sp.Bind) → (List Sp.Bind)
  | 0,_=>default
  | q2 + 1,⟨a2_0,a2_1⟩=>(bif (decide (a2_0 > a)) then (onS a2_1[a2_0.toNat]? (fun y1=>(onS a2_1[(a2_0 - 1).toNat]? (fun y2=>(bif (decide ((cmp y1 y2) < 0)) then (onS (a2_1.set a2_0.toNat y2)[(a2_0 - 1).toNat]? (fun y4=>insBind_l2 data a b cmp a1_0 a1_1 q1 rec1 q2 ((a2_0 - 1),((a2_1.set a2_0.toNat y2).set ((a2_0 - 1).toNat) y1))) default) else rec1 ((a1_0 + 1),a2_1))) default)) default) else rec1 ((a1_0 + 1),a2_1))
def insBind_l1 (data : (List Sp.Bind)) (a : Int) (b : Int) (cmp : Sp.Bind → Sp.Bind → Int) : Nat → Int × (List Sp.Bind) → (List Sp.Bind)
  | 0,_=>default
  | q1 + 1,⟨a1_0,a1_1⟩=>(bif (decide (a1_0 < b)) then insBind_l2 data a b cmp a1_0 a1_1 q1 (fun acc=>insBind_l1 data a b cmp q1 acc) (data.length + 1) (a1_0,a1_1) else a1_1)
def insBind (data : (List Sp.Bind)) (a : Int) (b : Int) (cmp : Sp.Bind → Sp.Bind → Int) : (List Sp.Bind):=insBind_l1 data a b cmp (data.length + 1) ((a + 1),data)
theorem insBind_w (data : (List Sp.Bind)) (a : Int) (b : Int) (cmp : Sp.Bind → Sp.Bind → Int) {sg : List Fr} {W : Nat} {d_data i_data v_data n_data : Nat} {g_cmp : FuncId} {P_cmp : Sp.Bind → Prop} (hp_data : Plc sg d_data i_data) (hn_data : data.length = n_data) (hW_data : d_data + 1 ≤ W) (hp_cmp : ∀ x x1 : Sp.Bind,P_cmp x → P_cmp x1 → ∀ sg : List Fr,TX.call g_cmp ([eBind x,eBind x1].map (argV (TX.C.keepA g_cmp))) sg = some (eI (cmp x x1),sg,0)) (okP : ∀ x ∈ data,P_cmp x) (ha : 0 ≤ a) (hab : a ≤ b) (hb : b ≤ data.length) (hl : data.length ≤ 1000000) : (fun (r : (List Sp.Bind))=>∃ w,w ≤ W ∧ TX.call 322 [.bs (d_data + 1) i_data v_data 0 n_data,eI a,eI b,.fn g_cmp [] []] (upB sg d_data i_data (.arr v_data 4 (data.map eBind))) = some ((.tup []),(upB sg d_data i_data (.arr v_data 4 (r.map eBind))),w)) (insBind data a b cmp):=by
  subst hn_data;
  exact sxw (e:=fun (r : (List Sp.Bind))=>(((.tup []),(upB sg d_data i_data (.arr v_data 4 (r.map eBind))),W) : V × List Fr × Nat)) (F:=c322) rfl<|gO 4<|kw 11 (congrArg (V.int .i64) (wrap_id (n:=a + 1) (by omega) (by omega)))<|gO 3<|lp (A:=(Int × (List Sp.Bind)) × Nat) (fun ⟨⟨a1_0,a1_1⟩,w1⟩=>(a + 1 ≤ a1_0 ∧ a1_0 ≤ data.length + 1 ∧ a1_1.length = data.length ∧ (∀ x ∈ a1_1,P_cmp x)) ∧ w1 ≤ W) (fun ⟨⟨a1_0,a1_1⟩,_⟩=>(b - a1_0).toNat) (fun (acc : (Int × (List Sp.Bind)) × Nat)=>{ vals:=[(.bs (d_data + 1) i_data v_data 0 data.length),(.int .i64 a),(.int .i64 b),(.fn g_cmp [] []),(.int .i64 acc.1.1)],fr:=[],sg:=(upB sg d_data i_data (.arr v_data 4 (acc.1.2.map eBind))),wd:=acc.2 }) (acc0:=(((a + 1),data),0)) (fn:=fun q p=>insBind_l1 data a b cmp q p.1) (q:=data.length + 1) (And.intro (by exact ⟨by omega,by omega,rfl,okP⟩) (Nat.zero_le _)) (by (try dsimp only);first | omega | (simp only [List.length_set];omega)) (fun q1 ⟨⟨a1_0,a1_1⟩,w1⟩ hi1 hm1 ih1=>have hb1 : (a + 1 ≤ a1_0 ∧ a1_0 ≤ data.length + 1 ∧ a1_1.length = data.length ∧ (∀ x ∈ a1_1,P_cmp x)) ∧ w1 ≤ W:=hi1;have hi1:=hb1.1;have hw1:=hb1.2;have hm1 : (b - a1_0).toNat < q1 + 1:=hm1;gO 7<|dp 14 (fun h1=>gO 10<|lp (A:=(Int × (List Sp.Bind)) × Nat) (fun ⟨⟨a2_0,a2_1⟩,w2⟩=>(a ≤ a2_0 ∧ a2_0 < b ∧ a2_1.length = data.length ∧ (∀ x ∈ a2_1,P_cmp x)) ∧ w2 ≤ W) (fun ⟨⟨a2_0,a2_1⟩,_⟩=>(a2_0 - a).toNat) (fun (acc : (Int × (List Sp.Bind)) × Nat)=>{ vals:=[(.bs (d_data + 1) i_data v_data 0 data.length),(.int .i64 a),(.int .i64 b),(.fn g_cmp [] []),(.int .i64 a1_0),(.int .i64 acc.1.1)],fr:=[],sg:=(upB sg d_data i_data (.arr v_data 4 (acc.1.2.map eBind))),wd:=acc.2 }) (acc0:=((a1_0,a1_1),w1)) (fn:=fun q p=>insBind_l2 data a b cmp a1_0 a1_1 q1 (fun acc=>insBind_l1 data a b cmp q1 acc) q p.1) (q:=data.length + 1) (And.intro (by exact ⟨by omega,by omega,hi1.2.2.1,hi1.2.2.2⟩) hw1) (by (try dsimp only);first | omega | (simp only [List.length_set];omega)) (fun q2 ⟨⟨a2_0,a2_1⟩,w2⟩ hi2 hm2 ih2=>have hb2 : (a ≤ a2_0 ∧ a2_0 < b ∧ a2_1.length = data.length ∧ (∀ x ∈ a2_1,P_cmp x)) ∧ w2 ≤ W:=hi2;have hi2:=hb2.1;have hw2:=hb2.2;have hm2 : (a2_0 - a).toNat < q2 + 1:=hm2;gO 7<|dp 21 (fun h2=>gO 3<|kw 24 (toNat_v (n:=a2_0) (by first | omega | (simp only [List.length_set];omega)))<|iauz (n:=a2_0.toNat) (len:=data.length) (b:=i_data) (ver:=v_data) (z:=4) (es:=a2_1.map eBind) (get_up hp_data) (by first | omega | (simp only [List.length_set];omega))<|elx (by first | omega | (simp only [List.length_set];omega)) fun y1 h3=>ldu (ag:=true) (sz:=4) (ver:=v_data) (z:=4) (j:=a2_0.toNat) (o:=0) (en:=eBind) (L:=a2_1) (y:=y1) (v:=(.agg [(.str y1.var),(.int .i64 y1.val.kind),(.int .i64 y1.val.n),(.str y1.val.s)])) (get_up hp_data) h3 (by kernel_rfl)<|gO 3<|kw 29 (congrArg (V.int .i64) (wrap_id (n:=a2_0 - 1) (by omega) (by omega)))<|kw 29 (toNat_v (n:=(a2_0 - 1)) (by first | omega | (simp only [List.length_set];omega)))<|iauz (n:=(a2_0 - 1).toNat) (len:=data.length) (b:=i_data) (ver:=v_data) (z:=4) (es:=a2_1.map eBind) (get_up hp_data) (by first | omega | (simp only [List.length_set];omega))<|elx (by first | omega | (simp only [List.length_set];omega)) fun y2 h4=>ldu (ag:=true) (sz:=4) (ver:=v_data) (z:=4) (j:=(a2_0 - 1).toNat) (o:=0) (en:=eBind) (L:=a2_1) (y:=y2) (v:=(.agg [(.str y2.var),(.int .i64 y2.val.kind),(.int .i64 y2.val.n),(.str y2.val.s)])) (get_up hp_data) h4 (by kernel_rfl)<|clim (hp_cmp y1 y2 (by exact hi2.2.2.2 _ (List.mem_of_getElem? (by assumption))) (by exact hi2.2.2.2 _ (List.mem_of_getElem? (by assumption))) _)<|gO 3<|dp 34 (fun h5=>gO 10<|kw 41 (congrArg (V.int .i64) (wrap_id (n:=a2_0 - 1) (by omega) (by omega)))<|gO 3<|kw 44 (congrArg (V.int .i64) (wrap_id (n:=a2_0 - 1) (by omega) (by omega)))<|kw 44 (toNat_v (n:=(a2_0 - 1)) (by first | omega | (simp only [List.length_set];omega)))<|iauz (n:=(a2_0 - 1).toNat) (len:=data.length) (b:=i_data) (ver:=v_data) (z:=4) (es:=a2_1.map eBind) (get_up hp_data) (by first | omega | (simp only [List.length_set];omega))<|ldu (ag:=true) (sz:=4) (ver:=v_data) (z:=4) (j:=(a2_0 - 1).toNat) (o:=0) (en:=eBind) (L:=a2_1) (y:=y2) (v:=(.agg [(.str y2.var),(.int .i64 y2.val.kind),(.int .i64 y2.val.n),(.str y2.val.s)])) (get_up hp_data) h4 (by kernel_rfl)<|gO 2<|kw 48 (toNat_v (n:=a2_0) (by first | omega | (simp only [List.length_set];omega)))<|iauz (n:=a2_0.toNat) (len:=data.length) (b:=i_data) (ver:=v_data) (z:=4) (es:=a2_1.map eBind) (get_up hp_data) (by first | omega | (simp only [List.length_set];omega))<|ldu (ag:=true) (sz:=4) (ver:=v_data) (z:=4) (j:=a2_0.toNat) (o:=0) (en:=eBind) (L:=a2_1) (y:=y1) (v:=(.agg [(.str y1.var),(.int .i64 y1.val.kind),(.int .i64 y1.val.n),(.str y1.val.s)])) (get_up hp_data) h3 (by kernel_rfl)<|kw 38 (toNat_v (n:=a2_0) (by first | omega | (simp only [List.length_set];omega)))<|iauz (n:=a2_0.toNat) (len:=data.length) (b:=i_data) (ver:=v_data) (z:=4) (es:=a2_1.map eBind) (get_up hp_data) (by first | omega | (simp only [List.length_set];omega))<|smu (re:=[]) (ag:=true) (sz:=4) (ver:=v_data) (z:=4) (j:=a2_0.toNat) (o:=0) (v:=(.agg [(.str y2.var),(.int .i64 y2.val.kind),(.int .i64 y2.val.n),(.str y2.val.s)])) (en:=eBind) (L:=a2_1) (y:=y1) (y':=y2) (cs:=[(.str y2.var),(.int .i64 y2.val.kind),(.int .i64 y2.val.n),(.str y2.val.s)]) (w:=w2) (W:=W) (get_up hp_data) (up_up _ _ _ _ _) h3 (by kernel_rfl) (by kernel_rfl) (by kernel_rfl) hw2 hW_data (fun w_3 hw_3=>trivial) fun w_3 hw_3=>kw 41 (toNat_v (n:=(a2_0 - 1)) (by first | omega | (simp only [List.length_set];omega)))<|iauz (n:=(a2_0 - 1).toNat) (len:=data.length) (b:=i_data) (ver:=v_data) (z:=4) (es:=(a2_1.set a2_0.toNat y2).map eBind) (get_up hp_data) (by first | omega | (simp only [List.length_set];omega))<|elx (by first | omega | (simp only [List.length_set];omega)) fun y4 h6=>smu (re:=[]) (ag:=true) (sz:=4) (ver:=v_data) (z:=4) (j:=(a2_0 - 1).toNat) (o:=0) (v:=(.agg [(.str y1.var),(.int .i64 y1.val.kind),(.int .i64 y1.val.n),(.str y1.val.s)])) (en:=eBind) (L:=(a2_1.set a2_0.toNat y2)) (y:=y4) (y':=y1) (cs:=[(.str y1.var),(.int .i64 y1.val.kind),(.int .i64 y1.val.n),(.str y1.val.s)]) (w:=w_3) (W:=W) (get_up hp_data) (up_up _ _ _ _ _) h6 (by kernel_rfl) (by kernel_rfl) (by kernel_rfl) hw_3 hW_data (fun w_5 hw_5=>trivial) fun w_5 hw_5=>gO 5<|kw 36 (congrArg (V.int .i64) (wrap_id (n:=a2_0 - 1) (by omega) (by omega)))<|gO 2<|nx (ih2 (((a2_0 - 1),((a2_1.set a2_0.toNat y2).set ((a2_0 - 1).toNat) y1)),w_5) (And.intro (by exact ⟨by omega,by omega,by (simp only [List.length_set];omega),all_set (all_set hi2.2.2.2 (hi2.2.2.2 _ (List.mem_of_getElem? (by assumption)))) (hi2.2.2.2 _ (List.mem_of_getElem? (by assumption)))⟩) hw_5) (by (try dsimp only);first | omega | (simp only [List.length_set];omega)))) (fun h5=>gO 9<|kw 16 (congrArg (V.int .i64) (wrap_id (n:=a1_0 + 1) (by omega) (by omega)))<|gO 2<|nx (ih1 (((a1_0 + 1),a2_1),w2) (And.intro (by exact ⟨by omega,by omega,hi2.2.2.1,hi2.2.2.2⟩) hw2) (by (try dsimp only);first | omega | (simp only [List.length_set];omega))))) (fun h2=>gO 23<|kw 16 (congrArg (V.int .i64) (wrap_id (n:=a1_0 + 1) (by omega) (by omega)))<|gO 2<|nx (ih1 (((a1_0 + 1),a2_1),w2) (And.intro (by exact ⟨by omega,by omega,hi2.2.2.1,hi2.2.2.2⟩) hw2) (by (try dsimp only);first | omega | (simp only [List.length_set];omega)))))) (fun h1=>gO 5<|enw (w:=w1) hw1))

def compactBind_l2 (s : (List Sp.Bind)) (a1_0 : Int) (q1 : Nat) (y1 : Sp.Bind) (y2 : Sp.Bind) (rec1 : (Int → Nat × (List Sp.Bind))) : Nat → Int × Int × (List Sp.Bind) → Nat × (List Sp.Bind)
  | 0,_=>default
  | q2 + 1,⟨a2_0,a2_1,a2_2⟩=>(bif (decide (a2_1 < (((s.length - a1_0.toNat) : Nat) : Int))) then (onS a2_2[(a1_0.toNat + a2_1.toNat)]? (fun y3=>(onS a2_2[(a1_0.toNat + (a2_1 - 1).toNat)]? (fun y4=>(bif ((y3.var == y4.var) && ((y3.val.kind == y4.val.kind) && ((y3.val.n == y4.val.n) && ((y3.val.s == y4.val.s) && true)))) then compactBind_l2 s a1_0 q1 y1 y2 rec1 q2 (a2_0,(a2_1 + 1),a2_2) else (onS a2_2[a2_0.toNat]? (fun y5=>compactBind_l2 s a1_0 q1 y1 y2 rec1 q2 ((a2_0 + 1),(a2_1 + 1),(a2_2.set a2_0.toNat y3))) default))) default)) default) else (a2_0.toNat,(a2_2.take a2_0.toNat ++ List.replicate (s.length - a2_0.toNat) (⟨([] : Txt),(⟨0,0,([] : Txt)⟩ : Sp.Val)⟩ : Sp.Bind))))
def compactBind_l1 (s : (List Sp.Bind)) : Nat → Int → Nat × (List Sp.Bind)
  | 0,_=>default
  | q1 + 1,a1_0=>(bif (decide (a1_0 < (s.length : Int))) then (onS s[a1_0.toNat]? (fun y1=>(onS s[(a1_0 - 1).toNat]? (fun y2=>(bif ((y1.var == y2.var) && ((y1.val.kind == y2.val.kind) && ((y1.val.n == y2.val.n) && ((y1.val.s == y2.val.s) && true)))) then compactBind_l2 s a1_0 q1 y1 y2 (fun acc=>compactBind_l1 s q1 acc) (s.length + 1) (a1_0,1,s) else compactBind_l1 s q1 (a1_0 + 1))) default)) default) else (s.length,s))
def compactBind (s : (List Sp.Bind)) : Nat × (List Sp.Bind):=(bif (decide ((s.length : Int) < 2)) then (s.length,s) else compactBind_l1 s (s.length + 1) 1)
theorem compactBind_w (s : (List Sp.Bind)) {sg : List Fr} {W : Nat} {d_s i_s v_s n_s : Nat}  (hp_s : Plc sg d_s i_s) (hn_s : s.length = n_s) (hW_s : d_s + 1 ≤ W)  (hl : s.length ≤ 1000000) : (fun (r : Nat × (List Sp.Bind))=>∃ w,w ≤ W ∧ TX.call 246 [.bs (d_s + 1) i_s v_s 0 n_s] (upB sg d_s i_s (.arr v_s 4 (s.map eBind))) = some ((.bs d_s i_s v_s 0 r.1),(upB sg d_s i_s (.arr v_s 4 (r.2.map eBind))),w)) (compactBind s):=by
  subst hn_s;
  exact sxw (e:=fun (r : Nat × (List Sp.Bind))=>(((.bs d_s i_s v_s 0 r.1),(upB sg d_s i_s (.arr v_s 4 (r.2.map eBind))),W) : V × List Fr × Nat)) (F:=c246) rfl<|gO 11<|dp 8 (fun h1=>gO 8<|enu (t:=2) (d:=d_s) (i:=i_s) (ver:=v_s) (k:=s.length) (sg:=(upB sg d_s i_s (.arr v_s 4 (s.map eBind)))) (plc_up hp_s) (w:=0) (Nat.zero_le _) (hr:=by kernel_rfl)) (fun h1=>gO 8<|lp (A:=(Int) × Nat) (fun ⟨a1_0,w1⟩=>(1 ≤ a1_0 ∧ a1_0 ≤ s.length) ∧ w1 ≤ W) (fun ⟨a1_0,_⟩=>((s.length : Int) - a1_0).toNat) (fun (acc : (Int) × Nat)=>{ vals:=[(.bs (d_s + 1) i_s v_s 0 s.length),(.int .i64 acc.1)],fr:=[.tok 0],sg:=(upB sg d_s i_s (.arr v_s 4 (s.map eBind))),wd:=acc.2 }) (acc0:=(1,0)) (fn:=fun q p=>compactBind_l1 s q p.1) (q:=s.length + 1) (And.intro (by first | omega | (simp only [List.length_set];omega)) (Nat.zero_le _)) (by (try dsimp only);first | omega | (simp only [List.length_set];omega)) (fun q1 ⟨a1_0,w1⟩ hi1 hm1 ih1=>have hb1 : (1 ≤ a1_0 ∧ a1_0 ≤ s.length) ∧ w1 ≤ W:=hi1;have hi1:=hb1.1;have hw1:=hb1.2;have hm1 : ((s.length : Int) - a1_0).toNat < q1 + 1:=hm1;gO 8<|dp 13 (fun h2=>gO 8<|kw 17 (toNat_v (n:=a1_0) (by first | omega | (simp only [List.length_set];omega)))<|iauz (n:=a1_0.toNat) (len:=s.length) (b:=i_s) (ver:=v_s) (z:=4) (es:=s.map eBind) (get_up hp_s) (by first | omega | (simp only [List.length_set];omega))<|elx (by first | omega | (simp only [List.length_set];omega)) fun y1 h3=>ldu (ag:=true) (sz:=4) (ver:=v_s) (z:=4) (j:=a1_0.toNat) (o:=0) (en:=eBind) (L:=s) (y:=y1) (v:=(.agg [(.str y1.var),(.int .i64 y1.val.kind),(.int .i64 y1.val.n),(.str y1.val.s)])) (get_up hp_s) h3 (by kernel_rfl)<|gO 3<|kw 22 (congrArg (V.int .i64) (wrap_id (n:=a1_0 - 1) (by omega) (by omega)))<|kw 22 (toNat_v (n:=(a1_0 - 1)) (by first | omega | (simp only [List.length_set];omega)))<|iauz (n:=(a1_0 - 1).toNat) (len:=s.length) (b:=i_s) (ver:=v_s) (z:=4) (es:=s.map eBind) (get_up hp_s) (by first | omega | (simp only [List.length_set];omega))<|elx (by first | omega | (simp only [List.length_set];omega)) fun y2 h4=>ldu (ag:=true) (sz:=4) (ver:=v_s) (z:=4) (j:=(a1_0 - 1).toNat) (o:=0) (en:=eBind) (L:=s) (y:=y2) (v:=(.agg [(.str y2.var),(.int .i64 y2.val.kind),(.int .i64 y2.val.n),(.str y2.val.s)])) (get_up hp_s) h4 (by kernel_rfl)<|gO 2<|dc 25 (fun h5=>gO 5<|kw 27 (toNat_v (n:=a1_0) (by first | omega | (simp only [List.length_set];omega)))<|cbu (es:=s.map eBind) (z:=4) (d:=d_s) (i:=i_s) (ver:=v_s) (o:=0) (l:=a1_0.toNat) (hh:=s.length) (len:=s.length) (o':=a1_0.toNat) (len':=(s.length - a1_0.toNat)) (get_up hp_s) (by first | omega | (simp only [List.length_set];omega)) (by first | omega | (simp only [List.length_set];omega)) (by omega) (by omega)<|gO 8<|lp (A:=(Int × Int × (List Sp.Bind)) × Nat) (fun ⟨⟨a2_0,a2_1,a2_2⟩,w2⟩=>(a1_0 ≤ a2_0 ∧ a2_0 + 1 ≤ a1_0 + a2_1 ∧ 1 ≤ a2_1 ∧ a1_0 + a2_1 ≤ s.length ∧ a2_2.length = s.length) ∧ w2 ≤ W) (fun ⟨⟨a2_0,a2_1,a2_2⟩,_⟩=>((s.length : Int) - a2_1).toNat) (fun (acc : (Int × Int × (List Sp.Bind)) × Nat)=>{ vals:=[(.bs (d_s + 1) i_s v_s 0 s.length),(.int .i64 acc.1.1),(.bs (d_s + 1) i_s v_s a1_0.toNat (s.length - a1_0.toNat)),(.int .i64 acc.1.2.1)],fr:=[.tok 0],sg:=(upB sg d_s i_s (.arr v_s 4 (acc.1.2.2.map eBind))),wd:=acc.2 }) (acc0:=((a1_0,1,s),w1)) (fn:=fun q p=>compactBind_l2 s a1_0 q1 y1 y2 (fun acc=>compactBind_l1 s q1 acc) q p.1) (q:=s.length + 1) (And.intro (by first | omega | (simp only [List.length_set];omega)) hw1) (by (try dsimp only);first | omega | (simp only [List.length_set];omega)) (fun q2 ⟨⟨a2_0,a2_1,a2_2⟩,w2⟩ hi2 hm2 ih2=>have hb2 : (a1_0 ≤ a2_0 ∧ a2_0 + 1 ≤ a1_0 + a2_1 ∧ 1 ≤ a2_1 ∧ a1_0 + a2_1 ≤ s.length ∧ a2_2.length = s.length) ∧ w2 ≤ W:=hi2;have hi2:=hb2.1;have hw2:=hb2.2;have hm2 : ((s.length : Int) - a2_1).toNat < q2 + 1:=hm2;gO 8<|dp 32 (fun h6=>gO 8<|kw 36 (toNat_v (n:=a2_1) (by first | omega | (simp only [List.length_set];omega)))<|iau (o:=a1_0.toNat) (n:=a2_1.toNat) (len:=(s.length - a1_0.toNat)) (b:=i_s) (ver:=v_s) (z:=4) (es:=a2_2.map eBind) (get_up hp_s) (by first | omega | (simp only [List.length_set];omega))<|elx (by first | omega | (simp only [List.length_set];omega)) fun y3 h7=>ldu (ag:=true) (sz:=4) (ver:=v_s) (z:=4) (j:=(a1_0.toNat + a2_1.toNat)) (o:=0) (en:=eBind) (L:=a2_2) (y:=y3) (v:=(.agg [(.str y3.var),(.int .i64 y3.val.kind),(.int .i64 y3.val.n),(.str y3.val.s)])) (get_up hp_s) h7 (by kernel_rfl)<|gO 3<|kw 41 (congrArg (V.int .i64) (wrap_id (n:=a2_1 - 1) (by omega) (by omega)))<|kw 41 (toNat_v (n:=(a2_1 - 1)) (by first | omega | (simp only [List.length_set];omega)))<|iau (o:=a1_0.toNat) (n:=(a2_1 - 1).toNat) (len:=(s.length - a1_0.toNat)) (b:=i_s) (ver:=v_s) (z:=4) (es:=a2_2.map eBind) (get_up hp_s) (by first | omega | (simp only [List.length_set];omega))<|elx (by first | omega | (simp only [List.length_set];omega)) fun y4 h8=>ldu (ag:=true) (sz:=4) (ver:=v_s) (z:=4) (j:=(a1_0.toNat + (a2_1 - 1).toNat)) (o:=0) (en:=eBind) (L:=a2_2) (y:=y4) (v:=(.agg [(.str y4.var),(.int .i64 y4.val.kind),(.int .i64 y4.val.n),(.str y4.val.s)])) (get_up hp_s) h8 (by kernel_rfl)<|gO 2<|dcn 44 (fun h9=>gO 6<|kw 34 (congrArg (V.int .i64) (wrap_id (n:=a2_1 + 1) (by omega) (by omega)))<|gO 2<|nx (ih2 ((a2_0,(a2_1 + 1),a2_2),w2) (And.intro (by first | omega | (simp only [List.length_set];omega)) hw2) (by (try dsimp only);first | omega | (simp only [List.length_set];omega)))) (fun h9=>gO 7<|kw 48 (toNat_v (n:=a2_1) (by first | omega | (simp only [List.length_set];omega)))<|iau (o:=a1_0.toNat) (n:=a2_1.toNat) (len:=(s.length - a1_0.toNat)) (b:=i_s) (ver:=v_s) (z:=4) (es:=a2_2.map eBind) (get_up hp_s) (by first | omega | (simp only [List.length_set];omega))<|ldu (ag:=true) (sz:=4) (ver:=v_s) (z:=4) (j:=(a1_0.toNat + a2_1.toNat)) (o:=0) (en:=eBind) (L:=a2_2) (y:=y3) (v:=(.agg [(.str y3.var),(.int .i64 y3.val.kind),(.int .i64 y3.val.n),(.str y3.val.s)])) (get_up hp_s) h7 (by kernel_rfl)<|kw 46 (toNat_v (n:=a2_0) (by first | omega | (simp only [List.length_set];omega)))<|iauz (n:=a2_0.toNat) (len:=s.length) (b:=i_s) (ver:=v_s) (z:=4) (es:=a2_2.map eBind) (get_up hp_s) (by first | omega | (simp only [List.length_set];omega))<|elx (by first | omega | (simp only [List.length_set];omega)) fun y5 h10=>stu (ag:=true) (sz:=4) (ver:=v_s) (z:=4) (j:=a2_0.toNat) (o:=0) (v:=(.agg [(.str y3.var),(.int .i64 y3.val.kind),(.int .i64 y3.val.n),(.str y3.val.s)])) (en:=eBind) (L:=a2_2) (y:=y5) (y':=y3) (cs:=[(.str y3.var),(.int .i64 y3.val.kind),(.int .i64 y3.val.n),(.str y3.val.s)]) (w:=w2) (W:=W) (get_up hp_s) (up_up _ _ _ _ _) h10 (by kernel_rfl) (by kernel_rfl) (by kernel_rfl) hw2 hW_s fun w_6 hw_6=>gO 4<|kw 53 (congrArg (V.int .i64) (wrap_id (n:=a2_0 + 1) (by omega) (by omega)))<|gO 6<|kw 34 (congrArg (V.int .i64) (wrap_id (n:=a2_1 + 1) (by omega) (by omega)))<|gO 2<|nx (ih2 (((a2_0 + 1),(a2_1 + 1),(a2_2.set a2_0.toNat y3)),w_6) (And.intro (by first | omega | (simp only [List.length_set];omega)) hw_6) (by (try dsimp only);first | omega | (simp only [List.length_set];omega))))) (fun h6=>gO 9<|kw 55 (toNat_v (n:=a2_0) (by first | omega | (simp only [List.length_set];omega)))<|cbu (es:=a2_2.map eBind) (z:=4) (d:=d_s) (i:=i_s) (ver:=v_s) (o:=0) (l:=a2_0.toNat) (hh:=s.length) (len:=s.length) (o':=a2_0.toNat) (len':=(s.length - a2_0.toNat)) (get_up hp_s) (by first | omega | (simp only [List.length_set];omega)) (by first | omega | (simp only [List.length_set];omega)) (by omega) (by omega)<|clru (en:=eBind) (L:=a2_2) (ver:=v_s) (o:=a2_0.toNat) (len:=(s.length - a2_0.toNat)) (zz:=4) (w:=w2) (W:=W) (⟨([] : Txt),(⟨0,0,([] : Txt)⟩ : Sp.Val)⟩ : Sp.Bind) (get_up hp_s) (up_up _ _ _ _ _) (by first | omega | (simp only [List.length_set];omega)) (by intro y;rfl) (by kernel_rfl) hw2 hW_s fun w_7 hw_7=>gO 5<|kw 58 (toNat_v (n:=a2_0) (by first | omega | (simp only [List.length_set];omega)))<|cbu (es:=(a2_2.take a2_0.toNat ++ List.replicate (s.length - a2_0.toNat) (⟨([] : Txt),(⟨0,0,([] : Txt)⟩ : Sp.Val)⟩ : Sp.Bind)).map eBind) (z:=4) (d:=d_s) (i:=i_s) (ver:=v_s) (o:=0) (l:=0) (hh:=a2_0.toNat) (len:=s.length) (o':=0) (len':=a2_0.toNat) (get_up hp_s) (by first | omega | (simp only [List.length_set];omega)) (by first | omega | (simp only [List.length_set];omega)) (by omega) (by omega)<|gO 8<|enu (t:=2) (d:=d_s) (i:=i_s) (ver:=v_s) (k:=a2_0.toNat) (sg:=(upB sg d_s i_s (.arr v_s 4 ((a2_2.take a2_0.toNat ++ List.replicate (s.length - a2_0.toNat) (⟨([] : Txt),(⟨0,0,([] : Txt)⟩ : Sp.Val)⟩ : Sp.Bind)).map eBind)))) (plc_up hp_s) (w:=w_7) hw_7 (hr:=by kernel_rfl)))) (fun h5=>gO 6<|kw 15 (congrArg (V.int .i64) (wrap_id (n:=a1_0 + 1) (by omega) (by omega)))<|gO 2<|nx (ih1 ((a1_0 + 1),w1) (And.intro (by first | omega | (simp only [List.length_set];omega)) hw1) (by (try dsimp only);first | omega | (simp only [List.length_set];omega))))) (fun h2=>gO 11<|enu (t:=2) (d:=d_s) (i:=i_s) (ver:=v_s) (k:=s.length) (sg:=(upB sg d_s i_s (.arr v_s 4 (s.map eBind)))) (plc_up hp_s) (w:=w1) hw1 (hr:=by kernel_rfl))))

def growBind (n : Int) : (List Sp.Bind) × Nat × Nat:=((List.replicate ((n - 0).toNat) (⟨([] : Txt),(⟨0,0,([] : Txt)⟩ : Sp.Val)⟩ : Sp.Bind)),(n - 0).toNat,0)
theorem growBind_in (n : Int) (h0 : 0 < n) (hn : n ≤ 1000000) {f0 : Fr} {sg : List Fr} : (fun (r : (List Sp.Bind) × Nat × Nat)=>∃ w,w ≤ 1 ∧ TX.call 294 [.sl .ex 4 [],eI n] (f0 :: sg) = some (V.bs 0 (f0.length + 1) r.2.1 0 r.2.2,(f0 ++ [Blk.arr 0 4 [],Blk.arr r.2.1 4 (r.1.map eBind)]) :: sg,w)) (growBind n) :=
  sxw (e:=fun (r : (List Sp.Bind) × Nat × Nat)=>((V.bs 0 (f0.length + 1) r.2.1 0 r.2.2,(f0 ++ [Blk.arr 0 4 [],Blk.arr r.2.1 4 (r.1.map eBind)]) :: sg,1) : V × List Fr × Nat)) (r:=growBind n) (F:=c294) rfl<|gO 10<|dk 6 (fd (show ¬ (n < 0) by omega))<|gO 12<|kw 14 (congrArg (V.int .i64) (wrap_id (n:=n - 0) (by omega) (by omega)))<|gO 7<|dk 16 (td (show (n - 0) > 0 by omega))<|gO 5<|gO 1<|gO 1<|kw 21 (toNat_v (n:=(n - 0)) (by omega))<|azw (en:=eBind) (ag:=true) (z:=[(.str ([] : Txt)),(.int .i64 0),(.int .i64 0),(.str ([] : Txt))]) (zl:=4) (n:=(n - 0).toNat) (i:=1) (⟨([] : Txt),(⟨0,0,([] : Txt)⟩ : Sp.Val)⟩ : Sp.Bind) (by omega) (by (unfold lim;omega)) (by kernel_rfl) (by kernel_rfl)<|gO 2<|cbo (es:=(List.replicate ((n - 0).toNat) (⟨([] : Txt),(⟨0,0,([] : Txt)⟩ : Sp.Val)⟩ : Sp.Bind)).map eBind) (z:=4) (ver:=(n - 0).toNat) (i:=1) (o:=0) (l:=0) (hh:=0) (len:=(n - 0).toNat) (o':=0) (len':=0) (by omega) (by omega) (by omega) (by omega)<|gO 8<|en

end Go.Vm

/-
  Sorted by putting each to its place; the same ones side by side made one: what these answer.
-/
namespace Go.Vm
open Go Go.Sp

theorem get_app {α : Type} (p : List α) (x : α) (s : List α) {n : Nat} (h : n = p.length) : (p ++ x :: s)[n]? = some x := by
  subst h; rw [List.getElem?_append_right (Nat.le_refl _), Nat.sub_self]; rfl
theorem get_app1 {α : Type} (p : List α) (x y : α) (s : List α) {n : Nat} (h : n = p.length + 1) : (p ++ x :: y :: s)[n]? = some y := by
  subst h; rw [List.getElem?_append_right (Nat.le_succ _)]; simp
theorem set_app {α : Type} (p : List α) (x z : α) (s : List α) {n : Nat} (h : n = p.length) : (p ++ x :: s).set n z = p ++ z :: s := by
  subst h; rw [List.set_append_right _ _ (Nat.le_refl _), Nat.sub_self]; rfl
theorem set_app1 {α : Type} (p : List α) (x y z : α) (s : List α) {n : Nat} (h : n = p.length + 1) : (p ++ x :: y :: s).set n z = p ++ x :: z :: s := by
  subst h; rw [List.set_append_right _ _ (Nat.le_succ _)]; simp

section
variable (cmp : Sp.Bind → Sp.Bind → Int)
theorem insBind_l2_eq (data : List Sp.Bind) (b a1 : Int) (a1_1 : List Sp.Bind) (q1 : Nat) (rec1 : Int × List Sp.Bind → List Sp.Bind) : ∀ (q : List Sp.Bind) (x : Sp.Bind) (s : List Sp.Bind) (fuel : Nat), q.length < fuel →
    insBind_l2 data 0 b cmp a1 a1_1 q1 rec1 fuel ((q.length : Int), q.reverse ++ x :: s) = rec1 (a1 + 1, srtI cmp q x s)
  | [], x, s, fuel + 1, _ => by
    rw [insBind_l2]
    have : decide (((([] : List Sp.Bind).length : Nat) : Int) > 0) = false := by simp
    rw [this]; rfl
  | y :: q, x, s, fuel + 1, h => by
    rw [insBind_l2]
    have h0 : decide ((((y :: q).length : Nat) : Int) > 0) = true := decide_eq_true (by simp only [List.length_cons]; omega)
    have e1 : (((y :: q).length : Nat) : Int).toNat = q.reverse.length + 1 := by simp
    have e2 : ((((y :: q).length : Nat) : Int) - 1).toNat = q.reverse.length := by simp
    have e3 : (((y :: q).length : Nat) : Int) - 1 = ((q.length : Nat) : Int) := by simp only [List.length_cons]; omega
    have eL : (y :: q).reverse ++ x :: s = q.reverse ++ y :: x :: s := by simp
    rw [h0, cond_true, eL, e1, e2, get_app1 _ _ _ _ rfl, get_app _ _ _ rfl]
    simp only [onS]
    rw [srtI]
    cases hc : decide (cmp x y < 0) with
    | true =>
      rw [cond_true, cond_true, set_app1 _ _ _ _ _ rfl, get_app _ _ _ rfl]
      simp only []
      rw [set_app _ _ _ _ rfl, e3]
      exact insBind_l2_eq data b a1 a1_1 q1 rec1 q x (y :: s) fuel (by simp only [List.length_cons] at h; omega)
    | false => rw [cond_false, cond_false]
theorem insBind_l1_eq (data : List Sp.Bind) : ∀ (s p : List Sp.Bind) (fuel : Nat), s.length < fuel → (p ++ s).length = data.length → insBind_l1 data 0 (data.length : Int) cmp fuel ((p.length : Int), p ++ s) = srtL cmp p s
  | [], p, fuel + 1, _, hl => by
    rw [insBind_l1]
    have : decide (((p.length : Nat) : Int) < (data.length : Int)) = false := decide_eq_false (by rw [List.append_nil] at hl; omega)
    rw [this, cond_false, List.append_nil, srtL]
  | x :: s, p, fuel + 1, h, hl => by
    rw [insBind_l1]
    have hl' : p.length + (s.length + 1) = data.length := by rw [← hl]; simp
    have : decide (((p.length : Nat) : Int) < (data.length : Int)) = true := decide_eq_true (by omega)
    rw [this, cond_true]
    have h1 := insBind_l2_eq cmp data (data.length : Int) ((p.length : Nat) : Int) (p ++ x :: s) fuel (fun acc => insBind_l1 data 0 (data.length : Int) cmp fuel acc) p.reverse x s (data.length + 1) (by rw [List.length_reverse]; omega)
    rw [List.length_reverse, List.reverse_reverse] at h1
    rw [h1, srtL]
    have h2 : srtI cmp p.reverse x s = srtI cmp p.reverse x [] ++ s := by rw [← srtI_app, List.nil_append]
    have h3 : (srtI cmp p.reverse x []).length = p.length + 1 := by rw [(srtI_perm cmp _ _ _).length_eq]; simp
    have h4 : ((p.length : Nat) : Int) + 1 = (((srtI cmp p.reverse x []).length : Nat) : Int) := by rw [h3]; rfl
    rw [h2, h4]
    exact insBind_l1_eq data s _ fuel (by simp only [List.length_cons] at h; omega) (by rw [List.length_append, h3, ← hl']; omega)
theorem insBind_eq (data : List Sp.Bind) : insBind data 0 (data.length : Int) cmp = isrt cmp data := by
  unfold insBind
  cases data with
  | nil => rfl
  | cons x s =>
    have := insBind_l1_eq cmp (x :: s) s [x] ((x :: s).length + 1) (by simp only [List.length_cons]; omega) rfl
    exact this
theorem insBind_end (data : List Sp.Bind) (n : Int) : insBind data n n cmp = data := by
  unfold insBind
  rw [insBind_l1]
  have : decide (n + 1 < n) = false := decide_eq_false (by omega)
  rw [this]; rfl
theorem insBind_ok {data : List Sp.Bind} {a b : Int} (h : (a = 0 ∧ b = (data.length : Int)) ∨ a = b) : (insBind data a b cmp).length = data.length ∧ ∀ x, x ∈ insBind data a b cmp → x ∈ data := by
  rcases h with ⟨rfl, rfl⟩ | rfl
  · rw [insBind_eq]
    have hp := srtL_perm cmp data []
    exact ⟨hp.length_eq, fun x hx => hp.mem_iff.1 hx⟩
  · rw [insBind_end]; exact ⟨rfl, fun x hx => hx⟩
end

theorem beqBind (x y : Sp.Bind) : ((x.var == y.var) && ((x.val.kind == y.val.kind) && ((x.val.n == y.val.n) && ((x.val.s == y.val.s) && true)))) = (x == y) := by
  rw [Bool.eq_iff_iff]
  simp only [Bool.and_eq_true, beq_iff_eq, and_true]
  constructor
  · rintro ⟨h1, h2, h3, h4⟩
    obtain ⟨a, b, c, d⟩ := x
    obtain ⟨a', b', c', d'⟩ := y
    simp_all
  · rintro rfl; exact ⟨rfl, rfl, rfl, rfl⟩
theorem drop_two {α : Type} {l : List α} {n : Nat} {x y : α} (h1 : l[n]? = some x) (h2 : l[n + 1]? = some y) : l.drop n = x :: y :: l.drop (n + 2) := by
  obtain ⟨a1, a2⟩ := List.getElem?_eq_some_iff.1 h1
  obtain ⟨b1, b2⟩ := List.getElem?_eq_some_iff.1 h2
  rw [List.drop_eq_getElem_cons a1, List.drop_eq_getElem_cons b1, a2, b2]
theorem drop_oneL {α : Type} {l : List α} {n : Nat} {x : α} (h1 : l[n]? = some x) : l.drop n = x :: l.drop (n + 1) := by
  obtain ⟨a1, a2⟩ := List.getElem?_eq_some_iff.1 h1
  rw [List.drop_eq_getElem_cons a1, a2]
theorem take_oneL {α : Type} {l : List α} {n : Nat} {x : α} (h1 : l[n]? = some x) : l.take (n + 1) = l.take n ++ [x] := by
  rw [List.take_add_one, h1]; rfl
theorem get_of_drop {α : Type} {l m : List α} {n k : Nat} (h : l.drop n = m.drop n) (hk : n ≤ k) : l[k]? = m[k]? := by
  have := congrArg (·[k - n]?) h
  simp only [List.getElem?_drop] at this
  rwa [show n + (k - n) = k by omega] at this
theorem compactBind_l2_eq (s : List Sp.Bind) (a1 : Int) (q1 : Nat) (y1 y2 : Sp.Bind) (rec1 : Int → Nat × List Sp.Bind) (k0 : Nat) (ha : a1 = (k0 : Int)) : ∀ (fuel k k2 : Nat) (A : List Sp.Bind), s.length < k2 + fuel → k0 ≤ k → k + 1 ≤ k0 + k2 → 1 ≤ k2 → k0 + k2 ≤ s.length → A.length = s.length → A.drop (k0 + k2 - 1) = s.drop (k0 + k2 - 1) →
    let r := compactBind_l2 s a1 q1 y1 y2 rec1 fuel ((k : Int), (k2 : Int), A)
    r.2.take r.1 = A.take k ++ (dd (s.drop (k0 + k2 - 1))).tail ∧ r.1 ≤ r.2.length
  | 0, k, k2, A, h, _, _, _, _, _, _ => by omega
  | fuel + 1, k, k2, A, h, h1, h2, h3, h4, h5, h6 => by
    intro r
    have hr : r = compactBind_l2 s a1 q1 y1 y2 rec1 (fuel + 1) ((k : Int), (k2 : Int), A) := rfl
    subst ha
    rw [compactBind_l2] at hr
    have e0 : ((k0 : Nat) : Int).toNat = k0 := rfl
    have e1 : ((k2 : Nat) : Int).toNat = k2 := rfl
    have e2 : ((k : Nat) : Int).toNat = k := rfl
    have e3 : (((k2 : Nat) : Int) - 1).toNat = k2 - 1 := by omega
    rw [e0, e1, e2, e3] at hr
    by_cases hc : ((k2 : Nat) : Int) < (((s.length - k0) : Nat) : Int)
    · rw [decide_eq_true hc, cond_true] at hr
      have hlt : k0 + k2 < s.length := by omega
      obtain ⟨y3, g3⟩ : ∃ y, s[k0 + k2]? = some y := ⟨_, List.getElem?_eq_getElem hlt⟩
      obtain ⟨y4, g4⟩ : ∃ y, s[k0 + k2 - 1]? = some y := ⟨_, List.getElem?_eq_getElem (by omega)⟩
      have g3' : A[k0 + k2]? = some y3 := by rw [get_of_drop h6 (by omega)]; exact g3
      have g4' : A[k0 + (k2 - 1)]? = some y4 := by rw [show k0 + (k2 - 1) = k0 + k2 - 1 by omega, get_of_drop h6 (Nat.le_refl _)]; exact g4
      rw [g3', g4'] at hr
      simp only [onS] at hr
      rw [beqBind] at hr
      have hd := drop_two g4 (by rw [show k0 + k2 - 1 + 1 = k0 + k2 by omega]; exact g3)
      have hd2 := drop_oneL g3
      rw [show k0 + k2 - 1 + 2 = k0 + k2 + 1 by omega] at hd
      rw [hd, dd_two]
      have hdr : A.drop (k0 + k2) = s.drop (k0 + k2) := by
        have := congrArg (List.drop 1) h6
        rwa [List.drop_drop, List.drop_drop, show k0 + k2 - 1 + 1 = k0 + k2 by omega] at this
      cases hb : y3 == y4 with
      | true =>
        have : y3 = y4 := by simpa using hb
        subst this
        rw [hb, cond_true] at hr
        rw [BEq.rfl, cond_true]
        have ih := compactBind_l2_eq s (k0 : Int) q1 y1 y2 rec1 k0 rfl fuel k (k2 + 1) A (by omega) h1 (by omega) (by omega) (by omega) h5 (by rw [show k0 + (k2 + 1) - 1 = k0 + k2 by omega]; exact hdr)
        rw [show k0 + (k2 + 1) - 1 = k0 + k2 by omega, hd2] at ih
        have e9 : (((k2 + 1 : Nat)) : Int) = (k2 : Int) + 1 := rfl
        rw [e9, ← hr] at ih
        exact ih
      | false =>
        have hb' : (y4 == y3) = false := by
          rw [Bool.eq_false_iff] at hb ⊢
          intro h; apply hb; simp at h ⊢; exact h.symm
        rw [hb, cond_false] at hr
        rw [hb', cond_false]
        have hk : k < A.length := by omega
        obtain ⟨y5, g5⟩ : ∃ y, A[k]? = some y := ⟨_, List.getElem?_eq_getElem hk⟩
        rw [g5] at hr
        simp only [] at hr
        have ih := compactBind_l2_eq s (k0 : Int) q1 y1 y2 rec1 k0 rfl fuel (k + 1) (k2 + 1) (A.set k y3) (by omega) (by omega) (by omega) (by omega) (by omega) (by rw [List.length_set]; exact h5) (by
          rw [show k0 + (k2 + 1) - 1 = k0 + k2 by omega, List.drop_set_of_lt (by omega)]; exact hdr)
        rw [show k0 + (k2 + 1) - 1 = k0 + k2 by omega, hd2] at ih
        have e9 : (((k2 + 1 : Nat)) : Int) = (k2 : Int) + 1 := rfl
        have e8 : (((k + 1 : Nat)) : Int) = (k : Int) + 1 := rfl
        rw [e9, e8, ← hr] at ih
        obtain ⟨i1, i2⟩ := ih
        refine ⟨?_, i2⟩
        rw [i1, take_oneL (List.getElem?_set_self hk), List.take_set_of_le (Nat.le_refl _), List.append_assoc]
        obtain ⟨m, hm⟩ := dd_head y3 (s.drop (k0 + k2 + 1))
        rw [hm]; rfl
    · rw [decide_eq_false hc, cond_false] at hr
      have hn : k0 + k2 = s.length := by omega
      have hdl : s.drop (k0 + k2 - 1) = [s[k0 + k2 - 1]'(by omega)] := by
        rw [List.drop_eq_getElem_cons (by omega), List.drop_eq_nil_of_le (by omega)]
      rw [hdl, hr]
      simp only [dd, List.tail_cons, List.append_nil, List.length_append, List.length_take, List.length_replicate]
      refine ⟨?_, by omega⟩
      rw [List.take_append_of_le_length (by rw [List.length_take]; omega), List.take_take, Nat.min_self]
theorem compactBind_l1_eq (s : List Sp.Bind) : ∀ (fuel k : Nat), s.length < k + fuel → 1 ≤ k → k ≤ s.length → dd s = s.take (k - 1) ++ dd (s.drop (k - 1)) →
    let r := compactBind_l1 s fuel (k : Int)
    r.2.take r.1 = dd s ∧ r.1 ≤ r.2.length
  | 0, k, h, _, _, _ => by omega
  | fuel + 1, k, h, h1, h2, h3 => by
    intro r
    have hr : r = compactBind_l1 s (fuel + 1) (k : Int) := rfl
    rw [compactBind_l1] at hr
    have e0 : ((k : Nat) : Int).toNat = k := rfl
    have e1 : (((k : Nat) : Int) - 1).toNat = k - 1 := by omega
    rw [e0, e1] at hr
    by_cases hc : ((k : Nat) : Int) < (s.length : Int)
    · rw [decide_eq_true hc, cond_true] at hr
      obtain ⟨y1, g1⟩ : ∃ y, s[k]? = some y := ⟨_, List.getElem?_eq_getElem (by omega)⟩
      obtain ⟨y2, g2⟩ : ∃ y, s[k - 1]? = some y := ⟨_, List.getElem?_eq_getElem (by omega)⟩
      rw [g1, g2] at hr
      simp only [onS] at hr
      rw [beqBind] at hr
      have hd := drop_two g2 (by rw [show k - 1 + 1 = k by omega]; exact g1)
      rw [show k - 1 + 2 = k + 1 by omega] at hd
      have hd1 := drop_oneL g1
      cases hb : y1 == y2 with
      | true =>
        have : y1 = y2 := by simpa using hb
        subst this
        rw [hb, cond_true] at hr
        obtain ⟨i1, i2⟩ := compactBind_l2_eq s (k : Int) fuel y1 y1 (fun acc => compactBind_l1 s fuel acc) k rfl (s.length + 1) k 1 s (by omega) (Nat.le_refl _) (Nat.le_refl _) (Nat.le_refl _) (by omega) rfl rfl
        have e9 : (((1 : Nat)) : Int) = 1 := rfl
        rw [e9, ← hr] at i1 i2
        refine ⟨?_, i2⟩
        rw [i1, h3, hd, dd_two, BEq.rfl, cond_true, show k + 1 - 1 = k by omega, hd1]
        obtain ⟨m, hm⟩ := dd_head y1 (s.drop (k + 1))
        have := take_oneL g2
        rw [show k - 1 + 1 = k by omega] at this
        rw [hm, this, List.append_assoc]; rfl
      | false =>
        have hb' : (y2 == y1) = false := by
          rw [Bool.eq_false_iff] at hb ⊢
          intro h; apply hb; simp at h ⊢; exact h.symm
        rw [hb, cond_false] at hr
        have e9 : (((k + 1 : Nat)) : Int) = (k : Int) + 1 := rfl
        have ih := compactBind_l1_eq s fuel (k + 1) (by omega) (by omega) (by omega) (by
          rw [show k + 1 - 1 = k by omega, h3, hd, dd_two, hb', cond_false, hd1]
          have := take_oneL g2
          rw [show k - 1 + 1 = k by omega] at this
          rw [this, List.append_assoc]; rfl)
        rw [e9, ← hr] at ih
        exact ih
    · rw [decide_eq_false hc, cond_false] at hr
      have hn : k = s.length := by omega
      rw [hr]
      refine ⟨?_, Nat.le_refl _⟩
      rw [List.take_length, h3, hn]
      have hdl : s.drop (s.length - 1) = [s[s.length - 1]'(by omega)] := by
        rw [List.drop_eq_getElem_cons (by omega), List.drop_eq_nil_of_le (by omega)]
      rw [hdl]
      simp only [dd]
      rw [← hdl, List.take_append_drop]
theorem compactBind_eq (s : List Sp.Bind) : (compactBind s).2.take (compactBind s).1 = dd s ∧ (compactBind s).1 ≤ (compactBind s).2.length := by
  unfold compactBind
  by_cases h : (s.length : Int) < 2
  · rw [decide_eq_true h, cond_true]
    refine ⟨?_, Nat.le_refl _⟩
    rw [List.take_length]
    cases s with
    | nil => rfl
    | cons x s =>
      cases s with
      | nil => rfl
      | cons y s => simp only [List.length_cons] at h; omega
  · rw [decide_eq_false h, cond_false]
    exact compactBind_l1_eq s (s.length + 1) 1 (by omega) (Nat.le_refl _) (by omega) (by simp)
end Go.Vm

/- What functions of the program answer. Printed by spec2.py. -/
namespace Go.Vm
open Go Go.Sp
set_option maxRecDepth 100000
set_option maxHeartbeats 4000000

def stabBind_l1 (data : (List Sp.Bind)) (n : Int) (cmp : Sp.Bind → Sp.Bind → Int) : Nat → Int × Int × (List Sp.Bind) → (List Sp.Bind)
  | 0,_=>default
  | q1 + 1,⟨a1_0,a1_1,a1_2⟩=>(bif (decide (a1_1 ≤ n)) then stabBind_l1 data n cmp q1 (a1_1,(a1_1 + 20),(insBind a1_2 a1_0 a1_1 cmp)) else (insBind a1_2 a1_0 n cmp))
def stabBind (data : (List Sp.Bind)) (n : Int) (cmp : Sp.Bind → Sp.Bind → Int) : (List Sp.Bind):=stabBind_l1 data n cmp 2 (0,20,data)
theorem stabBind_w (data : (List Sp.Bind)) (n : Int) (cmp : Sp.Bind → Sp.Bind → Int) {sg : List Fr} {W : Nat} {d_data i_data v_data n_data : Nat} {g_cmp : FuncId} {P_cmp : Sp.Bind → Prop} (hp_data : Plc sg d_data i_data) (hn_data : data.length = n_data) (hW_data : d_data + 1 ≤ W) (hp_cmp : ∀ x x1 : Sp.Bind,P_cmp x → P_cmp x1 → ∀ sg : List Fr,TX.call g_cmp ([eBind x,eBind x1].map (argV (TX.C.keepA g_cmp))) sg = some (eI (cmp x x1),sg,0)) (okP : ∀ x ∈ data,P_cmp x) (hn : n = data.length) (hk : data.length ≤ 20) : (fun (r : (List Sp.Bind))=>∃ w,w ≤ W ∧ TX.call 295 [.bs (d_data + 1) i_data v_data 0 n_data,eI n,.fn g_cmp [] []] (upB sg d_data i_data (.arr v_data 4 (data.map eBind))) = some ((.tup []),(upB sg d_data i_data (.arr v_data 4 (r.map eBind))),w)) (stabBind data n cmp):=by
  subst hn_data;
  exact sxw (e:=fun (r : (List Sp.Bind))=>(((.tup []),(upB sg d_data i_data (.arr v_data 4 (r.map eBind))),W) : V × List Fr × Nat)) (F:=c295) rfl<|gO 12<|lp (A:=(Int × Int × (List Sp.Bind)) × Nat) (fun ⟨⟨a1_0,a1_1,a1_2⟩,w1⟩=>(0 ≤ a1_0 ∧ a1_0 ≤ 20 ∧ a1_1 = a1_0 + 20 ∧ (a1_0 = 0 ∨ n = 20) ∧ a1_2.length = data.length ∧ (∀ x ∈ a1_2,P_cmp x)) ∧ w1 ≤ W) (fun ⟨⟨a1_0,a1_1,a1_2⟩,_⟩=>(1 - a1_0).toNat) (fun (acc : (Int × Int × (List Sp.Bind)) × Nat)=>{ vals:=[(.bs (d_data + 1) i_data v_data 0 data.length),(.int .i64 n),(.fn g_cmp [] []),(.int .i64 20),(.int .i64 acc.1.1),(.int .i64 acc.1.2.1)],fr:=[],sg:=(upB sg d_data i_data (.arr v_data 4 (acc.1.2.2.map eBind))),wd:=acc.2 }) (acc0:=((0,20,data),0)) (fn:=fun q p=>stabBind_l1 data n cmp q p.1) (q:=2) (And.intro (by exact ⟨by omega,by omega,by omega,by omega,rfl,okP⟩) (Nat.zero_le _)) (by (try dsimp only);first | omega | exact hi1.2.2.2.2.2) (fun q1 ⟨⟨a1_0,a1_1,a1_2⟩,w1⟩ hi1 hm1 ih1=>have hb1 : (0 ≤ a1_0 ∧ a1_0 ≤ 20 ∧ a1_1 = a1_0 + 20 ∧ (a1_0 = 0 ∨ n = 20) ∧ a1_2.length = data.length ∧ (∀ x ∈ a1_2,P_cmp x)) ∧ w1 ≤ W:=hi1;have hi1:=hb1.1;have hw1:=hb1.2;have hm1 : (1 - a1_0).toNat < q1 + 1:=hm1;gO 7<|dp 13 (fun h1=>gO 9<|clu (fr:=[]) (sg:=(upB sg d_data i_data (.arr v_data 4 ((insBind a1_2 a1_0 a1_1 cmp).map eBind)))) (w:=w1) (W:=W) (insBind_w (d_data:=d_data + 1) (i_data:=i_data) (v_data:=v_data) (n_data:=data.length) (g_cmp:=g_cmp) (P_cmp:=P_cmp) a1_2 a1_0 a1_1 cmp (sg:=([] :: sg)) (W:=(W + 1)) (plc_s hp_data) (by first | rfl | (first | omega | exact hi1.2.2.2.2.2)) (Nat.succ_le_succ hW_data) hp_cmp (by first | omega | exact hi1.2.2.2.2.2) (by first | omega | exact hi1.2.2.2.2.2) (by first | omega | exact hi1.2.2.2.2.2) (by first | omega | exact hi1.2.2.2.2.2) (by first | omega | exact hi1.2.2.2.2.2)) hw1 (Nat.le_refl _) fun w_1 hw_1=>gO 10<|kw 22 (congrArg (V.int .i64) (wrap_id (n:=a1_1 + 20) (by omega) (by omega)))<|gO 3<|nx (ih1 ((a1_1,(a1_1 + 20),(insBind a1_2 a1_0 a1_1 cmp)),w_1) (And.intro (by (have q:=insBind_ok cmp (data:=a1_2) (a:=a1_0) (b:=a1_1) (by omega);exact ⟨by omega,by omega,by omega,by omega,by omega,fun x hx=>hi1.2.2.2.2.2 x (q.2 x hx)⟩)) hw_1) (by (try dsimp only);first | omega | exact hi1.2.2.2.2.2))) (fun h1=>gO 11<|clu (fr:=[]) (sg:=(upB sg d_data i_data (.arr v_data 4 ((insBind a1_2 a1_0 n cmp).map eBind)))) (w:=w1) (W:=W) (insBind_w (d_data:=d_data + 1) (i_data:=i_data) (v_data:=v_data) (n_data:=data.length) (g_cmp:=g_cmp) (P_cmp:=P_cmp) a1_2 a1_0 n cmp (sg:=([] :: sg)) (W:=(W + 1)) (plc_s hp_data) (by first | rfl | (first | omega | exact hi1.2.2.2.2.2)) (Nat.succ_le_succ hW_data) hp_cmp (by first | omega | exact hi1.2.2.2.2.2) (by first | omega | exact hi1.2.2.2.2.2) (by first | omega | exact hi1.2.2.2.2.2) (by first | omega | exact hi1.2.2.2.2.2) (by first | omega | exact hi1.2.2.2.2.2)) hw1 (Nat.le_refl _) fun w_2 hw_2=>gO 2<|unr<|gO 7<|dk 30 (fd (show ¬ ((20 : Int) < n) by omega))<|gO 5<|enw (w:=w_2) hw_2))

def sortBind (x : (List Sp.Bind)) (cmp : Sp.Bind → Sp.Bind → Int) : (List Sp.Bind):=(stabBind x (x.length : Int) cmp)
theorem sortBind_w (x : (List Sp.Bind)) (cmp : Sp.Bind → Sp.Bind → Int) {sg : List Fr} {W : Nat} {d_x i_x v_x n_x : Nat} {g_cmp : FuncId} {P_cmp : Sp.Bind → Prop} (hp_x : Plc sg d_x i_x) (hn_x : x.length = n_x) (hW_x : d_x + 1 ≤ W) (hp_cmp : ∀ x x1 : Sp.Bind,P_cmp x → P_cmp x1 → ∀ sg : List Fr,TX.call g_cmp ([eBind x,eBind x1].map (argV (TX.C.keepA g_cmp))) sg = some (eI (cmp x x1),sg,0)) (okP : ∀ x_ ∈ x,P_cmp x_) (hk : x.length ≤ 20) : (fun (r : (List Sp.Bind))=>∃ w,w ≤ W ∧ TX.call 244 [.bs (d_x + 1) i_x v_x 0 n_x,.fn g_cmp [] []] (upB sg d_x i_x (.arr v_x 4 (x.map eBind))) = some ((.tup []),(upB sg d_x i_x (.arr v_x 4 (r.map eBind))),w)) (sortBind x cmp):=by
  subst hn_x;
  exact sxw (e:=fun (r : (List Sp.Bind))=>(((.tup []),(upB sg d_x i_x (.arr v_x 4 (r.map eBind))),W) : V × List Fr × Nat)) (F:=c244) rfl<|gO 5<|clu (fr:=[]) (sg:=(upB sg d_x i_x (.arr v_x 4 ((stabBind x (x.length : Int) cmp).map eBind)))) (w:=0) (W:=W) (stabBind_w (d_data:=d_x + 1) (i_data:=i_x) (v_data:=v_x) (n_data:=x.length) (g_cmp:=g_cmp) (P_cmp:=P_cmp) x (x.length : Int) cmp (sg:=([] :: sg)) (W:=(W + 1)) (plc_s hp_x) (by first | rfl | (first | omega | exact okP | rfl)) (Nat.succ_le_succ hW_x) hp_cmp (by first | omega | exact okP | rfl) (by first | omega | exact okP | rfl) (by first | omega | exact okP | rfl)) (Nat.zero_le _) (Nat.le_refl _) fun w_1 hw_1=>gO 1<|enw (w:=w_1) hw_1

def bytesCompare (a : Txt) (b : Txt) : Int:=(cmpBytes a b)
theorem bytesCompare_says (a : Txt) (b : Txt)  : SaysT TX 248 [eS a,eS b] (eI (bytesCompare a b)) :=
  sy (e:=eI) (F:=c248) rfl fun sg=>gO 8<|cl (cmpBytes_says a b)<|gO 3<|en

def strCompare (a : Txt) (b : Txt) : Int:=(bytesCompare a b)
theorem strCompare_says (a : Txt) (b : Txt)  : SaysT TX 180 [eS a,eS b] (eI (strCompare a b)) :=
  sy (e:=eI) (F:=c180) rfl fun sg=>gO 8<|cl (bytesCompare_says a b)<|gO 3<|en

def substBoth1 (x : Sp.Bind) (y : Sp.Bind) : Int:=(strCompare x.var y.var)
theorem substBoth1_says (x : Sp.Bind) (y : Sp.Bind)  : SaysT TX 245 [eBind x,eBind y] (eI (substBoth1 x y)) :=
  sy (e:=eI) (F:=c245) rfl fun sg=>gO 12<|cl (strCompare_says x.var y.var)<|gO 3<|en

def concatBind (a : (List Sp.Bind)) (b : (List Sp.Bind)) : (List Sp.Bind) × Nat × Nat:=((amC (amC ((growBind ((0 + (a.length : Int)) + (b.length : Int))).1) ((growBind ((0 + (a.length : Int)) + (b.length : Int))).2.2) a) ((growBind ((0 + (a.length : Int)) + (b.length : Int))).2.2 + a.length) b),(((growBind ((0 + (a.length : Int)) + (b.length : Int))).2.1 + a.length) + b.length),(((growBind ((0 + (a.length : Int)) + (b.length : Int))).2.2 + a.length) + b.length))
theorem concatBind_in (a : (List Sp.Bind)) (b : (List Sp.Bind)) (h0 : 0 < a.length + b.length) (h1 : a.length + b.length ≤ 1000000) {f0 : Fr} {sg : List Fr} : (fun (r : (List Sp.Bind) × Nat × Nat)=>∃ w,w ≤ 1 ∧ TX.call 243 [.sl .no 1 [(eL 4 eBind) a,(eL 4 eBind) b]] (f0 :: sg) = some (V.bs 0 (f0.length + 2) r.2.1 0 r.2.2,(f0 ++ [Blk.arr 0 4 [],Blk.arr 0 4 [],Blk.arr r.2.1 4 (r.1.map eBind)]) :: sg,w)) (concatBind a b) :=
  sxw (e:=fun (r : (List Sp.Bind) × Nat × Nat)=>((V.bs 0 (f0.length + 2) r.2.1 0 r.2.2,(f0 ++ [Blk.arr 0 4 [],Blk.arr 0 4 [],Blk.arr r.2.1 4 (r.1.map eBind)]) :: sg,1) : V × List Fr × Nat)) (r:=concatBind a b) (F:=c243) rfl<|gO 16<|unl3 ({ vals:=[(.sl .no 1 [(.sl .no 4 (a.map eBind)),(.sl .no 4 (b.map eBind))]),(.int .i64 0),(.sl .no 1 [(.sl .no 4 (a.map eBind)),(.sl .no 4 (b.map eBind))]),(.int .i64 2),(.int .i64 0)],fr:=[.arr (([] : List Sp.Bind).length) 4 (([] : List Sp.Bind).map eBind)],sg:=(f0 :: sg),wd:=0 }) ({ vals:=[(.sl .no 1 [(.sl .no 4 (a.map eBind)),(.sl .no 4 (b.map eBind))]),(.int .i64 (0 + (a.length : Int))),(.sl .no 1 [(.sl .no 4 (a.map eBind)),(.sl .no 4 (b.map eBind))]),(.int .i64 2),(.int .i64 1)],fr:=[.arr (([] : List Sp.Bind).length) 4 (([] : List Sp.Bind).map eBind)],sg:=(f0 :: sg),wd:=0 }) ({ vals:=[(.sl .no 1 [(.sl .no 4 (a.map eBind)),(.sl .no 4 (b.map eBind))]),(.int .i64 ((0 + (a.length : Int)) + (b.length : Int))),(.sl .no 1 [(.sl .no 4 (a.map eBind)),(.sl .no 4 (b.map eBind))]),(.int .i64 2),(.int .i64 2)],fr:=[.arr (([] : List Sp.Bind).length) 4 (([] : List Sp.Bind).map eBind)],sg:=(f0 :: sg),wd:=0 }) (gO 13<|clr (growBind_in ((0 + (a.length : Int)) + (b.length : Int)) (by omega) (by omega))<|gO 10<|unl3 ({ vals:=[(.bs 0 2 ((growBind ((0 + (a.length : Int)) + (b.length : Int))).2.1) 0 ((growBind ((0 + (a.length : Int)) + (b.length : Int))).2.2)),(.sl .no 1 [(.sl .no 4 (a.map eBind)),(.sl .no 4 (b.map eBind))]),(.int .i64 2),(.int .i64 0)],fr:=[.arr (([] : List Sp.Bind).length) 4 (([] : List Sp.Bind).map eBind),.arr 0 4 (([] : List Sp.Bind).map eBind),.arr ((growBind ((0 + (a.length : Int)) + (b.length : Int))).2.1) 4 (((growBind ((0 + (a.length : Int)) + (b.length : Int))).1).map eBind)],sg:=(f0 :: sg),wd:=0 }) ({ vals:=[(.bs 0 2 ((growBind ((0 + (a.length : Int)) + (b.length : Int))).2.1 + a.length) 0 ((growBind ((0 + (a.length : Int)) + (b.length : Int))).2.2 + a.length)),(.sl .no 1 [(.sl .no 4 (a.map eBind)),(.sl .no 4 (b.map eBind))]),(.int .i64 2),(.int .i64 1)],fr:=[.arr (([] : List Sp.Bind).length) 4 (([] : List Sp.Bind).map eBind),.arr 0 4 (([] : List Sp.Bind).map eBind),.arr ((growBind ((0 + (a.length : Int)) + (b.length : Int))).2.1 + a.length) 4 ((amC ((growBind ((0 + (a.length : Int)) + (b.length : Int))).1) ((growBind ((0 + (a.length : Int)) + (b.length : Int))).2.2) a).map eBind)],sg:=(f0 :: sg),wd:=0 }) ({ vals:=[(.bs 0 2 (((growBind ((0 + (a.length : Int)) + (b.length : Int))).2.1 + a.length) + b.length) 0 (((growBind ((0 + (a.length : Int)) + (b.length : Int))).2.2 + a.length) + b.length)),(.sl .no 1 [(.sl .no 4 (a.map eBind)),(.sl .no 4 (b.map eBind))]),(.int .i64 2),(.int .i64 2)],fr:=[.arr (([] : List Sp.Bind).length) 4 (([] : List Sp.Bind).map eBind),.arr 0 4 (([] : List Sp.Bind).map eBind),.arr (((growBind ((0 + (a.length : Int)) + (b.length : Int))).2.1 + a.length) + b.length) 4 ((amC (amC ((growBind ((0 + (a.length : Int)) + (b.length : Int))).1) ((growBind ((0 + (a.length : Int)) + (b.length : Int))).2.2) a) ((growBind ((0 + (a.length : Int)) + (b.length : Int))).2.2 + a.length) b).map eBind)],sg:=(f0 :: sg),wd:=0 }) (gO 16<|en) (fun ih_u1=>gO 11<|gO 1<|gO 6<|amw (en:=eBind) (L:=(amC ((growBind ((0 + (a.length : Int)) + (b.length : Int))).1) ((growBind ((0 + (a.length : Int)) + (b.length : Int))).2.2) a)) (M:=b) (i:=2) (z:=4) (ver:=((growBind ((0 + (a.length : Int)) + (b.length : Int))).2.1 + a.length)) (n:=((growBind ((0 + (a.length : Int)) + (b.length : Int))).2.2 + a.length)) (by first | (simp only [growBind,List.length_replicate];omega) | exact amC_len (by simp only [growBind,List.length_replicate];omega)) (by (simp only [growBind];unfold lim;omega)) (fun _ _=>rfl)<|gO 7<|nx ih_u1) (fun ih_u0=>gO 11<|gO 1<|gO 6<|amw (en:=eBind) (L:=(growBind ((0 + (a.length : Int)) + (b.length : Int))).1) (M:=a) (i:=2) (z:=4) (ver:=(growBind ((0 + (a.length : Int)) + (b.length : Int))).2.1) (n:=(growBind ((0 + (a.length : Int)) + (b.length : Int))).2.2) (by first | (simp only [growBind,List.length_replicate];omega) | exact amC_len (by simp only [growBind,List.length_replicate];omega)) (by (simp only [growBind];unfold lim;omega)) (fun _ _=>rfl)<|gO 7<|nx ih_u0)) (fun ih_u1=>gO 11<|gO 1<|gO 8<|kw 17 (len_map eBind b)<|gO 1<|kw 18 (congrArg (V.int .i64) (wrap_id (n:=(0 + (a.length : Int)) + (b.length : Int)) (by omega) (by omega)))<|gO 7<|dk 20 (fd (show ¬ (((0 + (a.length : Int)) + (b.length : Int)) < 0) by omega))<|gO 7<|nx ih_u1) (fun ih_u0=>gO 11<|gO 1<|gO 8<|kw 17 (len_map eBind a)<|gO 1<|kw 18 (congrArg (V.int .i64) (wrap_id (n:=0 + (a.length : Int)) (by omega) (by omega)))<|gO 7<|dk 20 (fd (show ¬ ((0 + (a.length : Int)) < 0) by omega))<|gO 7<|nx ih_u0)

def substRight (x : Sp.Bind) : Bool:=(bif (substVar x.var) then ((valCheck x.val) == 0) else false)
theorem substRight_says (x : Sp.Bind) (ok_x : x.ok) : SaysT TX 171 [eBind x] (eB (substRight x)) :=
  sy (e:=eB) (F:=c171) rfl fun sg=>gO 9<|cl (substVar_says x.var (by first | exact ok_x.1 | exact ok_x.2))<|gO 1<|dc 6 (fun h1=>gO 2<|cl (valCheck_says x.val (by first | exact ok_x.1 | exact ok_x.2))<|gO 5<|en) (fun h1=>gO 8<|en)

def substCheck_l1 (l : (List Sp.Bind)) : Nat → List Sp.Bind → Unit → Int
  | i1,[],_=>0
  | i1,x1 :: xs2,_=>(bif (substRight x1) then (bif (decide ((i1 : Int) > 0)) then (onS l[i1 - 1]? (fun y3=>(bif (bLess y3.var x1.var) then substCheck_l1 l (i1 + 1) xs2 () else 1)) default) else substCheck_l1 l (i1 + 1) xs2 ()) else 1)
def substCheck (l : (List Sp.Bind)) : Int:=(bif (decide ((l.length : Int) > 100)) then 1 else substCheck_l1 l 0 l ())
theorem substCheck_says (l : (List Sp.Bind)) (ok_l : okB l) : SaysT TX 107 [(eL 4 eBind) l] (eI (substCheck l)) :=
  sy (e:=eI) (F:=c107) rfl fun sg=>gO 9<|kw 6 (len_map eBind l)<|gO 2<|dp 7 (fun h1=>gO 7<|en) (fun h1=>gO 7<|kw 9 (len_map eBind l)<|gO 3<|rg (β:=Sp.Bind) (A:=Unit) (fun i1 _=>{ vals:=[(.sl .no 4 (l.map eBind)),(.sl .no 4 (l.map eBind)),(.int .i64 (l.length : Int)),(.int .i64 (i1 : Int))],fr:=[],sg:=sg,wd:=0 }) (L:=l) (acc0:=()) (fn:=substCheck_l1 l) (fun i1 x1 xs2 _ hd1 ih1=>have hlt1:=drop_lt hd1;have hx1:=drop_get hd1;have ok_x1:=okB.get ok_l hx1;gO 5<|dk 11 (lt_true hlt1)<|gO 7<|iak eBind hx1<|gO 8<|cl (substRight_says x1 (by first | exact ok_x1 | omega | (have q:=ok_l.1;omega)))<|gO 2<|dcn 18 (fun h2=>gO 3<|dp 21 (fun h3=>gO 3<|kw 24 (congrArg (V.int .i64) (wrap_p hlt1 (by first | exact ok_x1 | omega | (have q:=ok_l.1;omega)) (by omega)))<|ia (en:=eBind) (by first | exact ok_x1 | omega | (have q:=ok_l.1;omega)) fun y3 h4=>have ok_y3:=okB.get ok_l h4;gO 8<|dcn 32 (fun h5=>gO 5<|kw 33 (congrArg (V.int .i64) (wrap_s hlt1 (by first | exact ok_x1 | omega | (have q:=ok_l.1;omega))))<|gO 2<|nx (ih1 ())) (fun h5=>gO 11<|en)) (fun h3=>gO 17<|kw 33 (congrArg (V.int .i64) (wrap_s hlt1 (by first | exact ok_x1 | omega | (have q:=ok_l.1;omega))))<|gO 2<|nx (ih1 ()))) (fun h2=>gO 26<|en)) (fun i1 _ hd1=>have hge1:=drop_ge hd1;gO 5<|dk 11 (lt_false hge1)<|gO 10<|en))

def indexVal_l1 (l : (List Sp.Val)) (p : Sp.Val → Bool) : Nat → List Sp.Val → Unit → Int
  | i1,[],_=>(-1)
  | i1,x1 :: xs2,_=>(bif (p x1) then (i1 : Int) else indexVal_l1 l p (i1 + 1) xs2 ())
def indexVal (l : (List Sp.Val)) (p : Sp.Val → Bool) : Int:=indexVal_l1 l p 0 l ()
theorem indexVal_in {sg : List Fr} {g_p : FuncId} {a_p b_p : List V} (l : (List Sp.Val)) (p : Sp.Val → Bool) (h_l : l.length ≤ 140737488351232) (hp_p : ∀ x,x ∈ l → ∀ f0 : Fr,TX.call g_p ((a_p ++ [eVal x] ++ b_p).map (argV (TX.C.keepA g_p))) (f0 :: sg) = some (eB (p x),f0 :: sg,0)) : TX.call 240 [(eL 3 eVal) l,.fn g_p a_p b_p] sg = some (eI (indexVal l p),sg,0) :=
  sx (e:=fun r=>(eI r,sg,0)) (F:=c240) rfl<|gO 9<|kw 7 (len_map eVal l)<|gO 3<|rg (β:=Sp.Val) (A:=Unit) (fun i1 _=>{ vals:=[(.sl .no 3 (l.map eVal)),(.fn g_p a_p b_p),(.int .i64 (l.length : Int)),(.int .i64 (i1 : Int))],fr:=[],sg:=sg,wd:=0 }) (L:=l) (acc0:=()) (fn:=indexVal_l1 l p) (fun i1 x1 xs2 _ hd1 ih1=>have hlt1:=drop_lt hd1;have hx1:=drop_get hd1;gO 5<|dk 9 (lt_true hlt1)<|gO 14<|iak eVal hx1<|gO 1<|cli (hp_p x1 (List.mem_of_getElem? hx1) _)<|gO 1<|dc 16 (fun h1=>gO 12<|en) (fun h1=>gO 5<|kw 18 (congrArg (V.int .i64) (wrap_s hlt1 (by (first | assumption | omega | (simp only [List.length_cons,List.length_nil,List.length_append,List.length_map];omega) | grind))))<|gO 2<|nx (ih1 ()))) (fun i1 _ hd1=>have hge1:=drop_ge hd1;gO 5<|dk 9 (lt_false hge1)<|gO 10<|en)

def containsVal (l : (List Sp.Val)) (p : Sp.Val → Bool) : Bool:=(decide ((indexVal l p) ≥ 0))
theorem containsVal_in {sg : List Fr} {g_p : FuncId} {a_p b_p : List V} (l : (List Sp.Val)) (p : Sp.Val → Bool) (h_l : l.length ≤ 140737488351232) (hp_p : ∀ x,x ∈ l → ∀ f0 f1 : Fr,TX.call g_p (((a_p.map (sh0 1)) ++ [eVal x] ++ (b_p.map (sh0 1))).map (argV (TX.C.keepA g_p))) (f1 :: f0 :: sg) = some (eB (p x),f1 :: f0 :: sg,0)) : TX.call 168 [(eL 3 eVal) l,.fn g_p a_p b_p] sg = some (eB (containsVal l p),sg,0) :=
  sx (e:=fun r=>(eB r,sg,0)) (F:=c168) rfl<|gO 8<|cli (indexVal_in (g_p:=g_p) (a_p:=a_p.map (sh0 1)) (b_p:=b_p.map (sh0 1)) l p (by (first | assumption | omega | (simp only [List.length_cons,List.length_nil,List.length_append,List.length_map];omega) | grind)) (fun x hm f0_=>hp_p x hm _ f0_))<|gO 4<|en

def factCheck1 (v : Sp.Val) : Bool:=(!((valCheck v) == 0))
theorem factCheck1_says (v : Sp.Val) (ok_v : v.ok) : SaysT TX 169 [eVal v] (eB (factCheck1 v)) :=
  sy (e:=eB) (F:=c169) rfl fun sg=>gO 8<|cl (valCheck_says v (by (first | assumption | omega | (simp only [List.length_cons,List.length_nil,List.length_append,List.length_map];omega) | grind)))<|gO 4<|en

def factCheck (f : Sp.Fact) : Int:=(bif (factName f.name) then (bif (decide ((f.args.length : Int) > 5)) then 1 else (bif (containsVal f.args (fun x=>factCheck1 x)) then 1 else 0)) else 1)
theorem factCheck_says (f : Sp.Fact) (ok_f : f.ok) : SaysT TX 106 [eFact f] (eI (factCheck f)) :=
  sy (e:=eI) (F:=c106) rfl fun sg=>gO 10<|cl (factName_says f.name (by first | exact ok_f.1 | exact ok_f.2.1 | exact ok_f.2.2 _ (by assumption) | omega))<|gO 2<|dcn 7 (fun h1=>gO 3<|kw 10 (len_map eVal f.args)<|gO 3<|dp 13 (fun h2=>gO 12<|en) (fun h2=>gO 2<|cli (containsVal_in (g_p:=169) (a_p:=[]) (b_p:=[]) f.args (fun x=>factCheck1 x) (by first | exact ok_f.1 | exact ok_f.2.1 | exact ok_f.2.2 _ (by assumption) | omega) (fun x hm f0_ f1_=>factCheck1_says x (by first | (first | exact ok_f.1 | exact ok_f.2.1 | exact ok_f.2.2 _ (by assumption) | omega) | (omega)) _))<|gO 2<|dc 17 (fun h3=>gO 7<|en) (fun h3=>gO 7<|en))) (fun h1=>gO 18<|en)

def alphaFirst1 (t : Sp.Term) (a : Sp.Atom) (at_ : Int) : Bool:=(onS a.args[at_.toNat]? (fun y1=>(t.var == y1.var)) default)
theorem alphaFirst1_in (t : Sp.Term) (a : Sp.Atom) (at_ : Int) (h0 : 0 ≤ at_) (h1 : at_ < a.args.length) {sg : List Fr} {d_a i_a : Nat} (hg_a : (sg[d_a]?).bind (·[i_a]?) = some (.box [(.str a.name),(.sl .no 4 (a.args.map eTerm))])) {d_at_ i_at_ : Nat} (hg_at_ : (sg[d_at_]?).bind (·[i_at_]?) = some (.box [(.int .i64 at_)])) : TX.call 161 [eTerm t,.bp (d_a + 1) i_a 0,.bp (d_at_ + 1) i_at_ 0] sg = some (eB (alphaFirst1 t a at_),sg,0) :=
  sx (e:=fun r=>(eB r,sg,0)) (F:=c161) rfl<|gO 10<|ldo (ag:=false) (sz:=1) (o:=1) (v:=(.sl .no 4 (a.args.map eTerm))) hg_a (by kernel_rfl)<|ldo (ag:=false) (sz:=1) (o:=0) (v:=(.int .i64 at_)) hg_at_ (by kernel_rfl)<|kw 9 (toNat_v (n:=at_) (by omega))<|ia (en:=eTerm) (by omega) fun y1 h1=>gO 6<|en

def alphaFirst (a : Sp.Atom) (at_ : Int) : Int:=(indexTerm a.args (fun x=>alphaFirst1 x a at_))
theorem alphaFirst_says (a : Sp.Atom) (at_ : Int) (ok_a : a.ok) (h0 : 0 ≤ at_) (h1 : at_ < a.args.length) : SaysT TX 97 [eAtom a,eI at_] (eI (alphaFirst a at_)) :=
  sy (e:=eI) (F:=c97) rfl fun sg=>gO 11<|cli (indexTerm_in (g_p:=161) (a_p:=[]) (b_p:=[(.bp 1 0 0),(.bp 1 1 0)]) a.args (fun x=>alphaFirst1 x a at_) (by first | omega | exact ok_a.2.1) (fun x hm f0_=>alphaFirst1_in x a at_ (by first | (first | omega | exact ok_a.2.1) | (omega)) (by first | (first | omega | exact ok_a.2.1) | (omega)) (by kernel_rfl) (by kernel_rfl)))<|gO 3<|en

def alphaAlike_l1 (a : Sp.Atom) (b : Sp.Atom) : Nat → List Sp.Term → Unit → Bool
  | i1,[],_=>true
  | i1,x1 :: xs2,_=>(onS b.args[i1]? (fun y3=>(bif ((x1.var == ([] : Txt)) == (y3.var == ([] : Txt))) then (bif (x1.var == ([] : Txt)) then (bif ((x1.val.kind == y3.val.kind) && ((x1.val.n == y3.val.n) && ((x1.val.s == y3.val.s) && true))) then alphaAlike_l1 a b (i1 + 1) xs2 () else false) else (bif ((alphaFirst a (i1 : Int)) == (alphaFirst b (i1 : Int))) then alphaAlike_l1 a b (i1 + 1) xs2 () else false)) else false)) default)
def alphaAlike (a : Sp.Atom) (b : Sp.Atom) : Bool:=(bif (a.name == b.name) then (bif ((a.args.length : Int) == (b.args.length : Int)) then alphaAlike_l1 a b 0 a.args () else false) else false)
theorem alphaAlike_says (a : Sp.Atom) (b : Sp.Atom) (ok_a : a.ok) (ok_b : b.ok) : SaysT TX 41 [eAtom a,eAtom b] (eB (alphaAlike a b)) :=
  sy (e:=eB) (F:=c41) rfl fun sg=>gO 15<|dqn 13 (fun h1=>gO 3<|kw 16 (len_map eTerm a.args)<|gO 3<|kw 19 (len_map eTerm b.args)<|gO 3<|dqn 21 (fun h2=>gO 8<|kw 24 (len_map eTerm a.args)<|gO 3<|rg (β:=Sp.Term) (A:=Unit) (fun i1 _=>{ vals:=[(.bp 0 0 0),(.bp 0 1 0),(.sl .no 4 (a.args.map eTerm)),(.int .i64 (a.args.length : Int)),(.int .i64 (i1 : Int))],fr:=[.box [(.str a.name),(.sl .no 4 (a.args.map eTerm))],.box [(.str b.name),(.sl .no 4 (b.args.map eTerm))]],sg:=sg,wd:=0 }) (L:=a.args) (acc0:=()) (fn:=alphaAlike_l1 a b) (fun i1 x1 xs2 _ hd1 ih1=>have hlt1:=drop_lt hd1;have hx1:=drop_get hd1;gO 5<|dk 26 (lt_true hlt1)<|gO 7<|iak eTerm hx1<|gO 10<|ia (en:=eTerm) (by first | omega | exact ok_a | exact ok_b | (have q:=ok_a.2.1;omega)) fun y3 h3=>gO 16<|dcn 35 (fun h4=>gO 7<|dq 47 (fun h5=>gO 7<|dcn 54 (fun h6=>gO 4<|dk 58 (congrArg not (tq h5))<|gO 17<|kw 68 (congrArg (V.int .i64) (wrap_s hlt1 (by first | omega | exact ok_a | exact ok_b | (have q:=ok_a.2.1;omega))))<|gO 2<|nx (ih1 ())) (fun h6=>gO 27<|en)) (fun h5=>gO 11<|dk 58 (congrArg not (fq h5))<|gO 2<|cl (alphaFirst_says a (i1 : Int) (by first | omega | exact ok_a | exact ok_b | (have q:=ok_a.2.1;omega)) (by first | omega | exact ok_a | exact ok_b | (have q:=ok_a.2.1;omega)) (by first | omega | exact ok_a | exact ok_b | (have q:=ok_a.2.1;omega)))<|gO 2<|cl (alphaFirst_says b (i1 : Int) (by first | omega | exact ok_a | exact ok_b | (have q:=ok_a.2.1;omega)) (by first | omega | exact ok_a | exact ok_b | (have q:=ok_a.2.1;omega)) (by first | omega | exact ok_a | exact ok_b | (have q:=ok_a.2.1;omega)))<|gO 5<|dqn 43 (fun h7=>gO 6<|kw 68 (congrArg (V.int .i64) (wrap_s hlt1 (by first | omega | exact ok_a | exact ok_b | (have q:=ok_a.2.1;omega))))<|gO 2<|nx (ih1 ())) (fun h7=>gO 12<|en))) (fun h4=>gO 12<|en)) (fun i1 _ hd1=>have hge1:=drop_ge hd1;gO 5<|dk 26 (lt_false hge1)<|gO 10<|en)) (fun h2=>gO 7<|en)) (fun h1=>gO 16<|en)

end Go.Vm

/-
  Lists of values of variables: sorted, one behind another, right; conditions left out.
-/
namespace Go.Vm
open Go Go.Sp

theorem bLess_cb : ∀ a b : List UInt8, bLess a b = decide (Lib.compareBytes a b < 0)
  | [], [] => rfl
  | [], _ :: _ => rfl
  | _ :: _, [] => rfl
  | a :: l, b :: m => by
    rw [bLess, Lib.compareBytes, bLess_cb l m]
    by_cases h1 : a < b
    · rw [decide_eq_true h1, Bool.true_or, if_pos h1]; rfl
    · rw [decide_eq_false h1, Bool.false_or, if_neg h1]
      by_cases h2 : b < a
      · have : (a == b) = false := by
          rw [Bool.eq_false_iff]; intro h; rw [beq_iff_eq] at h; subst h; exact h1 h2
        rw [if_pos h2, this, Bool.false_and]; rfl
      · have : a = b := UInt8.le_antisymm (UInt8.not_lt.1 h2) (UInt8.not_lt.1 h1)
        rw [if_neg h2, this, BEq.rfl, Bool.true_and]
theorem cmp_both : Cmp (fun x y : Sp.Bind => substBoth1 x y) := Cmp.txt.of (fun x : Sp.Bind => x.var)

theorem stabBind_eq (cmp : Sp.Bind → Sp.Bind → Int) (data : List Sp.Bind) (hk : data.length ≤ 20) : stabBind data (data.length : Int) cmp = isrt cmp data := by
  unfold stabBind
  rw [stabBind_l1]
  by_cases h : (20 : Int) ≤ (data.length : Int)
  · have hl : (data.length : Int) = 20 := by omega
    rw [decide_eq_true h, cond_true, stabBind_l1]
    have h2 : ¬ ((20 : Int) + 20 ≤ (data.length : Int)) := by omega
    rw [decide_eq_false h2, cond_false]
    have h3 := insBind_eq cmp data
    rw [hl] at h3 ⊢
    rw [h3, insBind_end]
  · rw [decide_eq_false h, cond_false, insBind_eq]
theorem sortBind_eq (cmp : Sp.Bind → Sp.Bind → Int) (data : List Sp.Bind) (hk : data.length ≤ 20) : sortBind data cmp = isrt cmp data := stabBind_eq cmp data hk
theorem concatBind_eq {a b : List Sp.Bind} (h0 : 0 < a.length + b.length) : (concatBind a b).1 = a ++ b ∧ (concatBind a b).2.2 = (a ++ b).length := by
  have e2 : (concatBind a b).2.2 = 0 + a.length + b.length := rfl
  refine ⟨?_, by rw [e2, List.length_append]; omega⟩
  show amC (amC _ 0 a) (0 + a.length) b = a ++ b
  cases b with
  | nil =>
    cases a with
    | nil => simp at h0
    | cons x a => simp [amC]
  | cons y b =>
    cases a with
    | nil => simp [amC]
    | cons x a => simp [amC]
section
variable {a b : List Sp.Bind} (h0 : 0 < b.length) (h20 : a.length + b.length ≤ 20)
include h0
theorem both_len : (concatBind a b).1.length = (concatBind a b).2.2 := by
  obtain ⟨h1, h2⟩ := concatBind_eq (a := a) (b := b) (by omega)
  rw [h1, h2]
include h20
theorem both_20 : (concatBind a b).1.length ≤ 20 := by
  obtain ⟨h1, h2⟩ := concatBind_eq (a := a) (b := b) (by omega)
  rw [h1, List.length_append]; exact h20
theorem both_sort : sortBind (concatBind a b).1 (fun x x1 => substBoth1 x x1) = isrt (fun x x1 => substBoth1 x x1) (a ++ b) := by
  rw [sortBind_eq _ _ (both_20 h0 h20), (concatBind_eq (a := a) (b := b) (by omega)).1]
theorem both_slen : (sortBind (concatBind a b).1 (fun x x1 => substBoth1 x x1)).length = (concatBind a b).2.2 := by
  rw [both_sort h0 h20, (concatBind_eq (a := a) (b := b) (by omega)).2]
  exact (srtL_perm _ (a ++ b) []).length_eq
theorem both_s20 : (sortBind (concatBind a b).1 (fun x x1 => substBoth1 x x1)).length ≤ 1000000 := by
  rw [both_slen h0 h20, (concatBind_eq (a := a) (b := b) (by omega)).2, List.length_append]; omega
theorem both_ok (oka : okB a) (okb : okB b) : okB ((compactBind (sortBind (concatBind a b).1 (fun x x1 => substBoth1 x x1))).2.take (compactBind (sortBind (concatBind a b).1 (fun x x1 => substBoth1 x x1))).1) := by
  rw [(compactBind_eq _).1, both_sort h0 h20]
  have hp := srtL_perm (fun x x1 => substBoth1 x x1) (a ++ b) []
  refine ⟨Nat.le_trans (dd_len _) (by rw [hp.length_eq]; simp only [List.nil_append, List.length_append]; omega), fun x hx => ?_⟩
  rw [mem_dd, hp.mem_iff, List.nil_append, List.mem_append] at hx
  exact hx.elim (oka.2 x) (okb.2 x)
end
theorem both_k (l : List Sp.Bind) : (compactBind l).1 ≤ (compactBind l).2.length := (compactBind_eq l).2

theorem substCheck_l1_eq (l : List Sp.Bind) : ∀ (xs p : List Sp.Bind), l = p ++ xs → (substCheck_l1 l p.length xs () = 0 ↔ (∀ x ∈ xs, substRight x = true) ∧ ((p.getLast?.toList ++ xs).Pairwise (fun x y => Lib.compareBytes x.var y.var < 0)))
  | [], p, _ => by
    rw [substCheck_l1]
    simp only [List.append_nil, true_iff]
    refine ⟨fun x hx => absurd hx List.not_mem_nil, ?_⟩
    cases p.getLast? with
    | none => exact List.Pairwise.nil
    | some z => exact List.pairwise_singleton ..
  | x :: xs, p, h => by
    rw [substCheck_l1]
    have ih := substCheck_l1_eq l xs (p ++ [x]) (by rw [h]; simp)
    rw [List.length_append, List.length_singleton, List.getLast?_append] at ih
    have e1 : ([x].getLast?.or p.getLast?) = some x := rfl
    rw [e1] at ih
    have e2 : (some x).toList ++ xs = x :: xs := rfl
    rw [e2] at ih
    cases hr : substRight x with
    | false =>
      rw [cond_false]
      constructor
      · intro h; cases h
      · rintro ⟨h, _⟩; have := h x List.mem_cons_self; rw [hr] at this; cases this
    | true =>
      rw [cond_true]
      have hall : (∀ y ∈ x :: xs, substRight y = true) ↔ ∀ y ∈ xs, substRight y = true := ⟨fun h y hy => h y (List.mem_cons_of_mem _ hy), fun h y hy => (List.mem_cons.1 hy).elim (fun e => e ▸ hr) (h y)⟩
      by_cases hp : p = []
      · subst hp
        have : decide (((([] : List Sp.Bind).length : Nat) : Int) > 0) = false := by simp
        rw [this, cond_false, ih, hall]; rfl
      · have hpl : 0 < p.length := List.length_pos_iff.2 hp
        have : decide (((p.length : Nat) : Int) > 0) = true := decide_eq_true (by omega)
        rw [this, cond_true]
        obtain ⟨z, hz⟩ : ∃ z, p.getLast? = some z := ⟨_, List.getLast?_eq_some_getLast hp⟩
        have hg : l[p.length - 1]? = some z := by
          rw [h, List.getElem?_append_left (by omega), ← List.getLast?_eq_getElem?]; exact hz
        rw [hg]
        simp only [onS]
        rw [bLess_cb, hz]
        have e3 : (some z).toList ++ x :: xs = z :: x :: xs := rfl
        rw [e3]
        by_cases hc : Lib.compareBytes z.var x.var < 0
        · rw [decide_eq_true hc, cond_true, ih, hall]
          refine and_congr_right fun _ => ⟨fun hq => List.pairwise_cons.2 ⟨fun y hy => ?_, hq⟩, fun hq => (List.pairwise_cons.1 hq).2⟩
          rcases List.mem_cons.1 hy with rfl | hy
          · exact hc
          · exact cb_lt_trans hc ((List.pairwise_cons.1 hq).1 y hy)
        · rw [decide_eq_false hc, cond_false]
          constructor
          · intro h; cases h
          · rintro ⟨_, hq⟩; exact absurd ((List.pairwise_cons.1 hq).1 x List.mem_cons_self) hc
theorem substCheck_eq (l : List Sp.Bind) : substCheck l = 0 ↔ l.length ≤ 100 ∧ (∀ x ∈ l, substRight x = true) ∧ Rise (fun x : Sp.Bind => x.var) l := by
  unfold substCheck
  by_cases h : (l.length : Int) > 100
  · rw [decide_eq_true h, cond_true]
    constructor
    · intro h; cases h
    · rintro ⟨h2, _⟩; omega
  · rw [decide_eq_false h, cond_false]
    have := substCheck_l1_eq l l [] rfl
    rw [show ([] : List Sp.Bind).length = 0 from rfl] at this
    rw [this]
    exact ⟨fun hq => ⟨by omega, hq⟩, fun hq => hq.2⟩
end Go.Vm

/- What functions of the program answer. Printed by spec2.py. -/
namespace Go.Vm
open Go Go.Sp
set_option maxRecDepth 100000
set_option maxHeartbeats 4000000

def substBoth (a : (List Sp.Bind)) (b : (List Sp.Bind)) : (List Sp.Bind) × Bool:=(bif ((substCheck a) == 0) then (bif ((substCheck b) == 0) then (bif ((substCheck (((compactBind (sortBind ((concatBind a b).1) (fun x x1=>substBoth1 x x1))).2).take ((compactBind (sortBind ((concatBind a b).1) (fun x x1=>substBoth1 x x1))).1))) == 0) then ((((compactBind (sortBind ((concatBind a b).1) (fun x x1=>substBoth1 x x1))).2).take ((compactBind (sortBind ((concatBind a b).1) (fun x x1=>substBoth1 x x1))).1)),true) else (([] : (List Sp.Bind)),false)) else (([] : (List Sp.Bind)),false)) else (([] : (List Sp.Bind)),false))
theorem substBoth_says (a : (List Sp.Bind)) (b : (List Sp.Bind)) (ok_a : okB a) (ok_b : okB b) (h0 : 0 < b.length) (h20 : a.length + b.length ≤ 20) : SaysT TX 172 [(eL 4 eBind) a,(eL 4 eBind) b] ((eP (eL 4 eBind) eB) (substBoth a b)) :=
  sy (e:=(eP (eL 4 eBind) eB)) (F:=c172) rfl fun sg=>gO 9<|cl (substCheck_says a (by first | exact ok_a | exact ok_b | omega | exact fun _ _=>trivial | exact both_20 h0 h20 | exact both_s20 h0 h20 | exact both_ok h0 h20 ok_a ok_b))<|gO 2<|dqn 10 (fun h1=>gO 1<|cl (substCheck_says b (by first | exact ok_a | exact ok_b | omega | exact fun _ _=>trivial | exact both_20 h0 h20 | exact both_s20 h0 h20 | exact both_ok h0 h20 ok_a ok_b))<|gO 3<|dqn 14 (fun h2=>gO 7<|clr (concatBind_in a b (by first | exact ok_a | exact ok_b | omega | exact fun _ _=>trivial | exact both_20 h0 h20 | exact both_s20 h0 h20 | exact both_ok h0 h20 ok_a ok_b) (by first | exact ok_a | exact ok_b | omega | exact fun _ _=>trivial | exact both_20 h0 h20 | exact both_s20 h0 h20 | exact both_ok h0 h20 ok_a ok_b))<|gO 5<|clo (fr:=[.tok 0,.arr 0 4 (([] : List Sp.Bind).map eBind),.arr 0 4 (([] : List Sp.Bind).map eBind),.arr ((concatBind a b).2.1) 4 ((sortBind ((concatBind a b).1) (fun x x1=>substBoth1 x x1)).map eBind)]) (sortBind_w (d_x:=0) (i_x:=3) (v_x:=(concatBind a b).2.1) (n_x:=(concatBind a b).2.2) (g_cmp:=245) (P_cmp:=(fun _=>True)) ((concatBind a b).1) (fun x x1=>substBoth1 x x1) (sg:=([.tok 0,.arr 0 4 (([] : List Sp.Bind).map eBind),.arr 0 4 (([] : List Sp.Bind).map eBind),.arr ((concatBind a b).2.1) 4 (((concatBind a b).1).map eBind)] :: sg)) (W:=1) (plc_own (b:=.arr (concatBind a b).2.1 4 (((concatBind a b).1).map eBind)) (by kernel_rfl)) (by first | rfl | (first | exact both_len h0 | exact both_slen h0 h20 | exact both_k _)) (Nat.le_refl 1) (fun x x1 hx hx1 sg=>substBoth1_says x x1 sg) (by first | exact ok_a | exact ok_b | omega | exact fun _ _=>trivial | exact both_20 h0 h20 | exact both_s20 h0 h20 | exact both_ok h0 h20 ok_a ok_b) (by first | exact ok_a | exact ok_b | omega | exact fun _ _=>trivial | exact both_20 h0 h20 | exact both_s20 h0 h20 | exact both_ok h0 h20 ok_a ok_b))<|gO 4<|clo (fr:=[.tok 0,.arr 0 4 (([] : List Sp.Bind).map eBind),.arr 0 4 (([] : List Sp.Bind).map eBind),.arr ((concatBind a b).2.1) 4 (((compactBind (sortBind ((concatBind a b).1) (fun x x1=>substBoth1 x x1))).2).map eBind)]) (compactBind_w (d_s:=0) (i_s:=3) (v_s:=(concatBind a b).2.1) (n_s:=(concatBind a b).2.2) (sortBind ((concatBind a b).1) (fun x x1=>substBoth1 x x1)) (sg:=([.tok 0,.arr 0 4 (([] : List Sp.Bind).map eBind),.arr 0 4 (([] : List Sp.Bind).map eBind),.arr ((concatBind a b).2.1) 4 ((sortBind ((concatBind a b).1) (fun x x1=>substBoth1 x x1)).map eBind)] :: sg)) (W:=1) (plc_own (b:=.arr (concatBind a b).2.1 4 ((sortBind ((concatBind a b).1) (fun x x1=>substBoth1 x x1)).map eBind)) (by kernel_rfl)) (by first | rfl | (first | exact both_len h0 | exact both_slen h0 h20 | exact both_k _)) (Nat.le_refl 1) (by first | exact ok_a | exact ok_b | omega | exact fun _ _=>trivial | exact both_20 h0 h20 | exact both_s20 h0 h20 | exact both_ok h0 h20 ok_a ok_b))<|fzw (en:=eBind) (L:=(compactBind (sortBind ((concatBind a b).1) (fun x x1=>substBoth1 x x1))).2) (i:=3) (ver:=(concatBind a b).2.1) (z:=4) (len:=(compactBind (sortBind ((concatBind a b).1) (fun x x1=>substBoth1 x x1))).1) (by first | exact both_len h0 | exact both_slen h0 h20 | exact both_k _)<|gO 5<|cl (substCheck_says (((compactBind (sortBind ((concatBind a b).1) (fun x x1=>substBoth1 x x1))).2).take ((compactBind (sortBind ((concatBind a b).1) (fun x x1=>substBoth1 x x1))).1)) (by first | exact ok_a | exact ok_b | omega | exact fun _ _=>trivial | exact both_20 h0 h20 | exact both_s20 h0 h20 | exact both_ok h0 h20 ok_a ok_b))<|gO 2<|dqn 25 (fun h3=>gO 9<|en) (fun h3=>gO 8<|en)) (fun h2=>gO 8<|en)) (fun h1=>gO 13<|en)

def substPut (l : (List Sp.Bind)) (name : Txt) (v : Sp.Val) : (List Sp.Bind) × Bool:=(bif (substRight (⟨name,v⟩ : Sp.Bind)) then ((substBoth l ([(⟨name,v⟩ : Sp.Bind)] : (List Sp.Bind))).1,(substBoth l ([(⟨name,v⟩ : Sp.Bind)] : (List Sp.Bind))).2) else (([] : (List Sp.Bind)),false))
theorem substPut_says (l : (List Sp.Bind)) (name : Txt) (v : Sp.Val) (ok_l : okB l) (h_n : name.length ≤ 140737488351232) (ok_v : v.ok) (h20 : l.length + 1 ≤ 20) : SaysT TX 109 [(eL 4 eBind) l,eS name,eVal v] ((eP (eL 4 eBind) eB) (substPut l name v)) :=
  sy (e:=(eP (eL 4 eBind) eB)) (F:=c109) rfl fun sg=>gO 12<|cl (substRight_says (⟨name,v⟩ : Sp.Bind) (by first | exact ⟨h_n,ok_v⟩ | exact ok_l | exact ⟨by simp only [List.length_cons,List.length_nil];omega,fun x hx=>by rw [List.mem_singleton.1 hx];exact ⟨h_n,ok_v⟩⟩ | exact h20 | exact Nat.zero_lt_one))<|gO 2<|dcn 12 (fun h1=>gO 9<|cl (substBoth_says l ([(⟨name,v⟩ : Sp.Bind)] : (List Sp.Bind)) (by first | exact ⟨h_n,ok_v⟩ | exact ok_l | exact ⟨by simp only [List.length_cons,List.length_nil];omega,fun x hx=>by rw [List.mem_singleton.1 hx];exact ⟨h_n,ok_v⟩⟩ | exact h20 | exact Nat.zero_lt_one) (by first | exact ⟨h_n,ok_v⟩ | exact ok_l | exact ⟨by simp only [List.length_cons,List.length_nil];omega,fun x hx=>by rw [List.mem_singleton.1 hx];exact ⟨h_n,ok_v⟩⟩ | exact h20 | exact Nat.zero_lt_one) (by first | exact ⟨h_n,ok_v⟩ | exact ok_l | exact ⟨by simp only [List.length_cons,List.length_nil];omega,fun x hx=>by rw [List.mem_singleton.1 hx];exact ⟨h_n,ok_v⟩⟩ | exact h20 | exact Nat.zero_lt_one) (by first | exact ⟨h_n,ok_v⟩ | exact ok_l | exact ⟨by simp only [List.length_cons,List.length_nil];omega,fun x hx=>by rw [List.mem_singleton.1 hx];exact ⟨h_n,ok_v⟩⟩ | exact h20 | exact Nat.zero_lt_one))<|gO 6<|en) (fun h1=>gO 8<|en)

end Go.Vm

/-
  Values of variables put to others: right together where each variable has one value.
-/
namespace Go.Vm
open Go Go.Sp

abbrev kB (x : Sp.Bind) : Txt := x.var
theorem both_eq {a b : List Sp.Bind} (h0 : 0 < b.length) (h20 : a.length + b.length ≤ 20) : substBoth a b = bif substCheck a == 0 then bif substCheck b == 0 then bif substCheck (dd (isrt (fun x x1 => substBoth1 x x1) (a ++ b))) == 0 then (dd (isrt (fun x x1 => substBoth1 x x1) (a ++ b)), true) else ([], false) else ([], false) else ([], false) := by
  unfold substBoth
  rw [(compactBind_eq _).1, both_sort h0 h20]
theorem isrt_mem (cmp : Sp.Bind → Sp.Bind → Int) (l : List Sp.Bind) (x : Sp.Bind) : x ∈ dd (isrt cmp l) ↔ x ∈ l := by
  rw [mem_dd, (srtL_perm cmp l []).mem_iff]; rfl
theorem isrt_len (cmp : Sp.Bind → Sp.Bind → Int) (l : List Sp.Bind) : (dd (isrt cmp l)).length ≤ l.length := Nat.le_trans (dd_len _) (by rw [(srtL_perm cmp l []).length_eq]; exact Nat.le_refl _)
theorem both_ok_iff {a b : List Sp.Bind} (h0 : 0 < b.length) (h20 : a.length + b.length ≤ 20) : (substBoth a b).2 = true ↔ substCheck a = 0 ∧ substCheck b = 0 ∧ Fn1 kB (a ++ b) := by
  rw [both_eq h0 h20]
  by_cases h1 : substCheck a = 0
  · by_cases h2 : substCheck b = 0
    · rw [h1, h2]
      show (bif (substCheck (dd (isrt (fun x x1 => substBoth1 x x1) (a ++ b))) == 0) then (dd (isrt (fun x x1 => substBoth1 x x1) (a ++ b)), true) else ([], false)).2 = true ↔ _
      have hr1 := ((substCheck_eq a).1 h1).2.1
      have hr2 := ((substCheck_eq b).1 h2).2.1
      have key : substCheck (dd (isrt (fun x x1 => substBoth1 x x1) (a ++ b))) = 0 ↔ Fn1 kB (a ++ b) := by
        rw [substCheck_eq]
        constructor
        · rintro ⟨_, _, h⟩
          have := rise_dd_fn1 kB h
          intro x hx y hy
          exact this x ((srtL_perm _ (a ++ b) []).mem_iff.2 hx) y ((srtL_perm _ (a ++ b) []).mem_iff.2 hy)
        · intro h
          refine ⟨Nat.le_trans (isrt_len _ _) (by rw [List.length_append]; omega), fun x hx => ?_, ord_rise kB (srtL_ord cmp_both _ _ List.Pairwise.nil) fun x hx y hy => h x ((srtL_perm _ (a ++ b) []).mem_iff.1 hx) y ((srtL_perm _ (a ++ b) []).mem_iff.1 hy)⟩
          rw [isrt_mem, List.mem_append] at hx
          exact hx.elim (hr1 x) (hr2 x)
      by_cases h3 : substCheck (dd (isrt (fun x x1 => substBoth1 x x1) (a ++ b))) = 0
      · have e : (substCheck (dd (isrt (fun x x1 => substBoth1 x x1) (a ++ b))) == 0) = true := by rw [h3]; rfl
        rw [e]; exact ⟨fun _ => ⟨rfl, rfl, key.1 h3⟩, fun _ => rfl⟩
      · have e : (substCheck (dd (isrt (fun x x1 => substBoth1 x x1) (a ++ b))) == 0) = false := by simpa using h3
        rw [e]; exact ⟨fun h => (by cases h), fun h => absurd (key.2 h.2.2) h3⟩
    · have e : (substCheck b == 0) = false := by simpa using h2
      rw [h1, e]; exact ⟨fun h => (by cases h), fun h => absurd h.2.1 h2⟩
  · have e : (substCheck a == 0) = false := by simpa using h1
    rw [e]; exact ⟨fun h => (by cases h), fun h => absurd h.1 h1⟩
theorem both_val {a b : List Sp.Bind} (h0 : 0 < b.length) (h20 : a.length + b.length ≤ 20) (h : (substBoth a b).2 = true) : (substBoth a b).1 = dd (isrt (fun x x1 => substBoth1 x x1) (a ++ b)) ∧ substCheck (substBoth a b).1 = 0 := by
  rw [both_eq h0 h20] at h ⊢
  cases h1 : substCheck a == 0 with
  | false => rw [h1] at h; cases h
  | true =>
  cases h2 : substCheck b == 0 with
  | false => rw [h1, h2] at h; cases h
  | true =>
  cases h3 : substCheck (dd (isrt (fun x x1 => substBoth1 x x1) (a ++ b))) == 0 with
  | false => rw [h1, h2, h3] at h; cases h
  | true => simp only [cond_true]; exact ⟨trivial, by simpa using h3⟩

section
variable {l : List Sp.Bind} {v : Txt} {x : Sp.Val}
theorem put_both (h : (substPut l v x).2 = true) : substRight ⟨v, x⟩ = true ∧ substPut l v x = substBoth l [⟨v, x⟩] := by
  unfold substPut at h ⊢
  cases hr : substRight ⟨v, x⟩ with
  | false => rw [hr] at h; cases h
  | true => exact ⟨rfl, rfl⟩
theorem put_iff (h20 : l.length + 1 ≤ 20) : (substPut l v x).2 = true ↔ substRight ⟨v, x⟩ = true ∧ substCheck l = 0 ∧ Fn1 kB (l ++ [⟨v, x⟩]) := by
  have hs : substRight ⟨v, x⟩ = true → substCheck [⟨v, x⟩] = 0 := fun h => (substCheck_eq _).2 ⟨by simp, fun y hy => by rw [List.mem_singleton.1 hy]; exact h, List.pairwise_singleton ..⟩
  constructor
  · intro h
    obtain ⟨h1, h2⟩ := put_both h
    rw [h2] at h
    obtain ⟨a1, _, a3⟩ := (both_ok_iff (by simp) h20).1 h
    exact ⟨h1, a1, a3⟩
  · rintro ⟨h1, h2, h3⟩
    have : substPut l v x = substBoth l [⟨v, x⟩] := by unfold substPut; rw [h1]; rfl
    rw [this]
    exact (both_ok_iff (by simp) h20).2 ⟨h2, hs h1, h3⟩
theorem put_mem (h20 : l.length + 1 ≤ 20) (h : (substPut l v x).2 = true) (y : Sp.Bind) : y ∈ (substPut l v x).1 ↔ y ∈ l ∨ y = ⟨v, x⟩ := by
  obtain ⟨_, h2⟩ := put_both h
  rw [h2] at h ⊢
  rw [(both_val (by simp) h20 h).1, isrt_mem, List.mem_append, List.mem_singleton]
theorem put_chk (h20 : l.length + 1 ≤ 20) (h : (substPut l v x).2 = true) : substCheck (substPut l v x).1 = 0 := by
  obtain ⟨_, h2⟩ := put_both h
  rw [h2] at h ⊢
  exact (both_val (by simp) h20 h).2
theorem put_len (h20 : l.length + 1 ≤ 20) (h : (substPut l v x).2 = true) : (substPut l v x).1.length ≤ l.length + 1 := by
  obtain ⟨_, h2⟩ := put_both h
  rw [h2] at h ⊢
  rw [(both_val (by simp) h20 h).1]
  refine Nat.le_trans (isrt_len _ _) (by simp)
end
theorem put_ok {l : List Sp.Bind} {v : Txt} {x : Sp.Val} (ok_l : okB l) (h_n : v.length ≤ 140737488351232) (ok_v : x.ok) (h20 : l.length + 1 ≤ 20) (h : (substPut l v x).2 = true) : okB (substPut l v x).1 ∧ (substPut l v x).1.length ≤ l.length + 1 := by
  have hl := put_len h20 h
  refine ⟨⟨by omega, fun y hy => ?_⟩, hl⟩
  rcases (put_mem h20 h y).1 hy with hy | rfl
  · exact ok_l.2 y hy
  · exact ⟨h_n, ok_v⟩
theorem mc_len {a : Sp.Atom} (h : matchCheck a = 0) : a.args.length ≤ 5 := by
  unfold matchCheck at h
  cases hf : factName a.name with
  | false => rw [hf] at h; cases h
  | true =>
    by_cases hc : (a.args.length : Int) > 5
    · rw [hf, decide_eq_true hc] at h; cases h
    · omega
end Go.Vm

/- What functions of the program answer. Printed by spec2.py. -/
namespace Go.Vm
open Go Go.Sp
set_option maxRecDepth 100000
set_option maxHeartbeats 4000000

def matchOne_l1 (a : Sp.Atom) (f : Sp.Fact) (l : (List Sp.Bind)) : Nat → List Sp.Term → (List Sp.Bind) → (List Sp.Bind) × Bool
  | i1,[],a1_0=>(a1_0,true)
  | i1,x1 :: xs2,a1_0=>(bif (x1.var == ([] : Txt)) then (onS f.args[i1]? (fun y3=>(bif ((x1.val.kind == y3.kind) && ((x1.val.n == y3.n) && ((x1.val.s == y3.s) && true))) then matchOne_l1 a f l (i1 + 1) xs2 a1_0 else (([] : (List Sp.Bind)),false))) default) else (onS f.args[i1]? (fun y4=>(bif (substPut a1_0 x1.var y4).2 then matchOne_l1 a f l (i1 + 1) xs2 ((substPut a1_0 x1.var y4).1) else (([] : (List Sp.Bind)),false))) default))
def matchOne (a : Sp.Atom) (f : Sp.Fact) (l : (List Sp.Bind)) : (List Sp.Bind) × Bool:=(bif ((matchCheck a) == 0) then (bif ((factCheck f) == 0) then (bif ((substCheck l) == 0) then (bif (a.name == f.name) then (bif ((a.args.length : Int) == (f.args.length : Int)) then matchOne_l1 a f l 0 a.args (cloneBind l) else (([] : (List Sp.Bind)),false)) else (([] : (List Sp.Bind)),false)) else (([] : (List Sp.Bind)),false)) else (([] : (List Sp.Bind)),false)) else (([] : (List Sp.Bind)),false))
theorem matchOne_says (a : Sp.Atom) (f : Sp.Fact) (l : (List Sp.Bind)) (ok_a : a.ok) (ok_f : f.ok) (ok_l : okB l) (hl : l.length ≤ 14) : SaysT TX 50 [eAtom a,eFact f,(eL 4 eBind) l] ((eP (eL 4 eBind) eB) (matchOne a f l)) :=
  sy (e:=(eP (eL 4 eBind) eB)) (F:=c50) rfl fun sg=>gO 11<|cl (matchCheck_says a (by first | exact ok_a | exact ok_f | exact ok_l | omega | exact ok_x1.1 | exact hi1.1 | exact ok_f.2.2 _ (List.mem_of_getElem? (by assumption)) | (have q:=mc_len (by assumption);omega) | (have q:=ok_a.2.1;omega)))<|gO 2<|dqn 16 (fun h1=>gO 1<|cl (factCheck_says f (by first | exact ok_a | exact ok_f | exact ok_l | omega | exact ok_x1.1 | exact hi1.1 | exact ok_f.2.2 _ (List.mem_of_getElem? (by assumption)) | (have q:=mc_len (by assumption);omega) | (have q:=ok_a.2.1;omega)))<|gO 3<|dqn 21 (fun h2=>gO 1<|cl (substCheck_says l (by first | exact ok_a | exact ok_f | exact ok_l | omega | exact ok_x1.1 | exact hi1.1 | exact ok_f.2.2 _ (List.mem_of_getElem? (by assumption)) | (have q:=mc_len (by assumption);omega) | (have q:=ok_a.2.1;omega)))<|gO 3<|dqn 26 (fun h3=>gO 7<|dqn 33 (fun h4=>gO 3<|kw 36 (len_map eTerm a.args)<|gO 3<|kw 39 (len_map eVal f.args)<|gO 3<|dqn 41 (fun h5=>gO 5<|cl (cloneBind_says l (by first | exact ok_a | exact ok_f | exact ok_l | omega | exact ok_x1.1 | exact hi1.1 | exact ok_f.2.2 _ (List.mem_of_getElem? (by assumption)) | (have q:=mc_len (by assumption);omega) | (have q:=ok_a.2.1;omega)))<|gO 8<|kw 46 (len_map eTerm a.args)<|gO 3<|rgI (β:=Sp.Term) (A:=(List Sp.Bind)) (fun i1 a1_0=>okB a1_0 ∧ a1_0.length ≤ l.length + i1) (fun i1 a1_0=>{ vals:=[(.bp 0 1 0),(.sl .no 4 (a1_0.map eBind)),(.sl .no 4 (a.args.map eTerm)),(.int .i64 (a.args.length : Int)),(.int .i64 (i1 : Int))],fr:=[.box [(.str a.name),(.sl .no 4 (a.args.map eTerm))],.box [(.str f.name),(.sl .no 3 (f.args.map eVal))],.tok 0],sg:=sg,wd:=0 }) (L:=a.args) (acc0:=(cloneBind l)) (fn:=matchOne_l1 a f l) (by exact ⟨ok_l,Nat.le_refl _⟩) (fun i1 x1 xs2 a1_0 hd1 hi1 ih1=>have hi1 : okB a1_0 ∧ a1_0.length ≤ l.length + i1:=hi1;have hlt1:=drop_lt hd1;have hx1:=drop_get hd1;have ok_x1:=Atom.ok.arg ok_a hx1;gO 5<|dk 48 (lt_true hlt1)<|gO 7<|iak eTerm hx1<|gO 12<|dq 54 (fun h6=>gO 9<|ia (en:=eVal) (by first | exact ok_a | exact ok_f | exact ok_l | omega | exact ok_x1.1 | exact hi1.1 | exact ok_f.2.2 _ (List.mem_of_getElem? (by assumption)) | (have q:=mc_len (by assumption);omega) | (have q:=ok_a.2.1;omega)) fun y3 h7=>gO 3<|dcn 62 (fun h8=>gO 7<|kw 78 (congrArg (V.int .i64) (wrap_s hlt1 (by first | exact ok_a | exact ok_f | exact ok_l | omega | exact ok_x1.1 | exact hi1.1 | exact ok_f.2.2 _ (List.mem_of_getElem? (by assumption)) | (have q:=mc_len (by assumption);omega) | (have q:=ok_a.2.1;omega))))<|gO 2<|nx (ih1 a1_0 (by first | exact ⟨hi1.1,by omega⟩ | (have q0:=mc_len h1;have q:=put_ok hi1.1 ok_x1.1 (ok_f.2.2 _ (List.mem_of_getElem? (by assumption))) (by omega) (by assumption);exact ⟨q.1,by omega⟩)))) (fun h8=>gO 14<|en)) (fun h6=>gO 10<|ia (en:=eVal) (by first | exact ok_a | exact ok_f | exact ok_l | omega | exact ok_x1.1 | exact hi1.1 | exact ok_f.2.2 _ (List.mem_of_getElem? (by assumption)) | (have q:=mc_len (by assumption);omega) | (have q:=ok_a.2.1;omega)) fun y4 h9=>gO 1<|cl (substPut_says a1_0 x1.var y4 (by first | exact ok_a | exact ok_f | exact ok_l | omega | exact ok_x1.1 | exact hi1.1 | exact ok_f.2.2 _ (List.mem_of_getElem? (by assumption)) | (have q:=mc_len (by assumption);omega) | (have q:=ok_a.2.1;omega)) (by first | exact ok_a | exact ok_f | exact ok_l | omega | exact ok_x1.1 | exact hi1.1 | exact ok_f.2.2 _ (List.mem_of_getElem? (by assumption)) | (have q:=mc_len (by assumption);omega) | (have q:=ok_a.2.1;omega)) (by first | exact ok_a | exact ok_f | exact ok_l | omega | exact ok_x1.1 | exact hi1.1 | exact ok_f.2.2 _ (List.mem_of_getElem? (by assumption)) | (have q:=mc_len (by assumption);omega) | (have q:=ok_a.2.1;omega)) (by first | exact ok_a | exact ok_f | exact ok_l | omega | exact ok_x1.1 | exact hi1.1 | exact ok_f.2.2 _ (List.mem_of_getElem? (by assumption)) | (have q:=mc_len (by assumption);omega) | (have q:=ok_a.2.1;omega)))<|gO 12<|dcn 76 (fun h10=>gO 9<|kw 78 (congrArg (V.int .i64) (wrap_s hlt1 (by first | exact ok_a | exact ok_f | exact ok_l | omega | exact ok_x1.1 | exact hi1.1 | exact ok_f.2.2 _ (List.mem_of_getElem? (by assumption)) | (have q:=mc_len (by assumption);omega) | (have q:=ok_a.2.1;omega))))<|gO 2<|nx (ih1 ((substPut a1_0 x1.var y4).1) (by first | exact ⟨hi1.1,by omega⟩ | (have q0:=mc_len h1;have q:=put_ok hi1.1 ok_x1.1 (ok_f.2.2 _ (List.mem_of_getElem? (by assumption))) (by omega) (by assumption);exact ⟨q.1,by omega⟩)))) (fun h10=>gO 13<|en))) (fun i1 a1_0 hd1 hi1=>have hi1 : okB a1_0 ∧ a1_0.length ≤ l.length + i1:=hi1;have hge1:=drop_ge hd1;gO 5<|dk 48 (lt_false hge1)<|gO 12<|en)) (fun h5=>gO 8<|en)) (fun h4=>gO 17<|en)) (fun h3=>gO 24<|en)) (fun h2=>gO 29<|en)) (fun h1=>gO 34<|en)

end Go.Vm

/-
  Names, values, terms, atoms: the page's and the program's are the same.
-/
namespace Go.Vm
open Go Go.Sp

theorem refInner_eq (c : UInt8) : refInner c = (valSmall c || (valLarge c || (valDigit c || ((c.toNat : Int) == 95)))) := by
  unfold refInner
  have e1 : refLower c = valSmall c := rfl
  have e2 : refUpper c = valLarge c := rfl
  have e3 : refDigit c = valDigit c := rfl
  rw [e1, e2, e3]
  cases valSmall c <;> cases valLarge c <;> cases valDigit c <;> rfl
theorem dec_and {p q : Prop} [Decidable p] [Decidable q] : (bif decide p then decide q else false) = decide (p ∧ q) := by
  by_cases h : p <;> simp [h]
theorem substLetter_eq (c : UInt8) : substLetter c = refInner c := by
  rw [refInner_eq]
  unfold substLetter valSmall valLarge valDigit
  by_cases h1 : (c.toNat : Int) ≥ 97 <;> by_cases h2 : (c.toNat : Int) ≤ 122 <;> by_cases h3 : (c.toNat : Int) ≥ 65 <;> by_cases h4 : (c.toNat : Int) ≤ 90 <;> by_cases h5 : (c.toNat : Int) ≥ 48 <;> by_cases h6 : (c.toNat : Int) ≤ 57 <;>
    simp only [h1, h2, h3, h4, h5, h6, decide_true, decide_false, cond_true, cond_false, Bool.true_or, Bool.false_or]
theorem refWord_l1_eq (s : Txt) (g : Bool) (y : UInt8) : ∀ (xs : List UInt8) (i : Nat), refWord_l1 s g y i xs () = xs.all refInner
  | [], _ => rfl
  | x :: xs, i => by
    rw [refWord_l1, refWord_l1_eq s g y xs, List.all_cons]
    cases refInner x <;> rfl
theorem refWord_l2_eq (s : Txt) (g : Bool) (y : UInt8) : ∀ (xs : List UInt8) (i : Nat), refWord_l2 s g y i xs () = xs.all refInner
  | [], _ => rfl
  | x :: xs, i => by
    rw [refWord_l2, refWord_l2_eq s g y xs, List.all_cons]
    cases refInner x <;> rfl
theorem valSymbol_l1_eq (b : Txt) (y : UInt8) : ∀ (xs : List UInt8) (i : Nat), valSymbol_l1 b y i xs () = xs.all refInner
  | [], _ => rfl
  | x :: xs, i => by
    rw [valSymbol_l1, valSymbol_l1_eq b y xs, List.all_cons, refInner_eq]
    cases valSmall x <;> cases valLarge x <;> cases valDigit x <;> cases ((x.toNat : Int) == 95) <;> rfl
theorem substVar_l1_eq (b : Txt) (y : UInt8) : ∀ (xs : List UInt8) (i : Nat), substVar_l1 b y i xs () = xs.all refInner
  | [], _ => rfl
  | x :: xs, i => by
    rw [substVar_l1, substVar_l1_eq b y xs, List.all_cons, substLetter_eq]
    cases refInner x <;> rfl
theorem refIn_eq (n lo hi : Int) : refIn n lo hi = (decide (lo ≤ n) && decide (n ≤ hi)) := by
  unfold refIn
  by_cases h : n ≥ lo
  · have h' : lo ≤ n := h
    simp [h, h']
  · have h' : ¬ lo ≤ n := h
    simp [h']
theorem refWord_small (s : Txt) : refWord s false = valSymbol s := by
  unfold refWord valSymbol
  rw [refIn_eq]
  by_cases h1 : (s.length : Int) < 1
  · have : ¬ (1 : Int) ≤ s.length := by omega
    simp [h1, this]
  · have h1' : (1 : Int) ≤ s.length := by omega
    by_cases h2 : (s.length : Int) > 24
    · have : ¬ (s.length : Int) ≤ 24 := by omega
      simp [h1, h2, this]
    · have h2' : (s.length : Int) ≤ 24 := by omega
      simp only [h1, h1', h2, h2', decide_true, decide_false, cond_true, cond_false, Bool.and_self]
      cases s with
      | nil => simp at h1'
      | cons c s =>
        simp only [List.getElem?_cons_zero, onS]
        rw [refWord_l2_eq, valSymbol_l1_eq]
        have e1 : refLower c = valSmall c := rfl
        have e2 : refUpper c = valLarge c := rfl
        rw [e1, e2]
        have hex : valSmall c = true → valLarge c = false := by
          unfold valSmall valLarge
          rw [dec_and, dec_and]
          intro h
          have := of_decide_eq_true h
          exact decide_eq_false (by omega)
        cases h3 : valSmall c with
        | true => rw [hex h3]; rfl
        | false => cases valLarge c <;> rfl
theorem refWord_large (s : Txt) : refWord s true = substVar s := by
  unfold refWord substVar
  rw [refIn_eq]
  by_cases h1 : (s.length : Int) < 1
  · have : ¬ (1 : Int) ≤ s.length := by omega
    simp [h1, this]
  · have h1' : (1 : Int) ≤ s.length := by omega
    by_cases h2 : (s.length : Int) > 24
    · have : ¬ (s.length : Int) ≤ 24 := by omega
      simp [h1, h2, this]
    · have h2' : (s.length : Int) ≤ 24 := by omega
      simp only [h1, h1', h2, h2', decide_true, decide_false, cond_true, cond_false, Bool.and_self]
      cases s with
      | nil => simp at h1'
      | cons c s =>
        simp only [List.getElem?_cons_zero, onS]
        rw [refWord_l1_eq, substVar_l1_eq]
        unfold refUpper
        by_cases h3 : (c.toNat : Int) < 65
        · have : ¬ (c.toNat : Int) ≥ 65 := by omega
          simp [h3, this]
        · have h3' : (c.toNat : Int) ≥ 65 := by omega
          by_cases h4 : (c.toNat : Int) > 90
          · have : ¬ (c.toNat : Int) ≤ 90 := by omega
            simp [h3, h3', h4, this]
          · have h4' : (c.toNat : Int) ≤ 90 := by omega
            simp [h3, h3', h4, h4']
theorem refName_l1_eq (s : Txt) : ∀ (xs : List Txt) (i : Nat), refName_l1 s i xs () = xs.all (fun x => !(x == s))
  | [], _ => rfl
  | x :: xs, i => by
    rw [refName_l1, refName_l1_eq s xs, List.all_cons]
    cases x == s <;> rfl
theorem indexTxt_l1_eq (l : List Txt) (v : Txt) : ∀ (xs : List Txt) (i : Nat), decide (indexTxt_l1 l v i xs () ≥ 0) = xs.any (fun x => v == x)
  | [], _ => rfl
  | x :: xs, i => by
    rw [indexTxt_l1, List.any_cons]
    cases v == x with
    | true => simp
    | false => simp only [cond_false, Bool.false_or]; exact indexTxt_l1_eq l v xs (i + 1)
theorem containsTxt_eq (l : List Txt) (v : Txt) : containsTxt l v = l.any (fun x => v == x) := indexTxt_l1_eq l v l 0
theorem indexTerm_l1_eq (l : List Sp.Term) (p : Sp.Term → Bool) : ∀ (xs : List Sp.Term) (i : Nat), decide (indexTerm_l1 l p i xs () ≥ 0) = xs.any p
  | [], _ => rfl
  | x :: xs, i => by
    rw [indexTerm_l1, List.any_cons]
    cases p x with
    | true => simp
    | false => simp only [cond_false, Bool.false_or]; exact indexTerm_l1_eq l p xs (i + 1)
theorem containsTerm_eq (l : List Sp.Term) (p : Sp.Term → Bool) : containsTerm l p = l.any p := indexTerm_l1_eq l p l 0
theorem refName_eq (s : Txt) : refName s = factName s := by
  unfold refName factName valCheck factWord
  rw [refName_l1_eq, containsTxt_eq, refWord_small]
  simp only [show ((2 : Int) == 1) = false from rfl, show ((2 : Int) == 2) = true from rfl, show ((0 : Int) == 0) = true from rfl, cond_true, cond_false]
  cases valSymbol s with
  | false => rfl
  | true =>
    simp only [cond_true, show ((0 : Int) == 0) = true from rfl]
    show (refWords.all fun x => !(x == s)) = !(refWords.any fun x => s == x)
    rw [List.not_any_eq_all_not]
    congr 1
    funext x
    rw [Bool.eq_iff_iff]
    simp only [Bool.not_eq_true', beq_eq_false_iff_ne]
    exact ⟨fun h e => h e.symm, fun h e => h e.symm⟩
theorem u8_in (x : UInt8) : refIn (IntKind.i64.wrap (x.toNat : Int)) 32 126 = !(decide ((x.toNat : Int) < 32) || decide ((x.toNat : Int) > 126)) := by
  have hx : x.toNat < 256 := x.toNat_lt
  rw [wrap_id (by omega) (by omega), refIn_eq]
  by_cases h1 : (x.toNat : Int) < 32
  · have : ¬ (32 : Int) ≤ x.toNat := by omega
    simp [h1, this]
  · have : (32 : Int) ≤ x.toNat := by omega
    by_cases h2 : (x.toNat : Int) > 126
    · have : ¬ (x.toNat : Int) ≤ 126 := by omega
      simp [h2, this]
    · have h3 : (x.toNat : Int) ≤ 126 := by omega
      simp [h1, h2, this, h3]
theorem refValue_l1_eq (v : Sp.Val) : ∀ (xs : List UInt8) (i : Nat), refValue_l1 v i xs () = xs.all fun x => !(decide ((x.toNat : Int) < 32) || decide ((x.toNat : Int) > 126))
  | [], _ => rfl
  | x :: xs, i => by
    rw [refValue_l1, refValue_l1_eq v xs, List.all_cons, u8_in]
    cases (!(decide ((x.toNat : Int) < 32) || decide ((x.toNat : Int) > 126))) <;> rfl
theorem valPlain_l1_eq (b : Txt) : ∀ (xs : List UInt8) (i : Nat), valPlain_l1 b i xs () = ((xs.all fun x => !(decide ((x.toNat : Int) < 32) || decide ((x.toNat : Int) > 126))) && decide ((b.length : Int) ≤ 60))
  | [], _ => rfl
  | x :: xs, i => by
    rw [valPlain_l1, valPlain_l1_eq b xs, List.all_cons]
    cases decide ((x.toNat : Int) < 32) <;> cases decide ((x.toNat : Int) > 126) <;> rfl
theorem refValue_eq (v : Sp.Val) : refValue v = (valCheck v == 0) := by
  unfold refValue valCheck valPlain
  rw [refValue_l1_eq, valPlain_l1_eq, refWord_small, refIn_eq]
  cases v.kind == 1 with
  | true =>
    simp only [cond_true]
    by_cases h1 : v.n ≥ -4611686018427387904
    · have h1' : (-4611686018427387904 : Int) ≤ v.n := h1
      by_cases h2 : v.n ≤ 4611686018427387904
      · have : ((v.s.length : Int) == 0) = (v.s == []) := by
          cases v.s with
          | nil => rfl
          | cons a s => simp; omega
        simp only [h1, h1', h2, decide_true, cond_true, Bool.and_self, this]
        cases v.s == [] <;> rfl
      · simp [h1, h1', h2]
    · have h1' : ¬ (-4611686018427387904 : Int) ≤ v.n := h1
      simp [h1']
  | false =>
  simp only [cond_false]
  cases v.kind == 2 with
  | true => cases v.n == 0 <;> cases valSymbol v.s <;> rfl
  | false =>
  simp only [cond_false]
  cases v.kind == 3 with
  | false => rfl
  | true =>
    cases v.n == 0 with
    | false => rfl
    | true =>
      simp only [cond_true]
      by_cases h : (v.s.length : Int) > 60
      · have : ¬ (v.s.length : Int) ≤ 60 := by omega
        simp [h, this]
      · have h' : (v.s.length : Int) ≤ 60 := by omega
        simp only [h, h', decide_true, decide_false, cond_false, Bool.and_true]
        cases (v.s.all fun x => !(decide ((x.toNat : Int) < 32) || decide ((x.toNat : Int) > 126))) <;> rfl
theorem refTerm_eq (t : Sp.Term) : refTerm t = matchTerm t := by
  unfold refTerm matchTerm
  rw [refWord_large, refValue_eq]
  cases h : t.var with
  | nil => rfl
  | cons c s =>
    have e1 : decide (((c :: s).length : Int) > 0) = true := decide_eq_true (by simp)
    have e2 : ((c :: s : Txt) == []) = false := rfl
    rw [e1, e2]; rfl
theorem refAtom_l1_eq (a : Sp.Atom) : ∀ (xs : List Sp.Term) (i : Nat), refAtom_l1 a i xs () = xs.all matchTerm
  | [], _ => rfl
  | x :: xs, i => by
    rw [refAtom_l1, refAtom_l1_eq a xs, List.all_cons, refTerm_eq]
    cases matchTerm x <;> rfl
theorem refAtom_eq (a : Sp.Atom) : refAtom a = (matchCheck a == 0) := by
  unfold refAtom matchCheck
  rw [refName_eq, refAtom_l1_eq, containsTerm_eq]
  cases factName a.name with
  | false => rfl
  | true =>
  simp only [cond_true]
  cases decide ((a.args.length : Int) > 5) with
  | true => rfl
  | false =>
    simp only [cond_false]
    have : (a.args.any fun x => matchCheck1 x) = !(a.args.all matchTerm) := by
      rw [List.not_all_eq_any_not]; rfl
    rw [this]
    cases a.args.all matchTerm <;> rfl
end Go.Vm

/-
  An atom matches a fact: where its values are the fact's, and each variable has one value.
-/
namespace Go.Vm
open Go Go.Sp

theorem beqVal (x y : Sp.Val) : ((x.kind == y.kind) && ((x.n == y.n) && ((x.s == y.s) && true))) = (x == y) := by
  rw [Bool.eq_iff_iff]
  simp only [Bool.and_eq_true, beq_iff_eq, and_true]
  constructor
  · rintro ⟨h1, h2, h3⟩
    obtain ⟨a, b, c⟩ := x
    obtain ⟨a', b', c'⟩ := y
    simp_all
  · rintro rfl; exact ⟨rfl, rfl, rfl⟩
def prs : List Sp.Term → List Sp.Val → List Sp.Bind
  | x :: xs, y :: ys => bif x.var == [] then prs xs ys else ⟨x.var, y⟩ :: prs xs ys
  | _, _ => []
def cstT : List Sp.Term → List Sp.Val → Bool
  | x :: xs, y :: ys => bif x.var == [] then (x.val == y) && cstT xs ys else cstT xs ys
  | _, _ => true
theorem Fn1.congr {l m : List Sp.Bind} (h : ∀ b, b ∈ l ↔ b ∈ m) : Fn1 kB l ↔ Fn1 kB m :=
  ⟨fun q x hx y hy => q x ((h x).2 hx) y ((h y).2 hy), fun q x hx y hy => q x ((h x).1 hx) y ((h y).1 hy)⟩
theorem Fn1.sub {l m : List Sp.Bind} (h : ∀ b, b ∈ l → b ∈ m) (q : Fn1 kB m) : Fn1 kB l := fun x hx y hy => q x (h x hx) y (h y hy)
theorem mem_prs (b : Sp.Bind) : ∀ (xs : List Sp.Term) (ys : List Sp.Val), b ∈ prs xs ys ↔ ∃ (k : Nat) (x : Sp.Term) (y : Sp.Val), xs[k]? = some x ∧ ys[k]? = some y ∧ x.var ≠ [] ∧ b = ⟨x.var, y⟩
  | [], ys => by simp [prs]
  | x :: xs, [] => by simp [prs]
  | x :: xs, y :: ys => by
    rw [prs]
    have ih := mem_prs b xs ys
    constructor
    · intro h
      cases hv : x.var == [] with
      | true =>
        rw [hv, cond_true] at h
        obtain ⟨k, x', y', h1, h2, h3⟩ := ih.1 h
        exact ⟨k + 1, x', y', h1, h2, h3⟩
      | false =>
        rw [hv, cond_false] at h
        rcases List.mem_cons.1 h with e | h
        · exact ⟨0, x, y, rfl, rfl, by simpa using hv, e⟩
        · obtain ⟨k, x', y', h1, h2, h3⟩ := ih.1 h
          exact ⟨k + 1, x', y', h1, h2, h3⟩
    · rintro ⟨k, x', y', h1, h2, h3, h4⟩
      cases k with
      | zero =>
        simp only [List.getElem?_cons_zero, Option.some.injEq] at h1 h2
        subst h1; subst h2
        have : (x.var == []) = false := by simpa using h3
        rw [this, cond_false]; exact h4 ▸ List.mem_cons_self
      | succ k =>
        have := ih.2 ⟨k, x', y', by simpa using h1, by simpa using h2, h3, h4⟩
        cases x.var == [] with
        | true => exact this
        | false => exact List.mem_cons_of_mem _ this
theorem cstT_iff : ∀ (xs : List Sp.Term) (ys : List Sp.Val), cstT xs ys = true ↔ ∀ (k : Nat) (x : Sp.Term) (y : Sp.Val), xs[k]? = some x → ys[k]? = some y → x.var = [] → x.val = y
  | [], ys => by simp [cstT]
  | x :: xs, [] => by simp [cstT]
  | x :: xs, y :: ys => by
    rw [cstT]
    have ih := cstT_iff xs ys
    constructor
    · intro h k x' y' h1 h2 h3
      cases k with
      | zero =>
        simp only [List.getElem?_cons_zero, Option.some.injEq] at h1 h2
        subst h1; subst h2
        rw [h3] at h
        have h : ((x.val == y) && cstT xs ys) = true := h
        rw [Bool.and_eq_true] at h
        simpa using h.1
      | succ k =>
        refine ih.1 ?_ k x' y' (by simpa using h1) (by simpa using h2) h3
        cases hv : x.var == [] with
        | true => rw [hv, cond_true, Bool.and_eq_true] at h; exact h.2
        | false => rw [hv] at h; exact h
    · intro h
      have h2 := ih.2 fun k x' y' a b c => h (k + 1) x' y' (by simpa using a) (by simpa using b) c
      cases hv : x.var == [] with
      | true =>
        rw [cond_true, h2, Bool.and_true]
        have := h 0 x y rfl rfl (by simpa using hv)
        simpa using this
      | false => exact h2

theorem term_right {x : Sp.Term} (h : matchTerm x = true) (hv : x.var ≠ []) : substVar x.var = true := by
  unfold matchTerm at h
  have : (x.var == []) = false := by simpa using hv
  rw [this, cond_false] at h
  cases hs : substVar x.var with
  | true => rfl
  | false => rw [hs] at h; cases h
theorem one_l1 (a : Sp.Atom) (f : Sp.Fact) (l : List Sp.Bind) : ∀ (xs : List Sp.Term) (ys : List Sp.Val) (i : Nat) (acc : List Sp.Bind), f.args.drop i = ys → xs.length = ys.length → (∀ x ∈ xs, matchTerm x = true) → (∀ y ∈ ys, valCheck y = 0) → substCheck acc = 0 → acc.length + xs.length ≤ 20 →
    ((matchOne_l1 a f l i xs acc).2 = true ↔ cstT xs ys = true ∧ Fn1 kB (acc ++ prs xs ys)) ∧ ((matchOne_l1 a f l i xs acc).2 = true → (∀ b, b ∈ (matchOne_l1 a f l i xs acc).1 ↔ b ∈ acc ++ prs xs ys) ∧ substCheck (matchOne_l1 a f l i xs acc).1 = 0)
  | [], ys, i, acc, _, hl, _, _, hc, _ => by
    have : ys = [] := List.eq_nil_of_length_eq_zero hl.symm
    subst this
    rw [matchOne_l1]
    simp only [prs, cstT, List.append_nil, true_and, true_iff]
    exact ⟨rise_fn1 kB ((substCheck_eq acc).1 hc).2.2, fun _ => ⟨fun _ => trivial, hc⟩⟩
  | x :: xs, [], i, acc, _, hl, _, _, _, _ => by simp at hl
  | x :: xs, y :: ys, i, acc, hd, hl, ht, hy, hc, hn => by
    have hg : f.args[i]? = some y := drop_get hd
    have hd' : f.args.drop (i + 1) = ys := by rw [← List.drop_drop, hd]; rfl
    have hl' : xs.length = ys.length := by simpa using hl
    have ht' : ∀ x ∈ xs, matchTerm x = true := fun z hz => ht z (List.mem_cons_of_mem _ hz)
    have hy' : ∀ z ∈ ys, valCheck z = 0 := fun z hz => hy z (List.mem_cons_of_mem _ hz)
    simp only [List.length_cons] at hn
    rw [matchOne_l1, hg, prs, cstT]
    simp only [onS]
    rw [beqVal]
    cases hv : x.var == [] with
    | true =>
      rw [cond_true, cond_true, cond_true]
      cases hb : x.val == y with
      | true =>
        rw [cond_true, Bool.true_and]
        exact one_l1 a f l xs ys (i + 1) acc hd' hl' ht' hy' hc (by omega)
      | false =>
        rw [cond_false, Bool.false_and]
        exact ⟨⟨fun h => (by cases h), fun h => (by cases h.1)⟩, fun h => (by cases h)⟩
    | false =>
      have hne : x.var ≠ [] := by simpa using hv
      rw [cond_false, cond_false, cond_false]
      have hr : substRight ⟨x.var, y⟩ = true := by
        unfold substRight
        rw [term_right (ht x List.mem_cons_self) hne, hy y List.mem_cons_self]; rfl
      have hput := put_iff (l := acc) (v := x.var) (x := y) (by omega)
      cases hb : (substPut acc x.var y).2 with
      | true =>
        rw [cond_true]
        have hmem := put_mem (l := acc) (v := x.var) (x := y) (by omega) hb
        have hlen := put_len (l := acc) (v := x.var) (x := y) (by omega) hb
        have hm2 : ∀ b, b ∈ (substPut acc x.var y).1 ++ prs xs ys ↔ b ∈ acc ++ ⟨x.var, y⟩ :: prs xs ys := by
          intro b
          rw [List.mem_append, hmem, List.mem_append, List.mem_cons, or_assoc]
        obtain ⟨i1, i2⟩ := one_l1 a f l xs ys (i + 1) (substPut acc x.var y).1 hd' hl' ht' hy' (put_chk (by omega) hb) (by omega)
        refine ⟨i1.trans (and_congr_right fun _ => Fn1.congr hm2), fun h => ?_⟩
        obtain ⟨j1, j2⟩ := i2 h
        exact ⟨fun b => (j1 b).trans (hm2 b), j2⟩
      | false =>
        rw [cond_false]
        refine ⟨⟨fun h => (by cases h), fun h => ?_⟩, fun h => (by cases h)⟩
        have : (substPut acc x.var y).2 = true := hput.2 ⟨hr, hc, Fn1.sub (fun b hb => by
          rw [List.mem_append, List.mem_singleton] at hb
          rw [List.mem_append, List.mem_cons]
          exact hb.elim .inl fun e => .inr (.inl e)) h.2⟩
        rw [hb] at this; cases this

theorem containsVal_eq (l : List Sp.Val) (p : Sp.Val → Bool) : containsVal l p = l.any p := by
  have : ∀ (xs : List Sp.Val) (i : Nat), decide (indexVal_l1 l p i xs () ≥ 0) = xs.any p := by
    intro xs
    induction xs with
    | nil => intro i; rfl
    | cons x xs ih =>
      intro i
      rw [indexVal_l1, List.any_cons]
      cases p x with
      | true => simp
      | false => simp only [cond_false, Bool.false_or]; exact ih (i + 1)
  exact this l 0
theorem factCheck_eq (f : Sp.Fact) : factCheck f = 0 ↔ factName f.name = true ∧ f.args.length ≤ 5 ∧ ∀ v ∈ f.args, valCheck v = 0 := by
  unfold factCheck
  cases hf : factName f.name with
  | false => exact ⟨fun h => (by cases h), fun h => (by cases h.1)⟩
  | true =>
    rw [cond_true]
    by_cases hc : (f.args.length : Int) > 5
    · rw [decide_eq_true hc]; exact ⟨fun h => (by cases h), fun h => absurd h.2.1 (by omega)⟩
    · rw [decide_eq_false hc, cond_false, containsVal_eq]
      cases ha : f.args.any (fun x => factCheck1 x) with
      | true =>
        refine ⟨fun h => (by cases h), fun h => ?_⟩
        obtain ⟨v, hv, h1⟩ := List.any_eq_true.1 ha
        have := h.2.2 v hv
        unfold factCheck1 at h1
        rw [this] at h1; cases h1
      | false =>
        refine ⟨fun _ => ⟨rfl, by omega, fun v hv => ?_⟩, fun _ => rfl⟩
        have := List.any_eq_false.1 ha v hv
        unfold factCheck1 at this
        simpa using this
theorem matchCheck_eq (a : Sp.Atom) : matchCheck a = 0 ↔ factName a.name = true ∧ a.args.length ≤ 5 ∧ ∀ t ∈ a.args, matchTerm t = true := by
  unfold matchCheck
  cases hf : factName a.name with
  | false => exact ⟨fun h => (by cases h), fun h => (by cases h.1)⟩
  | true =>
    rw [cond_true]
    by_cases hc : (a.args.length : Int) > 5
    · rw [decide_eq_true hc]; exact ⟨fun h => (by cases h), fun h => absurd h.2.1 (by omega)⟩
    · rw [decide_eq_false hc, cond_false, containsTerm_eq]
      cases ha : a.args.any (fun x => matchCheck1 x) with
      | true =>
        refine ⟨fun h => (by cases h), fun h => ?_⟩
        obtain ⟨v, hv, h1⟩ := List.any_eq_true.1 ha
        have := h.2.2 v hv
        unfold matchCheck1 at h1
        rw [this] at h1; cases h1
      | false =>
        refine ⟨fun _ => ⟨rfl, by omega, fun v hv => ?_⟩, fun _ => rfl⟩
        have := List.any_eq_false.1 ha v hv
        unfold matchCheck1 at this
        simpa using this

theorem one_iff {a : Sp.Atom} {f : Sp.Fact} {l : List Sp.Bind} (hl : l.length ≤ 14) : (matchOne a f l).2 = true ↔ matchCheck a = 0 ∧ factCheck f = 0 ∧ substCheck l = 0 ∧ a.name = f.name ∧ a.args.length = f.args.length ∧ cstT a.args f.args = true ∧ Fn1 kB (l ++ prs a.args f.args) := by
  unfold matchOne
  by_cases h1 : matchCheck a = 0
  case neg =>
    have e : (matchCheck a == 0) = false := by simpa using h1
    rw [e]; exact ⟨fun h => (by cases h), fun h => absurd h.1 h1⟩
  by_cases h2 : factCheck f = 0
  case neg =>
    have e : (factCheck f == 0) = false := by simpa using h2
    rw [h1, e]; exact ⟨fun h => (by cases h), fun h => absurd h.2.1 h2⟩
  by_cases h3 : substCheck l = 0
  case neg =>
    have e : (substCheck l == 0) = false := by simpa using h3
    rw [h1, h2, e]; exact ⟨fun h => (by cases h), fun h => absurd h.2.2.1 h3⟩
  by_cases h4 : a.name = f.name
  case neg =>
    have e : (a.name == f.name) = false := by simpa using h4
    rw [h1, h2, h3, e]; exact ⟨fun h => (by cases h), fun h => absurd h.2.2.2.1 h4⟩
  by_cases h5 : a.args.length = f.args.length
  case neg =>
    have e : ((a.args.length : Int) == (f.args.length : Int)) = false := by
      rw [Bool.eq_false_iff]; intro h; rw [beq_iff_eq] at h; omega
    rw [h1, h2, h3, h4, e, BEq.rfl, BEq.rfl]; exact ⟨fun h => (by cases h), fun h => absurd h.2.2.2.2.1 h5⟩
  obtain ⟨m1, m2, m3⟩ := (matchCheck_eq a).1 h1
  obtain ⟨f1, f2, f3⟩ := (factCheck_eq f).1 h2
  rw [h1, h2, h3, h4, h5, BEq.rfl, BEq.rfl]
  simp only [BEq.rfl, cond_true]
  have := (one_l1 a f l a.args f.args 0 (cloneBind l) rfl h5 m3 f3 h3 (by show l.length + _ ≤ 20; omega)).1
  exact this.trans ⟨fun h => ⟨trivial, trivial, trivial, trivial, trivial, h⟩, fun h => h.2.2.2.2.2⟩
end Go.Vm
