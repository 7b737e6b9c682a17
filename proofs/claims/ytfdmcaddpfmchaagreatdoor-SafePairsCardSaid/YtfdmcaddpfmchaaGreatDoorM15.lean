/-
  A part of a proof: the last text of the claim says what is proved, and under which conditions.
-/
import Derived.Test.YtfdmcaddpfmchaaGreatDoorM14
import Derived.Test.YtfdmcaddpfmchaaGreatDoorM6
import Derived.Test.YtfdmcaddpfmchaaGreatDoorM8
import Derived.Test.YtfdmcaddpfmchaaGreatDoorM7
set_option linter.unusedSimpArgs false
set_option linter.unusedVariables false
set_option linter.unnecessarySimpa false
/- What functions of the program answer. Printed by spec2.py. -/
namespace Go.Vm
open Go Go.Sp
set_option maxRecDepth 100000
set_option maxHeartbeats 4000000

def valSmall (c : UInt8) : Bool:=(bif (decide ((c.toNat : Int) ≥ 97)) then (decide ((c.toNat : Int) ≤ 122)) else false)
theorem valSmall_says (c : UInt8)  : SaysT TX 292 [b8 c] (eB (valSmall c)) :=
  sy (e:=eB) (F:=c292) rfl fun sg=>gO 9<|dp 5 (fun h1=>gO 6<|en) (fun h1=>gO 6<|en)

def valLarge (c : UInt8) : Bool:=(bif (decide ((c.toNat : Int) ≥ 65)) then (decide ((c.toNat : Int) ≤ 90)) else false)
theorem valLarge_says (c : UInt8)  : SaysT TX 293 [b8 c] (eB (valLarge c)) :=
  sy (e:=eB) (F:=c293) rfl fun sg=>gO 9<|dp 5 (fun h1=>gO 6<|en) (fun h1=>gO 6<|en)

def valDigit (c : UInt8) : Bool:=(bif (decide ((c.toNat : Int) ≥ 48)) then (decide ((c.toNat : Int) ≤ 57)) else false)
theorem valDigit_says (c : UInt8)  : SaysT TX 279 [b8 c] (eB (valDigit c)) :=
  sy (e:=eB) (F:=c279) rfl fun sg=>gO 9<|dp 5 (fun h1=>gO 6<|en) (fun h1=>gO 6<|en)

def substLetter (c : UInt8) : Bool:=(bif (decide ((c.toNat : Int) ≥ 97)) then (bif (decide ((c.toNat : Int) ≤ 122)) then true else (bif (decide ((c.toNat : Int) ≥ 65)) then (bif (decide ((c.toNat : Int) ≤ 90)) then true else (bif (decide ((c.toNat : Int) ≥ 48)) then (bif (decide ((c.toNat : Int) ≤ 57)) then true else ((c.toNat : Int) == 95)) else ((c.toNat : Int) == 95))) else (bif (decide ((c.toNat : Int) ≥ 48)) then (bif (decide ((c.toNat : Int) ≤ 57)) then true else ((c.toNat : Int) == 95)) else ((c.toNat : Int) == 95)))) else (bif (decide ((c.toNat : Int) ≥ 65)) then (bif (decide ((c.toNat : Int) ≤ 90)) then true else (bif (decide ((c.toNat : Int) ≥ 48)) then (bif (decide ((c.toNat : Int) ≤ 57)) then true else ((c.toNat : Int) == 95)) else ((c.toNat : Int) == 95))) else (bif (decide ((c.toNat : Int) ≥ 48)) then (bif (decide ((c.toNat : Int) ≤ 57)) then true else ((c.toNat : Int) == 95)) else ((c.toNat : Int) == 95))))
theorem substLetter_says (c : UInt8)  : SaysT TX 291 [b8 c] (eB (substLetter c)) :=
  sy (e:=eB) (F:=c291) rfl fun sg=>gO 9<|dp 5 (fun h1=>gO 4<|dp 9 (fun h2=>gO 22<|en) (fun h2=>gO 3<|dp 12 (fun h3=>gO 5<|dp 17 (fun h4=>gO 14<|en) (fun h4=>gO 3<|dp 20 (fun h5=>gO 5<|dp 25 (fun h6=>gO 6<|en) (fun h6=>gO 6<|en)) (fun h5=>gO 11<|en))) (fun h3=>gO 8<|dp 20 (fun h7=>gO 5<|dp 25 (fun h8=>gO 6<|en) (fun h8=>gO 6<|en)) (fun h7=>gO 11<|en)))) (fun h1=>gO 7<|dp 12 (fun h9=>gO 5<|dp 17 (fun h10=>gO 14<|en) (fun h10=>gO 3<|dp 20 (fun h11=>gO 5<|dp 25 (fun h12=>gO 6<|en) (fun h12=>gO 6<|en)) (fun h11=>gO 11<|en))) (fun h9=>gO 8<|dp 20 (fun h13=>gO 5<|dp 25 (fun h14=>gO 6<|en) (fun h14=>gO 6<|en)) (fun h13=>gO 11<|en)))

def refLower (c : UInt8) : Bool:=(bif (decide ((c.toNat : Int) ≥ 97)) then (decide ((c.toNat : Int) ≤ 122)) else false)
theorem refLower_says (c : UInt8)  : SaysT TX 214 [b8 c] (eB (refLower c)) :=
  sy (e:=eB) (F:=c214) rfl fun sg=>gO 9<|dp 5 (fun h1=>gO 6<|en) (fun h1=>gO 6<|en)

def refUpper (c : UInt8) : Bool:=(bif (decide ((c.toNat : Int) ≥ 65)) then (decide ((c.toNat : Int) ≤ 90)) else false)
theorem refUpper_says (c : UInt8)  : SaysT TX 213 [b8 c] (eB (refUpper c)) :=
  sy (e:=eB) (F:=c213) rfl fun sg=>gO 9<|dp 5 (fun h1=>gO 6<|en) (fun h1=>gO 6<|en)

def refDigit (c : UInt8) : Bool:=(bif (decide ((c.toNat : Int) ≥ 48)) then (decide ((c.toNat : Int) ≤ 57)) else false)
theorem refDigit_says (c : UInt8)  : SaysT TX 274 [b8 c] (eB (refDigit c)) :=
  sy (e:=eB) (F:=c274) rfl fun sg=>gO 9<|dp 5 (fun h1=>gO 6<|en) (fun h1=>gO 6<|en)

def refInner (c : UInt8) : Bool:=(bif (refLower c) then true else (bif (refUpper c) then true else (bif (refDigit c) then true else ((c.toNat : Int) == 95))))
theorem refInner_says (c : UInt8)  : SaysT TX 215 [b8 c] (eB (refInner c)) :=
  sy (e:=eB) (F:=c215) rfl fun sg=>gO 7<|cl (refLower_says c)<|gO 1<|dc 5 (fun h1=>gO 14<|en) (fun h1=>gO 1<|cl (refUpper_says c)<|gO 2<|dc 9 (fun h2=>gO 10<|en) (fun h2=>gO 1<|cl (refDigit_says c)<|gO 2<|dc 13 (fun h3=>gO 6<|en) (fun h3=>gO 6<|en)))

def refIn (n : Int) (lo : Int) (hi : Int) : Bool:=(bif (decide (n ≥ lo)) then (decide (n ≤ hi)) else false)
theorem refIn_says (n : Int) (lo : Int) (hi : Int)  : SaysT TX 151 [eI n,eI lo,eI hi] (eB (refIn n lo hi)) :=
  sy (e:=eB) (F:=c151) rfl fun sg=>gO 10<|dp 10 (fun h1=>gO 7<|en) (fun h1=>gO 7<|en)

def refIn9 (n : Int) (lo : Int) (hi : Int) : Bool:=(bif (decide (n ≥ lo)) then (decide (n ≤ hi)) else false)
theorem refIn9_says (n : Int) (lo : Int) (hi : Int)  : SaysT TX 79 [eI n,eI lo,eI hi] (eB (refIn9 n lo hi)) :=
  sy (e:=eB) (F:=c79) rfl fun sg=>gO 10<|dp 10 (fun h1=>gO 7<|en) (fun h1=>gO 7<|en)

def refIn15 (n : Int) (lo : Int) (hi : Int) : Bool:=(bif (decide (n ≥ lo)) then (decide (n ≤ hi)) else false)
theorem refIn15_says (n : Int) (lo : Int) (hi : Int)  : SaysT TX 206 [eI n,eI lo,eI hi] (eB (refIn15 n lo hi)) :=
  sy (e:=eB) (F:=c206) rfl fun sg=>gO 10<|dp 10 (fun h1=>gO 7<|en) (fun h1=>gO 7<|en)

def refOne (k : Int) : Bool:=(bif (k == 2) then true else (bif (k == 5) then true else (bif (k == 6) then true else (k == 7))))
theorem refOne_says (k : Int)  : SaysT TX 80 [eI k] (eB (refOne k)) :=
  sy (e:=eB) (F:=c80) rfl fun sg=>gO 9<|dq 5 (fun h1=>gO 14<|en) (fun h1=>gO 4<|dq 9 (fun h2=>gO 10<|en) (fun h2=>gO 4<|dq 13 (fun h3=>gO 6<|en) (fun h3=>gO 6<|en)))

def refTwo (k : Int) : Bool:=(bif (k == 3) then true else (bif (k == 4) then true else (k == 8)))
theorem refTwo_says (k : Int)  : SaysT TX 81 [eI k] (eB (refTwo k)) :=
  sy (e:=eB) (F:=c81) rfl fun sg=>gO 9<|dq 5 (fun h1=>gO 10<|en) (fun h1=>gO 4<|dq 9 (fun h2=>gO 6<|en) (fun h2=>gO 6<|en))

def valSymbol_l1 (b : Txt) (y1 : UInt8) : Nat → List UInt8 → Unit → Bool
  | i1,[],_=>true
  | i1,x2 :: xs3,_=>(bif (valSmall x2) then valSymbol_l1 b y1 (i1 + 1) xs3 () else (bif (valLarge x2) then valSymbol_l1 b y1 (i1 + 1) xs3 () else (bif (valDigit x2) then valSymbol_l1 b y1 (i1 + 1) xs3 () else (bif ((x2.toNat : Int) == 95) then valSymbol_l1 b y1 (i1 + 1) xs3 () else false))))
def valSymbol (b : Txt) : Bool:=(bif (decide ((b.length : Int) < 1)) then false else (bif (decide ((b.length : Int) > 24)) then false else (onS b[0]? (fun y1=>(bif (valSmall y1) then valSymbol_l1 b y1 0 b () else false)) default)))
theorem valSymbol_says (b : Txt) (h_b : b.length ≤ 140737488351232) : SaysT TX 241 [eS b] (eB (valSymbol b)) :=
  sy (e:=eB) (F:=c241) rfl fun sg=>gO 11<|dp 7 (fun h1=>gO 18<|en) (fun h1=>gO 5<|dp 12 (fun h2=>gO 13<|en) (fun h2=>gO 1<|ix (by (first | assumption | omega | (simp only [List.length_cons,List.length_nil,List.length_append,List.length_map];omega) | grind)) fun y1 h3=>cl (valSmall_says y1)<|gO 3<|dcn 17 (fun h4=>gO 10<|rg (β:=UInt8) (A:=Unit) (fun i1 _=>{ vals:=[(.str b),(.int .i64 (b.length : Int)),(.int .i64 (i1 : Int))],fr:=[],sg:=sg,wd:=0 }) (L:=b) (acc0:=()) (fn:=valSymbol_l1 b y1) (fun i1 x2 xs3 _ hd1 ih1=>have hlt1:=drop_lt hd1;have hx1:=drop_get hd1;gO 5<|dk 21 (lt_true hlt1)<|gO 13<|ixk hx1<|cl (valSmall_says x2)<|gO 2<|dcn 28 (fun h5=>gO 25<|kw 48 (congrArg (V.int .i64) (wrap_s hlt1 (by (first | assumption | omega | (simp only [List.length_cons,List.length_nil,List.length_append,List.length_map];omega) | grind))))<|gO 2<|nx (ih1 ())) (fun h5=>gO 2<|ixk hx1<|cl (valLarge_says x2)<|gO 3<|dcn 35 (fun h6=>gO 18<|kw 48 (congrArg (V.int .i64) (wrap_s hlt1 (by (first | assumption | omega | (simp only [List.length_cons,List.length_nil,List.length_append,List.length_map];omega) | grind))))<|gO 2<|nx (ih1 ())) (fun h6=>gO 2<|ixk hx1<|cl (valDigit_says x2)<|gO 3<|dcn 42 (fun h7=>gO 11<|kw 48 (congrArg (V.int .i64) (wrap_s hlt1 (by (first | assumption | omega | (simp only [List.length_cons,List.length_nil,List.length_append,List.length_map];omega) | grind))))<|gO 2<|nx (ih1 ())) (fun h7=>gO 2<|ixk hx1<|gO 3<|dqn 47 (fun h8=>gO 5<|kw 48 (congrArg (V.int .i64) (wrap_s hlt1 (by (first | assumption | omega | (simp only [List.length_cons,List.length_nil,List.length_append,List.length_map];omega) | grind))))<|gO 2<|nx (ih1 ())) (fun h8=>gO 11<|en))))) (fun i1 _ hd1=>have hge1:=drop_ge hd1;gO 5<|dk 21 (lt_false hge1)<|gO 10<|en)) (fun h4=>gO 7<|en)))

def valPlain_l1 (b : Txt) : Nat → List UInt8 → Unit → Bool
  | i1,[],_=>(decide ((b.length : Int) ≤ 60))
  | i1,x1 :: xs2,_=>(bif (decide ((x1.toNat : Int) < 32)) then false else (bif (decide ((x1.toNat : Int) > 126)) then false else valPlain_l1 b (i1 + 1) xs2 ()))
def valPlain (b : Txt) : Bool:=valPlain_l1 b 0 b ()
theorem valPlain_says (b : Txt) (h_b : b.length ≤ 140737488351232) : SaysT TX 242 [eS b] (eB (valPlain b)) :=
  sy (e:=eB) (F:=c242) rfl fun sg=>gO 12<|rg (β:=UInt8) (A:=Unit) (fun i1 _=>{ vals:=[(.str b),(.int .i64 (b.length : Int)),(.int .i64 (i1 : Int))],fr:=[],sg:=sg,wd:=0 }) (L:=b) (acc0:=()) (fn:=valPlain_l1 b) (fun i1 x1 xs2 _ hd1 ih1=>have hlt1:=drop_lt hd1;have hx1:=drop_get hd1;gO 5<|dk 7 (lt_true hlt1)<|gO 13<|ixk hx1<|gO 2<|dp 13 (fun h1=>gO 17<|en) (fun h1=>gO 2<|ixk hx1<|gO 3<|dp 18 (fun h2=>gO 11<|en) (fun h2=>gO 5<|kw 19 (congrArg (V.int .i64) (wrap_s hlt1 (by (first | assumption | omega | (simp only [List.length_cons,List.length_nil,List.length_append,List.length_map];omega) | grind))))<|gO 2<|nx (ih1 ())))) (fun i1 _ hd1=>have hge1:=drop_ge hd1;gO 5<|dk 7 (lt_false hge1)<|gO 13<|en)

def valCheck (v : Sp.Val) : Int:=(bif (v.kind == 1) then (bif (decide (v.n ≥ (-4611686018427387904))) then (bif (decide (v.n ≤ 4611686018427387904)) then (bif (v.s == ([] : Txt)) then 0 else 1) else 1) else 1) else (bif (v.kind == 2) then (bif (v.n == 0) then (bif (valSymbol v.s) then 0 else 1) else 1) else (bif (v.kind == 3) then (bif (v.n == 0) then (bif (valPlain v.s) then 0 else 1) else 1) else 1)))
theorem valCheck_says (v : Sp.Val) (ok_v : v.ok) : SaysT TX 170 [eVal v] (eI (valCheck v)) :=
  sy (e:=eI) (F:=c170) rfl fun sg=>gO 21<|dq 6 (fun h1=>gO 6<|dp 11 (fun h2=>gO 5<|dp 16 (fun h3=>gO 13<|dqn 42 (fun h4=>gO 7<|en) (fun h4=>gO 7<|en)) (fun h3=>gO 20<|en)) (fun h2=>gO 25<|en)) (fun h1=>gO 6<|dq 21 (fun h5=>gO 6<|dq 26 (fun h6=>gO 2<|cl (valSymbol_says v.s (by (first | assumption | omega | (simp only [List.length_cons,List.length_nil,List.length_append,List.length_map];omega) | grind)))<|gO 10<|dcn 42 (fun h7=>gO 7<|en) (fun h7=>gO 7<|en)) (fun h6=>gO 20<|en)) (fun h5=>gO 6<|dq 31 (fun h8=>gO 6<|dq 36 (fun h9=>gO 2<|cl (valPlain_says v.s (by (first | assumption | omega | (simp only [List.length_cons,List.length_nil,List.length_append,List.length_map];omega) | grind)))<|gO 10<|dcn 42 (fun h10=>gO 7<|en) (fun h10=>gO 7<|en)) (fun h9=>gO 20<|en)) (fun h8=>gO 16<|en)))

def substVar_l1 (b : Txt) (y1 : UInt8) : Nat → List UInt8 → Unit → Bool
  | i1,[],_=>true
  | i1,x2 :: xs3,_=>(bif (substLetter x2) then substVar_l1 b y1 (i1 + 1) xs3 () else false)
def substVar (b : Txt) : Bool:=(bif (decide ((b.length : Int) < 1)) then false else (bif (decide ((b.length : Int) > 24)) then false else (onS b[0]? (fun y1=>(bif (decide ((y1.toNat : Int) < 65)) then false else (bif (decide ((y1.toNat : Int) > 90)) then false else substVar_l1 b y1 0 b ()))) default)))
theorem substVar_says (b : Txt) (h_b : b.length ≤ 140737488351232) : SaysT TX 239 [eS b] (eB (substVar b)) :=
  sy (e:=eB) (F:=c239) rfl fun sg=>gO 11<|dp 7 (fun h1=>gO 22<|en) (fun h1=>gO 5<|dp 12 (fun h2=>gO 17<|en) (fun h2=>gO 1<|ix (by (first | assumption | omega | (simp only [List.length_cons,List.length_nil,List.length_append,List.length_map];omega) | grind)) fun y1 h3=>gO 3<|dp 17 (fun h4=>gO 12<|en) (fun h4=>gO 1<|ixk h3<|gO 3<|dp 21 (fun h5=>gO 7<|en) (fun h5=>gO 10<|rg (β:=UInt8) (A:=Unit) (fun i1 _=>{ vals:=[(.str b),(.int .i64 (b.length : Int)),(.int .i64 (i1 : Int))],fr:=[],sg:=sg,wd:=0 }) (L:=b) (acc0:=()) (fn:=substVar_l1 b y1) (fun i1 x2 xs3 _ hd1 ih1=>have hlt1:=drop_lt hd1;have hx1:=drop_get hd1;gO 5<|dk 25 (lt_true hlt1)<|gO 13<|ixk hx1<|cl (substLetter_says x2)<|gO 2<|dcn 31 (fun h6=>gO 5<|kw 32 (congrArg (V.int .i64) (wrap_s hlt1 (by (first | assumption | omega | (simp only [List.length_cons,List.length_nil,List.length_append,List.length_map];omega) | grind))))<|gO 2<|nx (ih1 ())) (fun h6=>gO 11<|en)) (fun i1 _ hd1=>have hge1:=drop_ge hd1;gO 5<|dk 25 (lt_false hge1)<|gO 10<|en)))))

def refWord_l1 (s : Txt) (large : Bool) (y1 : UInt8) : Nat → List UInt8 → Unit → Bool
  | i1,[],_=>true
  | i1,x2 :: xs3,_=>(bif (refInner x2) then refWord_l1 s large y1 (i1 + 1) xs3 () else false)
def refWord_l2 (s : Txt) (large : Bool) (y1 : UInt8) : Nat → List UInt8 → Unit → Bool
  | i2,[],_=>true
  | i2,x4 :: xs5,_=>(bif (refInner x4) then refWord_l2 s large y1 (i2 + 1) xs5 () else false)
def refWord (s : Txt) (large : Bool) : Bool:=(bif (refIn (s.length : Int) 1 24) then (onS s[0]? (fun y1=>(bif (large == (refUpper y1)) then (bif large then refWord_l1 s large y1 0 s () else (bif (refLower y1) then refWord_l2 s large y1 0 s () else false)) else false)) default) else false)
theorem refWord_says (s : Txt) (large : Bool) (h_s : s.length ≤ 140737488351232) : SaysT TX 148 [eS s,eB large] (eB (refWord s large)) :=
  sy (e:=eB) (F:=c148) rfl fun sg=>gO 9<|cl (refIn_says (s.length : Int) 1 24)<|gO 2<|dcn 10 (fun h1=>gO 2<|ix (by first | assumption | omega | (simp only [List.length_cons,List.length_nil,List.length_append,List.length_map];omega) | grind | ((simp [refIn] at *;omega))) fun y1 h2=>cl (refUpper_says y1)<|gO 3<|dcn 17 (fun h3=>gO 3<|dcn 20 (fun h4=>gO 15<|rg (β:=UInt8) (A:=Unit) (fun i1 _=>{ vals:=[(.str s),(.int .i64 (i1 : Int))],fr:=[],sg:=sg,wd:=0 }) (L:=s) (acc0:=()) (fn:=refWord_l1 s large y1) (fun i1 x2 xs3 _ hd1 ih1=>have hlt1:=drop_lt hd1;have hx1:=drop_get hd1;gO 8<|dk 30 (lt_true hlt1)<|gO 8<|ixk hx1<|cl (refInner_says x2)<|gO 2<|dcn 37 (fun h5=>gO 6<|kw 32 (congrArg (V.int .i64) (wrap_s hlt1 (by first | assumption | omega | (simp only [List.length_cons,List.length_nil,List.length_append,List.length_map];omega) | grind | ((simp [refIn] at *;omega)))))<|gO 2<|nx (ih1 ())) (fun h5=>gO 11<|en)) (fun i1 _ hd1=>have hge1:=drop_ge hd1;gO 8<|dk 30 (lt_false hge1)<|gO 10<|en)) (fun h4=>gO 1<|ixk h2<|cl (refLower_says y1)<|gO 4<|dcn 26 (fun h6=>gO 8<|rg (β:=UInt8) (A:=Unit) (fun i2 _=>{ vals:=[(.str s),(.int .i64 (i2 : Int))],fr:=[],sg:=sg,wd:=0 }) (L:=s) (acc0:=()) (fn:=refWord_l2 s large y1) (fun i2 x4 xs5 _ hd2 ih2=>have hlt2:=drop_lt hd2;have hx2:=drop_get hd2;gO 8<|dk 30 (lt_true hlt2)<|gO 8<|ixk hx2<|cl (refInner_says x4)<|gO 2<|dcn 37 (fun h7=>gO 6<|kw 32 (congrArg (V.int .i64) (wrap_s hlt2 (by first | assumption | omega | (simp only [List.length_cons,List.length_nil,List.length_append,List.length_map];omega) | grind | ((simp [refIn] at *;omega)))))<|gO 2<|nx (ih2 ())) (fun h7=>gO 11<|en)) (fun i2 _ hd2=>have hge2:=drop_ge hd2;gO 8<|dk 30 (lt_false hge2)<|gO 10<|en)) (fun h6=>gO 7<|en))) (fun h3=>gO 17<|en)) (fun h1=>gO 24<|en)

def refValue_l1 (v : Sp.Val) : Nat → List UInt8 → Unit → Bool
  | i1,[],_=>true
  | i1,x1 :: xs2,_=>(bif (refIn (IntKind.i64.wrap (x1.toNat : Int)) 32 126) then refValue_l1 v (i1 + 1) xs2 () else false)
def refValue (v : Sp.Val) : Bool:=(bif (v.kind == 1) then (bif (refIn v.n (-4611686018427387904) 4611686018427387904) then ((v.s.length : Int) == 0) else false) else (bif (v.kind == 2) then (bif (v.n == 0) then (refWord v.s false) else false) else (bif (v.kind == 3) then (bif (v.n == 0) then (bif (decide ((v.s.length : Int) > 60)) then false else refValue_l1 v 0 v.s ()) else false) else false)))
theorem refValue_says (v : Sp.Val) (ok_v : v.ok) : SaysT TX 152 [eVal v] (eB (refValue v)) :=
  sy (e:=eB) (F:=c152) rfl fun sg=>gO 17<|dq 6 (fun h1=>gO 5<|cl (refIn_says v.n (-4611686018427387904) 4611686018427387904)<|gO 1<|dc 11 (fun h2=>gO 10<|en) (fun h2=>gO 10<|en)) (fun h1=>gO 6<|dq 17 (fun h3=>gO 7<|dq 22 (fun h4=>gO 2<|cl (refWord_says v.s false (by (first | assumption | omega | (simp only [List.length_cons,List.length_nil,List.length_append,List.length_map];omega) | grind)))<|gO 6<|en) (fun h4=>gO 9<|en)) (fun h3=>gO 6<|dq 27 (fun h5=>gO 8<|dqn 32 (fun h6=>gO 6<|dp 37 (fun h7=>gO 9<|en) (fun h7=>gO 8<|rg (β:=UInt8) (A:=Unit) (fun i1 _=>{ vals:=[(.bp 0 0 0),(.int .i64 (i1 : Int))],fr:=[.box [(.int .i64 v.kind),(.int .i64 v.n),(.str v.s)]],sg:=sg,wd:=0 }) (L:=v.s) (acc0:=()) (fn:=refValue_l1 v) (fun i1 x1 xs2 _ hd1 ih1=>have hlt1:=drop_lt hd1;have hx1:=drop_get hd1;gO 9<|dk 42 (lt_true hlt1)<|gO 9<|ixk hx1<|gO 1<|cl (refIn_says (IntKind.i64.wrap (x1.toNat : Int)) 32 126)<|gO 2<|dcn 51 (fun h8=>gO 6<|kw 44 (congrArg (V.int .i64) (wrap_s hlt1 (by (first | assumption | omega | (simp only [List.length_cons,List.length_nil,List.length_append,List.length_map];omega) | grind))))<|gO 2<|nx (ih1 ())) (fun h8=>gO 13<|en)) (fun i1 _ hd1=>have hge1:=drop_ge hd1;gO 9<|dk 42 (lt_false hge1)<|gO 12<|en))) (fun h6=>gO 15<|en)) (fun h5=>gO 8<|en)))

def refWords  : (List Txt):=([([102,97,99,116] : Txt),([114,117,108,101] : Txt),([112,97,116,116,101,114,110] : Txt),([110,111,116] : Txt),([97,110,100] : Txt),([111,114] : Txt),([98,101,102,111,114,101] : Txt),([111,110,99,101] : Txt),([97,108,119,97,121,115] : Txt),([115,105,110,99,101] : Txt),([100,114,111,112] : Txt)] : (List Txt))
theorem refWords_says   : SaysT TX 149 [] ((eL 1 eS) (refWords)) :=
  sy (e:=(eL 1 eS)) (F:=c149) rfl fun sg=>gO 10<|en

def refName_l1 (s : Txt) : Nat → List Txt → Unit → Bool
  | i1,[],_=>true
  | i1,x1 :: xs2,_=>(bif (x1 == s) then false else refName_l1 s (i1 + 1) xs2 ())
def refName (s : Txt) : Bool:=(bif (refWord s false) then refName_l1 s 0 (refWords) () else false)
theorem refName_says (s : Txt) (h_s : s.length ≤ 140737488351232) : SaysT TX 87 [eS s] (eB (refName s)) :=
  sy (e:=eB) (F:=c87) rfl fun sg=>gO 8<|cl (refWord_says s false (by first | assumption | omega | (simp only [List.length_cons,List.length_nil,List.length_append,List.length_map];omega) | grind | ((simp [refWords]))))<|gO 2<|dcn 7 (fun h1=>gO 4<|cl (refWords_says )<|gO 8<|rg (β:=Txt) (A:=Unit) (fun i1 _=>{ vals:=[(.str s),(.sl .no 1 ((refWords).map eS)),(.int .i64 (i1 : Int))],fr:=[],sg:=sg,wd:=0 }) (L:=(refWords)) (acc0:=()) (fn:=refName_l1 s) (fun i1 x1 xs2 _ hd1 ih1=>have hlt1:=drop_lt hd1;have hx1:=drop_get hd1;gO 6<|kw 11 (len_map eS (refWords))<|gO 2<|dk 12 (lt_true hlt1)<|gO 8<|iak eS hx1<|gO 4<|dq 20 (fun h2=>gO 11<|en) (fun h2=>gO 6<|kw 14 (congrArg (V.int .i64) (wrap_s hlt1 (by first | assumption | omega | (simp only [List.length_cons,List.length_nil,List.length_append,List.length_map];omega) | grind | ((simp [refWords])))))<|gO 2<|nx (ih1 ()))) (fun i1 _ hd1=>have hge1:=drop_ge hd1;gO 6<|kw 11 (len_map eS (refWords))<|gO 2<|dk 12 (lt_false hge1)<|gO 10<|en)) (fun h1=>gO 7<|en)

def refTerm (t : Sp.Term) : Bool:=(bif (decide ((t.var.length : Int) > 0)) then (bif (refWord t.var true) then ((t.val.kind == 0) && ((t.val.n == 0) && ((t.val.s == ([] : Txt)) && true))) else false) else (refValue t.val))
theorem refTerm_says (t : Sp.Term) (ok_t : t.ok) : SaysT TX 96 [eTerm t] (eB (refTerm t)) :=
  sy (e:=eB) (F:=c96) rfl fun sg=>gO 13<|dp 6 (fun h1=>gO 5<|cl (refWord_says t.var true (by (first | assumption | omega | (simp only [List.length_cons,List.length_nil,List.length_append,List.length_map];omega) | grind)))<|gO 1<|dc 10 (fun h2=>gO 9<|en) (fun h2=>gO 9<|en)) (fun h1=>gO 6<|cl (refValue_says t.val (by (first | assumption | omega | (simp only [List.length_cons,List.length_nil,List.length_append,List.length_map];omega) | grind)))<|gO 3<|en)

def refAtom_l1 (a : Sp.Atom) : Nat → List Sp.Term → Unit → Bool
  | i1,[],_=>true
  | i1,x1 :: xs2,_=>(bif (refTerm x1) then refAtom_l1 a (i1 + 1) xs2 () else false)
def refAtom (a : Sp.Atom) : Bool:=(bif (refName a.name) then (bif (decide ((a.args.length : Int) > 5)) then false else refAtom_l1 a 0 a.args ()) else false)
theorem refAtom_says (a : Sp.Atom) (ok_a : a.ok) : SaysT TX 39 [eAtom a] (eB (refAtom a)) :=
  sy (e:=eB) (F:=c39) rfl fun sg=>gO 10<|cl (refName_says a.name (by (first | assumption | omega | (simp only [List.length_cons,List.length_nil,List.length_append,List.length_map];omega) | grind)))<|gO 2<|dcn 8 (fun h1=>gO 3<|kw 11 (len_map eTerm a.args)<|gO 3<|dp 13 (fun h2=>gO 7<|en) (fun h2=>gO 8<|rg (β:=Sp.Term) (A:=Unit) (fun i1 _=>{ vals:=[(.bp 0 0 0),(.int .i64 (i1 : Int))],fr:=[.box [(.str a.name),(.sl .no 4 (a.args.map eTerm))]],sg:=sg,wd:=0 }) (L:=a.args) (acc0:=()) (fn:=refAtom_l1 a) (fun i1 x1 xs2 _ hd1 ih1=>have hlt1:=drop_lt hd1;have hx1:=drop_get hd1;gO 7<|kw 17 (len_map eTerm a.args)<|gO 2<|dk 18 (lt_true hlt1)<|gO 9<|iak eTerm hx1<|gO 1<|cl (refTerm_says x1 (by (first | assumption | omega | (simp only [List.length_cons,List.length_nil,List.length_append,List.length_map];omega) | grind)))<|gO 2<|dcn 27 (fun h3=>gO 6<|kw 20 (congrArg (V.int .i64) (wrap_s hlt1 (by (first | assumption | omega | (simp only [List.length_cons,List.length_nil,List.length_append,List.length_map];omega) | grind))))<|gO 2<|nx (ih1 ())) (fun h3=>gO 11<|en)) (fun i1 _ hd1=>have hge1:=drop_ge hd1;gO 7<|kw 17 (len_map eTerm a.args)<|gO 2<|dk 18 (lt_false hge1)<|gO 10<|en))) (fun h1=>gO 13<|en)

def matchTerm (t : Sp.Term) : Bool:=(bif (t.var == ([] : Txt)) then ((valCheck t.val) == 0) else (bif (substVar t.var) then ((t.val.kind == 0) && ((t.val.n == 0) && ((t.val.s == ([] : Txt)) && true))) else false))
theorem matchTerm_says (t : Sp.Term) (ok_t : t.ok) : SaysT TX 167 [eTerm t] (eB (matchTerm t)) :=
  sy (e:=eB) (F:=c167) rfl fun sg=>gO 12<|dq 5 (fun h1=>gO 5<|cl (valCheck_says t.val (by (first | assumption | omega | (simp only [List.length_cons,List.length_nil,List.length_append,List.length_map];omega) | grind)))<|gO 5<|en) (fun h1=>gO 6<|cl (substVar_says t.var (by (first | assumption | omega | (simp only [List.length_cons,List.length_nil,List.length_append,List.length_map];omega) | grind)))<|gO 1<|dc 13 (fun h2=>gO 8<|en) (fun h2=>gO 8<|en))

def indexTxt_l1 (l : (List Txt)) (v : Txt) : Nat → List Txt → Unit → Int
  | i1,[],_=>(-1)
  | i1,x1 :: xs2,_=>(bif (v == x1) then (i1 : Int) else indexTxt_l1 l v (i1 + 1) xs2 ())
def indexTxt (l : (List Txt)) (v : Txt) : Int:=indexTxt_l1 l v 0 l ()
theorem indexTxt_says (l : (List Txt)) (v : Txt) (h_l : l.length ≤ 140737488351232) : SaysT TX 162 [(eL 1 eS) l,eS v] (eI (indexTxt l v)) :=
  sy (e:=eI) (F:=c162) rfl fun sg=>gO 9<|kw 7 (len_map eS l)<|gO 3<|rg (β:=Txt) (A:=Unit) (fun i1 _=>{ vals:=[(.sl .no 1 (l.map eS)),(.str v),(.int .i64 (l.length : Int)),(.int .i64 (i1 : Int))],fr:=[],sg:=sg,wd:=0 }) (L:=l) (acc0:=()) (fn:=indexTxt_l1 l v) (fun i1 x1 xs2 _ hd1 ih1=>have hlt1:=drop_lt hd1;have hx1:=drop_get hd1;gO 5<|dk 9 (lt_true hlt1)<|gO 14<|iak eS hx1<|gO 3<|dq 16 (fun h1=>gO 12<|en) (fun h1=>gO 5<|kw 18 (congrArg (V.int .i64) (wrap_s hlt1 (by (first | assumption | omega | (simp only [List.length_cons,List.length_nil,List.length_append,List.length_map];omega) | grind))))<|gO 2<|nx (ih1 ()))) (fun i1 _ hd1=>have hge1:=drop_ge hd1;gO 5<|dk 9 (lt_false hge1)<|gO 10<|en)

def containsTxt (l : (List Txt)) (v : Txt) : Bool:=(decide ((indexTxt l v) ≥ 0))
theorem containsTxt_says (l : (List Txt)) (v : Txt) (h_l : l.length ≤ 140737488351232) : SaysT TX 99 [(eL 1 eS) l,eS v] (eB (containsTxt l v)) :=
  sy (e:=eB) (F:=c99) rfl fun sg=>gO 8<|cl (indexTxt_says l v (by (first | assumption | omega | (simp only [List.length_cons,List.length_nil,List.length_append,List.length_map];omega) | grind)))<|gO 4<|en

def factWord (b : Txt) : Bool:=(containsTxt ([([102,97,99,116] : Txt),([114,117,108,101] : Txt),([112,97,116,116,101,114,110] : Txt),([110,111,116] : Txt),([97,110,100] : Txt),([111,114] : Txt),([98,101,102,111,114,101] : Txt),([111,110,99,101] : Txt),([97,108,119,97,121,115] : Txt),([115,105,110,99,101] : Txt),([100,114,111,112] : Txt)] : (List Txt)) b)
theorem factWord_says (b : Txt)  : SaysT TX 184 [eS b] (eB (factWord b)) :=
  sy (e:=eB) (F:=c184) rfl fun sg=>gO 8<|cl (containsTxt_says ([([102,97,99,116] : Txt),([114,117,108,101] : Txt),([112,97,116,116,101,114,110] : Txt),([110,111,116] : Txt),([97,110,100] : Txt),([111,114] : Txt),([98,101,102,111,114,101] : Txt),([111,110,99,101] : Txt),([97,108,119,97,121,115] : Txt),([115,105,110,99,101] : Txt),([100,114,111,112] : Txt)] : (List Txt)) b (by (first | assumption | omega | (simp only [List.length_cons,List.length_nil,List.length_append,List.length_map];omega) | grind)))<|gO 3<|en

def factName (b : Txt) : Bool:=(bif ((valCheck (⟨2,0,b⟩ : Sp.Val)) == 0) then (!(factWord b)) else false)
theorem factName_says (b : Txt) (h_b : b.length ≤ 140737488351232) : SaysT TX 118 [eS b] (eB (factName b)) :=
  sy (e:=eB) (F:=c118) rfl fun sg=>gO 8<|cl (valCheck_says (⟨2,0,b⟩ : Sp.Val) (by first | assumption | omega | (simp only [List.length_cons,List.length_nil,List.length_append,List.length_map];omega) | grind | ((simp [Val.ok,i64ok];omega))))<|gO 2<|dq 7 (fun h1=>gO 1<|cl (factWord_says b)<|gO 5<|en) (fun h1=>gO 7<|en)

def indexTerm_l1 (l : (List Sp.Term)) (p : Sp.Term → Bool) : Nat → List Sp.Term → Unit → Int
  | i1,[],_=>(-1)
  | i1,x1 :: xs2,_=>(bif (p x1) then (i1 : Int) else indexTerm_l1 l p (i1 + 1) xs2 ())
def indexTerm (l : (List Sp.Term)) (p : Sp.Term → Bool) : Int:=indexTerm_l1 l p 0 l ()
theorem indexTerm_in {sg : List Fr} {g_p : FuncId} {a_p b_p : List V} (l : (List Sp.Term)) (p : Sp.Term → Bool) (h_l : l.length ≤ 140737488351232) (hp_p : ∀ x,x ∈ l → ∀ f0 : Fr,TX.call g_p ((a_p ++ [eTerm x] ++ b_p).map (argV (TX.C.keepA g_p))) (f0 :: sg) = some (eB (p x),f0 :: sg,0)) : TX.call 160 [(eL 4 eTerm) l,.fn g_p a_p b_p] sg = some (eI (indexTerm l p),sg,0) :=
  sx (e:=fun r=>(eI r,sg,0)) (F:=c160) rfl<|gO 9<|kw 7 (len_map eTerm l)<|gO 3<|rg (β:=Sp.Term) (A:=Unit) (fun i1 _=>{ vals:=[(.sl .no 4 (l.map eTerm)),(.fn g_p a_p b_p),(.int .i64 (l.length : Int)),(.int .i64 (i1 : Int))],fr:=[],sg:=sg,wd:=0 }) (L:=l) (acc0:=()) (fn:=indexTerm_l1 l p) (fun i1 x1 xs2 _ hd1 ih1=>have hlt1:=drop_lt hd1;have hx1:=drop_get hd1;gO 5<|dk 9 (lt_true hlt1)<|gO 14<|iak eTerm hx1<|gO 1<|cli (hp_p x1 (List.mem_of_getElem? hx1) _)<|gO 1<|dc 16 (fun h1=>gO 12<|en) (fun h1=>gO 5<|kw 18 (congrArg (V.int .i64) (wrap_s hlt1 (by (first | assumption | omega | (simp only [List.length_cons,List.length_nil,List.length_append,List.length_map];omega) | grind))))<|gO 2<|nx (ih1 ()))) (fun i1 _ hd1=>have hge1:=drop_ge hd1;gO 5<|dk 9 (lt_false hge1)<|gO 10<|en)

def containsTerm (l : (List Sp.Term)) (p : Sp.Term → Bool) : Bool:=(decide ((indexTerm l p) ≥ 0))
theorem containsTerm_in {sg : List Fr} {g_p : FuncId} {a_p b_p : List V} (l : (List Sp.Term)) (p : Sp.Term → Bool) (h_l : l.length ≤ 140737488351232) (hp_p : ∀ x,x ∈ l → ∀ f0 f1 : Fr,TX.call g_p (((a_p.map (sh0 1)) ++ [eTerm x] ++ (b_p.map (sh0 1))).map (argV (TX.C.keepA g_p))) (f1 :: f0 :: sg) = some (eB (p x),f1 :: f0 :: sg,0)) : TX.call 165 [(eL 4 eTerm) l,.fn g_p a_p b_p] sg = some (eB (containsTerm l p),sg,0) :=
  sx (e:=fun r=>(eB r,sg,0)) (F:=c165) rfl<|gO 8<|cli (indexTerm_in (g_p:=g_p) (a_p:=a_p.map (sh0 1)) (b_p:=b_p.map (sh0 1)) l p (by (first | assumption | omega | (simp only [List.length_cons,List.length_nil,List.length_append,List.length_map];omega) | grind)) (fun x hm f0_=>hp_p x hm _ f0_))<|gO 4<|en

def matchCheck1 (t : Sp.Term) : Bool:=(!(matchTerm t))
theorem matchCheck1_says (t : Sp.Term) (ok_t : t.ok) : SaysT TX 166 [eTerm t] (eB (matchCheck1 t)) :=
  sy (e:=eB) (F:=c166) rfl fun sg=>gO 8<|cl (matchTerm_says t (by (first | assumption | omega | (simp only [List.length_cons,List.length_nil,List.length_append,List.length_map];omega) | grind)))<|gO 4<|en

def matchCheck (a : Sp.Atom) : Int:=(bif (factName a.name) then (bif (decide ((a.args.length : Int) > 5)) then 1 else (bif (containsTerm a.args (fun x=>matchCheck1 x)) then 1 else 0)) else 1)
theorem matchCheck_says (a : Sp.Atom) (ok_a : a.ok) : SaysT TX 105 [eAtom a] (eI (matchCheck a)) :=
  sy (e:=eI) (F:=c105) rfl fun sg=>gO 10<|cl (factName_says a.name (by (first | assumption | omega | (simp only [List.length_cons,List.length_nil,List.length_append,List.length_map];omega) | grind)))<|gO 2<|dcn 7 (fun h1=>gO 3<|kw 10 (len_map eTerm a.args)<|gO 3<|dp 13 (fun h2=>gO 12<|en) (fun h2=>gO 2<|cli (containsTerm_in (g_p:=166) (a_p:=[]) (b_p:=[]) a.args (fun x=>matchCheck1 x) (by (first | assumption | omega | (simp only [List.length_cons,List.length_nil,List.length_append,List.length_map];omega) | grind)) (fun x hm f0_ f1_=>matchCheck1_says x (by (first | assumption | omega | (simp only [List.length_cons,List.length_nil,List.length_append,List.length_map];omega) | grind)) _))<|gO 2<|dc 17 (fun h3=>gO 7<|en) (fun h3=>gO 7<|en))) (fun h1=>gO 18<|en)

def matchVars_l1 (a : Sp.Atom) : Nat → List Sp.Term → (List Txt) → (List Txt)
  | i1,[],a1_0=>a1_0
  | i1,x1 :: xs2,a1_0=>(bif (x1.var == ([] : Txt)) then matchVars_l1 a (i1 + 1) xs2 a1_0 else (bif (containsTxt a1_0 x1.var) then matchVars_l1 a (i1 + 1) xs2 a1_0 else matchVars_l1 a (i1 + 1) xs2 (a1_0 ++ [x1.var])))
def matchVars (a : Sp.Atom) : (List Txt):=matchVars_l1 a 0 a.args ([] : List Txt)
theorem matchVars_says (a : Sp.Atom) (h1 : a.args.length ≤ 1000000) : SaysT TX 43 [eAtom a] ((eL 1 eS) (matchVars a)) :=
  sy (e:=(eL 1 eS)) (F:=c43) rfl fun sg=>gO 15<|kw 8 (len_map eTerm a.args)<|gO 3<|rgI (β:=Sp.Term) (A:=(List Txt)) (fun i1 a1_0=>a1_0.length ≤ i1) (fun i1 a1_0=>{ vals:=[(.sl (.at 0 2 a1_0.length) 1 (a1_0.map eS)),(.sl .no 4 (a.args.map eTerm)),(.int .i64 (a.args.length : Int)),(.int .i64 (i1 : Int))],fr:=[.box [(.str a.name),(.sl .no 4 (a.args.map eTerm))],.tok 0,.tok a1_0.length],sg:=sg,wd:=0 }) (L:=a.args) (acc0:=([] : List Txt)) (fn:=matchVars_l1 a) (by simp) (fun i1 x1 xs2 a1_0 hd1 hi1 ih1=>have hi1 : a1_0.length ≤ i1:=hi1;have hlt1:=drop_lt hd1;have hx1:=drop_get hd1;gO 5<|dk 10 (lt_true hlt1)<|gO 6<|iak eTerm hx1<|gO 10<|dqn 16 (fun h1=>gO 12<|kw 28 (congrArg (V.int .i64) (wrap_s hlt1 (by (first | assumption | omega | (simp only [List.length_cons,List.length_nil,List.length_append,List.length_map];omega) | grind))))<|gO 2<|nx (ih1 a1_0 (by first | omega | (simp only [List.length_append,List.length_cons,List.length_nil];omega)))) (fun h1=>gO 3<|cl (containsTxt_says a1_0 x1.var (by (first | assumption | omega | (simp only [List.length_cons,List.length_nil,List.length_append,List.length_map];omega) | grind)))<|gO 3<|dcn 22 (fun h2=>gO 5<|kw 28 (congrArg (V.int .i64) (wrap_s hlt1 (by (first | assumption | omega | (simp only [List.length_cons,List.length_nil,List.length_append,List.length_map];omega) | grind))))<|gO 2<|nx (ih1 a1_0 (by first | omega | (simp only [List.length_append,List.length_cons,List.length_nil];omega)))) (fun h2=>gO 6<|ap (en:=eS) (L:=a1_0) (M:=[x1.var]) (by simp only [List.length_append,List.length_cons,List.length_nil];unfold lim;omega) (fun _ _=>rfl)<|gO 5<|kw 28 (congrArg (V.int .i64) (wrap_s hlt1 (by (first | assumption | omega | (simp only [List.length_cons,List.length_nil,List.length_append,List.length_map];omega) | grind))))<|gO 2<|nx (ih1 (a1_0 ++ [x1.var]) (by first | omega | (simp only [List.length_append,List.length_cons,List.length_nil];omega)))))) (fun i1 a1_0 hd1 hi1=>have hi1 : a1_0.length ≤ i1:=hi1;have hge1:=drop_ge hd1;gO 5<|dk 10 (lt_false hge1)<|gO 11<|en)

def heavyAtom_l1 (a : Sp.Atom) : Nat → List Sp.Term → Unit → Bool
  | i1,[],_=>false
  | i1,x1 :: xs2,_=>(bif (decide ((x1.var.length : Int) > 200)) then true else (bif (decide ((x1.val.s.length : Int) > 200)) then true else heavyAtom_l1 a (i1 + 1) xs2 ()))
def heavyAtom (a : Sp.Atom) : Bool:=(bif (decide ((a.name.length : Int) > 200)) then true else (bif (decide ((a.args.length : Int) > 20)) then true else heavyAtom_l1 a 0 a.args ()))
theorem heavyAtom_says (a : Sp.Atom) (ok_a : a.ok) : SaysT TX 38 [eAtom a] (eB (heavyAtom a)) :=
  sy (e:=eB) (F:=c38) rfl fun sg=>gO 13<|dp 8 (fun h1=>gO 13<|en) (fun h1=>gO 3<|kw 11 (len_map eTerm a.args)<|gO 3<|dp 13 (fun h2=>gO 7<|en) (fun h2=>gO 8<|rg (β:=Sp.Term) (A:=Unit) (fun i1 _=>{ vals:=[(.bp 0 0 0),(.int .i64 (i1 : Int))],fr:=[.box [(.str a.name),(.sl .no 4 (a.args.map eTerm))]],sg:=sg,wd:=0 }) (L:=a.args) (acc0:=()) (fn:=heavyAtom_l1 a) (fun i1 x1 xs2 _ hd1 ih1=>have hlt1:=drop_lt hd1;have hx1:=drop_get hd1;gO 7<|kw 17 (len_map eTerm a.args)<|gO 2<|dk 18 (lt_true hlt1)<|gO 9<|iak eTerm hx1<|gO 5<|dp 29 (fun h3=>gO 22<|en) (fun h3=>gO 3<|iak eTerm hx1<|gO 7<|dp 39 (fun h4=>gO 11<|en) (fun h4=>gO 6<|kw 20 (congrArg (V.int .i64) (wrap_s hlt1 (by (first | assumption | omega | (simp only [List.length_cons,List.length_nil,List.length_append,List.length_map];omega) | grind))))<|gO 2<|nx (ih1 ())))) (fun i1 _ hd1=>have hge1:=drop_ge hd1;gO 7<|kw 17 (len_map eTerm a.args)<|gO 2<|dk 18 (lt_false hge1)<|gO 10<|en)))

def heavyNodes_l1 (l : (List Sp.Node)) : Nat → List Sp.Node → Unit → Bool
  | i1,[],_=>false
  | i1,x1 :: xs2,_=>(bif (heavyAtom x1.atom) then true else heavyNodes_l1 l (i1 + 1) xs2 ())
def heavyNodes (l : (List Sp.Node)) : Bool:=(bif (decide ((l.length : Int) > 60)) then true else heavyNodes_l1 l 0 l ())
theorem heavyNodes_says (l : (List Sp.Node)) (okl_l : okL l) : SaysT TX 13 [(eL 5 eNode) l] (eB (heavyNodes l)) :=
  sy (e:=eB) (F:=c13) rfl fun sg=>gO 9<|kw 5 (len_map eNode l)<|gO 2<|dp 6 (fun h1=>gO 7<|en) (fun h1=>gO 8<|rg (β:=Sp.Node) (A:=Unit) (fun i1 _=>{ vals:=[(.sl .no 5 (l.map eNode)),(.int .i64 (i1 : Int))],fr:=[],sg:=sg,wd:=0 }) (L:=l) (acc0:=()) (fn:=heavyNodes_l1 l) (fun i1 x1 xs2 _ hd1 ih1=>have hlt1:=drop_lt hd1;have hx1:=drop_get hd1;gO 6<|kw 9 (len_map eNode l)<|gO 2<|dk 10 (lt_true hlt1)<|gO 8<|iak eNode hx1<|gO 2<|cl (heavyAtom_says x1.atom (by (first | assumption | omega | (simp only [List.length_cons,List.length_nil,List.length_append,List.length_map];omega) | grind)))<|gO 1<|dc 18 (fun h2=>gO 11<|en) (fun h2=>gO 6<|kw 12 (congrArg (V.int .i64) (wrap_s hlt1 (by (first | assumption | omega | (simp only [List.length_cons,List.length_nil,List.length_append,List.length_map];omega) | grind))))<|gO 2<|nx (ih1 ()))) (fun i1 _ hd1=>have hge1:=drop_ge hd1;gO 6<|kw 9 (len_map eNode l)<|gO 2<|dk 10 (lt_false hge1)<|gO 10<|en))

def keepTexts_l1 (a : (List Txt)) (b : (List Txt)) : Nat → List Txt → Unit → Bool
  | i1,[],_=>true
  | i1,x1 :: xs2,_=>(onS b[i1]? (fun y3=>(bif (x1 == y3) then keepTexts_l1 a b (i1 + 1) xs2 () else false)) default)
def keepTexts (a : (List Txt)) (b : (List Txt)) : Bool:=(bif ((a.length : Int) == (b.length : Int)) then keepTexts_l1 a b 0 a () else false)
theorem keepTexts_says (a : (List Txt)) (b : (List Txt)) (h_a : a.length ≤ 140737488351232) (h_b : b.length ≤ 140737488351232) : SaysT TX 28 [(eL 1 eS) a,(eL 1 eS) b] (eB (keepTexts a b)) :=
  sy (e:=eB) (F:=c28) rfl fun sg=>gO 9<|kw 7 (len_map eS a)<|gO 2<|kw 9 (len_map eS b)<|gO 2<|dqn 10 (fun h1=>gO 8<|rg (β:=Txt) (A:=Unit) (fun i1 _=>{ vals:=[(.sl .no 1 (a.map eS)),(.sl .no 1 (b.map eS)),(.int .i64 (i1 : Int))],fr:=[],sg:=sg,wd:=0 }) (L:=a) (acc0:=()) (fn:=keepTexts_l1 a b) (fun i1 x1 xs2 _ hd1 ih1=>have hlt1:=drop_lt hd1;have hx1:=drop_get hd1;gO 6<|kw 13 (len_map eS a)<|gO 2<|dk 14 (lt_true hlt1)<|gO 8<|iak eS hx1<|gO 3<|ia (en:=eS) (by (first | assumption | omega | (simp only [List.length_cons,List.length_nil,List.length_append,List.length_map];omega) | grind)) fun y3 h2=>gO 3<|dqn 25 (fun h3=>gO 6<|kw 16 (congrArg (V.int .i64) (wrap_s hlt1 (by (first | assumption | omega | (simp only [List.length_cons,List.length_nil,List.length_append,List.length_map];omega) | grind))))<|gO 2<|nx (ih1 ())) (fun h3=>gO 11<|en)) (fun i1 _ hd1=>have hge1:=drop_ge hd1;gO 6<|kw 13 (len_map eS a)<|gO 2<|dk 14 (lt_false hge1)<|gO 10<|en)) (fun h1=>gO 7<|en)

def lawInside_l2 (l : (List Txt)) (f : (List Txt)) (i1 : Nat) (x1 : Txt) (xs2 : (List Txt)) (rec1 : (Unit → Bool)) : Nat → List Txt → Bool → Bool
  | i2,[],a2_0=>(bif a2_0 then rec1 () else false)
  | i2,x3 :: xs4,a2_0=>(bif a2_0 then lawInside_l2 l f i1 x1 xs2 rec1 (i2 + 1) xs4 true else lawInside_l2 l f i1 x1 xs2 rec1 (i2 + 1) xs4 (x3 == x1))
def lawInside_l1 (l : (List Txt)) (f : (List Txt)) : Nat → List Txt → Unit → Bool
  | i1,[],_=>true
  | i1,x1 :: xs2,_=>lawInside_l2 l f i1 x1 xs2 (fun acc=>lawInside_l1 l f (i1 + 1) xs2 acc) 0 f false
def lawInside (l : (List Txt)) (f : (List Txt)) : Bool:=lawInside_l1 l f 0 l ()
theorem lawInside_says (l : (List Txt)) (f : (List Txt)) (h_l : l.length ≤ 140737488351232) (h_f : f.length ≤ 140737488351232) : SaysT TX 37 [(eL 1 eS) l,(eL 1 eS) f] (eB (lawInside l f)) :=
  sy (e:=eB) (F:=c37) rfl fun sg=>gO 10<|rg (β:=Txt) (A:=Unit) (fun i1 _=>{ vals:=[(.sl .no 1 (l.map eS)),(.sl .no 1 (f.map eS)),(.int .i64 (i1 : Int))],fr:=[],sg:=sg,wd:=0 }) (L:=l) (acc0:=()) (fn:=lawInside_l1 l f) (fun i1 x1 xs2 _ hd1 ih1=>have hlt1:=drop_lt hd1;have hx1:=drop_get hd1;gO 6<|kw 10 (len_map eS l)<|gO 2<|dk 11 (lt_true hlt1)<|gO 14<|rg (β:=Txt) (A:=Bool) (fun i2 a2_0=>{ vals:=[(.sl .no 1 (l.map eS)),(.sl .no 1 (f.map eS)),(.int .i64 (i1 : Int)),(.bool a2_0),(.int .i64 (i2 : Int))],fr:=[],sg:=sg,wd:=0 }) (L:=f) (acc0:=false) (fn:=lawInside_l2 l f i1 x1 xs2 (fun acc=>lawInside_l1 l f (i1 + 1) xs2 acc)) (fun i2 x3 xs4 a2_0 hd2 ih2=>have hlt2:=drop_lt hd2;have hx2:=drop_get hd2;gO 6<|kw 16 (len_map eS f)<|gO 2<|dk 17 (lt_true hlt2)<|gO 7<|dc 21 (fun h1=>gO 16<|kw 19 (congrArg (V.int .i64) (wrap_s hlt2 (by (first | assumption | omega | (simp only [List.length_cons,List.length_nil,List.length_append,List.length_map];omega) | grind))))<|gO 2<|nx (ih2 true)) (fun h1=>gO 2<|iak eS hx2<|gO 3<|iak eS hx1<|gO 9<|kw 19 (congrArg (V.int .i64) (wrap_s hlt2 (by (first | assumption | omega | (simp only [List.length_cons,List.length_nil,List.length_append,List.length_map];omega) | grind))))<|gO 2<|nx (ih2 (x3 == x1)))) (fun i2 a2_0 hd2=>have hge2:=drop_ge hd2;gO 6<|kw 16 (len_map eS f)<|gO 2<|dk 17 (lt_false hge2)<|gO 10<|dcn 33 (fun h2=>gO 6<|kw 13 (congrArg (V.int .i64) (wrap_s hlt1 (by (first | assumption | omega | (simp only [List.length_cons,List.length_nil,List.length_append,List.length_map];omega) | grind))))<|gO 2<|nx (ih1 ())) (fun h2=>gO 11<|en))) (fun i1 _ hd1=>have hge1:=drop_ge hd1;gO 6<|kw 10 (len_map eS l)<|gO 2<|dk 11 (lt_false hge1)<|gO 10<|en)

def indexTxtF_l1 (l : (List Txt)) (p : Txt → Bool) : Nat → List Txt → Unit → Int
  | i1,[],_=>(-1)
  | i1,x1 :: xs2,_=>(bif (p x1) then (i1 : Int) else indexTxtF_l1 l p (i1 + 1) xs2 ())
def indexTxtF (l : (List Txt)) (p : Txt → Bool) : Int:=indexTxtF_l1 l p 0 l ()
theorem indexTxtF_in {sg : List Fr} {g_p : FuncId} {a_p b_p : List V} (l : (List Txt)) (p : Txt → Bool) (h_l : l.length ≤ 140737488351232) (hp_p : ∀ x,x ∈ l → ∀ f0 : Fr,TX.call g_p ((a_p ++ [eS x] ++ b_p).map (argV (TX.C.keepA g_p))) (f0 :: sg) = some (eB (p x),f0 :: sg,0)) : TX.call 189 [(eL 1 eS) l,.fn g_p a_p b_p] sg = some (eI (indexTxtF l p),sg,0) :=
  sx (e:=fun r=>(eI r,sg,0)) (F:=c189) rfl<|gO 9<|kw 7 (len_map eS l)<|gO 3<|rg (β:=Txt) (A:=Unit) (fun i1 _=>{ vals:=[(.sl .no 1 (l.map eS)),(.fn g_p a_p b_p),(.int .i64 (l.length : Int)),(.int .i64 (i1 : Int))],fr:=[],sg:=sg,wd:=0 }) (L:=l) (acc0:=()) (fn:=indexTxtF_l1 l p) (fun i1 x1 xs2 _ hd1 ih1=>have hlt1:=drop_lt hd1;have hx1:=drop_get hd1;gO 5<|dk 9 (lt_true hlt1)<|gO 14<|iak eS hx1<|gO 1<|cli (hp_p x1 (List.mem_of_getElem? hx1) _)<|gO 1<|dc 16 (fun h1=>gO 12<|en) (fun h1=>gO 5<|kw 18 (congrArg (V.int .i64) (wrap_s hlt1 (by (first | assumption | omega | (simp only [List.length_cons,List.length_nil,List.length_append,List.length_map];omega) | grind))))<|gO 2<|nx (ih1 ()))) (fun i1 _ hd1=>have hge1:=drop_ge hd1;gO 5<|dk 9 (lt_false hge1)<|gO 10<|en)

def containsTxtF (l : (List Txt)) (p : Txt → Bool) : Bool:=(decide ((indexTxtF l p) ≥ 0))
theorem containsTxtF_in {sg : List Fr} {g_p : FuncId} {a_p b_p : List V} (l : (List Txt)) (p : Txt → Bool) (h_l : l.length ≤ 140737488351232) (hp_p : ∀ x,x ∈ l → ∀ f0 f1 : Fr,TX.call g_p (((a_p.map (sh0 1)) ++ [eS x] ++ (b_p.map (sh0 1))).map (argV (TX.C.keepA g_p))) (f1 :: f0 :: sg) = some (eB (p x),f1 :: f0 :: sg,0)) : TX.call 124 [(eL 1 eS) l,.fn g_p a_p b_p] sg = some (eB (containsTxtF l p),sg,0) :=
  sx (e:=fun r=>(eB r,sg,0)) (F:=c124) rfl<|gO 8<|cli (indexTxtF_in (g_p:=g_p) (a_p:=a_p.map (sh0 1)) (b_p:=b_p.map (sh0 1)) l p (by (first | assumption | omega | (simp only [List.length_cons,List.length_nil,List.length_append,List.length_map];omega) | grind)) (fun x hm f0_=>hp_p x hm _ f0_))<|gO 4<|en

def safeWithin1 (s : Txt) (f : (List Txt)) : Bool:=(!(containsTxt f s))
theorem safeWithin1_in (s : Txt) (f : (List Txt)) (h1 : f.length ≤ 140737488351232) {sg : List Fr} {d_f i_f : Nat} (hg_f : (sg[d_f]?).bind (·[i_f]?) = some (.box [(.sl .no 1 (f.map eS))])) : TX.call 125 [eS s,.bp (d_f + 1) i_f 0] sg = some (eB (safeWithin1 s f),sg,0) :=
  sx (e:=fun r=>(eB r,sg,0)) (F:=c125) rfl<|gO 6<|ldo (ag:=false) (sz:=1) (o:=0) (v:=(.sl .no 1 (f.map eS))) hg_f (by kernel_rfl)<|gO 1<|cl (containsTxt_says f s (by (first | assumption | omega | (simp only [List.length_cons,List.length_nil,List.length_append,List.length_map];omega) | grind)))<|gO 4<|en

def safeWithin (l : (List Txt)) (f : (List Txt)) : Bool:=(!(containsTxtF l (fun x=>safeWithin1 x f)))
theorem safeWithin_says (l : (List Txt)) (f : (List Txt)) (h_l : l.length ≤ 140737488351232) (h_f : f.length ≤ 140737488351232) : SaysT TX 64 [(eL 1 eS) l,(eL 1 eS) f] (eB (safeWithin l f)) :=
  sy (e:=eB) (F:=c64) rfl fun sg=>gO 9<|cli (containsTxtF_in (g_p:=125) (a_p:=[]) (b_p:=[(.bp 1 0 0)]) l (fun x=>safeWithin1 x f) (by (first | assumption | omega | (simp only [List.length_cons,List.length_nil,List.length_append,List.length_map];omega) | grind)) (fun x hm f0_ f1_=>safeWithin1_in x f (by (first | assumption | omega | (simp only [List.length_cons,List.length_nil,List.length_append,List.length_map];omega) | grind)) (by kernel_rfl)))<|gO 4<|en

def formulaArms (k : Int) : Int:=(bif (k == 1) then 0 else (bif (k == 2) then 1 else (bif (k == 5) then 1 else (bif (k == 6) then 1 else (bif (k == 7) then 1 else (bif (k == 3) then 2 else (bif (k == 4) then 2 else (bif (k == 8) then 2 else (-1)))))))))
theorem formulaArms_says (k : Int)  : SaysT TX 261 [eI k] (eI (formulaArms k)) :=
  sy (e:=eI) (F:=c261) rfl fun sg=>gO 15<|dq 4 (fun h1=>gO 8<|en) (fun h1=>gO 7<|dq 6 (fun h2=>gO 10<|en) (fun h2=>gO 6<|dq 6 (fun h3=>gO 10<|en) (fun h3=>gO 6<|dq 6 (fun h4=>gO 10<|en) (fun h4=>gO 5<|dq 6 (fun h5=>gO 8<|en) (fun h5=>gO 7<|dq 11 (fun h6=>gO 10<|en) (fun h6=>gO 6<|dq 11 (fun h7=>gO 10<|en) (fun h7=>gO 5<|dq 11 (fun h8=>gO 8<|en) (fun h8=>gO 8<|en))))))))

def formulaEmpty (a : Sp.Atom) : Bool:=(bif (a.name == ([] : Txt)) then ((a.args.length : Int) == 0) else false)
theorem formulaEmpty_says (a : Sp.Atom)  : SaysT TX 262 [eAtom a] (eB (formulaEmpty a)) :=
  sy (e:=eB) (F:=c262) rfl fun sg=>gO 11<|dq 6 (fun h1=>gO 3<|kw 9 (len_map eTerm a.args)<|gO 5<|en) (fun h1=>gO 8<|en)

def keepTwinAtom (a : Sp.Atom) : Sp.Atom:=(bif (a.args.isEmpty) then (⟨a.name,([] : (List Sp.Term))⟩ : Sp.Atom) else a)
theorem keepTwinAtom_says (a : Sp.Atom) (h1 : a.args.length ≤ 1000000) : SaysT TX 40 [eAtom a] (eAtom (keepTwinAtom a)) :=
  sy (e:=eAtom) (F:=c40) rfl fun sg=>gO 19<|ape (en:=eTerm) (M:=a.args) (by unfold lim;omega) (fun h1=>gO 9<|en) (fun h1=>gO 9<|en)

end Go.Vm

/- What functions of the program answer. Printed by spec2.py. -/
namespace Go.Vm
open Go Go.Sp
set_option maxRecDepth 100000
set_option maxHeartbeats 4000000

def formulaFroms_l1 (l : (List Sp.Node)) : Nat → List Sp.Node → (List Int) × (List Int) → (List Int) × (List Int) × Bool
  | i1,[],⟨a1_0,a1_1⟩=>(a1_0,a1_1,true)
  | i1,x1 :: xs2,⟨a1_0,a1_1⟩=>(bif ((formulaArms x1.kind) == 0) then (bif (x1.a == 0) then (bif (x1.b == 0) then (bif ((matchCheck x1.atom) == 0) then formulaFroms_l1 l (i1 + 1) xs2 ((a1_0 ++ [(i1 : Int)]),(a1_1 ++ [1])) else (([] : (List Int)),([] : (List Int)),false)) else (([] : (List Int)),([] : (List Int)),false)) else (([] : (List Int)),([] : (List Int)),false)) else (bif ((formulaArms x1.kind) == 1) then (bif (decide ((i1 : Int) < 1)) then (([] : (List Int)),([] : (List Int)),false) else (bif (x1.a == ((i1 : Int) - 1)) then (bif (x1.b == 0) then (bif (formulaEmpty x1.atom) then (onS a1_0[((i1 : Int) - 1).toNat]? (fun y3=>(onS a1_1[((i1 : Int) - 1).toNat]? (fun y4=>formulaFroms_l1 l (i1 + 1) xs2 ((a1_0 ++ [y3]),(a1_1 ++ [(y4 + 1)]))) default)) default) else (([] : (List Int)),([] : (List Int)),false)) else (([] : (List Int)),([] : (List Int)),false)) else (([] : (List Int)),([] : (List Int)),false))) else (bif ((formulaArms x1.kind) == 2) then (bif (decide ((i1 : Int) < 1)) then (([] : (List Int)),([] : (List Int)),false) else (bif (x1.b == ((i1 : Int) - 1)) then (onS a1_0[((i1 : Int) - 1).toNat]? (fun y5=>(bif (decide (y5 < 1)) then (([] : (List Int)),([] : (List Int)),false) else (bif (x1.a == (y5 - 1)) then (bif (formulaEmpty x1.atom) then (onS a1_0[x1.a.toNat]? (fun y6=>(onS a1_1[x1.a.toNat]? (fun y7=>(onS a1_1[x1.b.toNat]? (fun y8=>formulaFroms_l1 l (i1 + 1) xs2 ((a1_0 ++ [y6]),(a1_1 ++ [((bif decide (y8 > y7) then y8 else y7) + 1)]))) default)) default)) default) else (([] : (List Int)),([] : (List Int)),false)) else (([] : (List Int)),([] : (List Int)),false)))) default) else (([] : (List Int)),([] : (List Int)),false))) else (([] : (List Int)),([] : (List Int)),false))))
def formulaFroms (l : (List Sp.Node)) : (List Int) × (List Int) × Bool:=formulaFroms_l1 l 0 l (([] : List Int),([] : List Int))
theorem formulaFroms_says (l : (List Sp.Node)) (ok_l : okL l) (h1 : l.length ≤ 1000000) : SaysT TX 209 [(eL 5 eNode) l] ((eP3 (eL 1 eI) (eL 1 eI) eB) (formulaFroms l)) :=
  sy (e:=(eP3 (eL 1 eI) (eL 1 eI) eB)) (F:=c209) rfl fun sg=>gO 11<|kw 8 (len_map eNode l)<|gO 3<|rgI (β:=Sp.Node) (A:=(List Int) × (List Int)) (fun i1 ⟨a1_0,a1_1⟩=>a1_0.length = i1 ∧ a1_1.length = i1 ∧ (∀ (j : Nat) (y : Int),a1_0[j]? = some y → 0 ≤ y ∧ y ≤ j) ∧ (∀ (j : Nat) (y : Int),a1_1[j]? = some y → 1 ≤ y ∧ y ≤ j + 1)) (fun i1 (acc : (List Int) × (List Int))=>{ vals:=[(.sl (.at 0 0 acc.1.length) 1 (acc.1.map eI)),(.sl (.at 0 1 acc.2.length) 1 (acc.2.map eI)),(.sl .no 5 (l.map eNode)),(.int .i64 (l.length : Int)),(.int .i64 (i1 : Int))],fr:=[.tok acc.1.length,.tok acc.2.length],sg:=sg,wd:=0 }) (L:=l) (acc0:=(([] : List Int),([] : List Int))) (fn:=formulaFroms_l1 l) (by simp) (fun i1 x1 xs2 ⟨a1_0,a1_1⟩ hd1 hi1 ih1=>have hi1 : a1_0.length = i1 ∧ a1_1.length = i1 ∧ (∀ (j : Nat) (y : Int),a1_0[j]? = some y → 0 ≤ y ∧ y ≤ j) ∧ (∀ (j : Nat) (y : Int),a1_1[j]? = some y → 1 ≤ y ∧ y ≤ j + 1):=hi1;have hlt1:=drop_lt hd1;have hx1:=drop_get hd1;have ok_x1:=okL.get ok_l hx1;have b_x1:=okL.b ok_l hx1;gO 5<|dk 10 (lt_true hlt1)<|gO 7<|iak eNode hx1<|gO 9<|cl (formulaArms_says x1.kind)<|gO 7<|dq 17 (fun h1=>gO 8<|dqn 22 (fun h2=>gO 5<|dqn 27 (fun h3=>gO 2<|cl (matchCheck_says x1.atom (by first | omega | exact ok_x1.atom))<|gO 3<|dqn 32 (fun h4=>gO 6<|ap (en:=eI) (L:=a1_0) (M:=[(i1 : Int)]) (by simp only [List.length_append,List.length_cons,List.length_nil];unfold lim;omega) (fun _ _=>rfl)<|gO 2<|ap (en:=eI) (L:=a1_1) (M:=[1]) (by simp only [List.length_append,List.length_cons,List.length_nil];unfold lim;omega) (fun _ _=>rfl)<|gO 7<|kw 138 (congrArg (V.int .i64) (wrap_s hlt1 (by first | omega | exact ok_x1.atom)))<|gO 2<|nx (ih1 ((a1_0 ++ [(i1 : Int)]),(a1_1 ++ [1])) (by refine ⟨by simp only [List.length_append,List.length_cons,List.length_nil];omega,by simp only [List.length_append,List.length_cons,List.length_nil];omega,all_snoc hi1.2.2.1 ?_,all_snoc hi1.2.2.2 ?_⟩ <;> (try simp only [Bool.cond_decide]) <;> (try split) <;> omega))) (fun h4=>gO 15<|en)) (fun h3=>gO 21<|en)) (fun h2=>gO 26<|en)) (fun h1=>gO 6<|dq 40 (fun h5=>gO 7<|dp 44 (fun h6=>gO 33<|en) (fun h6=>gO 4<|kw 48 (congrArg (V.int .i64) (wrap_id (n:=(i1 : Int) - 1) (by first | omega | (simp only [Bool.cond_decide];split <;> omega)) (by first | omega | (simp only [Bool.cond_decide];split <;> omega))))<|gO 3<|dqn 51 (fun h7=>gO 5<|dqn 56 (fun h8=>gO 2<|cl (formulaEmpty_says x1.atom)<|gO 3<|dcn 61 (fun h9=>gO 7<|kw 65 (congrArg (V.int .i64) (wrap_id (n:=(i1 : Int) - 1) (by first | omega | (simp only [Bool.cond_decide];split <;> omega)) (by first | omega | (simp only [Bool.cond_decide];split <;> omega))))<|kw 65 (toNat_v (n:=((i1 : Int) - 1)) (by first | omega | exact ok_x1.atom))<|ia (en:=eI) (by first | omega | exact ok_x1.atom) fun y3 h10=>have f_y3:=hi1.2.2.1 _ _ h10;gO 6<|kw 73 (congrArg (V.int .i64) (wrap_id (n:=(i1 : Int) - 1) (by first | omega | (simp only [Bool.cond_decide];split <;> omega)) (by first | omega | (simp only [Bool.cond_decide];split <;> omega))))<|kw 73 (toNat_v (n:=((i1 : Int) - 1)) (by first | omega | exact ok_x1.atom))<|ia (en:=eI) (by first | omega | exact ok_x1.atom) fun y4 h11=>have f_y4:=hi1.2.2.2 _ _ h11;gO 2<|kw 76 (congrArg (V.int .i64) (wrap_id (n:=y4 + 1) (by first | omega | (simp only [Bool.cond_decide];split <;> omega)) (by first | omega | (simp only [Bool.cond_decide];split <;> omega))))<|gO 1<|apm (en:=eI) (L:=a1_0) (M:=[y3]) (re:=[12,13]) (by simp only [List.length_append,List.length_cons,List.length_nil];unfold lim;omega) (fun _ _=>rfl) ⟨ri eI h11,rr,trivial⟩<|apm (en:=eI) (L:=a1_1) (M:=[(y4 + 1)]) (re:=[]) (by simp only [List.length_append,List.length_cons,List.length_nil];unfold lim;omega) (fun _ _=>rfl) trivial<|gO 7<|kw 138 (congrArg (V.int .i64) (wrap_s hlt1 (by first | omega | exact ok_x1.atom)))<|gO 2<|nx (ih1 ((a1_0 ++ [y3]),(a1_1 ++ [(y4 + 1)])) (by refine ⟨by simp only [List.length_append,List.length_cons,List.length_nil];omega,by simp only [List.length_append,List.length_cons,List.length_nil];omega,all_snoc hi1.2.2.1 ?_,all_snoc hi1.2.2.2 ?_⟩ <;> (try simp only [Bool.cond_decide]) <;> (try split) <;> omega))) (fun h9=>gO 15<|en)) (fun h8=>gO 21<|en)) (fun h7=>gO 26<|en))) (fun h5=>gO 6<|dq 79 (fun h12=>gO 7<|dp 83 (fun h13=>gO 47<|en) (fun h13=>gO 4<|kw 87 (congrArg (V.int .i64) (wrap_id (n:=(i1 : Int) - 1) (by first | omega | (simp only [Bool.cond_decide];split <;> omega)) (by first | omega | (simp only [Bool.cond_decide];split <;> omega))))<|gO 3<|dqn 90 (fun h14=>gO 3<|kw 93 (congrArg (V.int .i64) (wrap_id (n:=(i1 : Int) - 1) (by first | omega | (simp only [Bool.cond_decide];split <;> omega)) (by first | omega | (simp only [Bool.cond_decide];split <;> omega))))<|kw 93 (toNat_v (n:=((i1 : Int) - 1)) (by first | omega | exact ok_x1.atom))<|ia (en:=eI) (by first | omega | exact ok_x1.atom) fun y5 h15=>have f_y5:=hi1.2.2.1 _ _ h15;gO 4<|dp 98 (fun h16=>gO 32<|en) (fun h16=>gO 5<|kw 103 (congrArg (V.int .i64) (wrap_id (n:=(i1 : Int) - 1) (by first | omega | (simp only [Bool.cond_decide];split <;> omega)) (by first | omega | (simp only [Bool.cond_decide];split <;> omega))))<|kw 103 (toNat_v (n:=((i1 : Int) - 1)) (by first | omega | exact ok_x1.atom))<|iak eI h15<|gO 2<|kw 106 (congrArg (V.int .i64) (wrap_id (n:=y5 - 1) (by first | omega | (simp only [Bool.cond_decide];split <;> omega)) (by first | omega | (simp only [Bool.cond_decide];split <;> omega))))<|gO 3<|dqn 109 (fun h17=>gO 2<|cl (formulaEmpty_says x1.atom)<|gO 3<|dcn 114 (fun h18=>gO 7<|kw 118 (toNat_v (n:=x1.a) (by first | omega | exact ok_x1.atom))<|ia (en:=eI) (by first | omega | exact ok_x1.atom) fun y6 h19=>have f_y6:=hi1.2.2.1 _ _ h19;gO 6<|kw 126 (toNat_v (n:=x1.a) (by first | omega | exact ok_x1.atom))<|ia (en:=eI) (by first | omega | exact ok_x1.atom) fun y7 h20=>have f_y7:=hi1.2.2.2 _ _ h20;gO 4<|kw 131 (toNat_v (n:=x1.b) (by first | omega | exact ok_x1.atom))<|ia (en:=eI) (by first | omega | exact ok_x1.atom) fun y8 h21=>have f_y8:=hi1.2.2.2 _ _ h21;gO 3<|kw 135 (congrArg (V.int .i64) (wrap_id (n:=(bif decide (y8 > y7) then y8 else y7) + 1) (by first | omega | (simp only [Bool.cond_decide];split <;> omega)) (by first | omega | (simp only [Bool.cond_decide];split <;> omega))))<|gO 1<|apm (en:=eI) (L:=a1_0) (M:=[y6]) (re:=[11,12,13,16,17,18]) (by simp only [List.length_append,List.length_cons,List.length_nil];unfold lim;omega) (fun _ _=>rfl) ⟨rk (toNat_v (n:=x1.a) (by first | omega | exact ok_x1.atom)),ri eI h20,rr,rk (toNat_v (n:=x1.b) (by first | omega | exact ok_x1.atom)),ri eI h21,rr,trivial⟩<|apm (en:=eI) (L:=a1_1) (M:=[((bif decide (y8 > y7) then y8 else y7) + 1)]) (re:=[]) (by simp only [List.length_append,List.length_cons,List.length_nil];unfold lim;omega) (fun _ _=>rfl) trivial<|gO 7<|kw 138 (congrArg (V.int .i64) (wrap_s hlt1 (by first | omega | exact ok_x1.atom)))<|gO 2<|nx (ih1 ((a1_0 ++ [y6]),(a1_1 ++ [((bif decide (y8 > y7) then y8 else y7) + 1)])) (by refine ⟨by simp only [List.length_append,List.length_cons,List.length_nil];omega,by simp only [List.length_append,List.length_cons,List.length_nil];omega,all_snoc hi1.2.2.1 ?_,all_snoc hi1.2.2.2 ?_⟩ <;> (try simp only [Bool.cond_decide]) <;> (try split) <;> omega))) (fun h18=>gO 15<|en)) (fun h17=>gO 21<|en))) (fun h14=>gO 40<|en))) (fun h12=>gO 14<|en)))) (fun i1 ⟨a1_0,a1_1⟩ hd1 hi1=>have hi1 : a1_0.length = i1 ∧ a1_1.length = i1 ∧ (∀ (j : Nat) (y : Int),a1_0[j]? = some y → 0 ≤ y ∧ y ≤ j) ∧ (∀ (j : Nat) (y : Int),a1_1[j]? = some y → 1 ≤ y ∧ y ≤ j + 1):=hi1;have hge1:=drop_ge hd1;gO 5<|dk 10 (lt_false hge1)<|gO 14<|en)

end Go.Vm

/-
  What it means that formula.froms finds a formula right.
-/
namespace Go.Vm
open Go Go.Sp

theorem bT {b : Bool} {p : Prop} (h : b = true) (e : b = true → p) : p := e h
def Nd (F : List Int) (j : Nat) (x : Sp.Node) : Prop :=
  (x.kind = 1 ∧ x.a = 0 ∧ x.b = 0 ∧ matchCheck x.atom = 0 ∧ F[j]? = some (j : Int)) ∨
  ((x.kind = 2 ∨ x.kind = 5 ∨ x.kind = 6 ∨ x.kind = 7) ∧ 1 ≤ j ∧ x.a = (j : Int) - 1 ∧ x.b = 0 ∧ formulaEmpty x.atom = true ∧ F[j]? = F[j - 1]?) ∨
  ((x.kind = 3 ∨ x.kind = 4 ∨ x.kind = 8) ∧ 1 ≤ j ∧ x.b = (j : Int) - 1 ∧ ∃ y : Int, F[j - 1]? = some y ∧ 1 ≤ y ∧ x.a = y - 1 ∧ formulaEmpty x.atom = true ∧ F[j]? = F[x.a.toNat]?)

theorem arms_cases (k : Int) : (k = 1 ∧ formulaArms k = 0) ∨ ((k = 2 ∨ k = 5 ∨ k = 6 ∨ k = 7) ∧ formulaArms k = 1) ∨ ((k = 3 ∨ k = 4 ∨ k = 8) ∧ formulaArms k = 2) ∨ formulaArms k = -1 := by
  by_cases h1 : k = 1
  · subst h1; exact .inl ⟨rfl, rfl⟩
  by_cases h2 : k = 2
  · subst h2; exact .inr (.inl ⟨by omega, rfl⟩)
  by_cases h5 : k = 5
  · subst h5; exact .inr (.inl ⟨by omega, rfl⟩)
  by_cases h6 : k = 6
  · subst h6; exact .inr (.inl ⟨by omega, rfl⟩)
  by_cases h7 : k = 7
  · subst h7; exact .inr (.inl ⟨by omega, rfl⟩)
  by_cases h3 : k = 3
  · subst h3; exact .inr (.inr (.inl ⟨by omega, rfl⟩))
  by_cases h4 : k = 4
  · subst h4; exact .inr (.inr (.inl ⟨by omega, rfl⟩))
  by_cases h8 : k = 8
  · subst h8; exact .inr (.inr (.inl ⟨by omega, rfl⟩))
  refine .inr (.inr (.inr ?_))
  unfold formulaArms
  have e : ∀ n : Int, k ≠ n → (k == n) = false := fun n h => by simpa using h
  rw [e 1 h1, e 2 h2, e 5 h5, e 6 h6, e 7 h7, e 3 h3, e 4 h4, e 8 h8]
  rfl

theorem no_froms {F D : List Int} {p : List Int × List Int × Bool} (h : p = (F, D, true)) (e : p.2.2 = false) : False := by
  rw [h] at e; cases e

theorem froms_l1_ok (l : List Sp.Node) : ∀ (xs : List Sp.Node) (i : Nat) (f d F D : List Int), formulaFroms_l1 l i xs (f, d) = (F, D, true) → f.length = i → d.length = i → (∀ (j : Nat) (y : Int), f[j]? = some y → 0 ≤ y ∧ y ≤ (j : Int)) →
    F.length = i + xs.length ∧ D.length = i + xs.length ∧ (∀ (j : Nat) (y : Int), F[j]? = some y → 0 ≤ y ∧ y ≤ (j : Int)) ∧ (∀ j, j < i → F[j]? = f[j]?) ∧ ∀ (k : Nat) (x : Sp.Node), xs[k]? = some x → Nd F (i + k) x
  | [], i, f, d, F, D, h, hf, hd, hy => by
    simp only [formulaFroms_l1, Prod.mk.injEq, and_true] at h
    obtain ⟨rfl, rfl⟩ := h
    exact ⟨by simpa using hf, by simpa using hd, hy, fun _ _ => rfl, fun k x hk => by simp at hk⟩
  | x :: xs, i, f, d, F, D, h, hf, hd, hy => by
    have step : ∀ (z dz : Int), 0 ≤ z → z ≤ (i : Int) → formulaFroms_l1 l (i + 1) xs (f ++ [z], d ++ [dz]) = (F, D, true) → (F[i]? = some z → (∀ j, j < i → F[j]? = f[j]?) → Nd F i x) →
        F.length = i + (x :: xs).length ∧ D.length = i + (x :: xs).length ∧ (∀ (j : Nat) (y : Int), F[j]? = some y → 0 ≤ y ∧ y ≤ (j : Int)) ∧ (∀ j, j < i → F[j]? = f[j]?) ∧ ∀ (k : Nat) (y : Sp.Node), (x :: xs)[k]? = some y → Nd F (i + k) y := by
      intro z dz h0 h1 h2 h3
      obtain ⟨a1, a2, a3, a4, a5⟩ := froms_l1_ok l xs (i + 1) _ _ F D h2 (by simp [hf]) (by simp [hd]) (all_snoc (P := fun (j : Nat) (y : Int) => 0 ≤ y ∧ y ≤ (j : Int)) hy (by rw [hf]; exact ⟨h0, h1⟩))
      have e4 : ∀ j, j < i → F[j]? = f[j]? := fun j hj => by rw [a4 j (by omega), List.getElem?_append_left (by omega)]
      have e5 : F[i]? = some z := by
        rw [a4 i (by omega), List.getElem?_append_right (by omega), hf, Nat.sub_self]; rfl
      refine ⟨by rw [a1, List.length_cons]; omega, by rw [a2, List.length_cons]; omega, a3, e4, fun k y hk => ?_⟩
      cases k with
      | zero =>
        simp only [List.getElem?_cons_zero, Option.some.injEq] at hk
        subst hk; exact h3 e5 e4
      | succ k =>
        have := a5 k y (by simpa using hk)
        rwa [show i + 1 + k = i + (k + 1) by omega] at this
    rw [formulaFroms_l1] at h
    rcases arms_cases x.kind with ⟨hk, ha⟩ | ⟨hk, ha⟩ | ⟨hk, ha⟩ | ha
    · rw [ha, show ((0 : Int) == 0) = true from rfl, cond_true] at h
      cases c2 : (x.a == 0) with
      | false => rw [c2] at h; exact (no_froms h rfl).elim
      | true =>
      cases c3 : (x.b == 0) with
      | false => rw [c2, c3] at h; exact (no_froms h rfl).elim
      | true =>
      cases c4 : (matchCheck x.atom == 0) with
      | false => rw [c2, c3, c4] at h; exact (no_froms h rfl).elim
      | true =>
      rw [c2, c3, c4] at h
      exact step i 1 (by omega) (Int.le_refl _) h fun e _ => .inl ⟨hk, by simpa using c2, by simpa using c3, by simpa using c4, e⟩
    · rw [ha, show ((1 : Int) == 0) = false from rfl, show ((1 : Int) == 1) = true from rfl, cond_false, cond_true] at h
      cases c1 : decide ((i : Int) < 1) with
      | true => rw [c1] at h; exact (no_froms h rfl).elim
      | false =>
      cases c2 : (x.a == (i : Int) - 1) with
      | false => rw [c1, c2] at h; exact (no_froms h rfl).elim
      | true =>
      cases c3 : (x.b == 0) with
      | false => rw [c1, c2, c3] at h; exact (no_froms h rfl).elim
      | true =>
      cases c4 : formulaEmpty x.atom with
      | false => rw [c1, c2, c3, c4] at h; exact (no_froms h rfl).elim
      | true =>
      rw [c1, c2, c3, c4] at h
      simp only [cond_true, cond_false] at h
      have hi : ((i : Int) - 1).toNat = i - 1 := by omega
      have hi1 : 1 ≤ i := by have := of_decide_eq_false c1; omega
      rw [hi] at h
      cases c5 : f[i - 1]? with
      | none => rw [c5] at h; exact (no_froms h rfl).elim
      | some y3 =>
      cases c6 : d[i - 1]? with
      | none => rw [c5, c6] at h; exact (no_froms h rfl).elim
      | some y4 =>
      rw [c5, c6] at h
      obtain ⟨q1, q2⟩ := hy _ _ c5
      exact step y3 (y4 + 1) q1 (by omega) h fun e e4 => .inr (.inl ⟨hk, hi1, by simpa using c2, by simpa using c3, c4, by rw [e, e4 (i - 1) (by omega), c5]⟩)
    · rw [ha, show ((2 : Int) == 0) = false from rfl, show ((2 : Int) == 1) = false from rfl, show ((2 : Int) == 2) = true from rfl, cond_false, cond_false, cond_true] at h
      cases c1 : decide ((i : Int) < 1) with
      | true => rw [c1] at h; exact (no_froms h rfl).elim
      | false =>
      cases c2 : (x.b == (i : Int) - 1) with
      | false => rw [c1, c2] at h; exact (no_froms h rfl).elim
      | true =>
      rw [c1, c2] at h
      simp only [cond_true, cond_false] at h
      have hi : ((i : Int) - 1).toNat = i - 1 := by omega
      have hi1 : 1 ≤ i := by have := of_decide_eq_false c1; omega
      rw [hi] at h
      cases c5 : f[i - 1]? with
      | none => rw [c5] at h; exact (no_froms h rfl).elim
      | some y5 =>
      rw [c5] at h
      simp only [onS] at h
      cases c6 : decide (y5 < 1) with
      | true => rw [c6] at h; exact (no_froms h rfl).elim
      | false =>
      cases c7 : (x.a == y5 - 1) with
      | false => rw [c6, c7] at h; exact (no_froms h rfl).elim
      | true =>
      cases c4 : formulaEmpty x.atom with
      | false => rw [c6, c7, c4] at h; exact (no_froms h rfl).elim
      | true =>
      rw [c6, c7, c4] at h
      simp only [cond_true, cond_false] at h
      have h7 : x.a = y5 - 1 := by simpa using c7
      have h6 := of_decide_eq_false c6
      obtain ⟨q1, q2⟩ := hy _ _ c5
      cases c8 : f[x.a.toNat]? with
      | none => rw [c8] at h; exact (no_froms h rfl).elim
      | some y6 =>
      rw [c8] at h
      simp only [] at h
      cases c9 : d[x.a.toNat]? with
      | none => rw [c9] at h; exact (no_froms h rfl).elim
      | some y7 =>
      rw [c9] at h
      simp only [] at h
      cases c10 : d[x.b.toNat]? with
      | none => rw [c10] at h; exact (no_froms h rfl).elim
      | some y8 =>
      rw [c10] at h
      obtain ⟨q3, q4⟩ := hy _ _ c8
      exact step y6 _ q3 (by omega) h fun e e4 => .inr (.inr ⟨hk, hi1, by simpa using c2, y5, by rw [e4 (i - 1) (by omega), c5], by omega, h7, c4, by rw [e, e4 x.a.toNat (by omega), c8]⟩)
    · rw [ha] at h
      exact (no_froms h rfl).elim

theorem froms_ok {l : List Sp.Node} (h : (formulaFroms l).2.2 = true) : (formulaFroms l).1.length = l.length ∧ (formulaFroms l).2.1.length = l.length ∧ (∀ (j : Nat) (y : Int), (formulaFroms l).1[j]? = some y → 0 ≤ y ∧ y ≤ (j : Int)) ∧
    ∀ (j : Nat) (x : Sp.Node), l[j]? = some x → Nd (formulaFroms l).1 j x := by
  have e : formulaFroms_l1 l 0 l ([], []) = ((formulaFroms l).1, (formulaFroms l).2.1, true) := by
    show formulaFroms l = _
    rw [← h]
  obtain ⟨a1, a2, a3, _, a5⟩ := froms_l1_ok l l 0 [] [] _ _ e rfl rfl (fun j y hy => by simp at hy)
  exact ⟨by simpa using a1, by simpa using a2, a3, fun j x hx => by simpa using a5 j x hx⟩
theorem froms_len (l : List Sp.Node) (h : (formulaFroms l).2.2 = true) : (formulaFroms l).1.length = l.length ∧ (formulaFroms l).2.1.length = l.length := ⟨(froms_ok h).1, (froms_ok h).2.1⟩
end Go.Vm

/- What functions of the program answer. Printed by spec2.py. -/
namespace Go.Vm
open Go Go.Sp
set_option maxRecDepth 100000
set_option maxHeartbeats 4000000

def formulaCheck (l : (List Sp.Node)) : Int:=(bif (decide ((l.length : Int) < 1)) then 17 else (bif (decide ((l.length : Int) > 40)) then 17 else (bif (formulaFroms l).2.2 then (onS ((formulaFroms l).1)[((l.length : Int) - 1).toNat]? (fun y1=>(bif (y1 == 0) then (onS ((formulaFroms l).2.1)[((l.length : Int) - 1).toNat]? (fun y2=>(bif (decide (y2 > 12)) then 17 else 0)) default) else 17)) default) else 17)))
theorem formulaCheck_says (l : (List Sp.Node)) (ok_l : okL l) : SaysT TX 140 [(eL 5 eNode) l] (eI (formulaCheck l)) :=
  sy (e:=eI) (F:=c140) rfl fun sg=>gO 8<|kw 8 (len_map eNode l)<|gO 8<|dp 11 (fun h1=>gO 11<|en) (fun h1=>gO 4<|dp 14 (fun h2=>gO 7<|en) (fun h2=>gO 5<|cl (formulaFroms_says l (by first | assumption | omega | (have q:=froms_len _ (by assumption);omega) | simp) (by first | assumption | omega | (have q:=froms_len _ (by assumption);omega) | simp))<|gO 14<|dcn 23 (fun h3=>gO 3<|kw 26 (congrArg (V.int .i64) (wrap_id (n:=(l.length : Int) - 1) (by omega) (by omega)))<|kw 26 (toNat_v (n:=((l.length : Int) - 1)) (by first | assumption | omega | (have q:=froms_len _ (by assumption);omega) | simp))<|ia (en:=eI) (by first | assumption | omega | (have q:=froms_len _ (by assumption);omega) | simp) fun y1 h4=>gO 4<|dqn 31 (fun h5=>gO 3<|kw 34 (congrArg (V.int .i64) (wrap_id (n:=(l.length : Int) - 1) (by omega) (by omega)))<|kw 34 (toNat_v (n:=((l.length : Int) - 1)) (by first | assumption | omega | (have q:=froms_len _ (by assumption);omega) | simp))<|ia (en:=eI) (by first | assumption | omega | (have q:=froms_len _ (by assumption);omega) | simp) fun y2 h6=>gO 4<|dp 38 (fun h7=>gO 7<|en) (fun h7=>gO 7<|en)) (fun h5=>gO 15<|en)) (fun h3=>gO 23<|en)))

end Go.Vm

/-
  What it means that formula.Check finds a formula right.
-/
namespace Go.Vm
open Go Go.Sp

theorem fc_all {l : List Sp.Node} (h : formulaCheck l = 0) : 1 ≤ l.length ∧ l.length ≤ 40 ∧ (formulaFroms l).2.2 = true ∧ (formulaFroms l).1[l.length - 1]? = some 0 := by
  unfold formulaCheck at h
  cases c1 : decide ((l.length : Int) < 1) with
  | true => rw [c1] at h; cases h
  | false =>
  cases c2 : decide ((l.length : Int) > 40) with
  | true => rw [c1, c2] at h; cases h
  | false =>
  cases c3 : (formulaFroms l).2.2 with
  | false => rw [c1, c2, c3] at h; cases h
  | true =>
  rw [c1, c2, c3] at h
  simp only [cond_true, cond_false] at h
  have h1 := of_decide_eq_false c1
  have h2 := of_decide_eq_false c2
  have e : ((l.length : Int) - 1).toNat = l.length - 1 := by omega
  obtain ⟨g1, g2⟩ := froms_len l c3
  have hlt : l.length - 1 < (formulaFroms l).1.length := by omega
  rw [e] at h
  cases c4 : (formulaFroms l).1[l.length - 1]? with
  | none => rw [List.getElem?_eq_getElem hlt] at c4; cases c4
  | some y =>
  rw [c4] at h
  simp only [onS] at h
  cases c5 : (y == 0) with
  | false => rw [c5] at h; cases h
  | true =>
    have : y = 0 := by simpa using c5
    subst this
    exact ⟨by omega, by omega, rfl, rfl⟩
theorem fc_le {l : List Sp.Node} (h : formulaCheck l = 0) : 1 ≤ l.length ∧ l.length ≤ 40 := ⟨(fc_all h).1, (fc_all h).2.1⟩
theorem fc_froms {l : List Sp.Node} (h : formulaCheck l = 0) : (formulaFroms l).2.2 = true := (fc_all h).2.2.1
theorem fc_len {l : List Sp.Node} (h : formulaCheck l = 0) : (formulaFroms l).1.length = l.length := (froms_len l (fc_froms h)).1
theorem fc_Nd {l : List Sp.Node} (h : formulaCheck l = 0) {j : Nat} {x : Sp.Node} (hx : l[j]? = some x) : Nd (formulaFroms l).1 j x := (froms_ok (fc_froms h)).2.2.2 j x hx
end Go.Vm

/- What functions of the program answer. Printed by spec2.py. -/
namespace Go.Vm
open Go Go.Sp
set_option maxRecDepth 100000
set_option maxHeartbeats 4000000

def formulaFrom (l : (List Sp.Node)) (at_ : Int) : Int:=(bif ((formulaCheck l) == 0) then (bif (decide (at_ < 0)) then (-1) else (bif (decide (at_ ≥ (l.length : Int))) then (-1) else (onS ((formulaFroms l).1)[at_.toNat]? (fun y1=>y1) default))) else (-1))
theorem formulaFrom_says (l : (List Sp.Node)) (at_ : Int) (ok_l : okL l) : SaysT TX 142 [(eL 5 eNode) l,eI at_] (eI (formulaFrom l at_)) :=
  sy (e:=eI) (F:=c142) rfl fun sg=>gO 8<|cl (formulaCheck_says l (by first | assumption | omega | (have q:=fc_le (by assumption);omega) | (have q:=froms_len _ (fc_froms (by assumption));omega)))<|gO 2<|dqn 11 (fun h1=>gO 4<|dp 15 (fun h2=>gO 13<|en) (fun h2=>gO 3<|kw 18 (len_map eNode l)<|gO 3<|dp 20 (fun h3=>gO 7<|en) (fun h3=>gO 5<|cl (formulaFroms_says l (by first | assumption | omega | (have q:=fc_le (by assumption);omega) | (have q:=froms_len _ (fc_froms (by assumption));omega)) (by first | assumption | omega | (have q:=fc_le (by assumption);omega) | (have q:=froms_len _ (fc_froms (by assumption));omega)))<|gO 12<|kw 28 (toNat_v (n:=at_) (by first | assumption | omega | (have q:=fc_le (by assumption);omega) | (have q:=froms_len _ (fc_froms (by assumption));omega)))<|ia (en:=eI) (by first | assumption | omega | (have q:=fc_le (by assumption);omega) | (have q:=froms_len _ (fc_froms (by assumption));omega)) fun y1 h4=>gO 4<|en))) (fun h1=>gO 17<|en)

def safeAt (l : (List Sp.Node)) (i : Int) : Bool:=(bif ((formulaCheck l) == 0) then (bif (decide (i ≥ 0)) then (decide (i < (l.length : Int))) else false) else false)
theorem safeAt_says (l : (List Sp.Node)) (i : Int) (ok_l : okL l) : SaysT TX 82 [(eL 5 eNode) l,eI i] (eB (safeAt l i)) :=
  sy (e:=eB) (F:=c82) rfl fun sg=>gO 7<|cl (formulaCheck_says l (by (first | assumption | omega | (simp only [List.length_cons,List.length_nil,List.length_append,List.length_map];omega) | grind)))<|gO 2<|dq 8 (fun h1=>gO 4<|dp 12 (fun h2=>gO 3<|kw 15 (len_map eNode l)<|gO 5<|en) (fun h2=>gO 8<|en)) (fun h1=>gO 12<|en)

end Go.Vm

/-
  Right formulas: where a node's own begin, its kids, its atom.
-/
namespace Go.Vm
open Go Go.Sp

theorem from_eq {l : List Sp.Node} (h : formulaCheck l = 0) {at_ : Int} (h0 : 0 ≤ at_) (h1 : at_ < l.length) : (formulaFroms l).1[at_.toNat]? = some (formulaFrom l at_) := by
  unfold formulaFrom
  rw [h, show ((0 : Int) == 0) = true from rfl, cond_true, show decide (at_ < 0) = false from decide_eq_false (by omega), cond_false, show decide (at_ ≥ (l.length : Int)) = false from decide_eq_false (by omega), cond_false]
  have hlt : at_.toNat < (formulaFroms l).1.length := by rw [fc_len h]; omega
  rw [List.getElem?_eq_getElem hlt]
  rfl
theorem from_le {l : List Sp.Node} (h : formulaCheck l = 0) {at_ : Int} (h0 : 0 ≤ at_) (h1 : at_ < l.length) : 0 ≤ formulaFrom l at_ ∧ formulaFrom l at_ ≤ at_ := by
  have := (froms_ok (fc_froms h)).2.2.1 _ _ (from_eq h h0 h1)
  omega
theorem kids {l : List Sp.Node} (h : formulaCheck l = 0) {j : Nat} {x : Sp.Node} (hx : l[j]? = some x) :
    (x.kind = 1 ∨ (0 ≤ x.a ∧ x.a < (j : Int))) ∧ ((x.kind = 3 ∨ x.kind = 4 ∨ x.kind = 8) → 0 ≤ x.b ∧ x.b < (j : Int)) ∧ (j : Int) < l.length := by
  have hj : j < l.length := (List.getElem?_eq_some_iff.1 hx).1
  rcases fc_Nd h hx with ⟨h1, _⟩ | ⟨h1, h2, h3, h4, _⟩ | ⟨h1, h2, h3, y, h4, h5, h6, _⟩
  · exact ⟨.inl h1, by omega, by omega⟩
  · exact ⟨by omega, by omega, by omega⟩
  · have := (froms_ok (fc_froms h)).2.2.1 _ _ h4
    exact ⟨by omega, by omega, by omega⟩
theorem empty_args {a : Sp.Atom} (h : formulaEmpty a = true) : a.args.length = 0 := by
  unfold formulaEmpty at h
  cases c : (a.name == ([] : Txt)) with
  | false => rw [c] at h; cases h
  | true => rw [c] at h; have : ((a.args.length : Int) == 0) = true := h; simp only [beq_iff_eq] at this; omega
theorem check_args {a : Sp.Atom} (h : matchCheck a = 0) : a.args.length ≤ 5 := by
  unfold matchCheck at h
  cases c : factName a.name with
  | false => rw [c] at h; cases h
  | true =>
  rw [c, cond_true] at h
  cases c2 : decide ((a.args.length : Int) > 5) with
  | true => rw [c2] at h; cases h
  | false => have := of_decide_eq_false c2; omega
theorem node_args {l : List Sp.Node} (h : formulaCheck l = 0) {j : Nat} {x : Sp.Node} (hx : l[j]? = some x) : x.atom.args.length ≤ 5 := by
  rcases fc_Nd h hx with ⟨_, _, _, h1, _⟩ | ⟨_, _, _, _, h1, _⟩ | ⟨_, _, _, y, _, _, _, h1, _⟩
  · exact check_args h1
  · have := empty_args h1; omega
  · have := empty_args h1; omega
theorem mem_cut {l : List Sp.Node} {a b i : Nat} {x : Sp.Node} (h : ((l.drop a).take b)[i]? = some x) : ∃ j : Nat, l[j]? = some x := by
  rw [List.getElem?_take] at h
  split at h
  · rw [List.getElem?_drop] at h; exact ⟨_, h⟩
  · cases h
theorem cut_len {l : List Sp.Node} {a b i : Nat} {x : Sp.Node} (h : ((l.drop a).take b)[i]? = some x) : i < l.length := by
  have := (List.getElem?_eq_some_iff.1 h).1
  simp only [List.length_take, List.length_drop] at this
  omega
theorem vars_args {l : List Sp.Node} (h : formulaCheck l = 0) {x : Sp.Node} (hx : ∃ j : Nat, l[j]? = some x) : x.atom.args.length ≤ 5 := by
  obtain ⟨j, hj⟩ := hx; exact node_args h hj
theorem matchVars_len (a : Sp.Atom) : ∀ (xs : List Sp.Term) (i : Nat) (acc : List Txt), (matchVars_l1 a i xs acc).length ≤ acc.length + xs.length
  | [], i, acc => by simp [matchVars_l1]
  | x :: xs, i, acc => by
    rw [matchVars_l1]
    cases (x.var == ([] : Txt)) with
    | true => simp only [cond_true]; have := matchVars_len a xs (i + 1) acc; simp only [List.length_cons]; omega
    | false =>
      simp only [cond_false]
      cases containsTxt acc x.var with
      | true => simp only [cond_true]; have := matchVars_len a xs (i + 1) acc; simp only [List.length_cons]; omega
      | false => simp only [cond_false]; have := matchVars_len a xs (i + 1) (acc ++ [x.var]); simp only [List.length_cons, List.length_append, List.length_nil] at *; omega
theorem vars_len {l : List Sp.Node} (h : formulaCheck l = 0) {x : Sp.Node} (hx : ∃ j : Nat, l[j]? = some x) : (matchVars x.atom).length ≤ 5 := by
  have h1 := vars_args h hx
  have h2 := matchVars_len x.atom x.atom.args 0 []
  unfold matchVars
  simp only [List.length_nil] at h2
  omega
theorem at_ok {l : List Sp.Node} {i : Int} (h : safeAt l i = true) : formulaCheck l = 0 ∧ 0 ≤ i ∧ i < l.length := by
  unfold safeAt at h
  cases c1 : (formulaCheck l == 0) with
  | false => rw [c1] at h; cases h
  | true =>
  rw [c1, cond_true] at h
  cases c2 : decide (i ≥ 0) with
  | false => rw [c2] at h; cases h
  | true =>
    rw [c2, cond_true] at h
    exact ⟨by simpa using c1, of_decide_eq_true c2, of_decide_eq_true h⟩
end Go.Vm

/- What functions of the program answer. Printed by spec2.py. -/
namespace Go.Vm
open Go Go.Sp
set_option maxRecDepth 100000
set_option maxHeartbeats 4000000

def lookerVars_l1 (k : Sp.Looker) (at_ : Int) : Nat → List Sp.Node → (List Txt) → (List Txt)
  | i1,[],a1_0=>((rowT true (rowT false a1_0)).take (rowN true (rowT false a1_0)))
  | i1,x1 :: xs2,a1_0=>lookerVars_l1 k at_ (i1 + 1) xs2 (a1_0 ++ (matchVars x1.atom))
def lookerVars (k : Sp.Looker) (at_ : Int) : (List Txt):=lookerVars_l1 k at_ 0 ((k.l.drop ((formulaFrom k.l at_).toNat)).take ((at_ + 1).toNat - ((formulaFrom k.l at_).toNat))) ([] : List Txt)
theorem lookerVars_says (k : Sp.Looker) (at_ : Int) (ok_l : okL k.l) (fm : formulaCheck k.l = 0) (h0_at_ : 0 ≤ at_) (h1_at_ : at_ < k.l.length) : SaysT TX 75 [eLooker k,eI at_] ((eL 1 eS) (lookerVars k at_)) :=
  sy (e:=(eL 1 eS)) (F:=c75) rfl fun sg=>gO 17<|cl (formulaFrom_says k.l at_ (by first | assumption | omega | (have q:=fc_le fm;omega) | (have q:=fc_le fm;simp only [List.length_take,List.length_drop];omega) | (have q:=from_le fm h0_at_ h1_at_;have q2:=fc_le fm;omega) | exact Nat.le_trans (rowN_le _ _) (Nat.le_of_eq (rowT_len _ _).symm) | (exact Nat.le_trans (vars_args fm (mem_cut (by assumption))) (by decide))))<|gO 2<|kw 15 (congrArg (V.int .i64) (wrap_id (n:=at_ + 1) (by first | assumption | omega | (have q:=fc_le fm;omega) | (have q:=fc_le fm;simp only [List.length_take,List.length_drop];omega) | (have q:=from_le fm h0_at_ h1_at_;have q2:=fc_le fm;omega) | exact Nat.le_trans (rowN_le _ _) (Nat.le_of_eq (rowT_len _ _).symm)) (by first | assumption | omega | (have q:=fc_le fm;omega) | (have q:=fc_le fm;simp only [List.length_take,List.length_drop];omega) | (have q:=from_le fm h0_at_ h1_at_;have q2:=fc_le fm;omega) | exact Nat.le_trans (rowN_le _ _) (Nat.le_of_eq (rowT_len _ _).symm))))<|kw 13 (toNat_v (n:=(formulaFrom k.l at_)) (by first | assumption | omega | (have q:=fc_le fm;omega) | (have q:=fc_le fm;simp only [List.length_take,List.length_drop];omega) | (have q:=from_le fm h0_at_ h1_at_;have q2:=fc_le fm;omega) | exact Nat.le_trans (rowN_le _ _) (Nat.le_of_eq (rowT_len _ _).symm) | (exact Nat.le_trans (vars_args fm (mem_cut (by assumption))) (by decide))))<|kw 15 (toNat_v (n:=(at_ + 1)) (by first | assumption | omega | (have q:=fc_le fm;omega) | (have q:=fc_le fm;simp only [List.length_take,List.length_drop];omega) | (have q:=from_le fm h0_at_ h1_at_;have q2:=fc_le fm;omega) | exact Nat.le_trans (rowN_le _ _) (Nat.le_of_eq (rowT_len _ _).symm) | (exact Nat.le_trans (vars_args fm (mem_cut (by assumption))) (by decide))))<|ct (en:=eNode) (z:=5) (L:=k.l) (l:=(formulaFrom k.l at_).toNat) (hh:=(at_ + 1).toNat) (by first | assumption | omega | (have q:=fc_le fm;omega) | (have q:=fc_le fm;simp only [List.length_take,List.length_drop];omega) | (have q:=from_le fm h0_at_ h1_at_;have q2:=fc_le fm;omega) | exact Nat.le_trans (rowN_le _ _) (Nat.le_of_eq (rowT_len _ _).symm) | (exact Nat.le_trans (vars_args fm (mem_cut (by assumption))) (by decide))) (by first | assumption | omega | (have q:=fc_le fm;omega) | (have q:=fc_le fm;simp only [List.length_take,List.length_drop];omega) | (have q:=from_le fm h0_at_ h1_at_;have q2:=fc_le fm;omega) | exact Nat.le_trans (rowN_le _ _) (Nat.le_of_eq (rowT_len _ _).symm) | (exact Nat.le_trans (vars_args fm (mem_cut (by assumption))) (by decide)))<|gO 1<|kw 17 (len_map eNode ((k.l.drop ((formulaFrom k.l at_).toNat)).take ((at_ + 1).toNat - ((formulaFrom k.l at_).toNat))))<|gO 3<|rgI (β:=Sp.Node) (A:=(List Txt)) (fun i1 a1_0=>a1_0.length ≤ 5 * i1 ∧ i1 ≤ 40) (fun i1 a1_0=>{ vals:=[(.bs 0 2 a1_0.length 0 a1_0.length),(.sl .no 5 (((k.l.drop ((formulaFrom k.l at_).toNat)).take ((at_ + 1).toNat - ((formulaFrom k.l at_).toNat))).map eNode)),(.int .i64 (((k.l.drop ((formulaFrom k.l at_).toNat)).take ((at_ + 1).toNat - ((formulaFrom k.l at_).toNat))).length : Int)),(.int .i64 (i1 : Int))],fr:=[.box [(.sl .no 5 (k.l.map eNode))],.arr (([] : List Txt).length) 1 (([] : List Txt).map eS),.arr a1_0.length 1 (a1_0.map eS)],sg:=sg,wd:=0 }) (L:=((k.l.drop ((formulaFrom k.l at_).toNat)).take ((at_ + 1).toNat - ((formulaFrom k.l at_).toNat)))) (acc0:=([] : List Txt)) (fn:=lookerVars_l1 k at_) (by simp) (fun i1 x1 xs2 a1_0 hd1 hi1 ih1=>have hi1 : a1_0.length ≤ 5 * i1 ∧ i1 ≤ 40:=hi1;have hlt1:=drop_lt hd1;have hx1:=drop_get hd1;gO 5<|dk 19 (lt_true hlt1)<|gO 6<|iak eNode hx1<|gO 8<|cl (matchVars_says x1.atom (by first | assumption | omega | (have q:=fc_le fm;omega) | (have q:=fc_le fm;simp only [List.length_take,List.length_drop];omega) | (have q:=from_le fm h0_at_ h1_at_;have q2:=fc_le fm;omega) | exact Nat.le_trans (rowN_le _ _) (Nat.le_of_eq (rowT_len _ _).symm) | (exact Nat.le_trans (vars_args fm (mem_cut (by assumption))) (by decide))))<|apb (en:=eS) (L:=a1_0) (M:=(matchVars x1.atom)) (by first | omega | (rw [rowT_len];omega) | (simp only [List.length_append];have q2:=vars_len fm (mem_cut (by assumption));unfold lim;omega)) (fun _ _=>rfl)<|gO 5<|kw 27 (congrArg (V.int .i64) (wrap_s hlt1 (by first | assumption | omega | (have q:=fc_le fm;omega) | (have q:=fc_le fm;simp only [List.length_take,List.length_drop];omega) | (have q:=from_le fm h0_at_ h1_at_;have q2:=fc_le fm;omega) | exact Nat.le_trans (rowN_le _ _) (Nat.le_of_eq (rowT_len _ _).symm) | (exact Nat.le_trans (vars_args fm (mem_cut (by assumption))) (by decide)))))<|gO 2<|nx (ih1 (a1_0 ++ (matchVars x1.atom)) (by (have q:=fc_le fm;have q2:=vars_len fm (mem_cut (by assumption));have q3:=cut_len (by assumption);simp only [List.length_append];omega)))) (fun i1 a1_0 hd1 hi1=>have hi1 : a1_0.length ≤ 5 * i1 ∧ i1 ≤ 40:=hi1;have hge1:=drop_ge hd1;gO 5<|dk 19 (lt_false hge1)<|gO 8<|rwc (K:=RX) (f:=143) (k:=false) (i:=2) (L:=a1_0) (n:=a1_0.length) (by first | rfl | exact (rowT_len _ _).symm) (by kernel_rfl) (by kernel_rfl) (by kernel_rfl) (by first | omega | (rw [rowT_len];omega) | (simp only [List.length_append];have q2:=vars_len fm (mem_cut (by assumption));unfold lim;omega))<|gO 4<|rwc (K:=RX) (f:=144) (k:=true) (i:=2) (L:=(rowT false a1_0)) (n:=a1_0.length) (by first | rfl | exact (rowT_len _ _).symm) (by kernel_rfl) (by kernel_rfl) (by kernel_rfl) (by first | omega | (rw [rowT_len];omega) | (simp only [List.length_append];have q2:=vars_len fm (mem_cut (by assumption));unfold lim;omega))<|gO 3<|enb (en:=eS) (L:=(rowT true (rowT false a1_0))) (i:=2) (ver:=a1_0.length) (z:=1) (k:=(rowN true (rowT false a1_0))) 4 (by first | exact Nat.le_refl _ | (first | assumption | omega | (have q:=fc_le fm;omega) | (have q:=fc_le fm;simp only [List.length_take,List.length_drop];omega) | (have q:=from_le fm h0_at_ h1_at_;have q2:=fc_le fm;omega) | exact Nat.le_trans (rowN_le _ _) (Nat.le_of_eq (rowT_len _ _).symm) | (exact Nat.le_trans (vars_args fm (mem_cut (by assumption))) (by decide)))))

end Go.Vm

/-
  A right formula's variables.
-/
namespace Go.Vm
open Go Go.Sp

theorem vars_l1 (k : Sp.Looker) (at_ : Int) : ∀ (xs : List Sp.Node) (i : Nat) (acc : List Txt), lookerVars_l1 k at_ i xs acc = cmpT (sortT (acc ++ (xs.map (·.atom)).flatMap matchVars))
  | [], i, acc => by
    rw [lookerVars_l1]
    simp only [rowT, rowN, List.map_nil, List.flatMap_nil, List.append_nil]
    exact List.take_left' rfl
  | x :: xs, i, acc => by
    rw [lookerVars_l1, vars_l1 k at_ xs]
    simp [List.append_assoc]
theorem vars_eq (k : Sp.Looker) (at_ : Int) : lookerVars k at_ = cmpT (sortT ((((k.l.drop (formulaFrom k.l at_).toNat).take ((at_ + 1).toNat - (formulaFrom k.l at_).toNat)).map (·.atom)).flatMap matchVars)) := by
  unfold lookerVars
  rw [vars_l1]
  rfl

theorem flat_len : ∀ (xs : List Sp.Atom), (∀ a ∈ xs, (matchVars a).length ≤ 5) → (xs.flatMap matchVars).length ≤ 5 * xs.length
  | [], _ => Nat.le_refl _
  | a :: xs, h => by
    have h1 := h a List.mem_cons_self
    have h2 := flat_len xs fun b hb => h b (List.mem_cons_of_mem _ hb)
    simp only [List.flatMap_cons, List.length_append, List.length_cons]
    omega
theorem lookerVars_len {k : Sp.Looker} (fm : formulaCheck k.l = 0) {at_ : Int} : (lookerVars k at_).length ≤ 200 := by
  rw [vars_eq]
  refine Nat.le_trans (cmpT_le _) ?_
  rw [(sortT_perm _).length_eq]
  refine Nat.le_trans (flat_len _ fun a ha => ?_) ?_
  · obtain ⟨x, hx, rfl⟩ := List.mem_map.1 ha
    obtain ⟨i, hi⟩ := List.getElem?_of_mem hx
    exact vars_len fm (mem_cut hi)
  · have := fc_le fm
    simp only [List.length_map, List.length_take, List.length_drop]
    omega
end Go.Vm

/- What functions of the program answer. Printed by spec2.py. -/
namespace Go.Vm
open Go Go.Sp
set_option maxRecDepth 100000
set_option maxHeartbeats 4000000

def lookerHolds (k : Sp.Looker) (a : Int) (f : Int) : Bool:=(safeWithin (lookerVars k a) (lookerVars k f))
theorem lookerHolds_says (k : Sp.Looker) (a : Int) (f : Int) (ok_l : okL k.l) (fm : formulaCheck k.l = 0) (h0_a : 0 ≤ a) (h1_a : a < k.l.length) (h0_f : 0 ≤ f) (h1_f : f < k.l.length) : SaysT TX 146 [eLooker k,eI a,eI f] (eB (lookerHolds k a f)) :=
  sy (e:=eB) (F:=c146) rfl fun sg=>gO 9<|cl (lookerVars_says k a (by first | assumption | exact Nat.le_trans (lookerVars_len fm) (by decide)) (by first | assumption | exact Nat.le_trans (lookerVars_len fm) (by decide)) (by first | assumption | exact Nat.le_trans (lookerVars_len fm) (by decide)) (by first | assumption | exact Nat.le_trans (lookerVars_len fm) (by decide)))<|gO 2<|cl (lookerVars_says k f (by first | assumption | exact Nat.le_trans (lookerVars_len fm) (by decide)) (by first | assumption | exact Nat.le_trans (lookerVars_len fm) (by decide)) (by first | assumption | exact Nat.le_trans (lookerVars_len fm) (by decide)) (by first | assumption | exact Nat.le_trans (lookerVars_len fm) (by decide)))<|cl (safeWithin_says (lookerVars k a) (lookerVars k f) (by first | assumption | exact Nat.le_trans (lookerVars_len fm) (by decide)) (by first | assumption | exact Nat.le_trans (lookerVars_len fm) (by decide)))<|gO 3<|en

mutual
def lookerFoundF : Nat → Sp.Looker → Int → Bool
  | 0,_,_=>default
  | q + 1,k,at_=>(onS k.l[at_.toNat]? (fun y1=>(bif (y1.kind == 1) then true else (bif (y1.kind == 5) then (lookerFoundF q k y1.a) else (bif (y1.kind == 6) then (lookerFoundF q k y1.a) else (bif (y1.kind == 3) then (bif (lookerFoundF q k y1.a) then (bif (lookerHolds k y1.b y1.a) then (lookerTestedF q k y1.b) else false) else false) else (bif (y1.kind == 4) then (bif (lookerFoundF q k y1.a) then (bif (lookerFoundF q k y1.b) then (bif (lookerHolds k y1.a y1.b) then (lookerHolds k y1.b y1.a) else false) else false) else false) else (bif (y1.kind == 8) then (bif (lookerFoundF q k y1.b) then (bif (lookerHolds k y1.a y1.b) then (lookerTestedF q k y1.a) else false) else false) else false))))))) default)
def lookerTestedF : Nat → Sp.Looker → Int → Bool
  | 0,_,_=>default
  | q + 1,k,at_=>(onS k.l[at_.toNat]? (fun y1=>(bif (y1.kind == 2) then (lookerTestedF q k y1.a) else (bif (y1.kind == 3) then (bif (lookerTestedF q k y1.a) then (bif (lookerTestedF q k y1.b) then true else (lookerFoundF q k at_)) else (lookerFoundF q k at_)) else (bif (y1.kind == 4) then (bif (lookerTestedF q k y1.a) then (bif (lookerTestedF q k y1.b) then true else (lookerFoundF q k at_)) else (lookerFoundF q k at_)) else (bif (y1.kind == 7) then (lookerAlwaysF q k y1.a) else (lookerFoundF q k at_)))))) default)
def lookerAlwaysF : Nat → Sp.Looker → Int → Bool
  | 0,_,_=>default
  | q + 1,k,at_=>(onS k.l[at_.toNat]? (fun y1=>(bif (y1.kind == 2) then (lookerFoundF q k y1.a) else (bif (y1.kind == 4) then (onS k.l[y1.a.toNat]? (fun y2=>(bif (y2.kind == 2) then (bif (lookerFoundF q k y2.a) then (bif (lookerHolds k y1.b y1.a) then (lookerTestedF q k y1.b) else false) else false) else false)) default) else false))) default)
end
def lookerFound (k : Sp.Looker) (at_ : Int) : Bool:=lookerFoundF (3 * at_.toNat + 1) k at_
def lookerTested (k : Sp.Looker) (at_ : Int) : Bool:=lookerTestedF (3 * at_.toNat + 1 + 1) k at_
def lookerAlways (k : Sp.Looker) (at_ : Int) : Bool:=lookerAlwaysF (3 * at_.toNat + 2 + 1) k at_
theorem lookerFound_grp : ∀ q : Nat,(∀ (k : Sp.Looker) (at_ : Int) (ok_l : okL k.l) (fm : formulaCheck k.l = 0) (h0_at_ : 0 ≤ at_) (h1_at_ : at_ < k.l.length),3 * at_.toNat < q → SaysT TX 83 [eLooker k,eI at_] (eB (lookerFoundF q k at_))) ∧ (∀ (k : Sp.Looker) (at_ : Int) (ok_l : okL k.l) (fm : formulaCheck k.l = 0) (h0_at_ : 0 ≤ at_) (h1_at_ : at_ < k.l.length),3 * at_.toNat + 1 < q → SaysT TX 74 [eLooker k,eI at_] (eB (lookerTestedF q k at_))) ∧ (∀ (k : Sp.Looker) (at_ : Int) (ok_l : okL k.l) (fm : formulaCheck k.l = 0) (h0_at_ : 0 ≤ at_) (h1_at_ : at_ < k.l.length),3 * at_.toNat + 2 < q → SaysT TX 141 [eLooker k,eI at_] (eB (lookerAlwaysF q k at_)))
  | 0=>⟨fun _ _ _ _ _ _ hm=>absurd hm (by omega),fun _ _ _ _ _ _ hm=>absurd hm (by omega),fun _ _ _ _ _ _ hm=>absurd hm (by omega)⟩
  | q + 1=>by
    obtain ⟨ih_lookerFound,ih_lookerTested,ih_lookerAlways⟩:=lookerFound_grp q
    refine ⟨?_,?_,?_⟩
    · intro k at_ ok_l fm h0_at_ h1_at_ hm
      exact sy (e:=eB) (F:=c83) rfl fun sg=>gO 10<|kw 8 (toNat_v (n:=at_) (by first | assumption | omega))<|ia (en:=eNode) (by first | assumption | omega) fun y1 h1=>have kd_y1:=kids fm h1;gO 16<|dq 13 (fun h2=>gO 8<|en) (fun h2=>gO 7<|dq 15 (fun h3=>gO 8<|cl (ih_lookerFound k y1.a (by first | assumption | omega) (by first | assumption | omega) (by first | assumption | omega) (by first | assumption | omega) (by first | assumption | omega))<|gO 5<|en) (fun h3=>gO 5<|dq 15 (fun h4=>gO 6<|cl (ih_lookerFound k y1.a (by first | assumption | omega) (by first | assumption | omega) (by first | assumption | omega) (by first | assumption | omega) (by first | assumption | omega))<|gO 5<|en) (fun h4=>gO 6<|dq 22 (fun h5=>gO 6<|cl (ih_lookerFound k y1.a (by first | assumption | omega) (by first | assumption | omega) (by first | assumption | omega) (by first | assumption | omega) (by first | assumption | omega))<|gO 1<|dc 28 (fun h6=>gO 5<|cl (lookerHolds_says k y1.b y1.a (by first | assumption | omega) (by first | assumption | omega) (by first | assumption | omega) (by first | assumption | omega) (by first | assumption | omega) (by first | assumption | omega))<|gO 2<|dc 36 (fun h7=>gO 3<|cl (ih_lookerTested k y1.b (by first | assumption | omega) (by first | assumption | omega) (by first | assumption | omega) (by first | assumption | omega) (by first | assumption | omega))<|gO 6<|en) (fun h7=>gO 10<|en)) (fun h6=>gO 18<|en)) (fun h5=>gO 6<|dq 42 (fun h8=>gO 6<|cl (ih_lookerFound k y1.a (by first | assumption | omega) (by first | assumption | omega) (by first | assumption | omega) (by first | assumption | omega) (by first | assumption | omega))<|gO 1<|dc 48 (fun h9=>gO 3<|cl (ih_lookerFound k y1.b (by first | assumption | omega) (by first | assumption | omega) (by first | assumption | omega) (by first | assumption | omega) (by first | assumption | omega))<|gO 2<|dc 54 (fun h10=>gO 5<|cl (lookerHolds_says k y1.a y1.b (by first | assumption | omega) (by first | assumption | omega) (by first | assumption | omega) (by first | assumption | omega) (by first | assumption | omega) (by first | assumption | omega))<|gO 2<|dc 62 (fun h11=>gO 5<|cl (lookerHolds_says k y1.b y1.a (by first | assumption | omega) (by first | assumption | omega) (by first | assumption | omega) (by first | assumption | omega) (by first | assumption | omega) (by first | assumption | omega))<|gO 6<|en) (fun h11=>gO 12<|en)) (fun h10=>gO 20<|en)) (fun h9=>gO 26<|en)) (fun h8=>gO 6<|dq 70 (fun h12=>gO 6<|cl (ih_lookerFound k y1.b (by first | assumption | omega) (by first | assumption | omega) (by first | assumption | omega) (by first | assumption | omega) (by first | assumption | omega))<|gO 1<|dc 76 (fun h13=>gO 5<|cl (lookerHolds_says k y1.a y1.b (by first | assumption | omega) (by first | assumption | omega) (by first | assumption | omega) (by first | assumption | omega) (by first | assumption | omega) (by first | assumption | omega))<|gO 2<|dc 84 (fun h14=>gO 3<|cl (ih_lookerTested k y1.a (by first | assumption | omega) (by first | assumption | omega) (by first | assumption | omega) (by first | assumption | omega) (by first | assumption | omega))<|gO 6<|en) (fun h14=>gO 10<|en)) (fun h13=>gO 18<|en)) (fun h12=>gO 8<|en))))))
    · intro k at_ ok_l fm h0_at_ h1_at_ hm
      exact sy (e:=eB) (F:=c74) rfl fun sg=>gO 10<|kw 8 (toNat_v (n:=at_) (by first | assumption | omega))<|ia (en:=eNode) (by first | assumption | omega) fun y1 h1=>have kd_y1:=kids fm h1;gO 16<|dq 13 (fun h2=>gO 6<|cl (ih_lookerTested k y1.a (by first | assumption | omega) (by first | assumption | omega) (by first | assumption | omega) (by first | assumption | omega) (by first | assumption | omega))<|gO 5<|en) (fun h2=>gO 7<|dq 19 (fun h3=>gO 8<|cl (ih_lookerTested k y1.a (by first | assumption | omega) (by first | assumption | omega) (by first | assumption | omega) (by first | assumption | omega) (by first | assumption | omega))<|gO 1<|dc 26 (fun h4=>gO 3<|cl (ih_lookerTested k y1.b (by first | assumption | omega) (by first | assumption | omega) (by first | assumption | omega) (by first | assumption | omega) (by first | assumption | omega))<|gO 2<|dc 32 (fun h5=>gO 9<|en) (fun h5=>gO 2<|cl (ih_lookerFound k at_ (by first | assumption | omega) (by first | assumption | omega) (by first | assumption | omega) (by first | assumption | omega) (by first | assumption | omega))<|gO 6<|en)) (fun h4=>gO 8<|cl (ih_lookerFound k at_ (by first | assumption | omega) (by first | assumption | omega) (by first | assumption | omega) (by first | assumption | omega) (by first | assumption | omega))<|gO 6<|en)) (fun h3=>gO 5<|dq 19 (fun h6=>gO 6<|cl (ih_lookerTested k y1.a (by first | assumption | omega) (by first | assumption | omega) (by first | assumption | omega) (by first | assumption | omega) (by first | assumption | omega))<|gO 1<|dc 26 (fun h7=>gO 3<|cl (ih_lookerTested k y1.b (by first | assumption | omega) (by first | assumption | omega) (by first | assumption | omega) (by first | assumption | omega) (by first | assumption | omega))<|gO 2<|dc 32 (fun h8=>gO 9<|en) (fun h8=>gO 2<|cl (ih_lookerFound k at_ (by first | assumption | omega) (by first | assumption | omega) (by first | assumption | omega) (by first | assumption | omega) (by first | assumption | omega))<|gO 6<|en)) (fun h7=>gO 8<|cl (ih_lookerFound k at_ (by first | assumption | omega) (by first | assumption | omega) (by first | assumption | omega) (by first | assumption | omega) (by first | assumption | omega))<|gO 6<|en)) (fun h6=>gO 6<|dq 37 (fun h9=>gO 6<|cl (ih_lookerAlways k y1.a (by first | assumption | omega) (by first | assumption | omega) (by first | assumption | omega) (by first | assumption | omega) (by first | assumption | omega))<|gO 5<|en) (fun h9=>gO 7<|cl (ih_lookerFound k at_ (by first | assumption | omega) (by first | assumption | omega) (by first | assumption | omega) (by first | assumption | omega) (by first | assumption | omega))<|gO 3<|en))))
    · intro k at_ ok_l fm h0_at_ h1_at_ hm
      exact sy (e:=eB) (F:=c141) rfl fun sg=>gO 10<|kw 8 (toNat_v (n:=at_) (by first | assumption | omega))<|ia (en:=eNode) (by first | assumption | omega) fun y1 h1=>have kd_y1:=kids fm h1;gO 11<|dq 13 (fun h2=>gO 6<|cl (ih_lookerFound k y1.a (by first | assumption | omega) (by first | assumption | omega) (by first | assumption | omega) (by first | assumption | omega) (by first | assumption | omega))<|gO 4<|en) (fun h2=>gO 8<|dq 21 (fun h3=>gO 4<|kw 25 (toNat_v (n:=y1.a) (by first | assumption | omega))<|ia (en:=eNode) (by first | assumption | omega) fun y2 h4=>have kd_y2:=kids fm h4;gO 5<|dq 31 (fun h5=>gO 5<|kw 36 (toNat_v (n:=y1.a) (by first | assumption | omega))<|iak eNode h4<|gO 2<|cl (ih_lookerFound k y2.a (by first | assumption | omega) (by first | assumption | omega) (by first | assumption | omega) (by first | assumption | omega) (by first | assumption | omega))<|gO 2<|dc 42 (fun h6=>gO 5<|cl (lookerHolds_says k y1.b y1.a (by first | assumption | omega) (by first | assumption | omega) (by first | assumption | omega) (by first | assumption | omega) (by first | assumption | omega) (by first | assumption | omega))<|gO 2<|dc 50 (fun h7=>gO 3<|cl (ih_lookerTested k y1.b (by first | assumption | omega) (by first | assumption | omega) (by first | assumption | omega) (by first | assumption | omega) (by first | assumption | omega))<|gO 4<|en) (fun h7=>gO 8<|en)) (fun h6=>gO 16<|en)) (fun h5=>gO 27<|en)) (fun h3=>gO 37<|en))
theorem lookerFound_says (k : Sp.Looker) (at_ : Int) (ok_l : okL k.l) (fm : formulaCheck k.l = 0) (h0_at_ : 0 ≤ at_) (h1_at_ : at_ < k.l.length) : SaysT TX 83 [eLooker k,eI at_] (eB (lookerFound k at_)):=(lookerFound_grp (3 * at_.toNat + 1)).1 k at_ ok_l fm h0_at_ h1_at_ (Nat.lt_succ_self _)
theorem lookerTested_says (k : Sp.Looker) (at_ : Int) (ok_l : okL k.l) (fm : formulaCheck k.l = 0) (h0_at_ : 0 ≤ at_) (h1_at_ : at_ < k.l.length) : SaysT TX 74 [eLooker k,eI at_] (eB (lookerTested k at_)):=(lookerFound_grp (3 * at_.toNat + 1 + 1)).2.1 k at_ ok_l fm h0_at_ h1_at_ (Nat.lt_succ_self _)
theorem lookerAlways_says (k : Sp.Looker) (at_ : Int) (ok_l : okL k.l) (fm : formulaCheck k.l = 0) (h0_at_ : 0 ≤ at_) (h1_at_ : at_ < k.l.length) : SaysT TX 141 [eLooker k,eI at_] (eB (lookerAlways k at_)):=(lookerFound_grp (3 * at_.toNat + 2 + 1)).2.2 k at_ ok_l fm h0_at_ h1_at_ (Nat.lt_succ_self _)

end Go.Vm

/-
  What is kept while constableref09.Formula looks at nodes.
-/
namespace Go.Vm
open Go Go.Sp

theorem refIn9_ok {n lo hi : Int} (h : refIn9 n lo hi = true) : lo ≤ n ∧ n ≤ hi := by
  unfold refIn9 at h
  cases c : decide (n ≥ lo) with
  | false => rw [c] at h; cases h
  | true => rw [c, cond_true] at h; exact ⟨of_decide_eq_true c, of_decide_eq_true h⟩
theorem iv_set {L : List Int} (h : ∀ (j : Nat) (y : Int), L[j]? = some y → 0 ≤ y ∧ y ≤ (j : Int)) {i : Nat} {z : Int} (h0 : 0 ≤ z) (h1 : z ≤ (i : Int)) : ∀ (j : Nat) (y : Int), (L.set i z)[j]? = some y → 0 ≤ y ∧ y ≤ (j : Int) := by
  intro j y hy
  rw [List.getElem?_set] at hy
  split at hy
  · rename_i e
    subst e
    split at hy
    · cases hy; exact ⟨h0, h1⟩
    · cases hy
  · exact h j y hy
theorem iv_set12 {L : List Int} (h : ∀ (j : Nat) (y : Int), L[j]? = some y → 0 ≤ y ∧ y ≤ 12) {i : Nat} {z : Int} (h0 : 0 ≤ z) (h1 : z ≤ 12) : ∀ (j : Nat) (y : Int), (L.set i z)[j]? = some y → 0 ≤ y ∧ y ≤ 12 := by
  intro j y hy
  rw [List.getElem?_set] at hy
  split at hy
  · split at hy
    · cases hy; exact ⟨h0, h1⟩
    · cases hy
  · exact h j y hy
theorem iv_zero (n : Nat) : ∀ (j : Nat) (y : Int), (List.replicate n (0 : Int))[j]? = some y → 0 ≤ y ∧ y ≤ (j : Int) := by
  intro j y hy
  rw [List.getElem?_replicate] at hy
  split at hy
  · cases hy; omega
  · cases hy
theorem iv_zero12 (n : Nat) : ∀ (j : Nat) (y : Int), (List.replicate n (0 : Int))[j]? = some y → 0 ≤ y ∧ y ≤ 12 := by
  intro j y hy
  rw [List.getElem?_replicate] at hy
  split at hy
  · cases hy; omega
  · cases hy
theorem node_len {l : List Sp.Node} (h : okL l) {i : Nat} {x : Sp.Node} (hx : l[i]? = some x) : x.atom.name.length ≤ 140737488351232 ∧ x.atom.args.length ≤ 140737488351232 := ⟨(okL.get h hx).atom.name, (okL.get h hx).atom.args⟩
end Go.Vm

/- What functions of the program answer. Printed by spec2.py. -/
namespace Go.Vm
open Go Go.Sp
set_option maxRecDepth 100000
set_option maxHeartbeats 4000000

def safeVars (l : (List Sp.Node)) (i : Int) : (List Txt):=(bif (safeAt l i) then (lookerVars (⟨l⟩ : Sp.Looker) i) else ([] : (List Txt)))
theorem safeVars_says (l : (List Sp.Node)) (i : Int) (ok_l : okL l) : SaysT TX 24 [(eL 5 eNode) l,eI i] ((eL 1 eS) (safeVars l i)) :=
  sy (e:=(eL 1 eS)) (F:=c24) rfl fun sg=>gO 9<|cl (safeAt_says l i (by first | assumption | (have q:=at_ok (by assumption);first | exact q.1 | exact q.2.1 | exact q.2.2)))<|gO 2<|dcn 8 (fun h1=>gO 7<|cl (lookerVars_says (⟨l⟩ : Sp.Looker) i (by first | assumption | (have q:=at_ok (by assumption);first | exact q.1 | exact q.2.1 | exact q.2.2)) (by first | assumption | (have q:=at_ok (by assumption);first | exact q.1 | exact q.2.1 | exact q.2.2)) (by first | assumption | (have q:=at_ok (by assumption);first | exact q.1 | exact q.2.1 | exact q.2.2)) (by first | assumption | (have q:=at_ok (by assumption);first | exact q.1 | exact q.2.1 | exact q.2.2)))<|gO 3<|en) (fun h1=>gO 7<|en)

def safeFound (l : (List Sp.Node)) (i : Int) : Bool:=(bif (safeAt l i) then (lookerFound (⟨l⟩ : Sp.Looker) i) else false)
theorem safeFound_says (l : (List Sp.Node)) (i : Int) (ok_l : okL l) : SaysT TX 25 [(eL 5 eNode) l,eI i] (eB (safeFound l i)) :=
  sy (e:=eB) (F:=c25) rfl fun sg=>gO 8<|cl (safeAt_says l i (by first | assumption | (have q:=at_ok (by assumption);first | exact q.1 | exact q.2.1 | exact q.2.2)))<|gO 1<|dc 8 (fun h1=>gO 3<|cl (lookerFound_says (⟨l⟩ : Sp.Looker) i (by first | assumption | (have q:=at_ok (by assumption);first | exact q.1 | exact q.2.1 | exact q.2.2)) (by first | assumption | (have q:=at_ok (by assumption);first | exact q.1 | exact q.2.1 | exact q.2.2)) (by first | assumption | (have q:=at_ok (by assumption);first | exact q.1 | exact q.2.1 | exact q.2.2)) (by first | assumption | (have q:=at_ok (by assumption);first | exact q.1 | exact q.2.1 | exact q.2.2)))<|gO 4<|en) (fun h1=>gO 8<|en)

def safeTested (l : (List Sp.Node)) (i : Int) : Bool:=(bif (safeAt l i) then (lookerTested (⟨l⟩ : Sp.Looker) i) else false)
theorem safeTested_says (l : (List Sp.Node)) (i : Int) (ok_l : okL l) : SaysT TX 26 [(eL 5 eNode) l,eI i] (eB (safeTested l i)) :=
  sy (e:=eB) (F:=c26) rfl fun sg=>gO 8<|cl (safeAt_says l i (by first | assumption | (have q:=at_ok (by assumption);first | exact q.1 | exact q.2.1 | exact q.2.2)))<|gO 1<|dc 8 (fun h1=>gO 3<|cl (lookerTested_says (⟨l⟩ : Sp.Looker) i (by first | assumption | (have q:=at_ok (by assumption);first | exact q.1 | exact q.2.1 | exact q.2.2)) (by first | assumption | (have q:=at_ok (by assumption);first | exact q.1 | exact q.2.1 | exact q.2.2)) (by first | assumption | (have q:=at_ok (by assumption);first | exact q.1 | exact q.2.1 | exact q.2.2)) (by first | assumption | (have q:=at_ok (by assumption);first | exact q.1 | exact q.2.1 | exact q.2.2)))<|gO 4<|en) (fun h1=>gO 8<|en)

end Go.Vm

/- What functions of the program answer. Printed by spec2.py. -/
namespace Go.Vm
open Go Go.Sp
set_option maxRecDepth 100000
set_option maxHeartbeats 4000000

def refFormula_l1 (l : (List Sp.Node)) : Nat → List Sp.Node → (List Int) × (List Int) → Bool
  | i1,[],⟨a1_0,a1_1⟩=>(onS a1_0[((l.length : Int) - 1).toNat]? (fun y11=>(y11 == 0)) default)
  | i1,x1 :: xs2,⟨a1_0,a1_1⟩=>(onS a1_0[i1]? (fun y3=>(onS a1_1[i1]? (fun y4=>(bif (x1.kind == 1) then (bif (refAtom x1.atom) then (bif (x1.a == 0) then (bif (x1.b == 0) then refFormula_l1 l (i1 + 1) xs2 ((a1_0.set i1 (i1 : Int)),(a1_1.set i1 1)) else false) else false) else false) else (bif (refOne x1.kind) then (bif (((x1.atom.name.length : Int) + (x1.atom.args.length : Int)) == 0) then (bif ((i1 : Int) == 0) then false else (bif (x1.a == ((i1 - 1 : Nat) : Int)) then (bif (x1.b == 0) then (onS (a1_0.set i1 (i1 : Int))[x1.a.toNat]? (fun y5=>(onS (a1_1.set i1 1)[x1.a.toNat]? (fun y6=>(bif (decide ((y6 + 1) > 12)) then false else refFormula_l1 l (i1 + 1) xs2 (((a1_0.set i1 (i1 : Int)).set i1 y5),((a1_1.set i1 1).set i1 (y6 + 1))))) default)) default) else false) else false)) else false) else (bif (refTwo x1.kind) then (bif (((x1.atom.name.length : Int) + (x1.atom.args.length : Int)) == 0) then (bif ((i1 : Int) == 0) then false else (bif (x1.b == ((i1 - 1 : Nat) : Int)) then (onS (a1_0.set i1 (i1 : Int))[x1.b.toNat]? (fun y7=>(bif (y7 == 0) then false else (bif (x1.a == (y7 - 1)) then (onS (a1_0.set i1 (i1 : Int))[x1.a.toNat]? (fun y8=>(onS (a1_1.set i1 1)[x1.a.toNat]? (fun y9=>(onS (a1_1.set i1 1)[x1.b.toNat]? (fun y10=>(bif (decide (((bif decide (y10 > y9) then y10 else y9) + 1) > 12)) then false else refFormula_l1 l (i1 + 1) xs2 (((a1_0.set i1 (i1 : Int)).set i1 y8),((a1_1.set i1 1).set i1 ((bif decide (y10 > y9) then y10 else y9) + 1))))) default)) default)) default) else false))) default) else false)) else false) else false)))) default)) default)
def refFormula (l : (List Sp.Node)) : Bool:=(bif (refIn9 (l.length : Int) 1 40) then refFormula_l1 l 0 l ((List.replicate l.length 0),(List.replicate l.length 0)) else false)
theorem refFormula_says (l : (List Sp.Node)) (ok_l : okL l) : SaysT TX 23 [(eL 5 eNode) l] (eB (refFormula l)) :=
  sy (e:=eB) (F:=c23) rfl fun sg=>gO 9<|kw 9 (len_map eNode l)<|cl (refIn9_says (l.length : Int) 1 40)<|gO 2<|dcn 11 (fun h1=>gO 6<|kw 13 (len_map eNode l)<|gO 2<|kw 16 (len_map eNode l)<|mkm (en:=eI) (zl:=1) (n:=l.length) (i:=0) (ag:=false) (z:=[(.int .i64 0)]) 0 (by kernel_rfl) (by kernel_rfl) (by (have q:=refIn9_ok (by assumption);unfold lim;omega))<|mkm (en:=eI) (zl:=1) (n:=l.length) (i:=1) (ag:=false) (z:=[(.int .i64 0)]) 0 (by kernel_rfl) (by kernel_rfl) (by (have q:=refIn9_ok (by assumption);unfold lim;omega))<|gO 9<|rgI (β:=Sp.Node) (A:=(List Int) × (List Int)) (fun i1 ⟨a1_0,a1_1⟩=>a1_0.length = l.length ∧ a1_1.length = l.length ∧ (∀ (j : Nat) (y : Int),a1_0[j]? = some y → 0 ≤ y ∧ y ≤ (j : Int)) ∧ (∀ (j : Nat) (y : Int),a1_1[j]? = some y → 0 ≤ y ∧ y ≤ 12)) (fun i1 (acc : (List Int) × (List Int))=>{ vals:=[(.sl .no 5 (l.map eNode)),(.bs 0 0 1 0 l.length),(.bs 0 1 1 0 l.length),(.int .i64 (i1 : Int))],fr:=[.arr 1 1 (acc.1.map eI),.arr 1 1 (acc.2.map eI)],sg:=sg,wd:=0 }) (L:=l) (acc0:=((List.replicate l.length 0),(List.replicate l.length 0))) (fn:=refFormula_l1 l) (by exact ⟨by simp,by simp,iv_zero _,iv_zero12 _⟩) (fun i1 x1 xs2 ⟨a1_0,a1_1⟩ hd1 hi1 ih1=>have hi1 : a1_0.length = l.length ∧ a1_1.length = l.length ∧ (∀ (j : Nat) (y : Int),a1_0[j]? = some y → 0 ≤ y ∧ y ≤ (j : Int)) ∧ (∀ (j : Nat) (y : Int),a1_1[j]? = some y → 0 ≤ y ∧ y ≤ 12):=hi1;have hlt1:=drop_lt hd1;have hx1:=drop_get hd1;have ok_x1:=okL.get ok_l hx1;have b_x1:=okL.b ok_l hx1;have nl_x1:=node_len ok_l hx1;gO 6<|kw 20 (len_map eNode l)<|gO 2<|dk 21 (lt_true hlt1)<|gO 8<|iak eNode hx1<|gO 14<|kw 35 (len_map eTerm x1.atom.args)<|gO 1<|kw 36 (congrArg (V.int .i64) (wrap_id (n:=(x1.atom.name.length : Int) + (x1.atom.args.length : Int)) (by first | omega | (simp only [Bool.cond_decide];split <;> omega) | (have q:=refIn9_ok (by assumption);omega)) (by first | omega | (simp only [Bool.cond_decide];split <;> omega) | (have q:=refIn9_ok (by assumption);omega))))<|gO 10<|iaz (n:=i1) (len:=l.length) (d:=0) (b:=0) (ver:=1) (z:=1) (es:=a1_0.map eI) (by first | omega | exact ok_x1.atom | (simp only [List.length_set];omega) | (have q:=refIn9_ok (by assumption);omega))<|elx (by first | omega | exact ok_x1.atom | (simp only [List.length_set];omega) | (have q:=refIn9_ok (by assumption);omega)) fun y3 h2=>sta (ag:=false) (sz:=1) (i:=0) (ver:=1) (z:=1) (j:=i1) (o:=0) (v:=(.int .i64 (i1 : Int))) (en:=eI) (L:=a1_0) (y:=y3) (y':=(i1 : Int)) (cs:=[(.int .i64 (i1 : Int))]) h2 (by kernel_rfl) (by kernel_rfl) (by kernel_rfl)<|iaz (n:=i1) (len:=l.length) (d:=0) (b:=1) (ver:=1) (z:=1) (es:=a1_1.map eI) (by first | omega | exact ok_x1.atom | (simp only [List.length_set];omega) | (have q:=refIn9_ok (by assumption);omega))<|elx (by first | omega | exact ok_x1.atom | (simp only [List.length_set];omega) | (have q:=refIn9_ok (by assumption);omega)) fun y4 h3=>sta (ag:=false) (sz:=1) (i:=1) (ver:=1) (z:=1) (j:=i1) (o:=0) (v:=(.int .i64 1)) (en:=eI) (L:=a1_1) (y:=y4) (y':=1) (cs:=[(.int .i64 1)]) h3 (by kernel_rfl) (by kernel_rfl) (by kernel_rfl)<|gO 10<|dq 45 (fun h4=>gO 5<|cl (refAtom_says x1.atom (by first | omega | exact ok_x1.atom | (simp only [List.length_set];omega) | (have q:=refIn9_ok (by assumption);omega)))<|gO 2<|dcn 53 (fun h5=>gO 5<|dqn 58 (fun h6=>gO 5<|dqn 62 (fun h7=>gO 7<|iaz (n:=i1) (len:=l.length) (d:=0) (b:=1) (ver:=1) (z:=1) (es:=(a1_1.set i1 1).map eI) (by first | omega | exact ok_x1.atom | (simp only [List.length_set];omega) | (have q:=refIn9_ok (by assumption);omega))<|lda (ag:=false) (sz:=1) (d:=0) (i:=1) (ver:=1) (z:=1) (j:=i1) (o:=0) (en:=eI) (L:=(a1_1.set i1 1)) (y:=1) (v:=(.int .i64 1)) (get_set h3) (by kernel_rfl)<|gO 8<|kw 23 (congrArg (V.int .i64) (wrap_s hlt1 (by first | omega | exact ok_x1.atom | (simp only [List.length_set];omega) | (have q:=refIn9_ok (by assumption);omega))))<|gO 2<|nx (ih1 ((a1_0.set i1 (i1 : Int)),(a1_1.set i1 1)) (by refine ⟨by (simp only [List.length_set];omega),by (simp only [List.length_set];omega),?_,?_⟩ <;> first | exact iv_set hi1.2.2.1 (by omega) (by omega) | exact iv_set (iv_set hi1.2.2.1 (by omega) (by omega)) (by omega) (by omega) | exact iv_set12 hi1.2.2.2 (by omega) (by omega) | exact iv_set12 (iv_set12 hi1.2.2.2 (by omega) (by omega)) (by first | omega | (simp only [Bool.cond_decide];split <;> omega)) (by first | omega | (simp only [Bool.cond_decide];split <;> omega))))) (fun h7=>gO 13<|en)) (fun h6=>gO 18<|en)) (fun h5=>gO 23<|en)) (fun h4=>gO 5<|cl (refOne_says x1.kind)<|gO 2<|dc 63 (fun h8=>gO 7<|dqn 69 (fun h9=>gO 4<|dq 73 (fun h10=>gO 26<|en) (fun h10=>gO 4<|kw 77 (congrArg (V.int .i64) (wrap_p hlt1 (by first | omega | exact ok_x1.atom | (simp only [List.length_set];omega) | (have q:=refIn9_ok (by assumption);omega)) (by omega)))<|gO 3<|dqn 80 (fun h11=>gO 5<|dqn 84 (fun h12=>gO 10<|kw 91 (toNat_v (n:=x1.a) (by first | omega | exact ok_x1.atom | (simp only [List.length_set];omega) | (have q:=refIn9_ok (by assumption);omega)))<|iaz (n:=x1.a.toNat) (len:=l.length) (d:=0) (b:=0) (ver:=1) (z:=1) (es:=(a1_0.set i1 (i1 : Int)).map eI) (by first | omega | exact ok_x1.atom | (simp only [List.length_set];omega) | (have q:=refIn9_ok (by assumption);omega))<|elx (by first | omega | exact ok_x1.atom | (simp only [List.length_set];omega) | (have q:=refIn9_ok (by assumption);omega)) fun y5 h13=>have f_y5:=iv_set hi1.2.2.1 (by omega) (by omega) _ _ h13;lda (ag:=false) (sz:=1) (d:=0) (i:=0) (ver:=1) (z:=1) (j:=x1.a.toNat) (o:=0) (en:=eI) (L:=(a1_0.set i1 (i1 : Int))) (y:=y5) (v:=(.int .i64 y5)) h13 (by kernel_rfl)<|gO 3<|kw 96 (toNat_v (n:=x1.a) (by first | omega | exact ok_x1.atom | (simp only [List.length_set];omega) | (have q:=refIn9_ok (by assumption);omega)))<|iaz (n:=x1.a.toNat) (len:=l.length) (d:=0) (b:=1) (ver:=1) (z:=1) (es:=(a1_1.set i1 1).map eI) (by first | omega | exact ok_x1.atom | (simp only [List.length_set];omega) | (have q:=refIn9_ok (by assumption);omega))<|elx (by first | omega | exact ok_x1.atom | (simp only [List.length_set];omega) | (have q:=refIn9_ok (by assumption);omega)) fun y6 h14=>have f_y6:=iv_set12 hi1.2.2.2 (by omega) (by omega) _ _ h14;lda (ag:=false) (sz:=1) (d:=0) (i:=1) (ver:=1) (z:=1) (j:=x1.a.toNat) (o:=0) (en:=eI) (L:=(a1_1.set i1 1)) (y:=y6) (v:=(.int .i64 y6)) h14 (by kernel_rfl)<|gO 1<|kw 99 (congrArg (V.int .i64) (wrap_id (n:=y6 + 1) (by first | omega | (simp only [Bool.cond_decide];split <;> omega) | (have q:=refIn9_ok (by assumption);omega)) (by first | omega | (simp only [Bool.cond_decide];split <;> omega) | (have q:=refIn9_ok (by assumption);omega))))<|iaz (n:=i1) (len:=l.length) (d:=0) (b:=0) (ver:=1) (z:=1) (es:=(a1_0.set i1 (i1 : Int)).map eI) (by first | omega | exact ok_x1.atom | (simp only [List.length_set];omega) | (have q:=refIn9_ok (by assumption);omega))<|stm (ag:=false) (sz:=1) (i:=0) (ver:=1) (z:=1) (j:=i1) (o:=0) (v:=(.int .i64 y5)) (en:=eI) (L:=(a1_0.set i1 (i1 : Int))) (y:=(i1 : Int)) (y':=y5) (cs:=[(.int .i64 y5)]) (get_set h2) (by kernel_rfl) (by kernel_rfl) (by kernel_rfl)<|iaz (n:=i1) (len:=l.length) (d:=0) (b:=1) (ver:=1) (z:=1) (es:=(a1_1.set i1 1).map eI) (by first | omega | exact ok_x1.atom | (simp only [List.length_set];omega) | (have q:=refIn9_ok (by assumption);omega))<|stm (ag:=false) (sz:=1) (i:=1) (ver:=1) (z:=1) (j:=i1) (o:=0) (v:=(.int .i64 (y6 + 1))) (en:=eI) (L:=(a1_1.set i1 1)) (y:=1) (y':=(y6 + 1)) (cs:=[(.int .i64 (y6 + 1))]) (get_set h3) (by kernel_rfl) (by kernel_rfl) (by kernel_rfl)<|gO 6<|iaz (n:=i1) (len:=l.length) (d:=0) (b:=1) (ver:=1) (z:=1) (es:=((a1_1.set i1 1).set i1 (y6 + 1)).map eI) (by first | omega | exact ok_x1.atom | (simp only [List.length_set];omega) | (have q:=refIn9_ok (by assumption);omega))<|lda (ag:=false) (sz:=1) (d:=0) (i:=1) (ver:=1) (z:=1) (j:=i1) (o:=0) (en:=eI) (L:=((a1_1.set i1 1).set i1 (y6 + 1))) (y:=(y6 + 1)) (v:=(.int .i64 (y6 + 1))) (get_set (get_set h3)) (by kernel_rfl)<|gO 2<|dp 165 (fun h15=>gO 11<|en) (fun h15=>gO 6<|kw 23 (congrArg (V.int .i64) (wrap_s hlt1 (by first | omega | exact ok_x1.atom | (simp only [List.length_set];omega) | (have q:=refIn9_ok (by assumption);omega))))<|gO 2<|nx (ih1 (((a1_0.set i1 (i1 : Int)).set i1 y5),((a1_1.set i1 1).set i1 (y6 + 1))) (by refine ⟨by (simp only [List.length_set];omega),by (simp only [List.length_set];omega),?_,?_⟩ <;> first | exact iv_set hi1.2.2.1 (by omega) (by omega) | exact iv_set (iv_set hi1.2.2.1 (by omega) (by omega)) (by omega) (by omega) | exact iv_set12 hi1.2.2.2 (by omega) (by omega) | exact iv_set12 (iv_set12 hi1.2.2.2 (by omega) (by omega)) (by first | omega | (simp only [Bool.cond_decide];split <;> omega)) (by first | omega | (simp only [Bool.cond_decide];split <;> omega)))))) (fun h12=>gO 14<|en)) (fun h11=>gO 19<|en))) (fun h9=>gO 30<|en)) (fun h8=>gO 5<|cl (refTwo_says x1.kind)<|gO 2<|dc 102 (fun h16=>gO 7<|dqn 108 (fun h17=>gO 4<|dq 112 (fun h18=>gO 40<|en) (fun h18=>gO 4<|kw 116 (congrArg (V.int .i64) (wrap_p hlt1 (by first | omega | exact ok_x1.atom | (simp only [List.length_set];omega) | (have q:=refIn9_ok (by assumption);omega)) (by omega)))<|gO 3<|dqn 119 (fun h19=>gO 3<|kw 122 (toNat_v (n:=x1.b) (by first | omega | exact ok_x1.atom | (simp only [List.length_set];omega) | (have q:=refIn9_ok (by assumption);omega)))<|iaz (n:=x1.b.toNat) (len:=l.length) (d:=0) (b:=0) (ver:=1) (z:=1) (es:=(a1_0.set i1 (i1 : Int)).map eI) (by first | omega | exact ok_x1.atom | (simp only [List.length_set];omega) | (have q:=refIn9_ok (by assumption);omega))<|elx (by first | omega | exact ok_x1.atom | (simp only [List.length_set];omega) | (have q:=refIn9_ok (by assumption);omega)) fun y7 h20=>have f_y7:=iv_set hi1.2.2.1 (by omega) (by omega) _ _ h20;lda (ag:=false) (sz:=1) (d:=0) (i:=0) (ver:=1) (z:=1) (j:=x1.b.toNat) (o:=0) (en:=eI) (L:=(a1_0.set i1 (i1 : Int))) (y:=y7) (v:=(.int .i64 y7)) h20 (by kernel_rfl)<|gO 3<|dq 127 (fun h21=>gO 25<|en) (fun h21=>gO 5<|kw 132 (toNat_v (n:=x1.b) (by first | omega | exact ok_x1.atom | (simp only [List.length_set];omega) | (have q:=refIn9_ok (by assumption);omega)))<|iaz (n:=x1.b.toNat) (len:=l.length) (d:=0) (b:=0) (ver:=1) (z:=1) (es:=(a1_0.set i1 (i1 : Int)).map eI) (by first | omega | exact ok_x1.atom | (simp only [List.length_set];omega) | (have q:=refIn9_ok (by assumption);omega))<|lda (ag:=false) (sz:=1) (d:=0) (i:=0) (ver:=1) (z:=1) (j:=x1.b.toNat) (o:=0) (en:=eI) (L:=(a1_0.set i1 (i1 : Int))) (y:=y7) (v:=(.int .i64 y7)) h20 (by kernel_rfl)<|gO 1<|kw 135 (congrArg (V.int .i64) (wrap_id (n:=y7 - 1) (by first | omega | (simp only [Bool.cond_decide];split <;> omega) | (have q:=refIn9_ok (by assumption);omega)) (by first | omega | (simp only [Bool.cond_decide];split <;> omega) | (have q:=refIn9_ok (by assumption);omega))))<|gO 3<|dqn 137 (fun h22=>gO 10<|kw 144 (toNat_v (n:=x1.a) (by first | omega | exact ok_x1.atom | (simp only [List.length_set];omega) | (have q:=refIn9_ok (by assumption);omega)))<|iaz (n:=x1.a.toNat) (len:=l.length) (d:=0) (b:=0) (ver:=1) (z:=1) (es:=(a1_0.set i1 (i1 : Int)).map eI) (by first | omega | exact ok_x1.atom | (simp only [List.length_set];omega) | (have q:=refIn9_ok (by assumption);omega))<|elx (by first | omega | exact ok_x1.atom | (simp only [List.length_set];omega) | (have q:=refIn9_ok (by assumption);omega)) fun y8 h23=>have f_y8:=iv_set hi1.2.2.1 (by omega) (by omega) _ _ h23;lda (ag:=false) (sz:=1) (d:=0) (i:=0) (ver:=1) (z:=1) (j:=x1.a.toNat) (o:=0) (en:=eI) (L:=(a1_0.set i1 (i1 : Int))) (y:=y8) (v:=(.int .i64 y8)) h23 (by kernel_rfl)<|gO 3<|kw 149 (toNat_v (n:=x1.a) (by first | omega | exact ok_x1.atom | (simp only [List.length_set];omega) | (have q:=refIn9_ok (by assumption);omega)))<|iaz (n:=x1.a.toNat) (len:=l.length) (d:=0) (b:=1) (ver:=1) (z:=1) (es:=(a1_1.set i1 1).map eI) (by first | omega | exact ok_x1.atom | (simp only [List.length_set];omega) | (have q:=refIn9_ok (by assumption);omega))<|elx (by first | omega | exact ok_x1.atom | (simp only [List.length_set];omega) | (have q:=refIn9_ok (by assumption);omega)) fun y9 h24=>have f_y9:=iv_set12 hi1.2.2.2 (by omega) (by omega) _ _ h24;lda (ag:=false) (sz:=1) (d:=0) (i:=1) (ver:=1) (z:=1) (j:=x1.a.toNat) (o:=0) (en:=eI) (L:=(a1_1.set i1 1)) (y:=y9) (v:=(.int .i64 y9)) h24 (by kernel_rfl)<|gO 3<|kw 154 (toNat_v (n:=x1.b) (by first | omega | exact ok_x1.atom | (simp only [List.length_set];omega) | (have q:=refIn9_ok (by assumption);omega)))<|iaz (n:=x1.b.toNat) (len:=l.length) (d:=0) (b:=1) (ver:=1) (z:=1) (es:=(a1_1.set i1 1).map eI) (by first | omega | exact ok_x1.atom | (simp only [List.length_set];omega) | (have q:=refIn9_ok (by assumption);omega))<|elx (by first | omega | exact ok_x1.atom | (simp only [List.length_set];omega) | (have q:=refIn9_ok (by assumption);omega)) fun y10 h25=>have f_y10:=iv_set12 hi1.2.2.2 (by omega) (by omega) _ _ h25;lda (ag:=false) (sz:=1) (d:=0) (i:=1) (ver:=1) (z:=1) (j:=x1.b.toNat) (o:=0) (en:=eI) (L:=(a1_1.set i1 1)) (y:=y10) (v:=(.int .i64 y10)) h25 (by kernel_rfl)<|gO 2<|kw 158 (congrArg (V.int .i64) (wrap_id (n:=(bif decide (y10 > y9) then y10 else y9) + 1) (by first | omega | (simp only [Bool.cond_decide];split <;> omega) | (have q:=refIn9_ok (by assumption);omega)) (by first | omega | (simp only [Bool.cond_decide];split <;> omega) | (have q:=refIn9_ok (by assumption);omega))))<|iaz (n:=i1) (len:=l.length) (d:=0) (b:=0) (ver:=1) (z:=1) (es:=(a1_0.set i1 (i1 : Int)).map eI) (by first | omega | exact ok_x1.atom | (simp only [List.length_set];omega) | (have q:=refIn9_ok (by assumption);omega))<|stm (ag:=false) (sz:=1) (i:=0) (ver:=1) (z:=1) (j:=i1) (o:=0) (v:=(.int .i64 y8)) (en:=eI) (L:=(a1_0.set i1 (i1 : Int))) (y:=(i1 : Int)) (y':=y8) (cs:=[(.int .i64 y8)]) (get_set h2) (by kernel_rfl) (by kernel_rfl) (by kernel_rfl)<|iaz (n:=i1) (len:=l.length) (d:=0) (b:=1) (ver:=1) (z:=1) (es:=(a1_1.set i1 1).map eI) (by first | omega | exact ok_x1.atom | (simp only [List.length_set];omega) | (have q:=refIn9_ok (by assumption);omega))<|stm (ag:=false) (sz:=1) (i:=1) (ver:=1) (z:=1) (j:=i1) (o:=0) (v:=(.int .i64 ((bif decide (y10 > y9) then y10 else y9) + 1))) (en:=eI) (L:=(a1_1.set i1 1)) (y:=1) (y':=((bif decide (y10 > y9) then y10 else y9) + 1)) (cs:=[(.int .i64 ((bif decide (y10 > y9) then y10 else y9) + 1))]) (get_set h3) (by kernel_rfl) (by kernel_rfl) (by kernel_rfl)<|gO 6<|iaz (n:=i1) (len:=l.length) (d:=0) (b:=1) (ver:=1) (z:=1) (es:=((a1_1.set i1 1).set i1 ((bif decide (y10 > y9) then y10 else y9) + 1)).map eI) (by first | omega | exact ok_x1.atom | (simp only [List.length_set];omega) | (have q:=refIn9_ok (by assumption);omega))<|lda (ag:=false) (sz:=1) (d:=0) (i:=1) (ver:=1) (z:=1) (j:=i1) (o:=0) (en:=eI) (L:=((a1_1.set i1 1).set i1 ((bif decide (y10 > y9) then y10 else y9) + 1))) (y:=((bif decide (y10 > y9) then y10 else y9) + 1)) (v:=(.int .i64 ((bif decide (y10 > y9) then y10 else y9) + 1))) (get_set (get_set h3)) (by kernel_rfl)<|gO 2<|dp 165 (fun h26=>gO 11<|en) (fun h26=>gO 6<|kw 23 (congrArg (V.int .i64) (wrap_s hlt1 (by first | omega | exact ok_x1.atom | (simp only [List.length_set];omega) | (have q:=refIn9_ok (by assumption);omega))))<|gO 2<|nx (ih1 (((a1_0.set i1 (i1 : Int)).set i1 y8),((a1_1.set i1 1).set i1 ((bif decide (y10 > y9) then y10 else y9) + 1))) (by refine ⟨by (simp only [List.length_set];omega),by (simp only [List.length_set];omega),?_,?_⟩ <;> first | exact iv_set hi1.2.2.1 (by omega) (by omega) | exact iv_set (iv_set hi1.2.2.1 (by omega) (by omega)) (by omega) (by omega) | exact iv_set12 hi1.2.2.2 (by omega) (by omega) | exact iv_set12 (iv_set12 hi1.2.2.2 (by omega) (by omega)) (by first | omega | (simp only [Bool.cond_decide];split <;> omega)) (by first | omega | (simp only [Bool.cond_decide];split <;> omega)))))) (fun h22=>gO 14<|en))) (fun h19=>gO 33<|en))) (fun h17=>gO 44<|en)) (fun h16=>gO 13<|en)))) (fun i1 ⟨a1_0,a1_1⟩ hd1 hi1=>have hi1 : a1_0.length = l.length ∧ a1_1.length = l.length ∧ (∀ (j : Nat) (y : Int),a1_0[j]? = some y → 0 ≤ y ∧ y ≤ (j : Int)) ∧ (∀ (j : Nat) (y : Int),a1_1[j]? = some y → 0 ≤ y ∧ y ≤ 12):=hi1;have hge1:=drop_ge hd1;gO 6<|kw 20 (len_map eNode l)<|gO 2<|dk 21 (lt_false hge1)<|gO 10<|kw 168 (len_map eNode l)<|gO 1<|kw 169 (congrArg (V.int .i64) (wrap_id (n:=(l.length : Int) - 1) (by first | omega | (simp only [Bool.cond_decide];split <;> omega) | (have q:=refIn9_ok (by assumption);omega)) (by first | omega | (simp only [Bool.cond_decide];split <;> omega) | (have q:=refIn9_ok (by assumption);omega))))<|kw 169 (toNat_v (n:=((l.length : Int) - 1)) (by first | omega | exact ok_x1.atom | (simp only [List.length_set];omega) | (have q:=refIn9_ok (by assumption);omega)))<|iaz (n:=((l.length : Int) - 1).toNat) (len:=l.length) (d:=0) (b:=0) (ver:=1) (z:=1) (es:=a1_0.map eI) (by first | omega | exact ok_x1.atom | (simp only [List.length_set];omega) | (have q:=refIn9_ok (by assumption);omega))<|elx (by first | omega | exact ok_x1.atom | (simp only [List.length_set];omega) | (have q:=refIn9_ok (by assumption);omega)) fun y11 h27=>lda (ag:=false) (sz:=1) (d:=0) (i:=0) (ver:=1) (z:=1) (j:=((l.length : Int) - 1).toNat) (o:=0) (en:=eI) (L:=a1_0) (y:=y11) (v:=(.int .i64 y11)) h27 (by kernel_rfl)<|gO 4<|en)) (fun h1=>gO 7<|en)

end Go.Vm

/- What functions of the program answer. Printed by spec2.py. -/
namespace Go.Vm
open Go Go.Sp
set_option maxRecDepth 100000
set_option maxHeartbeats 4000000

def keepTwinNodes_l1 (l : (List Sp.Node)) : Nat → List Sp.Node → (List Sp.Node) → (List Sp.Node)
  | i1,[],a1_0=>a1_0
  | i1,x1 :: xs2,a1_0=>keepTwinNodes_l1 l (i1 + 1) xs2 (a1_0 ++ [(⟨x1.kind,((keepTwinAtom x1.atom)),x1.a,x1.b⟩ : Sp.Node)])
def keepTwinNodes (l : (List Sp.Node)) : (List Sp.Node):=keepTwinNodes_l1 l 0 l ([] : List Sp.Node)
theorem keepTwinNodes_in (l : (List Sp.Node)) (h1 : l.length ≤ 1000000) (h2 : ∀ x ∈ l,x.atom.args.length ≤ 1000000) {f0 : Fr} {sg : List Fr} : TX.call 32 [(eL 5 eNode) l] (f0 :: sg) = some ((fun (r : (List Sp.Node))=>((V.sl (.at 0 (f0.length + 1) r.length) 5 (r.map eNode),(f0 ++ [.tok 0,.tok r.length]) :: sg,1) : V × List Fr × Nat)) (keepTwinNodes l)) :=
  sx (e:=fun (r : (List Sp.Node))=>(V.sl (.at 0 (f0.length + 1) r.length) 5 (r.map eNode),(f0 ++ [.tok 0,.tok r.length]) :: sg,1)) (F:=c32) rfl<|gO 14<|rgI (β:=Sp.Node) (A:=(List Sp.Node)) (fun i1 a1_0=>a1_0.length ≤ i1) (fun i1 a1_0=>{ vals:=[(.sl .no 5 (l.map eNode)),(.sl (.at 0 1 a1_0.length) 5 (a1_0.map eNode)),(.int .i64 (i1 : Int))],fr:=[.tok 0,.tok a1_0.length],sg:=(f0 :: sg),wd:=0 }) (L:=l) (acc0:=([] : List Sp.Node)) (fn:=keepTwinNodes_l1 l) (by simp) (fun i1 x1 xs2 a1_0 hd1 hi1 ih1=>have hi1 : a1_0.length ≤ i1:=hi1;have hlt1:=drop_lt hd1;have hx1:=drop_get hd1;gO 6<|kw 8 (len_map eNode l)<|gO 2<|dk 9 (lt_true hlt1)<|gO 8<|iak eNode hx1<|gO 8<|cl (keepTwinAtom_says x1.atom (by (first | assumption | omega | (simp only [List.length_cons,List.length_nil,List.length_append,List.length_map];omega) | grind)))<|gO 7<|ap (en:=eNode) (L:=a1_0) (M:=[(⟨x1.kind,((keepTwinAtom x1.atom)),x1.a,x1.b⟩ : Sp.Node)]) (by simp only [List.length_append,List.length_cons,List.length_nil];unfold lim;omega) (fun _ _=>rfl)<|gO 6<|kw 11 (congrArg (V.int .i64) (wrap_s hlt1 (by (first | assumption | omega | (simp only [List.length_cons,List.length_nil,List.length_append,List.length_map];omega) | grind))))<|gO 2<|nx (ih1 (a1_0 ++ [(⟨x1.kind,((keepTwinAtom x1.atom)),x1.a,x1.b⟩ : Sp.Node)]) (by first | omega | (simp only [List.length_append,List.length_cons,List.length_nil];omega)))) (fun i1 a1_0 hd1 hi1=>have hi1 : a1_0.length ≤ i1:=hi1;have hge1:=drop_ge hd1;gO 6<|kw 8 (len_map eNode l)<|gO 2<|dk 9 (lt_false hge1)<|gO 11<|en)

end Go.Vm

/-
  Names, values, terms, atoms: the page's and the program's are the same.
-/
namespace Go.Vm
open Go Go.Sp

theorem refInner_eq (c : UInt8) : refInner c = (valSmall c || (valLarge c || (valDigit c || ((c.toNat : Int) == 95)))) := by
  unfold refInner
  have e1 : refLower c = valSmall c := rfl
  have e2 : refUpper c = valLarge c := rfl
  have e3 : refDigit c = valDigit c := rfl
  rw [e1, e2, e3]
  cases valSmall c <;> cases valLarge c <;> cases valDigit c <;> rfl
theorem dec_and {p q : Prop} [Decidable p] [Decidable q] : (bif decide p then decide q else false) = decide (p ∧ q) := by
  by_cases h : p <;> simp [h]
theorem substLetter_eq (c : UInt8) : substLetter c = refInner c := by
  rw [refInner_eq]
  unfold substLetter valSmall valLarge valDigit
  by_cases h1 : (c.toNat : Int) ≥ 97 <;> by_cases h2 : (c.toNat : Int) ≤ 122 <;> by_cases h3 : (c.toNat : Int) ≥ 65 <;> by_cases h4 : (c.toNat : Int) ≤ 90 <;> by_cases h5 : (c.toNat : Int) ≥ 48 <;> by_cases h6 : (c.toNat : Int) ≤ 57 <;>
    simp only [h1, h2, h3, h4, h5, h6, decide_true, decide_false, cond_true, cond_false, Bool.true_or, Bool.false_or]
theorem refWord_l1_eq (s : Txt) (g : Bool) (y : UInt8) : ∀ (xs : List UInt8) (i : Nat), refWord_l1 s g y i xs () = xs.all refInner
  | [], _ => rfl
  | x :: xs, i => by
    rw [refWord_l1, refWord_l1_eq s g y xs, List.all_cons]
    cases refInner x <;> rfl
theorem refWord_l2_eq (s : Txt) (g : Bool) (y : UInt8) : ∀ (xs : List UInt8) (i : Nat), refWord_l2 s g y i xs () = xs.all refInner
  | [], _ => rfl
  | x :: xs, i => by
    rw [refWord_l2, refWord_l2_eq s g y xs, List.all_cons]
    cases refInner x <;> rfl
theorem valSymbol_l1_eq (b : Txt) (y : UInt8) : ∀ (xs : List UInt8) (i : Nat), valSymbol_l1 b y i xs () = xs.all refInner
  | [], _ => rfl
  | x :: xs, i => by
    rw [valSymbol_l1, valSymbol_l1_eq b y xs, List.all_cons, refInner_eq]
    cases valSmall x <;> cases valLarge x <;> cases valDigit x <;> cases ((x.toNat : Int) == 95) <;> rfl
theorem substVar_l1_eq (b : Txt) (y : UInt8) : ∀ (xs : List UInt8) (i : Nat), substVar_l1 b y i xs () = xs.all refInner
  | [], _ => rfl
  | x :: xs, i => by
    rw [substVar_l1, substVar_l1_eq b y xs, List.all_cons, substLetter_eq]
    cases refInner x <;> rfl
theorem refIn_eq (n lo hi : Int) : refIn n lo hi = (decide (lo ≤ n) && decide (n ≤ hi)) := by
  unfold refIn
  by_cases h : n ≥ lo
  · have h' : lo ≤ n := h
    simp [h, h']
  · have h' : ¬ lo ≤ n := h
    simp [h']
theorem refWord_small (s : Txt) : refWord s false = valSymbol s := by
  unfold refWord valSymbol
  rw [refIn_eq]
  by_cases h1 : (s.length : Int) < 1
  · have : ¬ (1 : Int) ≤ s.length := by omega
    simp [h1, this]
  · have h1' : (1 : Int) ≤ s.length := by omega
    by_cases h2 : (s.length : Int) > 24
    · have : ¬ (s.length : Int) ≤ 24 := by omega
      simp [h1, h2, this]
    · have h2' : (s.length : Int) ≤ 24 := by omega
      simp only [h1, h1', h2, h2', decide_true, decide_false, cond_true, cond_false, Bool.and_self]
      cases s with
      | nil => simp at h1'
      | cons c s =>
        simp only [List.getElem?_cons_zero, onS]
        rw [refWord_l2_eq, valSymbol_l1_eq]
        have e1 : refLower c = valSmall c := rfl
        have e2 : refUpper c = valLarge c := rfl
        rw [e1, e2]
        have hex : valSmall c = true → valLarge c = false := by
          unfold valSmall valLarge
          rw [dec_and, dec_and]
          intro h
          have := of_decide_eq_true h
          exact decide_eq_false (by omega)
        cases h3 : valSmall c with
        | true => rw [hex h3]; rfl
        | false => cases valLarge c <;> rfl
theorem refWord_large (s : Txt) : refWord s true = substVar s := by
  unfold refWord substVar
  rw [refIn_eq]
  by_cases h1 : (s.length : Int) < 1
  · have : ¬ (1 : Int) ≤ s.length := by omega
    simp [h1, this]
  · have h1' : (1 : Int) ≤ s.length := by omega
    by_cases h2 : (s.length : Int) > 24
    · have : ¬ (s.length : Int) ≤ 24 := by omega
      simp [h1, h2, this]
    · have h2' : (s.length : Int) ≤ 24 := by omega
      simp only [h1, h1', h2, h2', decide_true, decide_false, cond_true, cond_false, Bool.and_self]
      cases s with
      | nil => simp at h1'
      | cons c s =>
        simp only [List.getElem?_cons_zero, onS]
        rw [refWord_l1_eq, substVar_l1_eq]
        unfold refUpper
        by_cases h3 : (c.toNat : Int) < 65
        · have : ¬ (c.toNat : Int) ≥ 65 := by omega
          simp [h3, this]
        · have h3' : (c.toNat : Int) ≥ 65 := by omega
          by_cases h4 : (c.toNat : Int) > 90
          · have : ¬ (c.toNat : Int) ≤ 90 := by omega
            simp [h3, h3', h4, this]
          · have h4' : (c.toNat : Int) ≤ 90 := by omega
            simp [h3, h3', h4, h4']
theorem refName_l1_eq (s : Txt) : ∀ (xs : List Txt) (i : Nat), refName_l1 s i xs () = xs.all (fun x => !(x == s))
  | [], _ => rfl
  | x :: xs, i => by
    rw [refName_l1, refName_l1_eq s xs, List.all_cons]
    cases x == s <;> rfl
theorem indexTxt_l1_eq (l : List Txt) (v : Txt) : ∀ (xs : List Txt) (i : Nat), decide (indexTxt_l1 l v i xs () ≥ 0) = xs.any (fun x => v == x)
  | [], _ => rfl
  | x :: xs, i => by
    rw [indexTxt_l1, List.any_cons]
    cases v == x with
    | true => simp
    | false => simp only [cond_false, Bool.false_or]; exact indexTxt_l1_eq l v xs (i + 1)
theorem containsTxt_eq (l : List Txt) (v : Txt) : containsTxt l v = l.any (fun x => v == x) := indexTxt_l1_eq l v l 0
theorem indexTerm_l1_eq (l : List Sp.Term) (p : Sp.Term → Bool) : ∀ (xs : List Sp.Term) (i : Nat), decide (indexTerm_l1 l p i xs () ≥ 0) = xs.any p
  | [], _ => rfl
  | x :: xs, i => by
    rw [indexTerm_l1, List.any_cons]
    cases p x with
    | true => simp
    | false => simp only [cond_false, Bool.false_or]; exact indexTerm_l1_eq l p xs (i + 1)
theorem containsTerm_eq (l : List Sp.Term) (p : Sp.Term → Bool) : containsTerm l p = l.any p := indexTerm_l1_eq l p l 0
theorem indexTxtF_l1_eq (l : List Txt) (p : Txt → Bool) : ∀ (xs : List Txt) (i : Nat), decide (indexTxtF_l1 l p i xs () ≥ 0) = xs.any p
  | [], _ => rfl
  | x :: xs, i => by
    rw [indexTxtF_l1, List.any_cons]
    cases p x with
    | true => simp
    | false => simp only [cond_false, Bool.false_or]; exact indexTxtF_l1_eq l p xs (i + 1)
theorem containsTxtF_eq (l : List Txt) (p : Txt → Bool) : containsTxtF l p = l.any p := indexTxtF_l1_eq l p l 0
theorem refName_eq (s : Txt) : refName s = factName s := by
  unfold refName factName valCheck factWord
  rw [refName_l1_eq, containsTxt_eq, refWord_small]
  simp only [show ((2 : Int) == 1) = false from rfl, show ((2 : Int) == 2) = true from rfl, show ((0 : Int) == 0) = true from rfl, cond_true, cond_false]
  cases valSymbol s with
  | false => rfl
  | true =>
    simp only [cond_true, show ((0 : Int) == 0) = true from rfl]
    show (refWords.all fun x => !(x == s)) = !(refWords.any fun x => s == x)
    rw [List.not_any_eq_all_not]
    congr 1
    funext x
    rw [Bool.eq_iff_iff]
    simp only [Bool.not_eq_true', beq_eq_false_iff_ne]
    exact ⟨fun h e => h e.symm, fun h e => h e.symm⟩
theorem u8_in (x : UInt8) : refIn (IntKind.i64.wrap (x.toNat : Int)) 32 126 = !(decide ((x.toNat : Int) < 32) || decide ((x.toNat : Int) > 126)) := by
  have hx : x.toNat < 256 := x.toNat_lt
  rw [wrap_id (by omega) (by omega), refIn_eq]
  by_cases h1 : (x.toNat : Int) < 32
  · have : ¬ (32 : Int) ≤ x.toNat := by omega
    simp [h1, this]
  · have : (32 : Int) ≤ x.toNat := by omega
    by_cases h2 : (x.toNat : Int) > 126
    · have : ¬ (x.toNat : Int) ≤ 126 := by omega
      simp [h2, this]
    · have h3 : (x.toNat : Int) ≤ 126 := by omega
      simp [h1, h2, this, h3]
theorem refValue_l1_eq (v : Sp.Val) : ∀ (xs : List UInt8) (i : Nat), refValue_l1 v i xs () = xs.all fun x => !(decide ((x.toNat : Int) < 32) || decide ((x.toNat : Int) > 126))
  | [], _ => rfl
  | x :: xs, i => by
    rw [refValue_l1, refValue_l1_eq v xs, List.all_cons, u8_in]
    cases (!(decide ((x.toNat : Int) < 32) || decide ((x.toNat : Int) > 126))) <;> rfl
theorem valPlain_l1_eq (b : Txt) : ∀ (xs : List UInt8) (i : Nat), valPlain_l1 b i xs () = ((xs.all fun x => !(decide ((x.toNat : Int) < 32) || decide ((x.toNat : Int) > 126))) && decide ((b.length : Int) ≤ 60))
  | [], _ => rfl
  | x :: xs, i => by
    rw [valPlain_l1, valPlain_l1_eq b xs, List.all_cons]
    cases decide ((x.toNat : Int) < 32) <;> cases decide ((x.toNat : Int) > 126) <;> rfl
theorem refValue_eq (v : Sp.Val) : refValue v = (valCheck v == 0) := by
  unfold refValue valCheck valPlain
  rw [refValue_l1_eq, valPlain_l1_eq, refWord_small, refIn_eq]
  cases v.kind == 1 with
  | true =>
    simp only [cond_true]
    by_cases h1 : v.n ≥ -4611686018427387904
    · have h1' : (-4611686018427387904 : Int) ≤ v.n := h1
      by_cases h2 : v.n ≤ 4611686018427387904
      · have : ((v.s.length : Int) == 0) = (v.s == []) := by
          cases v.s with
          | nil => rfl
          | cons a s => simp; omega
        simp only [h1, h1', h2, decide_true, cond_true, Bool.and_self, this]
        cases v.s == [] <;> rfl
      · simp [h1, h1', h2]
    · have h1' : ¬ (-4611686018427387904 : Int) ≤ v.n := h1
      simp [h1']
  | false =>
  simp only [cond_false]
  cases v.kind == 2 with
  | true => cases v.n == 0 <;> cases valSymbol v.s <;> rfl
  | false =>
  simp only [cond_false]
  cases v.kind == 3 with
  | false => rfl
  | true =>
    cases v.n == 0 with
    | false => rfl
    | true =>
      simp only [cond_true]
      by_cases h : (v.s.length : Int) > 60
      · have : ¬ (v.s.length : Int) ≤ 60 := by omega
        simp [h, this]
      · have h' : (v.s.length : Int) ≤ 60 := by omega
        simp only [h, h', decide_true, decide_false, cond_false, Bool.and_true]
        cases (v.s.all fun x => !(decide ((x.toNat : Int) < 32) || decide ((x.toNat : Int) > 126))) <;> rfl
theorem refTerm_eq (t : Sp.Term) : refTerm t = matchTerm t := by
  unfold refTerm matchTerm
  rw [refWord_large, refValue_eq]
  cases h : t.var with
  | nil => rfl
  | cons c s =>
    have e1 : decide (((c :: s).length : Int) > 0) = true := decide_eq_true (by simp)
    have e2 : ((c :: s : Txt) == []) = false := rfl
    rw [e1, e2]; rfl
theorem refAtom_l1_eq (a : Sp.Atom) : ∀ (xs : List Sp.Term) (i : Nat), refAtom_l1 a i xs () = xs.all matchTerm
  | [], _ => rfl
  | x :: xs, i => by
    rw [refAtom_l1, refAtom_l1_eq a xs, List.all_cons, refTerm_eq]
    cases matchTerm x <;> rfl
theorem refAtom_eq (a : Sp.Atom) : refAtom a = (matchCheck a == 0) := by
  unfold refAtom matchCheck
  rw [refName_eq, refAtom_l1_eq, containsTerm_eq]
  cases factName a.name with
  | false => rfl
  | true =>
  simp only [cond_true]
  cases decide ((a.args.length : Int) > 5) with
  | true => rfl
  | false =>
    simp only [cond_false]
    have : (a.args.any fun x => matchCheck1 x) = !(a.args.all matchTerm) := by
      rw [List.not_all_eq_any_not]; rfl
    rw [this]
    cases a.args.all matchTerm <;> rfl
end Go.Vm

/-
  What the page calls a formula is right for the program.
-/
namespace Go.Vm
open Go Go.Sp

theorem take_set1 {L : List Int} {i : Nat} {z : Int} (h : i < L.length) : (L.set i z).take (i + 1) = L.take i ++ [z] := by
  rw [List.take_succ_eq_append_getElem (by simpa using h), List.getElem_set_self]
  congr 1
  apply List.ext_getElem?
  intro j
  rw [List.getElem?_take, List.getElem?_take]
  split
  · rw [List.getElem?_set_ne (by omega)]
  · rfl
theorem set_two {L : List Int} {i : Nat} {y z : Int} : (L.set i y).set i z = L.set i z := by simp
theorem bare_empty {a : Sp.Atom} (h : (((a.name.length : Int) + (a.args.length : Int)) == 0) = true) : formulaEmpty a = true := by
  have h : (a.name.length : Int) + (a.args.length : Int) = 0 := by simpa using h
  have h1 : a.name.length = 0 := by omega
  have h2 : a.args.length = 0 := by omega
  unfold formulaEmpty
  rw [List.eq_nil_of_length_eq_zero h1, h2]; rfl
theorem refOne_s {k : Int} (h : refOne k = true) : k = 2 ∨ k = 5 ∨ k = 6 ∨ k = 7 := by
  unfold refOne at h
  cases c2 : (k == 2) with
  | true => have : k = 2 := by simpa using c2
            omega
  | false =>
  cases c5 : (k == 5) with
  | true => have : k = 5 := by simpa using c5
            omega
  | false =>
  cases c6 : (k == 6) with
  | true => have : k = 6 := by simpa using c6
            omega
  | false =>
    rw [c2, c5, c6] at h
    have : k = 7 := by simpa using h
    omega
theorem refTwo_s {k : Int} (h : refTwo k = true) : k = 3 ∨ k = 4 ∨ k = 8 := by
  unfold refTwo at h
  cases c2 : (k == 3) with
  | true => have : k = 3 := by simpa using c2
            omega
  | false =>
  cases c5 : (k == 4) with
  | true => have : k = 4 := by simpa using c5
            omega
  | false =>
    rw [c2, c5] at h
    have : k = 8 := by simpa using h
    omega
theorem arms1 {k : Int} (h : k = 2 ∨ k = 5 ∨ k = 6 ∨ k = 7) : formulaArms k = 1 := by
  rcases h with h | h | h | h <;> subst h <;> rfl
theorem arms2 {k : Int} (h : k = 3 ∨ k = 4 ∨ k = 8) : formulaArms k = 2 := by
  rcases h with h | h | h <;> subst h <;> rfl

theorem ref_l1 (l : List Sp.Node) : ∀ (xs : List Sp.Node) (i : Nat) (A D : List Int), refFormula_l1 l i xs (A, D) = true → A.length = l.length → D.length = l.length → i + xs.length = l.length →
    (∀ (j : Nat) (y : Int), A[j]? = some y → 0 ≤ y ∧ y ≤ (j : Int)) → (∀ y ∈ D.take i, y ≤ 12) →
    ∃ F E, formulaFroms_l1 l i xs (A.take i, D.take i) = (F, E, true) ∧ F[l.length - 1]? = some 0 ∧ ∀ y ∈ E, y ≤ 12
  | [], i, A, D, h, hA, hD, hi, hy, h12 => by
    have hi : i = l.length := by simpa using hi
    refine ⟨A.take i, D.take i, rfl, ?_, h12⟩
    rw [refFormula_l1] at h
    rw [hi, ← hA, List.take_length]
    have e : ((l.length : Int) - 1).toNat = l.length - 1 := by omega
    rw [e] at h
    rw [hA]
    cases c : A[l.length - 1]? with
    | none => rw [c] at h; cases h
    | some y =>
      rw [c] at h
      have : y = 0 := by simpa [onS] using h
      rw [this]
  | x :: xs, i, A, D, h, hA, hD, hi, hy, h12 => by
    have hlt : i < l.length := by simp at hi; omega
    have hxs : i + 1 + xs.length = l.length := by simp at hi; omega
    have hA0 : A[i]? = some A[i] := List.getElem?_eq_getElem (by omega)
    have hD0 : D[i]? = some D[i] := List.getElem?_eq_getElem (by omega)
    rw [refFormula_l1, hA0, hD0] at h
    simp only [onS] at h
    have step : ∀ (z dz : Int), 0 ≤ z → z ≤ (i : Int) → dz ≤ 12 → refFormula_l1 l (i + 1) xs (A.set i z, D.set i dz) = true → formulaFroms_l1 l i (x :: xs) (A.take i, D.take i) = formulaFroms_l1 l (i + 1) xs (A.take i ++ [z], D.take i ++ [dz]) →
        ∃ F E, formulaFroms_l1 l i (x :: xs) (A.take i, D.take i) = (F, E, true) ∧ F[l.length - 1]? = some 0 ∧ ∀ y ∈ E, y ≤ 12 := by
      intro z dz h0 h1 h2 h3 h4
      obtain ⟨F, E, g1, g2, g3⟩ := ref_l1 l xs (i + 1) (A.set i z) (D.set i dz) h3 (by simpa using hA) (by simpa using hD) hxs (iv_set hy h0 h1) (fun y hm => by
        rw [take_set1 (by omega)] at hm
        rcases List.mem_append.1 hm with hm | hm
        · exact h12 y hm
        · simp at hm; omega)
      refine ⟨F, E, ?_, g2, g3⟩
      rw [h4, ← g1, take_set1 (by omega), take_set1 (by omega)]
    have gA : ∀ (j : Nat) (z : Int), j < i → (A.set i z)[j]? = (A.take i)[j]? := fun j z hj => by
      rw [List.getElem?_set_ne (by omega), List.getElem?_take, if_pos hj]
    have gD : ∀ (j : Nat) (z : Int), j < i → (D.set i z)[j]? = (D.take i)[j]? := fun j z hj => by
      rw [List.getElem?_set_ne (by omega), List.getElem?_take, if_pos hj]
    cases c1 : (x.kind == 1) with
    | true =>
      have hk : x.kind = 1 := by simpa using c1
      cases c2 : refAtom x.atom with
      | false => rw [c1, c2] at h; cases h
      | true =>
      cases c3 : (x.a == 0) with
      | false => rw [c1, c2, c3] at h; cases h
      | true =>
      cases c4 : (x.b == 0) with
      | false => rw [c1, c2, c3, c4] at h; cases h
      | true =>
      rw [c1, c2, c3, c4] at h
      refine step i 1 (by omega) (Int.le_refl _) (by omega) h ?_
      rw [formulaFroms_l1, hk, show formulaArms 1 = 0 from rfl, c3, c4, ← refAtom_eq, c2]
      rfl
    | false =>
    cases c2 : refOne x.kind with
    | true =>
      have hk := refOne_s c2
      rw [c1, c2] at h
      simp only [cond_true, cond_false] at h
      cases c3 : (((x.atom.name.length : Int) + (x.atom.args.length : Int)) == 0) with
      | false => rw [c3] at h; cases h
      | true =>
      cases c4 : ((i : Int) == 0) with
      | true => rw [c3, c4] at h; cases h
      | false =>
      cases c5 : (x.a == ((i - 1 : Nat) : Int)) with
      | false => rw [c3, c4, c5] at h; cases h
      | true =>
      cases c6 : (x.b == 0) with
      | false => rw [c3, c4, c5, c6] at h; cases h
      | true =>
      rw [c3, c4, c5, c6] at h
      simp only [cond_true, cond_false] at h
      have hi0 : (i : Int) ≠ 0 := by simpa using c4
      have ha : x.a = ((i - 1 : Nat) : Int) := by simpa using c5
      have hb : x.b = 0 := by simpa using c6
      have ea : x.a.toNat = i - 1 := by omega
      rw [ea, gA _ _ (by omega), gD _ _ (by omega)] at h
      cases c7 : (A.take i)[i - 1]? with
      | none => rw [c7] at h; cases h
      | some y5 =>
      cases c8 : (D.take i)[i - 1]? with
      | none => rw [c7, c8] at h; cases h
      | some y6 =>
      rw [c7, c8] at h
      simp only [onS] at h
      cases c9 : decide (y6 + 1 > 12) with
      | true => rw [c9] at h; cases h
      | false =>
      rw [c9] at h
      simp only [cond_false, set_two] at h
      have h9 := of_decide_eq_false c9
      have hy5 : 0 ≤ y5 ∧ y5 ≤ ((i - 1 : Nat) : Int) := hy _ _ (by rw [List.getElem?_take] at c7; split at c7; exact c7; cases c7)
      refine step y5 (y6 + 1) hy5.1 (by omega) (by omega) h ?_
      rw [formulaFroms_l1, arms1 hk, hb, bare_empty c3]
      have e1 : decide ((i : Int) < 1) = false := decide_eq_false (by omega)
      have e2 : (x.a == (i : Int) - 1) = true := by rw [beq_iff_eq]; omega
      have e3 : ((i : Int) - 1).toNat = i - 1 := by omega
      rw [e1, e2, e3, c7, c8]
      rfl
    | false =>
    cases c2' : refTwo x.kind with
    | false => rw [c1, c2, c2'] at h; cases h
    | true =>
      have hk := refTwo_s c2'
      rw [c1, c2, c2'] at h
      simp only [cond_true, cond_false] at h
      cases c3 : (((x.atom.name.length : Int) + (x.atom.args.length : Int)) == 0) with
      | false => rw [c3] at h; cases h
      | true =>
      cases c4 : ((i : Int) == 0) with
      | true => rw [c3, c4] at h; cases h
      | false =>
      cases c5 : (x.b == ((i - 1 : Nat) : Int)) with
      | false => rw [c3, c4, c5] at h; cases h
      | true =>
      rw [c3, c4, c5] at h
      simp only [cond_true, cond_false] at h
      have hi0 : (i : Int) ≠ 0 := by simpa using c4
      have hb : x.b = ((i - 1 : Nat) : Int) := by simpa using c5
      have eb : x.b.toNat = i - 1 := by omega
      rw [eb, gA (i - 1) _ (by omega)] at h
      cases c7 : (A.take i)[i - 1]? with
      | none => rw [c7] at h; cases h
      | some y7 =>
      rw [c7] at h
      simp only [onS] at h
      cases c8 : (y7 == 0) with
      | true => rw [c8] at h; cases h
      | false =>
      cases c9 : (x.a == y7 - 1) with
      | false => rw [c8, c9] at h; cases h
      | true =>
      rw [c8, c9] at h
      simp only [cond_true, cond_false] at h
      have h7 : y7 ≠ 0 := by simpa using c8
      have ha : x.a = y7 - 1 := by simpa using c9
      have hy7 : 0 ≤ y7 ∧ y7 ≤ ((i - 1 : Nat) : Int) := hy _ _ (by rw [List.getElem?_take] at c7; split at c7; exact c7; cases c7)
      rw [gA x.a.toNat _ (by omega), gD x.a.toNat _ (by omega), gD (i - 1) _ (by omega)] at h
      cases c10 : (A.take i)[x.a.toNat]? with
      | none => rw [c10] at h; cases h
      | some y8 =>
      cases c11 : (D.take i)[x.a.toNat]? with
      | none => rw [c10, c11] at h; cases h
      | some y9 =>
      cases c12 : (D.take i)[i - 1]? with
      | none => rw [c10, c11, c12] at h; cases h
      | some y10 =>
      rw [c10, c11, c12] at h
      simp only [] at h
      cases c13 : decide ((bif decide (y10 > y9) then y10 else y9) + 1 > 12) with
      | true => rw [c13] at h; cases h
      | false =>
      rw [c13] at h
      simp only [cond_false, set_two] at h
      have h13 := of_decide_eq_false c13
      have hy8 : 0 ≤ y8 ∧ y8 ≤ ((x.a.toNat : Nat) : Int) := hy _ _ (by rw [List.getElem?_take] at c10; split at c10; exact c10; cases c10)
      refine step y8 _ hy8.1 (by omega) (by omega) h ?_
      rw [formulaFroms_l1, arms2 hk, bare_empty c3]
      have e1 : decide ((i : Int) < 1) = false := decide_eq_false (by omega)
      have e2 : (x.b == (i : Int) - 1) = true := by rw [beq_iff_eq]; omega
      have e3 : ((i : Int) - 1).toNat = i - 1 := by omega
      have e4 : decide (y7 < 1) = false := decide_eq_false (by omega)
      rw [e1, e2, e3, c7]
      simp only [onS, show ((2 : Int) == 0) = false from rfl, show ((2 : Int) == 1) = false from rfl, show ((2 : Int) == 2) = true from rfl, cond_false, cond_true]
      rw [e4, c9, c10, c11, eb, c12]
      rfl

theorem ref_check {l : List Sp.Node} (h : refFormula l = true) : formulaCheck l = 0 := by
  unfold refFormula at h
  cases c1 : refIn9 (l.length : Int) 1 40 with
  | false => rw [c1] at h; cases h
  | true =>
  rw [c1, cond_true] at h
  obtain ⟨h1, h2⟩ := refIn9_ok c1
  obtain ⟨F, E, g1, g2, g3⟩ := ref_l1 l l 0 _ _ h (by simp) (by simp) (by simp) (iv_zero _) (by simp)
  have e : formulaFroms l = (F, E, true) := g1
  obtain ⟨_, a2, _⟩ := froms_l1_ok l l 0 [] [] F E e rfl rfl (fun j y hy => by simp at hy)
  unfold formulaCheck
  rw [e]
  have e1 : decide ((l.length : Int) < 1) = false := decide_eq_false (by omega)
  have e2 : decide ((l.length : Int) > 40) = false := decide_eq_false (by omega)
  have e3 : ((l.length : Int) - 1).toNat = l.length - 1 := by omega
  have hE : l.length - 1 < E.length := by omega
  rw [e1, e2, e3]
  simp only [cond_true, cond_false, g2, onS, show ((0 : Int) == 0) = true from rfl]
  rw [List.getElem?_eq_getElem hE]
  have : ¬ E[l.length - 1] > 12 := by
    have := g3 E[l.length - 1] (List.getElem_mem hE)
    omega
  show (bif decide (E[l.length - 1] > 12) then (17 : Int) else 0) = 0
  rw [decide_eq_false this]
  rfl
end Go.Vm

/-
  Twins of nodes; formulas with a node more.
-/
namespace Go.Vm
open Go Go.Sp

theorem twinAtom_eq (a : Sp.Atom) : keepTwinAtom a = a := by
  unfold keepTwinAtom
  cases h : a.args.isEmpty with
  | false => rfl
  | true =>
    have : a.args = [] := List.isEmpty_iff.1 h
    cases a
    simp only at this
    subst this
    rfl
theorem twin_l1 (l : List Sp.Node) : ∀ (xs : List Sp.Node) (i : Nat) (acc : List Sp.Node), keepTwinNodes_l1 l i xs acc = acc ++ xs
  | [], _, acc => by rw [keepTwinNodes_l1, List.append_nil]
  | x :: xs, i, acc => by
    rw [keepTwinNodes_l1, twin_l1 l xs, twinAtom_eq]
    simp
theorem twin_eq (l : List Sp.Node) : keepTwinNodes l = l := by
  unfold keepTwinNodes
  rw [twin_l1]; rfl
theorem okL_app {l m : List Sp.Node} (h1 : l.length ≤ 1000) (h2 : m.length ≤ 1000) (hl : ∀ x ∈ l, x.ok) (hm : ∀ x ∈ m, x.ok) : okL (l ++ m) :=
  ⟨by simp; omega, fun x hx => by
    rcases List.mem_append.1 hx with h | h
    · exact hl x h
    · exact hm x h⟩
theorem ok_bare {k a b : Int} (hk : i64ok k) (ha : i64ok a) (hb : i64ok b) : (⟨k, ⟨[], []⟩, a, b⟩ : Sp.Node).ok := ⟨⟨by simp, by simp, fun t h => by cases h⟩, hk, ha, hb⟩
theorem okL_top {n : List Sp.Node} (h : okL n) (hn : n.length ≤ 40) {k a : Int} (hk : 0 ≤ k ∧ k ≤ 100) (ha : -2 ≤ a ∧ a ≤ 100) : okL (keepTwinNodes n ++ [(⟨k, ⟨[], []⟩, a, 0⟩ : Sp.Node)]) := by
  rw [twin_eq]
  refine okL_app (by omega) (by simp) h.2 fun x hx => ?_
  rw [List.mem_singleton.1 hx]
  unfold i64ok at *
  exact ok_bare (by unfold i64ok; omega) (by unfold i64ok; omega) (by unfold i64ok; omega)
theorem ref_le {l : List Sp.Node} (h : refFormula l = true) : 1 ≤ l.length ∧ l.length ≤ 40 := fc_le (ref_check h)
theorem ref_args {l : List Sp.Node} (h : refFormula l = true) : ∀ x ∈ l, x.atom.args.length ≤ 1000000 := fun x hx => by
  obtain ⟨i, hi⟩ := List.getElem?_of_mem hx
  exact Nat.le_trans (node_args (ref_check h) hi) (by decide)
theorem safeVars_len (l : List Sp.Node) (i : Int) : (safeVars l i).length ≤ 200 := by
  unfold safeVars
  cases c : safeAt l i with
  | false => simp
  | true => exact lookerVars_len (k := ⟨l⟩) (at_ok c).1
end Go.Vm

/- What functions of the program answer. Printed by spec2.py. -/
namespace Go.Vm
open Go Go.Sp
set_option maxRecDepth 100000
set_option maxHeartbeats 4000000

def lawTwo_l1 (m : (List Sp.Node)) (n : (List Sp.Node)) (kind : Int) : Nat → List Sp.Node → (List Sp.Node) → (List Sp.Node)
  | i1,[],a1_0=>(a1_0 ++ [(⟨kind,(⟨([] : Txt),([] : (List Sp.Term))⟩ : Sp.Atom),((m.length : Int) - 1),((a1_0.length : Int) - 1)⟩ : Sp.Node)])
  | i1,x1 :: xs2,a1_0=>(bif (x1.kind == 1) then (bif (x1.kind == 3) then lawTwo_l1 m n kind (i1 + 1) xs2 (a1_0 ++ [(⟨x1.kind,x1.atom,x1.a,(x1.b + (m.length : Int))⟩ : Sp.Node)]) else (bif (x1.kind == 4) then lawTwo_l1 m n kind (i1 + 1) xs2 (a1_0 ++ [(⟨x1.kind,x1.atom,x1.a,(x1.b + (m.length : Int))⟩ : Sp.Node)]) else (bif (x1.kind == 8) then lawTwo_l1 m n kind (i1 + 1) xs2 (a1_0 ++ [(⟨x1.kind,x1.atom,x1.a,(x1.b + (m.length : Int))⟩ : Sp.Node)]) else lawTwo_l1 m n kind (i1 + 1) xs2 (a1_0 ++ [x1])))) else (bif (x1.kind == 3) then lawTwo_l1 m n kind (i1 + 1) xs2 (a1_0 ++ [(⟨x1.kind,x1.atom,(x1.a + (m.length : Int)),(x1.b + (m.length : Int))⟩ : Sp.Node)]) else (bif (x1.kind == 4) then lawTwo_l1 m n kind (i1 + 1) xs2 (a1_0 ++ [(⟨x1.kind,x1.atom,(x1.a + (m.length : Int)),(x1.b + (m.length : Int))⟩ : Sp.Node)]) else (bif (x1.kind == 8) then lawTwo_l1 m n kind (i1 + 1) xs2 (a1_0 ++ [(⟨x1.kind,x1.atom,(x1.a + (m.length : Int)),(x1.b + (m.length : Int))⟩ : Sp.Node)]) else lawTwo_l1 m n kind (i1 + 1) xs2 (a1_0 ++ [(⟨x1.kind,x1.atom,(x1.a + (m.length : Int)),x1.b⟩ : Sp.Node)])))))
def lawTwo (m : (List Sp.Node)) (n : (List Sp.Node)) (kind : Int) : (List Sp.Node):=lawTwo_l1 m n kind 0 n (keepTwinNodes m)
theorem lawTwo_says (m : (List Sp.Node)) (n : (List Sp.Node)) (kind : Int) (ok_m : okL m) (ok_n : okL n) (rm : refFormula m = true) (rn : refFormula n = true) : SaysT TX 36 [(eL 5 eNode) m,(eL 5 eNode) n,eI kind] ((eL 5 eNode) (lawTwo m n kind)) :=
  sy (e:=(eL 5 eNode)) (F:=c36) rfl fun sg=>gO 7<|clr ⟨1,Nat.le_refl _,keepTwinNodes_in m (by first | assumption | omega | exact ref_args (by assumption) | (have q1:=ref_le rm;have q2:=ref_le rn;omega)) (by first | assumption | omega | exact ref_args (by assumption) | (have q1:=ref_le rm;have q2:=ref_le rn;omega))⟩<|gO 8<|rgI (β:=Sp.Node) (A:=(List Sp.Node)) (fun i1 a1_0=>a1_0.length = m.length + i1 ∧ i1 ≤ n.length) (fun i1 a1_0=>{ vals:=[(.sl .no 5 (m.map eNode)),(.sl .no 5 (n.map eNode)),(.int .i64 kind),(.sl (.at 0 2 a1_0.length) 5 (a1_0.map eNode)),(.int .i64 (i1 : Int))],fr:=[.tok 0,.tok 0,.tok a1_0.length],sg:=sg,wd:=0 }) (L:=n) (acc0:=(keepTwinNodes m)) (fn:=lawTwo_l1 m n kind) (by rw [twin_eq];simp) (fun i1 x1 xs2 a1_0 hd1 hi1 ih1=>have hi1 : a1_0.length = m.length + i1 ∧ i1 ≤ n.length:=hi1;have hlt1:=drop_lt hd1;have hx1:=drop_get hd1;have kd_x1:=kids (ref_check rn) hx1;gO 6<|kw 14 (len_map eNode n)<|gO 2<|dk 15 (lt_true hlt1)<|gO 8<|iak eNode hx1<|gO 11<|dqn 24 (fun h1=>gO 9<|dq 34 (fun h2=>gO 16<|kw 47 (len_map eNode m)<|gO 1<|kw 48 (congrArg (V.int .i64) (wrap_id (n:=x1.b + (m.length : Int)) (by (have q1:=ref_le rm;have q2:=ref_le rn;omega)) (by (have q1:=ref_le rm;have q2:=ref_le rn;omega))))<|gO 7<|ap (en:=eNode) (L:=a1_0) (M:=[(⟨x1.kind,x1.atom,x1.a,(x1.b + (m.length : Int))⟩ : Sp.Node)]) (by (simp only [List.length_append,List.length_cons,List.length_nil];have q1:=ref_le rm;have q2:=ref_le rn;unfold lim;omega)) (fun _ _=>rfl)<|gO 6<|kw 17 (congrArg (V.int .i64) (wrap_s hlt1 (by first | assumption | omega | exact ref_args (by assumption) | (have q1:=ref_le rm;have q2:=ref_le rn;omega))))<|gO 2<|nx (ih1 (a1_0 ++ [(⟨x1.kind,x1.atom,x1.a,(x1.b + (m.length : Int))⟩ : Sp.Node)]) (by (simp only [List.length_append,List.length_cons,List.length_nil];omega)))) (fun h2=>gO 5<|dq 39 (fun h3=>gO 11<|kw 47 (len_map eNode m)<|gO 1<|kw 48 (congrArg (V.int .i64) (wrap_id (n:=x1.b + (m.length : Int)) (by (have q1:=ref_le rm;have q2:=ref_le rn;omega)) (by (have q1:=ref_le rm;have q2:=ref_le rn;omega))))<|gO 7<|ap (en:=eNode) (L:=a1_0) (M:=[(⟨x1.kind,x1.atom,x1.a,(x1.b + (m.length : Int))⟩ : Sp.Node)]) (by (simp only [List.length_append,List.length_cons,List.length_nil];have q1:=ref_le rm;have q2:=ref_le rn;unfold lim;omega)) (fun _ _=>rfl)<|gO 6<|kw 17 (congrArg (V.int .i64) (wrap_s hlt1 (by first | assumption | omega | exact ref_args (by assumption) | (have q1:=ref_le rm;have q2:=ref_le rn;omega))))<|gO 2<|nx (ih1 (a1_0 ++ [(⟨x1.kind,x1.atom,x1.a,(x1.b + (m.length : Int))⟩ : Sp.Node)]) (by (simp only [List.length_append,List.length_cons,List.length_nil];omega)))) (fun h3=>gO 5<|dq 43 (fun h4=>gO 6<|kw 47 (len_map eNode m)<|gO 1<|kw 48 (congrArg (V.int .i64) (wrap_id (n:=x1.b + (m.length : Int)) (by (have q1:=ref_le rm;have q2:=ref_le rn;omega)) (by (have q1:=ref_le rm;have q2:=ref_le rn;omega))))<|gO 7<|ap (en:=eNode) (L:=a1_0) (M:=[(⟨x1.kind,x1.atom,x1.a,(x1.b + (m.length : Int))⟩ : Sp.Node)]) (by (simp only [List.length_append,List.length_cons,List.length_nil];have q1:=ref_le rm;have q2:=ref_le rn;unfold lim;omega)) (fun _ _=>rfl)<|gO 6<|kw 17 (congrArg (V.int .i64) (wrap_s hlt1 (by first | assumption | omega | exact ref_args (by assumption) | (have q1:=ref_le rm;have q2:=ref_le rn;omega))))<|gO 2<|nx (ih1 (a1_0 ++ [(⟨x1.kind,x1.atom,x1.a,(x1.b + (m.length : Int))⟩ : Sp.Node)]) (by (simp only [List.length_append,List.length_cons,List.length_nil];omega)))) (fun h4=>gO 6<|ap (en:=eNode) (L:=a1_0) (M:=[x1]) (by (simp only [List.length_append,List.length_cons,List.length_nil];have q1:=ref_le rm;have q2:=ref_le rn;unfold lim;omega)) (fun _ _=>rfl)<|gO 6<|kw 17 (congrArg (V.int .i64) (wrap_s hlt1 (by first | assumption | omega | exact ref_args (by assumption) | (have q1:=ref_le rm;have q2:=ref_le rn;omega))))<|gO 2<|nx (ih1 (a1_0 ++ [x1]) (by (simp only [List.length_append,List.length_cons,List.length_nil];omega))))))) (fun h1=>gO 6<|kw 28 (len_map eNode m)<|gO 1<|kw 29 (congrArg (V.int .i64) (wrap_id (n:=x1.a + (m.length : Int)) (by (have q1:=ref_le rm;have q2:=ref_le rn;omega)) (by (have q1:=ref_le rm;have q2:=ref_le rn;omega))))<|gO 10<|dq 34 (fun h5=>gO 16<|kw 47 (len_map eNode m)<|gO 1<|kw 48 (congrArg (V.int .i64) (wrap_id (n:=x1.b + (m.length : Int)) (by (have q1:=ref_le rm;have q2:=ref_le rn;omega)) (by (have q1:=ref_le rm;have q2:=ref_le rn;omega))))<|gO 7<|ap (en:=eNode) (L:=a1_0) (M:=[(⟨x1.kind,x1.atom,(x1.a + (m.length : Int)),(x1.b + (m.length : Int))⟩ : Sp.Node)]) (by (simp only [List.length_append,List.length_cons,List.length_nil];have q1:=ref_le rm;have q2:=ref_le rn;unfold lim;omega)) (fun _ _=>rfl)<|gO 6<|kw 17 (congrArg (V.int .i64) (wrap_s hlt1 (by first | assumption | omega | exact ref_args (by assumption) | (have q1:=ref_le rm;have q2:=ref_le rn;omega))))<|gO 2<|nx (ih1 (a1_0 ++ [(⟨x1.kind,x1.atom,(x1.a + (m.length : Int)),(x1.b + (m.length : Int))⟩ : Sp.Node)]) (by (simp only [List.length_append,List.length_cons,List.length_nil];omega)))) (fun h5=>gO 5<|dq 39 (fun h6=>gO 11<|kw 47 (len_map eNode m)<|gO 1<|kw 48 (congrArg (V.int .i64) (wrap_id (n:=x1.b + (m.length : Int)) (by (have q1:=ref_le rm;have q2:=ref_le rn;omega)) (by (have q1:=ref_le rm;have q2:=ref_le rn;omega))))<|gO 7<|ap (en:=eNode) (L:=a1_0) (M:=[(⟨x1.kind,x1.atom,(x1.a + (m.length : Int)),(x1.b + (m.length : Int))⟩ : Sp.Node)]) (by (simp only [List.length_append,List.length_cons,List.length_nil];have q1:=ref_le rm;have q2:=ref_le rn;unfold lim;omega)) (fun _ _=>rfl)<|gO 6<|kw 17 (congrArg (V.int .i64) (wrap_s hlt1 (by first | assumption | omega | exact ref_args (by assumption) | (have q1:=ref_le rm;have q2:=ref_le rn;omega))))<|gO 2<|nx (ih1 (a1_0 ++ [(⟨x1.kind,x1.atom,(x1.a + (m.length : Int)),(x1.b + (m.length : Int))⟩ : Sp.Node)]) (by (simp only [List.length_append,List.length_cons,List.length_nil];omega)))) (fun h6=>gO 5<|dq 43 (fun h7=>gO 6<|kw 47 (len_map eNode m)<|gO 1<|kw 48 (congrArg (V.int .i64) (wrap_id (n:=x1.b + (m.length : Int)) (by (have q1:=ref_le rm;have q2:=ref_le rn;omega)) (by (have q1:=ref_le rm;have q2:=ref_le rn;omega))))<|gO 7<|ap (en:=eNode) (L:=a1_0) (M:=[(⟨x1.kind,x1.atom,(x1.a + (m.length : Int)),(x1.b + (m.length : Int))⟩ : Sp.Node)]) (by (simp only [List.length_append,List.length_cons,List.length_nil];have q1:=ref_le rm;have q2:=ref_le rn;unfold lim;omega)) (fun _ _=>rfl)<|gO 6<|kw 17 (congrArg (V.int .i64) (wrap_s hlt1 (by first | assumption | omega | exact ref_args (by assumption) | (have q1:=ref_le rm;have q2:=ref_le rn;omega))))<|gO 2<|nx (ih1 (a1_0 ++ [(⟨x1.kind,x1.atom,(x1.a + (m.length : Int)),(x1.b + (m.length : Int))⟩ : Sp.Node)]) (by (simp only [List.length_append,List.length_cons,List.length_nil];omega)))) (fun h7=>gO 6<|ap (en:=eNode) (L:=a1_0) (M:=[(⟨x1.kind,x1.atom,(x1.a + (m.length : Int)),x1.b⟩ : Sp.Node)]) (by (simp only [List.length_append,List.length_cons,List.length_nil];have q1:=ref_le rm;have q2:=ref_le rn;unfold lim;omega)) (fun _ _=>rfl)<|gO 6<|kw 17 (congrArg (V.int .i64) (wrap_s hlt1 (by first | assumption | omega | exact ref_args (by assumption) | (have q1:=ref_le rm;have q2:=ref_le rn;omega))))<|gO 2<|nx (ih1 (a1_0 ++ [(⟨x1.kind,x1.atom,(x1.a + (m.length : Int)),x1.b⟩ : Sp.Node)]) (by (simp only [List.length_append,List.length_cons,List.length_nil];omega)))))))) (fun i1 a1_0 hd1 hi1=>have hi1 : a1_0.length = m.length + i1 ∧ i1 ≤ n.length:=hi1;have hge1:=drop_ge hd1;gO 6<|kw 14 (len_map eNode n)<|gO 2<|dk 15 (lt_false hge1)<|gO 11<|kw 57 (len_map eNode m)<|gO 1<|kw 58 (congrArg (V.int .i64) (wrap_id (n:=(m.length : Int) - 1) (by (have q1:=ref_le rm;have q2:=ref_le rn;omega)) (by (have q1:=ref_le rm;have q2:=ref_le rn;omega))))<|gO 2<|kw 60 (len_map eNode a1_0)<|gO 1<|kw 61 (congrArg (V.int .i64) (wrap_id (n:=(a1_0.length : Int) - 1) (by (have q1:=ref_le rm;have q2:=ref_le rn;omega)) (by (have q1:=ref_le rm;have q2:=ref_le rn;omega))))<|gO 2<|ap (en:=eNode) (L:=a1_0) (M:=[(⟨kind,(⟨([] : Txt),([] : (List Sp.Term))⟩ : Sp.Atom),((m.length : Int) - 1),((a1_0.length : Int) - 1)⟩ : Sp.Node)]) (by (simp only [List.length_append,List.length_cons,List.length_nil];have q1:=ref_le rm;have q2:=ref_le rn;unfold lim;omega)) (fun _ _=>rfl)<|gO 3<|en)

end Go.Vm

/-
  Right formulas within others: what is found, may be tested, its variables are the same there.
-/
namespace Go.Vm
open Go Go.Sp

theorem says_inj {f : FuncId} {l : List V} {a b : Bool} (h1 : SaysT TX f l (eB a)) (h2 : SaysT TX f l (eB b)) : a = b := by
  have := (h1 []).symm.trans (h2 [])
  simpa using this

section
variable {k : Sp.Looker} (ok : okL k.l) (fm : formulaCheck k.l = 0)
include ok fm
theorem foundF_eq {at_ : Int} (h0 : 0 ≤ at_) (h1 : at_ < k.l.length) {q : Nat} (hq : 3 * at_.toNat < q) : lookerFoundF q k at_ = lookerFound k at_ :=
  says_inj ((lookerFound_grp q).1 k at_ ok fm h0 h1 hq) (lookerFound_says k at_ ok fm h0 h1)
theorem testedF_eq {at_ : Int} (h0 : 0 ≤ at_) (h1 : at_ < k.l.length) {q : Nat} (hq : 3 * at_.toNat + 1 < q) : lookerTestedF q k at_ = lookerTested k at_ :=
  says_inj ((lookerFound_grp q).2.1 k at_ ok fm h0 h1 hq) (lookerTested_says k at_ ok fm h0 h1)
theorem alwaysF_eq {at_ : Int} (h0 : 0 ≤ at_) (h1 : at_ < k.l.length) {q : Nat} (hq : 3 * at_.toNat + 2 < q) : lookerAlwaysF q k at_ = lookerAlways k at_ :=
  says_inj ((lookerFound_grp q).2.2 k at_ ok fm h0 h1 hq) (lookerAlways_says k at_ ok fm h0 h1)

theorem found_at {j : Nat} {x : Sp.Node} (hx : k.l[j]? = some x) : lookerFound k j = (bif x.kind == 1 then true else bif x.kind == 5 then lookerFound k x.a else bif x.kind == 6 then lookerFound k x.a else
    bif x.kind == 3 then (lookerFound k x.a && (lookerHolds k x.b x.a && lookerTested k x.b)) else
    bif x.kind == 4 then (lookerFound k x.a && (lookerFound k x.b && (lookerHolds k x.a x.b && lookerHolds k x.b x.a))) else
    bif x.kind == 8 then (lookerFound k x.b && (lookerHolds k x.a x.b && lookerTested k x.a)) else false) := by
  obtain ⟨k1, k2, k3⟩ := kids fm hx
  show lookerFoundF (3 * (j : Int).toNat + 1) k j = _
  rw [lookerFoundF, Int.toNat_natCast, hx]
  simp only [onS]
  cases c1 : (x.kind == 1) with
  | true => rfl
  | false =>
  have h1 : x.kind ≠ 1 := by simpa using c1
  have ea : lookerFoundF (3 * j) k x.a = lookerFound k x.a := foundF_eq ok fm (by omega) (by omega) (by omega)
  have ta : lookerTestedF (3 * j) k x.a = lookerTested k x.a := testedF_eq ok fm (by omega) (by omega) (by omega)
  rw [ea, ta]
  cases c5 : (x.kind == 5) with
  | true => rfl
  | false =>
  cases c6 : (x.kind == 6) with
  | true => rfl
  | false =>
  have eb : x.kind = 3 ∨ x.kind = 4 ∨ x.kind = 8 → lookerFoundF (3 * j) k x.b = lookerFound k x.b := fun h => foundF_eq ok fm (by omega) (by omega) (by omega)
  have tb : x.kind = 3 ∨ x.kind = 4 ∨ x.kind = 8 → lookerTestedF (3 * j) k x.b = lookerTested k x.b := fun h => testedF_eq ok fm (by omega) (by omega) (by omega)
  cases c3 : (x.kind == 3) with
  | true =>
    have h3 : x.kind = 3 := by simpa using c3
    rw [tb (.inl h3)]
    cases lookerFound k x.a <;> cases lookerHolds k x.b x.a <;> rfl
  | false =>
  cases c4 : (x.kind == 4) with
  | true =>
    have h3 : x.kind = 4 := by simpa using c4
    rw [eb (.inr (.inl h3))]
    cases lookerFound k x.a <;> cases lookerFound k x.b <;> cases lookerHolds k x.a x.b <;> rfl
  | false =>
  cases c8 : (x.kind == 8) with
  | true =>
    have h3 : x.kind = 8 := by simpa using c8
    rw [eb (.inr (.inr h3))]
    cases lookerFound k x.b <;> cases lookerHolds k x.a x.b <;> rfl
  | false => rfl

theorem tested_at {j : Nat} {x : Sp.Node} (hx : k.l[j]? = some x) : lookerTested k j = (bif x.kind == 2 then lookerTested k x.a else
    bif x.kind == 3 then ((lookerTested k x.a && lookerTested k x.b) || lookerFound k j) else
    bif x.kind == 4 then ((lookerTested k x.a && lookerTested k x.b) || lookerFound k j) else
    bif x.kind == 7 then lookerAlways k x.a else lookerFound k j) := by
  obtain ⟨k1, k2, k3⟩ := kids fm hx
  show lookerTestedF (3 * (j : Int).toNat + 1 + 1) k j = _
  rw [lookerTestedF, Int.toNat_natCast, hx]
  simp only [onS]
  have ej : lookerFoundF (3 * j + 1) k (j : Int) = lookerFound k (j : Int) := foundF_eq ok fm (by omega) (by omega) (by simp)
  rw [ej]
  have ta : x.kind ≠ 1 → lookerTestedF (3 * j + 1) k x.a = lookerTested k x.a := fun h => testedF_eq ok fm (by omega) (by omega) (by omega)
  have tb : x.kind = 3 ∨ x.kind = 4 ∨ x.kind = 8 → lookerTestedF (3 * j + 1) k x.b = lookerTested k x.b := fun h => testedF_eq ok fm (by omega) (by omega) (by omega)
  have la : x.kind ≠ 1 → lookerAlwaysF (3 * j + 1) k x.a = lookerAlways k x.a := fun h => alwaysF_eq ok fm (by omega) (by omega) (by omega)
  cases c2 : (x.kind == 2) with
  | true =>
    have h : x.kind = 2 := by simpa using c2
    exact ta (by omega)
  | false =>
  cases c3 : (x.kind == 3) with
  | true =>
    have h : x.kind = 3 := by simpa using c3
    rw [ta (by omega), tb (.inl h)]
    cases lookerTested k x.a <;> cases lookerTested k x.b <;> rfl
  | false =>
  cases c4 : (x.kind == 4) with
  | true =>
    have h : x.kind = 4 := by simpa using c4
    rw [ta (by omega), tb (.inr (.inl h))]
    cases lookerTested k x.a <;> cases lookerTested k x.b <;> rfl
  | false =>
  cases c7 : (x.kind == 7) with
  | true =>
    have h : x.kind = 7 := by simpa using c7
    exact la (by omega)
  | false => rfl

theorem always_at {j : Nat} {x : Sp.Node} (hx : k.l[j]? = some x) : lookerAlways k j = (bif x.kind == 2 then lookerFound k x.a else
    bif x.kind == 4 then (onS k.l[x.a.toNat]? (fun y => (y.kind == 2) && (lookerFound k y.a && (lookerHolds k x.b x.a && lookerTested k x.b))) default) else false) := by
  obtain ⟨k1, k2, k3⟩ := kids fm hx
  show lookerAlwaysF (3 * (j : Int).toNat + 2 + 1) k j = _
  rw [lookerAlwaysF, Int.toNat_natCast, hx]
  simp only [onS]
  cases c2 : (x.kind == 2) with
  | true =>
    have h : x.kind = 2 := by simpa using c2
    exact foundF_eq ok fm (by omega) (by omega) (by omega)
  | false =>
  cases c4 : (x.kind == 4) with
  | false => rfl
  | true =>
    have h : x.kind = 4 := by simpa using c4
    have tb : lookerTestedF (3 * j + 2) k x.b = lookerTested k x.b := testedF_eq ok fm (by omega) (by omega) (by omega)
    simp only [cond_true, cond_false]
    cases hy : k.l[x.a.toNat]? with
    | none => rfl
    | some y =>
      simp only []
      cases d2 : (y.kind == 2) with
      | false => rfl
      | true =>
        obtain ⟨q1, q2, q3⟩ := kids fm hy
        have h2 : y.kind = 2 := by simpa using d2
        rw [tb, foundF_eq ok fm (at_ := y.a) (by omega) (by omega) (by omega)]
        cases lookerFound k y.a <;> cases lookerHolds k x.b x.a <;> rfl
end

def shN (s : Nat) (x : Sp.Node) : Sp.Node := { x with a := bif x.kind == 1 then x.a else x.a + s, b := bif (x.kind == 3 || (x.kind == 4 || x.kind == 8)) then x.b + s else x.b }
def Emb (l l' : List Sp.Node) (s : Nat) : Prop := ∀ (j : Nat) (x : Sp.Node), l[j]? = some x → l'[j + s]? = some (shN s x)
theorem shN_a {s : Nat} {x : Sp.Node} (h : x.kind ≠ 1) : (shN s x).a = x.a + s := by
  have : (x.kind == 1) = false := by simpa using h
  simp [shN, this]
theorem shN_b {s : Nat} {x : Sp.Node} (h : x.kind = 3 ∨ x.kind = 4 ∨ x.kind = 8) : (shN s x).b = x.b + s := by
  have : (x.kind == 3 || (x.kind == 4 || x.kind == 8)) = true := by
    rcases h with h | h | h <;> rw [h] <;> rfl
  simp only [shN, this, cond_true]
theorem shN_zero (x : Sp.Node) : shN 0 x = x := by
  unfold shN
  cases x.kind == 1 <;> cases (x.kind == 3 || (x.kind == 4 || x.kind == 8)) <;> simp

section
variable {l l' : List Sp.Node} {s : Nat} (fm : formulaCheck l = 0) (fm' : formulaCheck l' = 0) (e : Emb l l' s)
include fm fm' e
theorem emb_from (j : Nat) (hj : j < l.length) : (formulaFroms l').1[j + s]? = ((formulaFroms l).1[j]?).map (· + (s : Int)) := by
  induction j using Nat.strongRecOn with
  | _ j ih =>
    have hx : l[j]? = some l[j] := List.getElem?_eq_getElem hj
    generalize l[j] = x at hx
    have hx' := e j x hx
    have hk : (shN s x).kind = x.kind := rfl
    have n := fc_Nd fm hx
    have n' := fc_Nd fm' hx'
    unfold Nd at n n'
    rw [hk] at n'
    rcases n with ⟨h1, h2, h3, h4, h5⟩ | ⟨h1, h2, h3, h4, h5, h6⟩ | ⟨h1, h2, h3, y, h4, h5, h6, h7, h8⟩
    · rcases n' with ⟨g1, g2, g3, g4, g5⟩ | ⟨g1, _⟩ | ⟨g1, _⟩
      · rw [g5, h5]; simp
      · omega
      · omega
    · rcases n' with ⟨g1, _⟩ | ⟨g1, g2, g3, g4, g5, g6⟩ | ⟨g1, _⟩
      · omega
      · rw [g6, h6, show j + s - 1 = (j - 1) + s by omega]
        exact ih (j - 1) (by omega) (by omega)
      · omega
    · rcases n' with ⟨g1, _⟩ | ⟨g1, _⟩ | ⟨g1, g2, g3, y', g4, g5, g6, g7, g8⟩
      · omega
      · omega
      · have hy := (froms_ok (fc_froms fm)).2.2.1 _ _ h4
        rw [shN_a (by omega)] at g8
        rw [g8, h8, show (x.a + (s : Int)).toNat = x.a.toNat + s by omega]
        exact ih x.a.toNat (by omega) (by omega)
theorem emb_fromI {j : Nat} (hj : j < l.length) (hj' : j + s < l'.length) : formulaFrom l' ((j + s : Nat) : Int) = formulaFrom l j + s := by
  have h1 := from_eq fm (at_ := (j : Int)) (by omega) (by omega)
  have h2 := from_eq fm' (at_ := ((j + s : Nat) : Int)) (by omega) (by omega)
  rw [Int.toNat_natCast] at h1 h2
  have h3 := emb_from fm fm' e j hj
  rw [h2, h1] at h3
  simpa using h3
omit fm fm' in
theorem emb_lt {j : Nat} (hj : j < l.length) : j + s < l'.length := by
  have := e j l[j] (List.getElem?_eq_getElem hj)
  exact (List.getElem?_eq_some_iff.1 this).1
end

section
variable {l l' : List Sp.Node} {s : Nat} (fm : formulaCheck l = 0) (fm' : formulaCheck l' = 0) (e : Emb l l' s)
include fm fm' e
theorem emb_vars {j : Nat} (hj : j < l.length) : lookerVars ⟨l'⟩ ((j + s : Nat) : Int) = lookerVars ⟨l⟩ j := by
  rw [vars_eq, vars_eq]
  have hf := emb_fromI fm fm' e hj (emb_lt e hj)
  have hl := from_le fm (at_ := (j : Int)) (by omega) (by omega)
  simp only [hf]
  congr 3
  apply List.ext_getElem?
  intro i
  rw [List.getElem?_map, List.getElem?_map, List.getElem?_take, List.getElem?_take]
  have e1 : (((j + s : Nat) : Int) + 1).toNat - (formulaFrom l j + (s : Int)).toNat = ((j : Int) + 1).toNat - (formulaFrom l j).toNat := by omega
  rw [e1]
  split
  · rename_i hi
    rw [List.getElem?_drop, List.getElem?_drop, show (formulaFrom l j + (s : Int)).toNat + i = ((formulaFrom l j).toNat + i) + s by omega]
    have hx : l[(formulaFrom l j).toNat + i]? = some l[(formulaFrom l j).toNat + i] := List.getElem?_eq_getElem (by omega)
    rw [hx, e _ _ hx]
    rfl
  · rfl
theorem emb_varsI {a : Int} (h0 : 0 ≤ a) (h1 : a < l.length) : lookerVars ⟨l'⟩ (a + s) = lookerVars ⟨l⟩ a := by
  have := emb_vars fm fm' e (j := a.toNat) (by omega)
  rwa [show ((a.toNat + s : Nat) : Int) = a + s by omega, show ((a.toNat : Nat) : Int) = a by omega] at this
theorem emb_holds {a b : Int} (h0 : 0 ≤ a) (h1 : a < l.length) (h2 : 0 ≤ b) (h3 : b < l.length) : lookerHolds ⟨l'⟩ (a + s) (b + s) = lookerHolds ⟨l⟩ a b := by
  unfold lookerHolds
  rw [emb_varsI fm fm' e h0 h1, emb_varsI fm fm' e h2 h3]

theorem emb_all (ok : okL l) (ok' : okL l') (j : Nat) (hj : j < l.length) : lookerFound ⟨l'⟩ ((j + s : Nat) : Int) = lookerFound ⟨l⟩ j ∧ lookerTested ⟨l'⟩ ((j + s : Nat) : Int) = lookerTested ⟨l⟩ j ∧ lookerAlways ⟨l'⟩ ((j + s : Nat) : Int) = lookerAlways ⟨l⟩ j := by
  induction j using Nat.strongRecOn with
  | _ j ih =>
    have hx : l[j]? = some l[j] := List.getElem?_eq_getElem hj
    generalize l[j] = x at hx
    have hx' := e j x hx
    have hk : (shN s x).kind = x.kind := rfl
    obtain ⟨k1, k2, k3⟩ := kids fm hx
    have ihI : ∀ a : Int, 0 ≤ a → a < j → lookerFound ⟨l'⟩ (a + s) = lookerFound ⟨l⟩ a ∧ lookerTested ⟨l'⟩ (a + s) = lookerTested ⟨l⟩ a ∧ lookerAlways ⟨l'⟩ (a + s) = lookerAlways ⟨l⟩ a := by
      intro a h0 h1
      have := ih a.toNat (by omega) (by omega)
      rwa [show ((a.toNat + s : Nat) : Int) = a + s by omega, show ((a.toNat : Nat) : Int) = a by omega] at this
    have hA : x.kind ≠ 1 → (shN s x).a = x.a + s := shN_a
    have hB : x.kind = 3 ∨ x.kind = 4 ∨ x.kind = 8 → (shN s x).b = x.b + s := shN_b
    have f1 := found_at (k := ⟨l⟩) ok fm hx
    have f2 := found_at (k := ⟨l'⟩) ok' fm' hx'
    rw [hk] at f2
    have hF : lookerFound ⟨l'⟩ ((j + s : Nat) : Int) = lookerFound ⟨l⟩ j := by
      rw [f1, f2]
      cases c1 : (x.kind == 1) with
      | true => rfl
      | false =>
      have h1 : x.kind ≠ 1 := by simpa using c1
      rw [hA h1]
      have ia := ihI x.a (by omega) (by omega)
      rw [ia.1, ia.2.1]
      cases c5 : (x.kind == 5) with
      | true => rfl
      | false =>
      cases c6 : (x.kind == 6) with
      | true => rfl
      | false =>
      by_cases hb : x.kind = 3 ∨ x.kind = 4 ∨ x.kind = 8
      · have k2' := k2 hb
        have ib := ihI x.b (by omega) (by omega)
        rw [hB hb, ib.1, ib.2.1, emb_holds fm fm' e (a := x.a) (b := x.b) (by omega) (by omega) (by omega) (by omega), emb_holds fm fm' e (a := x.b) (b := x.a) (by omega) (by omega) (by omega) (by omega)]
      · have e3 : (x.kind == 3) = false := by simp; omega
        have e4 : (x.kind == 4) = false := by simp; omega
        have e8 : (x.kind == 8) = false := by simp; omega
        rw [e3, e4, e8]; rfl
    refine ⟨hF, ?_, ?_⟩
    · have t1 := tested_at (k := ⟨l⟩) ok fm hx
      have t2 := tested_at (k := ⟨l'⟩) ok' fm' hx'
      rw [hk] at t2
      rw [t1, t2, hF]
      by_cases h1 : x.kind = 1
      · rw [h1]; rfl
      rw [hA h1]
      have ia := ihI x.a (by omega) (by omega)
      rw [ia.2.1, ia.2.2]
      by_cases hb : x.kind = 3 ∨ x.kind = 4 ∨ x.kind = 8
      · have k2' := k2 hb
        have ib := ihI x.b (by omega) (by omega)
        rw [hB hb, ib.2.1]
      · have e3 : (x.kind == 3) = false := by simp; omega
        have e4 : (x.kind == 4) = false := by simp; omega
        rw [e3, e4]; rfl
    · have t1 := always_at (k := ⟨l⟩) ok fm hx
      have t2 := always_at (k := ⟨l'⟩) ok' fm' hx'
      rw [hk] at t2
      rw [t1, t2]
      by_cases h1 : x.kind = 1
      · rw [h1]; rfl
      rw [hA h1]
      have ia := ihI x.a (by omega) (by omega)
      rw [ia.1]
      cases c2 : (x.kind == 2) with
      | true => rfl
      | false =>
      cases c4 : (x.kind == 4) with
      | false => rfl
      | true =>
        have h4 : x.kind = 4 := by simpa using c4
        have k2' := k2 (by omega)
        have ib := ihI x.b (by omega) (by omega)
        simp only [cond_true, cond_false]
        have hy : l[x.a.toNat]? = some l[x.a.toNat] := List.getElem?_eq_getElem (by omega)
        generalize l[x.a.toNat] = y at hy
        have hy' := e _ _ hy
        obtain ⟨q1, q2, q3⟩ := kids fm hy
        show onS l'[(x.a + (s : Int)).toNat]? _ _ = onS l[x.a.toNat]? _ _
        rw [show (x.a + (s : Int)).toNat = x.a.toNat + s by omega, hy, hy']
        simp only [onS]
        have hky : (shN s y).kind = y.kind := rfl
        rw [hky]
        cases d2 : (y.kind == 2) with
        | false => rfl
        | true =>
          have h2 : y.kind = 2 := by simpa using d2
          have iy := ihI y.a (by omega) (by omega)
          rw [shN_a (x := y) (by omega), hB (by omega), iy.1, ib.2.1, emb_holds fm fm' e (a := x.b) (b := x.a) (by omega) (by omega) (by omega) (by omega)]
end
end Go.Vm

/-
  A formula of two.
-/
namespace Go.Vm
open Go Go.Sp

abbrev pairN (m n : List Sp.Node) (k : Int) : List Sp.Node := (m ++ n.map (shN m.length)) ++ [(⟨k, ⟨[], []⟩, (m.length : Int) - 1, ((m.length + n.length : Nat) : Int) - 1⟩ : Sp.Node)]
theorem two_l1 (m n : List Sp.Node) (k : Int) (fm : formulaCheck n = 0) : ∀ (xs : List Sp.Node) (i : Nat) (acc : List Sp.Node), acc.length + xs.length = m.length + n.length → (∀ (j : Nat) (x : Sp.Node), xs[j]? = some x → ∃ q : Nat, n[q]? = some x) →
    lawTwo_l1 m n k i xs acc = (acc ++ xs.map (shN m.length)) ++ [(⟨k, ⟨[], []⟩, (m.length : Int) - 1, ((m.length + n.length : Nat) : Int) - 1⟩ : Sp.Node)]
  | [], i, acc, hl, _ => by
    rw [lawTwo_l1]
    have : acc.length = m.length + n.length := by simpa using hl
    rw [this, List.map_nil, List.append_nil]
  | x :: xs, i, acc, hl, hx => by
    have ih := fun acc hl => two_l1 m n k fm xs (i + 1) acc hl fun j y hy => hx (j + 1) y (by simpa using hy)
    obtain ⟨q, hq⟩ := hx 0 x rfl
    obtain ⟨k1, k2, _⟩ := kids fm hq
    rw [lawTwo_l1]
    have fin : ∀ z : Sp.Node, z = shN m.length x → lawTwo_l1 m n k (i + 1) xs (acc ++ [z]) = (acc ++ (x :: xs).map (shN m.length)) ++ [(⟨k, ⟨[], []⟩, (m.length : Int) - 1, ((m.length + n.length : Nat) : Int) - 1⟩ : Sp.Node)] := fun z hz => by
      rw [ih (acc ++ [z]) (by simp at hl ⊢; omega), hz, List.map_cons]
      simp [List.append_assoc]
    cases c1 : (x.kind == 1) with
    | true =>
      have h1 : x.kind = 1 := by simpa using c1
      have c3 : (x.kind == 3) = false := by rw [h1]; rfl
      have c4 : (x.kind == 4) = false := by rw [h1]; rfl
      have c8 : (x.kind == 8) = false := by rw [h1]; rfl
      rw [c3, c4, c8]
      exact fin x (by simp [shN, c1, c3, c4, c8])
    | false =>
    cases c3 : (x.kind == 3) with
    | true => exact fin _ (by simp [shN, c1, c3])
    | false =>
    cases c4 : (x.kind == 4) with
    | true => exact fin _ (by simp [shN, c1, c3, c4])
    | false =>
    cases c8 : (x.kind == 8) with
    | true => exact fin _ (by simp [shN, c1, c3, c4, c8])
    | false => exact fin _ (by simp [shN, c1, c3, c4, c8])
theorem two_eq {m n : List Sp.Node} {k : Int} (rn : refFormula n = true) : lawTwo m n k = pairN m n k := by
  unfold lawTwo
  rw [twin_eq, two_l1 m n k (ref_check rn) n 0 m rfl fun j x h => ⟨j, h⟩]
theorem two_len {m n : List Sp.Node} {k : Int} (rm : refFormula m = true) (rn : refFormula n = true) : (lawTwo m n k).length = m.length + n.length + 1 ∧ m.length ≤ 40 ∧ n.length ≤ 40 := by
  rw [two_eq rn]
  exact ⟨by simp; omega, (ref_le rm).2, (ref_le rn).2⟩
theorem okL_two {m n : List Sp.Node} {k : Int} (ok_m : okL m) (ok_n : okL n) (rm : refFormula m = true) (rn : refFormula n = true) (hk : 0 ≤ k ∧ k ≤ 100) : okL (lawTwo m n k) := by
  have h1 := ref_le rm
  have h2 := ref_le rn
  rw [two_eq rn]
  refine okL_app (by simp; omega) (by simp) (fun x hx => ?_) fun x hx => ?_
  · rcases List.mem_append.1 hx with h | h
    · exact ok_m.2 x h
    · obtain ⟨y, hy, rfl⟩ := List.mem_map.1 h
      obtain ⟨o1, o2, o3, o4⟩ := ok_n.2 y hy
      obtain ⟨i, hi⟩ := List.getElem?_of_mem hy
      obtain ⟨k1, k2, k3⟩ := kids (ref_check rn) hi
      refine ⟨o1, o2, ?_, ?_⟩
      · by_cases e : y.kind = 1
        · have : (shN m.length y).a = y.a := by simp [shN, e]
          rw [this]; exact o3
        · rw [shN_a e]; unfold i64ok; omega
      · by_cases e : y.kind = 3 ∨ y.kind = 4 ∨ y.kind = 8
        · rw [shN_b e]; unfold i64ok; have := k2 e; omega
        · have : (shN m.length y).b = y.b := by
            have e3 : (y.kind == 3) = false := by simp; omega
            have e4 : (y.kind == 4) = false := by simp; omega
            have e8 : (y.kind == 8) = false := by simp; omega
            simp [shN, e3, e4, e8]
          rw [this]; exact o4
  · rw [List.mem_singleton.1 hx]
    exact ok_bare (by unfold i64ok; omega) (by unfold i64ok; omega) (by unfold i64ok; omega)
theorem sv_le (l : List Sp.Node) (i : Int) : (safeVars l i).length ≤ 140737488351232 := Nat.le_trans (safeVars_len l i) (by decide)
theorem w_one {m : List Sp.Node} (rm : refFormula m = true) : -9223372036854775808 ≤ (m.length : Int) - 1 ∧ (m.length : Int) - 1 ≤ 9223372036854775807 := by
  have := ref_le rm
  omega
theorem w_two {m n : List Sp.Node} (k : Int) (rm : refFormula m = true) (rn : refFormula n = true) : -9223372036854775808 ≤ ((lawTwo m n k).length : Int) - 1 ∧ ((lawTwo m n k).length : Int) - 1 ≤ 9223372036854775807 := by
  have := two_len (k := k) rm rn
  omega
theorem w_sum (m n : List Sp.Node) (i j : Int) : -9223372036854775808 ≤ ((safeVars m i).length : Int) + ((safeVars n j).length : Int) ∧ ((safeVars m i).length : Int) + ((safeVars n j).length : Int) ≤ 9223372036854775807 := by
  have h1 := safeVars_len m i
  have h2 := safeVars_len n j
  omega
end Go.Vm
