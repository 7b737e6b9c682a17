/-
  A part of a proof: the last text of the claim says what is proved, and under which conditions.
-/
import Derived.Test.YtfdmcaddpfmchaaGreatDoorM9
import Derived.Test.YtfdmcaddpfmchaaGreatDoorM15
import Derived.Test.YtfdmcaddpfmchaaGreatDoorM16
import Derived.Test.YtfdmcaddpfmchaaGreatDoorM8
import Derived.Test.YtfdmcaddpfmchaaGreatDoorM17
import Derived.Test.YtfdmcaddpfmchaaGreatDoorM18
set_option linter.unusedSimpArgs false
set_option linter.unusedVariables false
set_option linter.unnecessarySimpa false
/- What functions of the program answer. Printed by spec2.py. -/
namespace Go.Vm
open Go Go.Sp
set_option maxRecDepth 100000
set_option maxHeartbeats 4000000
def lawAlphaSplit_l3 (p:Sp.Prog) (l:(List Sp.Fact)) (i1:Nat) (x1:(List Sp.Fact)) (xs2:(List (List Sp.Fact))) (a2_0:Int) (i2:Nat) (rec1:(Unit→Bool)):Nat→Int→Bool
 |0,_=>default
 |q3+1,a3_0=>(bif (decide (a3_0<(i1:Int))) then(onS ((alphaOf p).1)[i1]? (fun y6=>(onS ((alphaOf p).1)[a3_0.toNat]? (fun y7=>(bif (alphaAlike y6 y7) then false else lawAlphaSplit_l3 p l i1 x1 xs2 a2_0 i2 rec1 q3 (a3_0+1))) default)) default) else rec1 ())
def lawAlphaSplit_l2 (p:Sp.Prog) (l:(List Sp.Fact)) (i1:Nat) (x1:(List Sp.Fact)) (xs2:(List (List Sp.Fact))) (rec1:(Unit→Bool)):Nat→List Sp.Fact→Int→Bool
 |i2,[],a2_0=>(bif (a2_0 == (x1.length:Int)) then(bif ((setsCheck x1) == 0) then lawAlphaSplit_l3 p l i1 x1 xs2 a2_0 i2 rec1 (i1+1) 0 else false) else false)
 |i2,x3::xs4,a2_0=>(onS ((alphaOf p).1)[i1]? (fun y5=>(bif ((matchOne y5 x3 ([]:(List Sp.Bind))).2 == (setsHas x1 x3)) then(bif (matchOne y5 x3 ([]:(List Sp.Bind))).2 then lawAlphaSplit_l2 p l i1 x1 xs2 rec1 (i2+1) xs4 (a2_0+1) else lawAlphaSplit_l2 p l i1 x1 xs2 rec1 (i2+1) xs4 a2_0) else false)) default)
def lawAlphaSplit_l5 (p:Sp.Prog) (l:(List Sp.Fact)) (i1:Nat) (i4:Nat) (x8:(List Int)) (xs9:(List (List Int))) (y10:Sp.Rule) (rec4:(Unit→Bool)):Nat→List Int→Unit→Bool
 |i5,[],_=>rec4 ()
 |i5,x11::xs12,_=>(onS y10.conds[i5]? (fun y13=>(bif (y13.kind == 3) then(bif (x11 == (-1)) then lawAlphaSplit_l5 p l i1 i4 x8 xs9 y10 rec4 (i5+1) xs12 () else false) else(bif (decide (x11<0)) then false else(bif (decide (x11≥(((alphaOf p).1).length:Int))) then false else(onS ((alphaOf p).1)[x11.toNat]? (fun y14=>(bif (alphaAlike y14 y13.atom) then lawAlphaSplit_l5 p l i1 i4 x8 xs9 y10 rec4 (i5+1) xs12 () else false)) default))))) default)
def lawAlphaSplit_l4 (p:Sp.Prog) (l:(List Sp.Fact)) (i1:Nat):Nat→List (List Int)→Unit→Bool
 |i4,[],_=>(lawWakes19)
 |i4,x8::xs9,_=>(onS p.rules[i4]? (fun y10=>(bif ((x8.length:Int) == (y10.conds.length:Int)) then lawAlphaSplit_l5 p l i1 i4 x8 xs9 y10 (fun acc=>lawAlphaSplit_l4 p l i1 (i4+1) xs9 acc) 0 x8 () else false)) default)
def lawAlphaSplit_l1 (p:Sp.Prog) (l:(List Sp.Fact)):Nat→List (List Sp.Fact)→Unit→Bool
 |i1,[],_=>lawAlphaSplit_l4 p l i1 0 ((alphaWhich p).1) ()
 |i1,x1::xs2,_=>lawAlphaSplit_l2 p l i1 x1 xs2 (fun acc=>lawAlphaSplit_l1 p l (i1+1) xs2 acc) 0 l 0
def lawAlphaSplit (p:Sp.Prog) (l:(List Sp.Fact)):Bool:=(bif (heavyProg p) then true else(bif (many18 l) then true else(bif ((alphaOf p).2 == 0) then(bif ((alphaWhich p).2 == 0) then(bif ((alphaSplit p l).2 == 0) then(bif ((((alphaSplit p l).1).length:Int) == (((alphaOf p).1).length:Int)) then(bif ((((alphaWhich p).1).length:Int) == (p.rules.length:Int)) then lawAlphaSplit_l1 p l 0 ((alphaSplit p l).1) () else false) else false) else(bif ((((alphaSplit p l).1).length:Int) == 0) then(lawWakes19) else false)) else(bif ((((alphaSplit p l).1).length:Int) == 0) then(lawWakes19) else false)) else(bif ((((alphaSplit p l).1).length:Int) == 0) then(lawWakes19) else false))))
theorem lawAlphaSplit_says (p:Sp.Prog) (l:(List Sp.Fact)) (ok_p:p.ok) (ok_l:okFs l):SaysT TX 11 [eProg p,(eL 2 eFact) l] (eB (lawAlphaSplit p l)):=
 sy (e:=eB) (F:=c11) rfl fun sg=>gO 9<|cl (heavyProg_says p (by first|exact ok_p|exact ok_l|omega|(have q:=many18_le (by assumption);omega)|exact of_ok ok_p (by assumption) (List.mem_of_getElem? (by assumption))|exact okFs.get ok_l (by assumption)|exact split_ok ok_l (by assumption) (List.mem_of_getElem? (by assumption))|exact(Rule.ok.cond (Prog_ruleI ok_p (by assumption)) (by assumption)).2.1|(have q1:=split_len p l;have q2:=which_len p;omega)|(have q1:=ok_l.1;omega)|(have q1:=(Prog_ruleI ok_p (by assumption)).2.2.1.1;omega)|exact⟨Nat.zero_le _,fun _ h=>absurd h List.not_mem_nil⟩|exact Nat.zero_le _))<|gO 1<|dc 23 (fun h1=>gO 11<|en) (fun h1=>gO 1<|cl (many18_says l (by first|exact ok_p|exact ok_l|omega|(have q:=many18_le (by assumption);omega)|exact of_ok ok_p (by assumption) (List.mem_of_getElem? (by assumption))|exact okFs.get ok_l (by assumption)|exact split_ok ok_l (by assumption) (List.mem_of_getElem? (by assumption))|exact(Rule.ok.cond (Prog_ruleI ok_p (by assumption)) (by assumption)).2.1|(have q1:=split_len p l;have q2:=which_len p;omega)|(have q1:=ok_l.1;omega)|(have q1:=(Prog_ruleI ok_p (by assumption)).2.2.1.1;omega)|exact⟨Nat.zero_le _,fun _ h=>absurd h List.not_mem_nil⟩|exact Nat.zero_le _))<|gO 2<|dc 26 (fun h2=>gO 7<|en) (fun h2=>gO 5<|cl (alphaOf_says p (by first|exact ok_p|exact ok_l|omega|(have q:=many18_le (by assumption);omega)|exact of_ok ok_p (by assumption) (List.mem_of_getElem? (by assumption))|exact okFs.get ok_l (by assumption)|exact split_ok ok_l (by assumption) (List.mem_of_getElem? (by assumption))|exact(Rule.ok.cond (Prog_ruleI ok_p (by assumption)) (by assumption)).2.1|(have q1:=split_len p l;have q2:=which_len p;omega)|(have q1:=ok_l.1;omega)|(have q1:=(Prog_ruleI ok_p (by assumption)).2.2.1.1;omega)|exact⟨Nat.zero_le _,fun _ h=>absurd h List.not_mem_nil⟩|exact Nat.zero_le _))<|gO 9<|cl (alphaWhich_says p (by first|exact ok_p|exact ok_l|omega|(have q:=many18_le (by assumption);omega)|exact of_ok ok_p (by assumption) (List.mem_of_getElem? (by assumption))|exact okFs.get ok_l (by assumption)|exact split_ok ok_l (by assumption) (List.mem_of_getElem? (by assumption))|exact(Rule.ok.cond (Prog_ruleI ok_p (by assumption)) (by assumption)).2.1|(have q1:=split_len p l;have q2:=which_len p;omega)|(have q1:=ok_l.1;omega)|(have q1:=(Prog_ruleI ok_p (by assumption)).2.2.1.1;omega)|exact⟨Nat.zero_le _,fun _ h=>absurd h List.not_mem_nil⟩|exact Nat.zero_le _))<|gO 10<|cl (alphaSplit_says p l (by first|exact ok_p|exact ok_l|omega|(have q:=many18_le (by assumption);omega)|exact of_ok ok_p (by assumption) (List.mem_of_getElem? (by assumption))|exact okFs.get ok_l (by assumption)|exact split_ok ok_l (by assumption) (List.mem_of_getElem? (by assumption))|exact(Rule.ok.cond (Prog_ruleI ok_p (by assumption)) (by assumption)).2.1|(have q1:=split_len p l;have q2:=which_len p;omega)|(have q1:=ok_l.1;omega)|(have q1:=(Prog_ruleI ok_p (by assumption)).2.2.1.1;omega)|exact⟨Nat.zero_le _,fun _ h=>absurd h List.not_mem_nil⟩|exact Nat.zero_le _) (by first|exact ok_p|exact ok_l|omega|(have q:=many18_le (by assumption);omega)|exact of_ok ok_p (by assumption) (List.mem_of_getElem? (by assumption))|exact okFs.get ok_l (by assumption)|exact split_ok ok_l (by assumption) (List.mem_of_getElem? (by assumption))|exact(Rule.ok.cond (Prog_ruleI ok_p (by assumption)) (by assumption)).2.1|(have q1:=split_len p l;have q2:=which_len p;omega)|(have q1:=ok_l.1;omega)|(have q1:=(Prog_ruleI ok_p (by assumption)).2.2.1.1;omega)|exact⟨Nat.zero_le _,fun _ h=>absurd h List.not_mem_nil⟩|exact Nat.zero_le _) (by first|exact ok_p|exact ok_l|omega|(have q:=many18_le (by assumption);omega)|exact of_ok ok_p (by assumption) (List.mem_of_getElem? (by assumption))|exact okFs.get ok_l (by assumption)|exact split_ok ok_l (by assumption) (List.mem_of_getElem? (by assumption))|exact(Rule.ok.cond (Prog_ruleI ok_p (by assumption)) (by assumption)).2.1|(have q1:=split_len p l;have q2:=which_len p;omega)|(have q1:=ok_l.1;omega)|(have q1:=(Prog_ruleI ok_p (by assumption)).2.2.1.1;omega)|exact⟨Nat.zero_le _,fun _ h=>absurd h List.not_mem_nil⟩|exact Nat.zero_le _))<|gO 12<|dqn 45 (fun h3=>gO 4<|dqn 49 (fun h4=>gO 4<|dqn 52 (fun h5=>gO 7<|kw 60 (len_map (eL 2 eFact) ((alphaSplit p l).1))<|gO 2<|kw 62 (len_map eAtom ((alphaOf p).1))<|gO 2<|dqn 64 (fun h6=>gO 2<|kw 66 (len_map (eL 1 eI) ((alphaWhich p).1))<|gO 3<|kw 69 (len_map eRule p.rules)<|gO 3<|dqn 71 (fun h7=>gO 8<|rg (β:=(List Sp.Fact)) (A:=Unit) (fun i1 _=>{ vals:=[(.sl .no 2 (l.map eFact)),(.bp 0 0 0),(.sl .no 2 (((alphaOf p).1).map eAtom)),(.sl .no 1 (((alphaWhich p).1).map (eL 1 eI))),(.sl .no 1 (((alphaSplit p l).1).map (eL 2 eFact))),(.int .i64 (i1:Int))],fr:=[.box [(.sl .no 3 (p.decls.map eDecl)),(.sl .no 4 (p.rules.map eRule)),(.sl .no 4 (p.pats.map ePattern))]],sg:=sg,wd:=0 }) (L:=((alphaSplit p l).1)) (acc0:=()) (fn:=lawAlphaSplit_l1 p l) (fun i1 x1 xs2 _ hd1 ih1=>have hlt1:=drop_lt hd1;have hx1:=drop_get hd1;gO 6<|kw 74 (len_map (eL 2 eFact) ((alphaSplit p l).1))<|gO 2<|dk 75 (lt_true hlt1)<|gO 14<|rgI (β:=Sp.Fact) (A:=Int) (fun i2 a2_0=>0≤a2_0∧a2_0≤i2∧i2≤l.length) (fun i2 a2_0=>{ vals:=[(.sl .no 2 (l.map eFact)),(.bp 0 0 0),(.sl .no 2 (((alphaOf p).1).map eAtom)),(.sl .no 1 (((alphaWhich p).1).map (eL 1 eI))),(.sl .no 1 (((alphaSplit p l).1).map (eL 2 eFact))),(.int .i64 (i1:Int)),(.int .i64 a2_0),(.int .i64 (i2:Int))],fr:=[.box [(.sl .no 3 (p.decls.map eDecl)),(.sl .no 4 (p.rules.map eRule)),(.sl .no 4 (p.pats.map ePattern))]],sg:=sg,wd:=0 }) (L:=l) (acc0:=0) (fn:=lawAlphaSplit_l2 p l i1 x1 xs2 (fun acc=>lawAlphaSplit_l1 p l (i1+1) xs2 acc)) (by omega) (fun i2 x3 xs4 a2_0 hd2 hi2 ih2=>have hi2:0≤a2_0∧a2_0≤i2∧i2≤l.length:=hi2;have hlt2:=drop_lt hd2;have hx2:=drop_get hd2;gO 6<|kw 80 (len_map eFact l)<|gO 2<|dk 81 (lt_true hlt2)<|gO 8<|ia (en:=eAtom) (by first|exact ok_p|exact ok_l|omega|(have q:=many18_le (by assumption);omega)|exact of_ok ok_p (by assumption) (List.mem_of_getElem? (by assumption))|exact okFs.get ok_l (by assumption)|exact split_ok ok_l (by assumption) (List.mem_of_getElem? (by assumption))|exact(Rule.ok.cond (Prog_ruleI ok_p (by assumption)) (by assumption)).2.1|(have q1:=split_len p l;have q2:=which_len p;omega)|(have q1:=ok_l.1;omega)|(have q1:=(Prog_ruleI ok_p (by assumption)).2.2.1.1;omega)|exact⟨Nat.zero_le _,fun _ h=>absurd h List.not_mem_nil⟩|exact Nat.zero_le _) fun y5 h8=>gO 3<|iak eFact hx2<|gO 1<|cl (matchOne_says y5 x3 ([]:(List Sp.Bind)) (by first|exact ok_p|exact ok_l|omega|(have q:=many18_le (by assumption);omega)|exact of_ok ok_p (by assumption) (List.mem_of_getElem? (by assumption))|exact okFs.get ok_l (by assumption)|exact split_ok ok_l (by assumption) (List.mem_of_getElem? (by assumption))|exact(Rule.ok.cond (Prog_ruleI ok_p (by assumption)) (by assumption)).2.1|(have q1:=split_len p l;have q2:=which_len p;omega)|(have q1:=ok_l.1;omega)|(have q1:=(Prog_ruleI ok_p (by assumption)).2.2.1.1;omega)|exact⟨Nat.zero_le _,fun _ h=>absurd h List.not_mem_nil⟩|exact Nat.zero_le _) (by first|exact ok_p|exact ok_l|omega|(have q:=many18_le (by assumption);omega)|exact of_ok ok_p (by assumption) (List.mem_of_getElem? (by assumption))|exact okFs.get ok_l (by assumption)|exact split_ok ok_l (by assumption) (List.mem_of_getElem? (by assumption))|exact(Rule.ok.cond (Prog_ruleI ok_p (by assumption)) (by assumption)).2.1|(have q1:=split_len p l;have q2:=which_len p;omega)|(have q1:=ok_l.1;omega)|(have q1:=(Prog_ruleI ok_p (by assumption)).2.2.1.1;omega)|exact⟨Nat.zero_le _,fun _ h=>absurd h List.not_mem_nil⟩|exact Nat.zero_le _) (by first|exact ok_p|exact ok_l|omega|(have q:=many18_le (by assumption);omega)|exact of_ok ok_p (by assumption) (List.mem_of_getElem? (by assumption))|exact okFs.get ok_l (by assumption)|exact split_ok ok_l (by assumption) (List.mem_of_getElem? (by assumption))|exact(Rule.ok.cond (Prog_ruleI ok_p (by assumption)) (by assumption)).2.1|(have q1:=split_len p l;have q2:=which_len p;omega)|(have q1:=ok_l.1;omega)|(have q1:=(Prog_ruleI ok_p (by assumption)).2.2.1.1;omega)|exact⟨Nat.zero_le _,fun _ h=>absurd h List.not_mem_nil⟩|exact Nat.zero_le _) (by first|exact ok_p|exact ok_l|omega|(have q:=many18_le (by assumption);omega)|exact of_ok ok_p (by assumption) (List.mem_of_getElem? (by assumption))|exact okFs.get ok_l (by assumption)|exact split_ok ok_l (by assumption) (List.mem_of_getElem? (by assumption))|exact(Rule.ok.cond (Prog_ruleI ok_p (by assumption)) (by assumption)).2.1|(have q1:=split_len p l;have q2:=which_len p;omega)|(have q1:=ok_l.1;omega)|(have q1:=(Prog_ruleI ok_p (by assumption)).2.2.1.1;omega)|exact⟨Nat.zero_le _,fun _ h=>absurd h List.not_mem_nil⟩|exact Nat.zero_le _))<|gO 12<|iak (eL 2 eFact) hx1<|gO 3<|iak eFact hx2<|gO 1<|cl (setsHas_says x1 x3 (by first|exact ok_p|exact ok_l|omega|(have q:=many18_le (by assumption);omega)|exact of_ok ok_p (by assumption) (List.mem_of_getElem? (by assumption))|exact okFs.get ok_l (by assumption)|exact split_ok ok_l (by assumption) (List.mem_of_getElem? (by assumption))|exact(Rule.ok.cond (Prog_ruleI ok_p (by assumption)) (by assumption)).2.1|(have q1:=split_len p l;have q2:=which_len p;omega)|(have q1:=ok_l.1;omega)|(have q1:=(Prog_ruleI ok_p (by assumption)).2.2.1.1;omega)|exact⟨Nat.zero_le _,fun _ h=>absurd h List.not_mem_nil⟩|exact Nat.zero_le _) (by first|exact ok_p|exact ok_l|omega|(have q:=many18_le (by assumption);omega)|exact of_ok ok_p (by assumption) (List.mem_of_getElem? (by assumption))|exact okFs.get ok_l (by assumption)|exact split_ok ok_l (by assumption) (List.mem_of_getElem? (by assumption))|exact(Rule.ok.cond (Prog_ruleI ok_p (by assumption)) (by assumption)).2.1|(have q1:=split_len p l;have q2:=which_len p;omega)|(have q1:=ok_l.1;omega)|(have q1:=(Prog_ruleI ok_p (by assumption)).2.2.1.1;omega)|exact⟨Nat.zero_le _,fun _ h=>absurd h List.not_mem_nil⟩|exact Nat.zero_le _))<|gO 2<|dcn 106 (fun h9=>gO 6<|dc 107 (fun h10=>gO 4<|kw 109 (congrArg (V.int .i64) (wrap_id (n:=a2_0+1) (by(have q:=ok_l.1;have q1:=split_len p l;omega)) (by(have q:=ok_l.1;have q1:=split_len p l;omega))))<|gO 6<|kw 83 (congrArg (V.int .i64) (wrap_s hlt2 (by first|exact ok_p|exact ok_l|omega|(have q:=many18_le (by assumption);omega)|exact of_ok ok_p (by assumption) (List.mem_of_getElem? (by assumption))|exact okFs.get ok_l (by assumption)|exact split_ok ok_l (by assumption) (List.mem_of_getElem? (by assumption))|exact(Rule.ok.cond (Prog_ruleI ok_p (by assumption)) (by assumption)).2.1|(have q1:=split_len p l;have q2:=which_len p;omega)|(have q1:=ok_l.1;omega)|(have q1:=(Prog_ruleI ok_p (by assumption)).2.2.1.1;omega)|exact⟨Nat.zero_le _,fun _ h=>absurd h List.not_mem_nil⟩|exact Nat.zero_le _)))<|gO 2<|nx (ih2 (a2_0+1) (by omega))) (fun h10=>gO 6<|kw 83 (congrArg (V.int .i64) (wrap_s hlt2 (by first|exact ok_p|exact ok_l|omega|(have q:=many18_le (by assumption);omega)|exact of_ok ok_p (by assumption) (List.mem_of_getElem? (by assumption))|exact okFs.get ok_l (by assumption)|exact split_ok ok_l (by assumption) (List.mem_of_getElem? (by assumption))|exact(Rule.ok.cond (Prog_ruleI ok_p (by assumption)) (by assumption)).2.1|(have q1:=split_len p l;have q2:=which_len p;omega)|(have q1:=ok_l.1;omega)|(have q1:=(Prog_ruleI ok_p (by assumption)).2.2.1.1;omega)|exact⟨Nat.zero_le _,fun _ h=>absurd h List.not_mem_nil⟩|exact Nat.zero_le _)))<|gO 2<|nx (ih2 a2_0 (by omega)))) (fun h9=>gO 17<|en)) (fun i2 a2_0 hd2 hi2=>have hi2:0≤a2_0∧a2_0≤i2∧i2≤l.length:=hi2;have hge2:=drop_ge hd2;gO 6<|kw 80 (len_map eFact l)<|gO 2<|dk 81 (lt_false hge2)<|gO 11<|iak (eL 2 eFact) hx1<|gO 2<|kw 115 (len_map eFact x1)<|gO 2<|dqn 117 (fun h11=>gO 2<|iak (eL 2 eFact) hx1<|gO 1<|cl (setsCheck_says x1 (by first|exact ok_p|exact ok_l|omega|(have q:=many18_le (by assumption);omega)|exact of_ok ok_p (by assumption) (List.mem_of_getElem? (by assumption))|exact okFs.get ok_l (by assumption)|exact split_ok ok_l (by assumption) (List.mem_of_getElem? (by assumption))|exact(Rule.ok.cond (Prog_ruleI ok_p (by assumption)) (by assumption)).2.1|(have q1:=split_len p l;have q2:=which_len p;omega)|(have q1:=ok_l.1;omega)|(have q1:=(Prog_ruleI ok_p (by assumption)).2.2.1.1;omega)|exact⟨Nat.zero_le _,fun _ h=>absurd h List.not_mem_nil⟩|exact Nat.zero_le _))<|gO 3<|dqn 124 (fun h12=>gO 7<|lp (A:=Int) (fun a3_0=>0≤a3_0∧a3_0≤i1) (fun a3_0=>((i1:Int)-a3_0).toNat) (fun a3_0=>{ vals:=[(.sl .no 2 (l.map eFact)),(.bp 0 0 0),(.sl .no 2 (((alphaOf p).1).map eAtom)),(.sl .no 1 (((alphaWhich p).1).map (eL 1 eI))),(.sl .no 1 (((alphaSplit p l).1).map (eL 2 eFact))),(.int .i64 (i1:Int)),(.int .i64 a3_0)],fr:=[.box [(.sl .no 3 (p.decls.map eDecl)),(.sl .no 4 (p.rules.map eRule)),(.sl .no 4 (p.pats.map ePattern))]],sg:=sg,wd:=0 }) (acc0:=0) (fn:=lawAlphaSplit_l3 p l i1 x1 xs2 a2_0 i2 (fun acc=>lawAlphaSplit_l1 p l (i1+1) xs2 acc)) (q:=i1+1) (by omega) (by(try dsimp only);omega) (fun q3 a3_0 hi3 hm3 ih3=>have hi3:0≤a3_0∧a3_0≤i1:=hi3;have hm3:((i1:Int)-a3_0).toNat<q3+1:=hm3;gO 7<|dp 127 (fun h13=>gO 8<|ia (en:=eAtom) (by first|exact ok_p|exact ok_l|omega|(have q:=many18_le (by assumption);omega)|exact of_ok ok_p (by assumption) (List.mem_of_getElem? (by assumption))|exact okFs.get ok_l (by assumption)|exact split_ok ok_l (by assumption) (List.mem_of_getElem? (by assumption))|exact(Rule.ok.cond (Prog_ruleI ok_p (by assumption)) (by assumption)).2.1|(have q1:=split_len p l;have q2:=which_len p;omega)|(have q1:=ok_l.1;omega)|(have q1:=(Prog_ruleI ok_p (by assumption)).2.2.1.1;omega)|exact⟨Nat.zero_le _,fun _ h=>absurd h List.not_mem_nil⟩|exact Nat.zero_le _) fun y6 h14=>gO 3<|kw 135 (toNat_v (n:=a3_0) (by first|exact ok_p|exact ok_l|omega|(have q:=many18_le (by assumption);omega)|exact of_ok ok_p (by assumption) (List.mem_of_getElem? (by assumption))|exact okFs.get ok_l (by assumption)|exact split_ok ok_l (by assumption) (List.mem_of_getElem? (by assumption))|exact(Rule.ok.cond (Prog_ruleI ok_p (by assumption)) (by assumption)).2.1|(have q1:=split_len p l;have q2:=which_len p;omega)|(have q1:=ok_l.1;omega)|(have q1:=(Prog_ruleI ok_p (by assumption)).2.2.1.1;omega)|exact⟨Nat.zero_le _,fun _ h=>absurd h List.not_mem_nil⟩|exact Nat.zero_le _))<|ia (en:=eAtom) (by first|exact ok_p|exact ok_l|omega|(have q:=many18_le (by assumption);omega)|exact of_ok ok_p (by assumption) (List.mem_of_getElem? (by assumption))|exact okFs.get ok_l (by assumption)|exact split_ok ok_l (by assumption) (List.mem_of_getElem? (by assumption))|exact(Rule.ok.cond (Prog_ruleI ok_p (by assumption)) (by assumption)).2.1|(have q1:=split_len p l;have q2:=which_len p;omega)|(have q1:=ok_l.1;omega)|(have q1:=(Prog_ruleI ok_p (by assumption)).2.2.1.1;omega)|exact⟨Nat.zero_le _,fun _ h=>absurd h List.not_mem_nil⟩|exact Nat.zero_le _) fun y7 h15=>gO 1<|cl (alphaAlike_says y6 y7 (by first|exact ok_p|exact ok_l|omega|(have q:=many18_le (by assumption);omega)|exact of_ok ok_p (by assumption) (List.mem_of_getElem? (by assumption))|exact okFs.get ok_l (by assumption)|exact split_ok ok_l (by assumption) (List.mem_of_getElem? (by assumption))|exact(Rule.ok.cond (Prog_ruleI ok_p (by assumption)) (by assumption)).2.1|(have q1:=split_len p l;have q2:=which_len p;omega)|(have q1:=ok_l.1;omega)|(have q1:=(Prog_ruleI ok_p (by assumption)).2.2.1.1;omega)|exact⟨Nat.zero_le _,fun _ h=>absurd h List.not_mem_nil⟩|exact Nat.zero_le _) (by first|exact ok_p|exact ok_l|omega|(have q:=many18_le (by assumption);omega)|exact of_ok ok_p (by assumption) (List.mem_of_getElem? (by assumption))|exact okFs.get ok_l (by assumption)|exact split_ok ok_l (by assumption) (List.mem_of_getElem? (by assumption))|exact(Rule.ok.cond (Prog_ruleI ok_p (by assumption)) (by assumption)).2.1|(have q1:=split_len p l;have q2:=which_len p;omega)|(have q1:=ok_l.1;omega)|(have q1:=(Prog_ruleI ok_p (by assumption)).2.2.1.1;omega)|exact⟨Nat.zero_le _,fun _ h=>absurd h List.not_mem_nil⟩|exact Nat.zero_le _))<|gO 1<|dc 138 (fun h16=>gO 15<|en) (fun h16=>gO 6<|kw 129 (congrArg (V.int .i64) (wrap_id (n:=a3_0+1) (by(have q:=ok_l.1;have q1:=split_len p l;omega)) (by(have q:=ok_l.1;have q1:=split_len p l;omega))))<|gO 2<|nx (ih3 (a3_0+1) (by omega) (by(try dsimp only);omega)))) (fun h13=>gO 9<|kw 77 (congrArg (V.int .i64) (wrap_s hlt1 (by first|exact ok_p|exact ok_l|omega|(have q:=many18_le (by assumption);omega)|exact of_ok ok_p (by assumption) (List.mem_of_getElem? (by assumption))|exact okFs.get ok_l (by assumption)|exact split_ok ok_l (by assumption) (List.mem_of_getElem? (by assumption))|exact(Rule.ok.cond (Prog_ruleI ok_p (by assumption)) (by assumption)).2.1|(have q1:=split_len p l;have q2:=which_len p;omega)|(have q1:=ok_l.1;omega)|(have q1:=(Prog_ruleI ok_p (by assumption)).2.2.1.1;omega)|exact⟨Nat.zero_le _,fun _ h=>absurd h List.not_mem_nil⟩|exact Nat.zero_le _)))<|gO 2<|nx (ih1 ())))) (fun h12=>gO 12<|en)) (fun h11=>gO 20<|en))) (fun i1 _ hd1=>have hge1:=drop_ge hd1;gO 6<|kw 74 (len_map (eL 2 eFact) ((alphaSplit p l).1))<|gO 2<|dk 75 (lt_false hge1)<|gO 11<|rg (β:=(List Int)) (A:=Unit) (fun i4 _=>{ vals:=[(.bp 0 0 0),(.sl .no 2 (((alphaOf p).1).map eAtom)),(.sl .no 1 (((alphaWhich p).1).map (eL 1 eI))),(.int .i64 (i4:Int))],fr:=[.box [(.sl .no 3 (p.decls.map eDecl)),(.sl .no 4 (p.rules.map eRule)),(.sl .no 4 (p.pats.map ePattern))]],sg:=sg,wd:=0 }) (L:=((alphaWhich p).1)) (acc0:=()) (fn:=lawAlphaSplit_l4 p l i1) (fun i4 x8 xs9 _ hd4 ih4=>have hlt4:=drop_lt hd4;have hx4:=drop_get hd4;gO 6<|kw 141 (len_map (eL 1 eI) ((alphaWhich p).1))<|gO 2<|dk 142 (lt_true hlt4)<|gO 9<|iak (eL 1 eI) hx4<|gO 2<|kw 149 (len_map eI x8)<|gO 3<|ia (en:=eRule) (by first|exact ok_p|exact ok_l|omega|(have q:=many18_le (by assumption);omega)|exact of_ok ok_p (by assumption) (List.mem_of_getElem? (by assumption))|exact okFs.get ok_l (by assumption)|exact split_ok ok_l (by assumption) (List.mem_of_getElem? (by assumption))|exact(Rule.ok.cond (Prog_ruleI ok_p (by assumption)) (by assumption)).2.1|(have q1:=split_len p l;have q2:=which_len p;omega)|(have q1:=ok_l.1;omega)|(have q1:=(Prog_ruleI ok_p (by assumption)).2.2.1.1;omega)|exact⟨Nat.zero_le _,fun _ h=>absurd h List.not_mem_nil⟩|exact Nat.zero_le _) fun y10 h17=>gO 3<|kw 156 (len_map eCond y10.conds)<|gO 2<|dqn 157 (fun h18=>gO 7<|rg (β:=Int) (A:=Unit) (fun i5 _=>{ vals:=[(.bp 0 0 0),(.sl .no 2 (((alphaOf p).1).map eAtom)),(.sl .no 1 (((alphaWhich p).1).map (eL 1 eI))),(.int .i64 (i4:Int)),(.int .i64 (i5:Int))],fr:=[.box [(.sl .no 3 (p.decls.map eDecl)),(.sl .no 4 (p.rules.map eRule)),(.sl .no 4 (p.pats.map ePattern))]],sg:=sg,wd:=0 }) (L:=x8) (acc0:=()) (fn:=lawAlphaSplit_l5 p l i1 i4 x8 xs9 y10 (fun acc=>lawAlphaSplit_l4 p l i1 (i4+1) xs9 acc)) (fun i5 x11 xs12 _ hd5 ih5=>have hlt5:=drop_lt hd5;have hx5:=drop_get hd5;gO 6<|iak (eL 1 eI) hx4<|gO 2<|kw 163 (len_map eI x8)<|gO 2<|dk 164 (lt_true hlt5)<|gO 9<|iak eRule h17<|gO 3<|ia (en:=eCond) (by first|exact ok_p|exact ok_l|omega|(have q:=many18_le (by assumption);omega)|exact of_ok ok_p (by assumption) (List.mem_of_getElem? (by assumption))|exact okFs.get ok_l (by assumption)|exact split_ok ok_l (by assumption) (List.mem_of_getElem? (by assumption))|exact(Rule.ok.cond (Prog_ruleI ok_p (by assumption)) (by assumption)).2.1|(have q1:=split_len p l;have q2:=which_len p;omega)|(have q1:=ok_l.1;omega)|(have q1:=(Prog_ruleI ok_p (by assumption)).2.2.1.1;omega)|exact⟨Nat.zero_le _,fun _ h=>absurd h List.not_mem_nil⟩|exact Nat.zero_le _) fun y13 h19=>gO 3<|iak (eL 1 eI) hx4<|gO 2<|iak eI hx5<|gO 1<|dmr (re:=[1,3,5,7,8,11,12,14,15]) ⟨rr,ri eRule h17,rr,ri eCond h19,rr,ri (eL 1 eI) hx4,rr,ri eI hx5,rr,trivial⟩<|dmr (re:=[11,12,14,15]) ⟨ri (eL 1 eI) hx4,rr,ri eI hx5,rr,trivial⟩<|gO 8<|dq 186 (fun h20=>gO 4<|dqn 190 (fun h21=>gO 4<|dk 194 (congrArg not (tq h20))<|gO 27<|kw 166 (congrArg (V.int .i64) (wrap_s hlt5 (by first|exact ok_p|exact ok_l|omega|(have q:=many18_le (by assumption);omega)|exact of_ok ok_p (by assumption) (List.mem_of_getElem? (by assumption))|exact okFs.get ok_l (by assumption)|exact split_ok ok_l (by assumption) (List.mem_of_getElem? (by assumption))|exact(Rule.ok.cond (Prog_ruleI ok_p (by assumption)) (by assumption)).2.1|(have q1:=split_len p l;have q2:=which_len p;omega)|(have q1:=ok_l.1;omega)|(have q1:=(Prog_ruleI ok_p (by assumption)).2.2.1.1;omega)|exact⟨Nat.zero_le _,fun _ h=>absurd h List.not_mem_nil⟩|exact Nat.zero_le _)))<|gO 2<|nx (ih5 ())) (fun h21=>gO 40<|en)) (fun h20=>gO 8<|dk 194 (congrArg not (fq h20))<|gO 3<|dp 197 (fun h22=>gO 33<|en) (fun h22=>gO 3<|kw 200 (len_map eAtom ((alphaOf p).1))<|gO 3<|dp 203 (fun h23=>gO 27<|en) (fun h23=>gO 2<|kw 205 (toNat_v (n:=x11) (by first|exact ok_p|exact ok_l|omega|(have q:=many18_le (by assumption);omega)|exact of_ok ok_p (by assumption) (List.mem_of_getElem? (by assumption))|exact okFs.get ok_l (by assumption)|exact split_ok ok_l (by assumption) (List.mem_of_getElem? (by assumption))|exact(Rule.ok.cond (Prog_ruleI ok_p (by assumption)) (by assumption)).2.1|(have q1:=split_len p l;have q2:=which_len p;omega)|(have q1:=ok_l.1;omega)|(have q1:=(Prog_ruleI ok_p (by assumption)).2.2.1.1;omega)|exact⟨Nat.zero_le _,fun _ h=>absurd h List.not_mem_nil⟩|exact Nat.zero_le _))<|ia (en:=eAtom) (by first|exact ok_p|exact ok_l|omega|(have q:=many18_le (by assumption);omega)|exact of_ok ok_p (by assumption) (List.mem_of_getElem? (by assumption))|exact okFs.get ok_l (by assumption)|exact split_ok ok_l (by assumption) (List.mem_of_getElem? (by assumption))|exact(Rule.ok.cond (Prog_ruleI ok_p (by assumption)) (by assumption)).2.1|(have q1:=split_len p l;have q2:=which_len p;omega)|(have q1:=ok_l.1;omega)|(have q1:=(Prog_ruleI ok_p (by assumption)).2.2.1.1;omega)|exact⟨Nat.zero_le _,fun _ h=>absurd h List.not_mem_nil⟩|exact Nat.zero_le _) fun y14 h24=>gO 3<|cl (alphaAlike_says y14 y13.atom (by first|exact ok_p|exact ok_l|omega|(have q:=many18_le (by assumption);omega)|exact of_ok ok_p (by assumption) (List.mem_of_getElem? (by assumption))|exact okFs.get ok_l (by assumption)|exact split_ok ok_l (by assumption) (List.mem_of_getElem? (by assumption))|exact(Rule.ok.cond (Prog_ruleI ok_p (by assumption)) (by assumption)).2.1|(have q1:=split_len p l;have q2:=which_len p;omega)|(have q1:=ok_l.1;omega)|(have q1:=(Prog_ruleI ok_p (by assumption)).2.2.1.1;omega)|exact⟨Nat.zero_le _,fun _ h=>absurd h List.not_mem_nil⟩|exact Nat.zero_le _) (by first|exact ok_p|exact ok_l|omega|(have q:=many18_le (by assumption);omega)|exact of_ok ok_p (by assumption) (List.mem_of_getElem? (by assumption))|exact okFs.get ok_l (by assumption)|exact split_ok ok_l (by assumption) (List.mem_of_getElem? (by assumption))|exact(Rule.ok.cond (Prog_ruleI ok_p (by assumption)) (by assumption)).2.1|(have q1:=split_len p l;have q2:=which_len p;omega)|(have q1:=ok_l.1;omega)|(have q1:=(Prog_ruleI ok_p (by assumption)).2.2.1.1;omega)|exact⟨Nat.zero_le _,fun _ h=>absurd h List.not_mem_nil⟩|exact Nat.zero_le _))<|gO 5<|dcn 214 (fun h25=>gO 6<|kw 166 (congrArg (V.int .i64) (wrap_s hlt5 (by first|exact ok_p|exact ok_l|omega|(have q:=many18_le (by assumption);omega)|exact of_ok ok_p (by assumption) (List.mem_of_getElem? (by assumption))|exact okFs.get ok_l (by assumption)|exact split_ok ok_l (by assumption) (List.mem_of_getElem? (by assumption))|exact(Rule.ok.cond (Prog_ruleI ok_p (by assumption)) (by assumption)).2.1|(have q1:=split_len p l;have q2:=which_len p;omega)|(have q1:=ok_l.1;omega)|(have q1:=(Prog_ruleI ok_p (by assumption)).2.2.1.1;omega)|exact⟨Nat.zero_le _,fun _ h=>absurd h List.not_mem_nil⟩|exact Nat.zero_le _)))<|gO 2<|nx (ih5 ())) (fun h25=>gO 15<|en))))) (fun i5 _ hd5=>have hge5:=drop_ge hd5;gO 6<|iak (eL 1 eI) hx4<|gO 2<|kw 163 (len_map eI x8)<|gO 2<|dk 164 (lt_false hge5)<|gO 9<|kw 144 (congrArg (V.int .i64) (wrap_s hlt4 (by first|exact ok_p|exact ok_l|omega|(have q:=many18_le (by assumption);omega)|exact of_ok ok_p (by assumption) (List.mem_of_getElem? (by assumption))|exact okFs.get ok_l (by assumption)|exact split_ok ok_l (by assumption) (List.mem_of_getElem? (by assumption))|exact(Rule.ok.cond (Prog_ruleI ok_p (by assumption)) (by assumption)).2.1|(have q1:=split_len p l;have q2:=which_len p;omega)|(have q1:=ok_l.1;omega)|(have q1:=(Prog_ruleI ok_p (by assumption)).2.2.1.1;omega)|exact⟨Nat.zero_le _,fun _ h=>absurd h List.not_mem_nil⟩|exact Nat.zero_le _)))<|gO 2<|nx (ih4 ()))) (fun h18=>gO 12<|en)) (fun i4 _ hd4=>have hge4:=drop_ge hd4;gO 6<|kw 141 (len_map (eL 1 eI) ((alphaWhich p).1))<|gO 2<|dk 142 (lt_false hge4)<|gO 7<|cl (lawWakes19_says )<|gO 3<|en))) (fun h7=>gO 7<|en)) (fun h6=>gO 15<|en)) (fun h5=>gO 5<|kw 54 (len_map (eL 2 eFact) ((alphaSplit p l).1))<|gO 2<|dq 56 (fun h26=>cl (lawWakes19_says )<|gO 5<|en) (fun h26=>gO 6<|en))) (fun h4=>gO 9<|kw 54 (len_map (eL 2 eFact) ((alphaSplit p l).1))<|gO 2<|dq 56 (fun h27=>cl (lawWakes19_says )<|gO 5<|en) (fun h27=>gO 6<|en))) (fun h3=>gO 13<|kw 54 (len_map (eL 2 eFact) ((alphaSplit p l).1))<|gO 2<|dq 56 (fun h28=>cl (lawWakes19_says )<|gO 5<|en) (fun h28=>gO 6<|en))))
end Go.Vm
/-
  The order of facts; sets; AlphaSplit: whatever program and facts come in.
-/
namespace Go.Vm
open Go Go.Sp
theorem cmpInt_eq (x y:Int):cmpInt x y=if x<y then -1 else if y<x then 1 else 0:=by
 unfold cmpInt isNaN
 rw[BEq.rfl,BEq.rfl]
 show(bif decide (x<y) then -1 else bif decide (x>y) then 1 else 0)=_
 by_cases h1:x<y
 ·simp[h1]
 ·by_cases h2:x>y<;>simp[h1,h2]
theorem cmpInt_cmp:Cmp cmpInt:=⟨fun a b=>by rw[cmpInt_eq,cmpInt_eq];split<;>split<;>(try split)<;>omega,fun a b c h1 h2=>by
 rw[cmpInt_eq] at h1 h2 ⊢
 split at h1<;>split at h2<;>(try split at h1)<;>(try split at h2)<;>split<;>(try split)<;>omega⟩
theorem cmpInt_zero {x y:Int} (h:cmpInt x y=0):x=y:=by
 rw[cmpInt_eq] at h
 split at h
 ·omega
 ·split at h<;>omega
def orC {α:Type} (c d:α→α→Int):α→α→Int:=fun x y=>if c x y=0 then d x y else c x y
theorem Cmp.zero {α:Type} {c:α→α→Int} (h:Cmp c) {x y z:α} (h1:c x y=0) (h2:c y z=0):c x z=0:=by
 have a:=h.trans x y z (by omega) (by omega)
 have s1:=h.swap x y
 have s2:=h.swap y z
 have b:=h.trans z y x (by omega) (by omega)
 have s3:=h.swap x z
 omega
theorem Cmp.lt {α:Type} {c:α→α→Int} (h:Cmp c) {x y z:α} (h1:c x y<0) (h2:c y z≤0):c x z<0:=by
 have a:=h.trans x y z (by omega) h2
 rcases Int.lt_or_eq_of_le a with h3|h3
 ·exact h3
 ·have s:=h.swap x z
  have b:=h.trans y z x h2 (by omega)
  have s1:=h.swap x y
  omega
theorem Cmp.lt' {α:Type} {c:α→α→Int} (h:Cmp c) {x y z:α} (h1:c x y≤0) (h2:c y z<0):c x z<0:=by
 have a:=h.trans x y z h1 (by omega)
 rcases Int.lt_or_eq_of_le a with h3|h3
 ·exact h3
 ·have s:=h.swap x z
  have b:=h.trans z x y (by omega) h1
  have s1:=h.swap y z
  omega
theorem Cmp.or {α:Type} {c d:α→α→Int} (hc:Cmp c) (hd:Cmp d):Cmp (orC c d):=⟨fun x y=>by
 unfold orC
 have s:=hc.swap x y
 by_cases h:c x y=0
 ·rw[if_pos h,if_pos (by omega)];exact hd.swap x y
 ·rw[if_neg h,if_neg (by omega)];exact s,fun x y z h1 h2=>by
 unfold orC at h1 h2 ⊢
 by_cases a:c x y=0
 ·rw[if_pos a] at h1
  by_cases b:c y z=0
  ·rw[if_pos b] at h2
   rw[if_pos (hc.zero a b)];exact hd.trans x y z h1 h2
  ·rw[if_neg b] at h2
   have:=hc.lt' (x:=x) (y:=y) (z:=z) (by omega) (by omega)
   rw[if_neg (by omega)];omega
 ·rw[if_neg a] at h1
  have h2':c y z≤0:=by
   by_cases b:c y z=0
   ·omega
   ·rw[if_neg b] at h2;exact h2
  have:=hc.lt (x:=x) (y:=y) (z:=z) (by omega) h2'
  rw[if_neg (by omega)];omega⟩
theorem orC_zero {α:Type} {c d:α→α→Int} {x y:α} (h:orC c d x y=0):c x y=0∧d x y=0:=by
 unfold orC at h
 by_cases a:c x y=0
 ·rw[if_pos a] at h;exact⟨a,h⟩
 ·rw[if_neg a] at h;exact absurd h a
theorem cmpOr3 (a b c:Int):cmpOr [a,b,c]=if a=0 then(if b=0 then c else b) else a:=by
 unfold cmpOr
 simp only[cmpOr_l1]
 by_cases h1:a=0
 ·subst h1
  by_cases h2:b=0
  ·subst h2
   by_cases h3:c=0
   ·subst h3;rfl
   ·have:(c == 0)=false:=by simpa using h3
    rw[this];rfl
  ·have:(b == 0)=false:=by simpa using h2
   rw[this];simp[h2]
 ·have:(a == 0)=false:=by simpa using h1
  rw[this];simp[h1]
theorem valCompare_eq:valCompare=orC (fun x y=>cmpInt x.kind y.kind) (orC (fun x y=>cmpInt x.n y.n) (fun x y=>Lib.compareBytes x.s y.s)):=by
 funext x y
 unfold valCompare orC
 rw[cmpOr3];rfl
theorem valCompare_cmp:Cmp valCompare:=by
 rw[valCompare_eq]
 exact(cmpInt_cmp.of (fun x:Sp.Val=>x.kind)).or ((cmpInt_cmp.of (fun x:Sp.Val=>x.n)).or (Cmp.txt.of (fun x:Sp.Val=>x.s)))
theorem valCompare_zero {x y:Sp.Val} (h:valCompare x y=0):x=y:=by
 rw[valCompare_eq] at h
 obtain⟨h1,h2⟩:=orC_zero h
 obtain⟨h2,h3⟩:=orC_zero h2
 obtain⟨a,b,c⟩:=x
 obtain⟨a',b',c'⟩:=y
 have e1:=cmpInt_zero h1
 have e2:=cmpInt_zero h2
 have e3:=cb_eq _ _ h3
 simp only at e1 e2 e3
 rw[e1,e2,e3]
def lexL {α:Type} (p:α→α→Int):List α→List α→Int
 | [],[]=>0
 | [],_::_=>-1
 |_::_,[]=>1
 |x::xs,y::ys=>if p x y=0 then lexL p xs ys else p x y
theorem lexL_swap {α:Type} {p:α→α→Int} (h:Cmp p):∀ a b:List α,lexL p b a = - lexL p a b
 | [],[]=>rfl
 | [],_::_=>rfl
 |_::_,[]=>rfl
 |x::xs,y::ys=>by
  rw[lexL,lexL]
  have s:=h.swap x y
  by_cases e:p x y=0
  ·rw[if_pos e,if_pos (by omega)];exact lexL_swap h xs ys
  ·rw[if_neg e,if_neg (by omega)];exact s
theorem lexL_trans {α:Type} {p:α→α→Int} (h:Cmp p):∀ a b c:List α,lexL p a b≤0→lexL p b c≤0→lexL p a c≤0
 | [],b,[],_,_=>by simp[lexL]
 | [],b,_::_,_,_=>by simp[lexL]
 |_::_,[],c,h1,_=>by simp[lexL] at h1
 |_::_,_::_,[],_,h2=>by simp[lexL] at h2
 |x::xs,y::ys,z::zs,h1,h2=>by
  rw[lexL] at h1 h2 ⊢
  by_cases a:p x y=0
  ·rw[if_pos a] at h1
   by_cases b:p y z=0
   ·rw[if_pos b] at h2
    rw[if_pos (h.zero a b)];exact lexL_trans h xs ys zs h1 h2
   ·rw[if_neg b] at h2
    have:=h.lt' (x:=x) (y:=y) (z:=z) (by omega) (by omega)
    rw[if_neg (by omega)];omega
  ·rw[if_neg a] at h1
   have h2':p y z≤0:=by
    by_cases b:p y z=0
    ·omega
    ·rw[if_neg b] at h2;exact h2
   have:=h.lt (x:=x) (y:=y) (z:=z) (by omega) h2'
   rw[if_neg (by omega)];omega
theorem lexL_zero {α:Type} {p:α→α→Int} (h:∀ x y,p x y=0→x=y):∀ {a b:List α},lexL p a b=0→a=b
 | [],[],_=>rfl
 | [],_::_,e=>by simp[lexL] at e
 |_::_,[],e=>by simp[lexL] at e
 |x::xs,y::ys,e=>by
  rw[lexL] at e
  by_cases q:p x y=0
  ·rw[if_pos q] at e;rw[h x y q,lexL_zero h e]
  ·rw[if_neg q] at e;exact absurd e q
theorem cmpVals_l1_eq (s t:List Sp.Val) (p:Sp.Val→Sp.Val→Int):∀ (xs:List Sp.Val) (i:Nat),s.length=i+xs.length→i≤t.length→cmpVals_l1 s t p i xs ()=lexL p xs (t.drop i)
 | [],i,hs,ht=>by
  rw[cmpVals_l1]
  simp only[List.length_nil,Nat.add_zero] at hs
  by_cases h:i<t.length
  ·rw[List.drop_eq_getElem_cons h,lexL,decide_eq_true (by omega)];rfl
  ·rw[List.drop_eq_nil_of_le (by omega),lexL,decide_eq_false (by omega)];rfl
 |x::xs,i,hs,ht=>by
  rw[cmpVals_l1]
  simp only[List.length_cons] at hs
  by_cases h:i<t.length
  ·have hg:t[i]? = some t[i]:=List.getElem?_eq_getElem h
   rw[decide_eq_false (by omega),cond_false,hg]
   simp only[onS]
   rw[List.drop_eq_getElem_cons h,lexL,cmpVals_l1_eq s t p xs (i+1) (by omega) (by omega)]
   by_cases e:p x t[i]=0
   ·rw[if_pos e]
    have:(p x t[i] == 0)=true:=by simpa using e
    rw[this];rfl
   ·rw[if_neg e]
    have:(p x t[i] == 0)=false:=by simpa using e
    rw[this];rfl
  ·rw[decide_eq_true (by omega),cond_true,List.drop_eq_nil_of_le (by omega),lexL]
theorem factCompare_eq:factCompare=orC (fun x y=>Lib.compareBytes x.name y.name) (orC (fun x y=>cmpInt (x.args.length:Int) (y.args.length:Int)) (fun x y=>lexL valCompare x.args y.args)):=by
 funext x y
 unfold factCompare orC
 rw[cmpOr3]
 have:cmpVals x.args y.args (fun x x1=>valCompare x x1)=lexL valCompare x.args y.args:=cmpVals_l1_eq x.args y.args _ x.args 0 (by simp) (Nat.zero_le _)
 rw[this];rfl
theorem factCompare_cmp:Cmp factCompare:=by
 rw[factCompare_eq]
 exact(Cmp.txt.of (fun x:Sp.Fact=>x.name)).or ((cmpInt_cmp.of (fun x:Sp.Fact=>(x.args.length:Int))).or ⟨fun _ _=>lexL_swap valCompare_cmp _ _,fun _ _ _=>lexL_trans valCompare_cmp _ _ _⟩)
theorem factCompare_zero {x y:Sp.Fact} (h:factCompare x y=0):x=y:=by
 rw[factCompare_eq] at h
 obtain⟨h1,h2⟩:=orC_zero h
 obtain⟨_,h3⟩:=orC_zero h2
 obtain⟨a,b⟩:=x
 obtain⟨a',b'⟩:=y
 have e1:=cb_eq _ _ h1
 have e2:=lexL_zero (fun _ _=>valCompare_zero) h3
 simp only at e1 e2
 rw[e1,e2]
theorem factCompare_self (x:Sp.Fact):factCompare x x=0:=by
 have:=factCompare_cmp.swap x x
 omega
theorem setsHas_iff (l:List Sp.Fact) (f:Sp.Fact):setsHas l f=true↔f∈l:=by
 unfold setsHas
 have:containsFact l (fun x=>setsHas1 x f)=l.any (fun x=>setsHas1 x f):=any_of (f:=fun p i xs=>indexFact_l1 l p i xs ()) (fun _ _=>rfl) (fun _ _ _ _=>rfl) _ l 0
 rw[this,List.any_eq_true]
 unfold setsHas1
 constructor
 ·rintro ⟨x,hx,h⟩
  have:factCompare x f=0:=by simpa using h
  rw[← factCompare_zero this];exact hx
 ·intro h
  exact⟨f,h,by rw[factCompare_self];rfl⟩
def RiseF (l:List Sp.Fact):Prop:=(∀ f∈l,factCheck f=0)∧l.Pairwise (fun a b=>factCompare a b<0)
theorem setsCheck_l1_eq (l:List Sp.Fact):∀ (xs p:List Sp.Fact),l=p++xs→(setsCheck_l1 l p.length xs ()=0↔(∀ x∈xs,factCheck x=0)∧((p.getLast?.toList++xs).Pairwise (fun x y=>factCompare x y<0)))
 | [],p,_=>by
  rw[setsCheck_l1]
  simp only[List.append_nil,true_iff]
  refine⟨fun x hx=>absurd hx List.not_mem_nil,?_⟩
  cases p.getLast? with
  |none=>exact List.Pairwise.nil
  |some z=>exact List.pairwise_singleton ..
 |x::xs,p,h=>by
  rw[setsCheck_l1]
  have ih:=setsCheck_l1_eq l xs (p ++ [x]) (by rw[h];simp)
  rw[List.length_append,List.length_singleton,List.getLast?_append] at ih
  have e1:([x].getLast?.or p.getLast?)=some x:=rfl
  rw[e1] at ih
  have e2:(some x).toList++xs=x::xs:=rfl
  rw[e2] at ih
  have hw:setsWrong x=false↔factCheck x=0:=by unfold setsWrong;simp
  cases hr:setsWrong x with
  |true=>
   rw[cond_true]
   constructor
   ·intro h;cases h
   ·rintro ⟨h,_⟩
    have:=hw.2 (h x List.mem_cons_self)
    rw[hr] at this;cases this
  |false=>
   rw[cond_false]
   have hr':=hw.1 hr
   have hall:(∀ y∈x::xs,factCheck y=0)↔∀ y∈xs,factCheck y=0:=⟨fun h y hy=>h y (List.mem_cons_of_mem _ hy),fun h y hy=>(List.mem_cons.1 hy).elim (fun e=>e▸hr') (h y)⟩
   by_cases hp:p = []
   ·subst hp
    have:decide (((([]:List Sp.Fact).length:Nat):Int)>0)=false:=by simp
    rw[this,cond_false,ih,hall];rfl
   ·have hpl:0<p.length:=List.length_pos_iff.2 hp
    have:decide (((p.length:Nat):Int)>0)=true:=decide_eq_true (by omega)
    rw[this,cond_true]
    obtain⟨z,hz⟩:∃ z,p.getLast? = some z:=⟨_,List.getLast?_eq_some_getLast hp⟩
    have hg:l[p.length-1]? = some z:=by
     rw[h,List.getElem?_append_left (by omega),← List.getLast?_eq_getElem?];exact hz
    rw[hg]
    simp only[onS]
    rw[hz]
    have e3:(some z).toList++x::xs=z::x::xs:=rfl
    rw[e3]
    by_cases hc:factCompare z x<0
    ·rw[decide_eq_false (by omega),cond_false,ih,hall]
     refine and_congr_right fun _=>⟨fun hq=>List.pairwise_cons.2 ⟨fun y hy=>?_,hq⟩,fun hq=>(List.pairwise_cons.1 hq).2⟩
     rcases List.mem_cons.1 hy with rfl|hy
     ·exact hc
     ·exact factCompare_cmp.lt hc (by have:=(List.pairwise_cons.1 hq).1 y hy;omega)
    ·rw[decide_eq_true (by omega),cond_true]
     constructor
     ·intro h;cases h
     ·rintro ⟨_,hq⟩;exact absurd ((List.pairwise_cons.1 hq).1 x List.mem_cons_self) hc
theorem setsCheck_iff (l:List Sp.Fact):setsCheck l=0↔RiseF l:=setsCheck_l1_eq l l [] rfl
theorem riseF_filter {l:List Sp.Fact} (h:RiseF l) (q:Sp.Fact→Bool):RiseF (l.filter q):=⟨fun f hf=>h.1 f (List.mem_filter.1 hf).1,h.2.sublist List.filter_sublist⟩
section
variable {p:Sp.Prog} {l:List Sp.Fact} (hs:safeCheck p=0) (hc:setsCheck l=0)
include hs hc
omit hc in
theorem split_l3 (i1:Nat) (x1:List Sp.Fact) (xs2:List (List Sp.Fact)) (a:Int) (i2:Nat) (rec1:Unit→Bool) {y:Sp.Atom} (hy:(alphaPlan p).1[i1]? = some y) (hrec:rec1 ()=true):∀ (fuel k:Nat),i1<k+fuel→k≤i1→lawAlphaSplit_l3 p l i1 x1 xs2 a i2 rec1 fuel (k:Int)=true
 |0,k,h1,h2=>by omega
 |fuel+1,k,h1,h2=>by
  rw[lawAlphaSplit_l3]
  by_cases h:(k:Int)<(i1:Int)
  ·have hlt:=(List.getElem?_eq_some_iff.1 hy).1
   obtain⟨z,hz⟩:∃ z,(alphaPlan p).1[k]? = some z:=⟨_,List.getElem?_eq_getElem (by omega)⟩
   have e:((k:Nat):Int).toNat=k:=rfl
   rw[decide_eq_true h,cond_true,of_eq hs]
   simp only[]
   rw[hy,e,hz]
   simp only[onS]
   have hu:alphaAlike z y=false:=by
    have:=(plan_all hs).1.un
    rw[List.pairwise_iff_getElem] at this
    obtain⟨b1,b2⟩:=List.getElem?_eq_some_iff.1 hz
    obtain⟨c1,c2⟩:=List.getElem?_eq_some_iff.1 hy
    have:=this k i1 b1 c1 (by omega)
    rw[b2,c2] at this
    exact this
   rw[alike_comm y z,hu,cond_false]
   have e9:(((k+1:Nat)):Int)=(k:Int)+1:=rfl
   rw[← e9]
   exact split_l3 i1 x1 xs2 a i2 rec1 hy hrec fuel (k+1) (by omega) (by omega)
  ·rw[decide_eq_false h,cond_false];exact hrec
theorem split_law2 (i1:Nat) (xs2:List (List Sp.Fact)) (rec1:Unit→Bool) {y:Sp.Atom} (hy:(alphaPlan p).1[i1]? = some y) (hrec:rec1 ()=true):∀ (xs:List Sp.Fact) (i:Nat) (n:Int),(∀ f∈xs,f∈l)→n+((xs.filter (fun f=>alphaIn y f)).length:Int)=((l.filter (fun f=>alphaIn y f)).length:Int) →
  lawAlphaSplit_l2 p l i1 (l.filter (fun f=>alphaIn y f)) xs2 rec1 i xs n=true
 | [],i,n,_,hn=>by
  rw[lawAlphaSplit_l2]
  simp only[List.filter_nil,List.length_nil] at hn
  have e:(n == ((l.filter (fun f=>alphaIn y f)).length:Int))=true:=by simpa using (by omega)
  rw[e,cond_true,(setsCheck_iff _).2 (riseF_filter ((setsCheck_iff l).1 hc) _)]
  exact split_l3 hs i1 _ xs2 n i rec1 hy hrec (i1+1) 0 (by omega) (Nat.zero_le _)
 |f::xs,i,n,hm,hn=>by
  rw[lawAlphaSplit_l2,of_eq hs]
  simp only[]
  rw[hy]
  simp only[onS]
  have hf:f∈l:=hm f List.mem_cons_self
  have hm':∀ g∈xs,g∈l:=fun g hg=>hm g (List.mem_cons_of_mem _ hg)
  have hb:(matchOne y f []).2=setsHas (l.filter (fun f=>alphaIn y f)) f:=by
   rw[Bool.eq_iff_iff,setsHas_iff,List.mem_filter]
   exact⟨fun h=>⟨hf,h⟩,fun h=>h.2⟩
  rw[← hb,BEq.rfl,cond_true]
  rw[List.filter_cons] at hn
  have e0:alphaIn y f=(matchOne y f []).2:=rfl
  cases hv:(matchOne y f []).2 with
  |true=>
   rw[cond_true]
   rw[e0,hv] at hn
   simp only[if_true,List.length_cons] at hn
   exact split_law2 i1 xs2 rec1 hy hrec xs (i+1) (n+1) hm' (by omega)
  |false=>
   rw[cond_false]
   rw[e0,hv] at hn
   exact split_law2 i1 xs2 rec1 hy hrec xs (i+1) n hm' hn
omit hc in
theorem split_l5 (i1 i4:Nat) (x8:List Int) (xs9:List (List Int)) (r:Sp.Rule) (rec4:Unit→Bool) (hrec:rec4 ()=true):∀ (ws:List Int) (i:Nat),x8.drop i=ws→x8.length=r.conds.length→(∀ (k:Nat) (c:Sp.Cond) (w:Int),r.conds[k]? = some c→x8[k]? = some w→WOk (alphaPlan p).1 c w)→lawAlphaSplit_l5 p l i1 i4 x8 xs9 r rec4 i ws ()=true
 | [],i,_,_,_=>by rw[lawAlphaSplit_l5];exact hrec
 |w::ws,i,hd,hl,hw=>by
  have hlt:=drop_lt hd
  have hx:=drop_get hd
  have hd':x8.drop (i+1)=ws:=by rw[← List.drop_drop,hd];rfl
  obtain⟨c,hcc⟩:∃ c,r.conds[i]? = some c:=⟨_,List.getElem?_eq_getElem (by omega)⟩
  rw[lawAlphaSplit_l5,hcc]
  simp only[onS]
  have ih:=split_l5 i1 i4 x8 xs9 r rec4 hrec ws (i+1) hd' hl hw
  rcases hw i c w hcc hx with⟨h1,h2⟩|⟨h1,j,a,h2,h3,h4⟩
  ·have e:(c.kind == 3)=true:=by simpa using h1
   rw[e,h2];exact ih
  ·have e:(c.kind == 3)=false:=by simpa using h1
   have hj:=(List.getElem?_eq_some_iff.1 h3).1
   have e2:((j:Nat):Int).toNat=j:=rfl
   rw[e,cond_false,h2,decide_eq_false (by omega),cond_false,of_eq hs]
   simp only[]
   rw[decide_eq_false (by omega),cond_false,e2,h3]
   simp only[]
   rw[h4];exact ih
omit hc in
theorem split_l4 (i1:Nat):∀ (xs:List (List Int)) (i:Nat),(alphaPlan p).2.drop i=xs→lawAlphaSplit_l4 p l i1 i xs ()=true
 | [],i,_=>rfl
 |x::xs,i,hd=>by
  have hlt:=drop_lt hd
  have hx:=drop_get hd
  have hd':(alphaPlan p).2.drop (i+1)=xs:=by rw[← List.drop_drop,hd];rfl
  obtain⟨_,_,q3,q4⟩:=plan_all hs
  obtain⟨r,hr⟩:∃ r,p.rules[i]? = some r:=⟨_,List.getElem?_eq_getElem (by omega)⟩
  obtain⟨h1,h2⟩:=q4 i r x hr hx
  rw[lawAlphaSplit_l4,hr]
  simp only[onS]
  rw[h1,BEq.rfl,cond_true]
  exact split_l5 hs i1 i x xs r _ (split_l4 i1 xs (i+1) hd') x 0 rfl h1 h2
theorem split_law1:∀ (ys:List Sp.Atom) (i:Nat),(alphaPlan p).1.drop i=ys→lawAlphaSplit_l1 p l i (ys.map (fun a=>l.filter (fun f=>alphaIn a f))) ()=true
 | [],i,_=>by
  rw[List.map_nil,lawAlphaSplit_l1,which_eq hs]
  exact split_l4 hs i _ 0 rfl
 |y::ys,i,hd=>by
  have hy:=drop_get hd
  have hd':(alphaPlan p).1.drop (i+1)=ys:=by rw[← List.drop_drop,hd];rfl
  rw[List.map_cons,lawAlphaSplit_l1]
  exact split_law2 hs hc i _ _ hy (split_law1 ys (i+1) hd') l 0 0 (fun f hf=>hf) (by omega)
end
theorem alphaSplit_law (p:Sp.Prog) (l:List Sp.Fact):lawAlphaSplit p l=true:=by
 unfold lawAlphaSplit
 cases heavyProg p with
 |true=>rfl
 |false=>
 cases many18 l with
 |true=>rfl
 |false=>
 rw[cond_false,cond_false]
 by_cases h:safeCheck p=0∧setsCheck l=0
 ·obtain⟨hs,hc⟩:=h
  obtain⟨_,_,q3,_⟩:=plan_all hs
  rw[split_eq hs hc,of_eq hs,which_eq hs]
  simp only[BEq.rfl,cond_true,List.length_map,q3]
  exact split_law1 hs hc _ 0 rfl
 ·obtain⟨h1,h2⟩:=split_none h
  have e2:((alphaSplit p l).2 == 0)=false:=by simpa using h2
  rw[h1,e2]
  cases (alphaOf p).2 == 0 with
  |false=>rfl
  |true=>cases (alphaWhich p).2 == 0<;>rfl
theorem alphaSplit_run (x0 x1:V) (h0:HasV shProg x0) (h1:HasV (.sl 2 shFact) x1):∃ wd,TX.call 11 [x0,x1] []=some (.bool true,[],wd):=by
 obtain⟨p,rfl,okp⟩:=has_prog h0
 obtain⟨l,rfl,okl⟩:=has_facts h1
 have:=lawAlphaSplit_says p l okp okl []
 rw[alphaSplit_law p l] at this
 exact⟨0,this⟩
end Go.Vm
