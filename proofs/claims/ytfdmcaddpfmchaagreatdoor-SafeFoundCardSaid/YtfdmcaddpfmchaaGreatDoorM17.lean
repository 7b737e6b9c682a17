/-
  A part of a proof: the last text of the claim says what is proved, and under which conditions.
-/
import Derived.Test.YtfdmcaddpfmchaaGreatDoorM14
import Derived.Test.YtfdmcaddpfmchaaGreatDoorM6
import Derived.Test.YtfdmcaddpfmchaaGreatDoorM8
import Derived.Test.YtfdmcaddpfmchaaGreatDoorM15
import Derived.Test.YtfdmcaddpfmchaaGreatDoorM16
import Derived.Test.YtfdmcaddpfmchaaGreatDoorM7
set_option linter.unusedSimpArgs false
set_option linter.unusedVariables false
set_option linter.unnecessarySimpa false
/- What functions of the program answer. Printed by spec2.py. -/
namespace Go.Vm
open Go Go.Sp
set_option maxRecDepth 100000
set_option maxHeartbeats 4000000

def lawSafeFound_l1 (n : (List Sp.Node)) : Nat → Int → Bool
  | 0,_=>default
  | q1 + 1,a1_0=>(bif (decide (a1_0 ≤ 8)) then (bif (a1_0 == 3) then lawSafeFound_l1 n q1 (a1_0 + 1) else (bif (a1_0 == 4) then lawSafeFound_l1 n q1 (a1_0 + 1) else (bif (a1_0 == 8) then lawSafeFound_l1 n q1 (a1_0 + 1) else (bif (refFormula ((keepTwinNodes n) ++ [(⟨a1_0,(⟨([] : Txt),([] : (List Sp.Term))⟩ : Sp.Atom),((n.length : Int) - 1),0⟩ : Sp.Node)])) then (bif (a1_0 == 2) then (bif (safeFound ((keepTwinNodes n) ++ [(⟨a1_0,(⟨([] : Txt),([] : (List Sp.Term))⟩ : Sp.Atom),((n.length : Int) - 1),0⟩ : Sp.Node)]) (((n.length : Int) - 1) + 1)) then false else (bif ((safeTested ((keepTwinNodes n) ++ [(⟨a1_0,(⟨([] : Txt),([] : (List Sp.Term))⟩ : Sp.Atom),((n.length : Int) - 1),0⟩ : Sp.Node)]) (((n.length : Int) - 1) + 1)) == (safeTested n ((n.length : Int) - 1))) then (bif (keepTexts (safeVars ((keepTwinNodes n) ++ [(⟨a1_0,(⟨([] : Txt),([] : (List Sp.Term))⟩ : Sp.Atom),((n.length : Int) - 1),0⟩ : Sp.Node)]) (((n.length : Int) - 1) + 1)) (safeVars n ((n.length : Int) - 1))) then lawSafeFound_l1 n q1 (a1_0 + 1) else false) else false)) else (bif (a1_0 == 5) then (bif ((safeFound ((keepTwinNodes n) ++ [(⟨a1_0,(⟨([] : Txt),([] : (List Sp.Term))⟩ : Sp.Atom),((n.length : Int) - 1),0⟩ : Sp.Node)]) (((n.length : Int) - 1) + 1)) == (safeFound n ((n.length : Int) - 1))) then (bif ((safeTested ((keepTwinNodes n) ++ [(⟨a1_0,(⟨([] : Txt),([] : (List Sp.Term))⟩ : Sp.Atom),((n.length : Int) - 1),0⟩ : Sp.Node)]) (((n.length : Int) - 1) + 1)) == (safeFound n ((n.length : Int) - 1))) then (bif (keepTexts (safeVars ((keepTwinNodes n) ++ [(⟨a1_0,(⟨([] : Txt),([] : (List Sp.Term))⟩ : Sp.Atom),((n.length : Int) - 1),0⟩ : Sp.Node)]) (((n.length : Int) - 1) + 1)) (safeVars n ((n.length : Int) - 1))) then lawSafeFound_l1 n q1 (a1_0 + 1) else false) else false) else false) else (bif (a1_0 == 6) then (bif ((safeFound ((keepTwinNodes n) ++ [(⟨a1_0,(⟨([] : Txt),([] : (List Sp.Term))⟩ : Sp.Atom),((n.length : Int) - 1),0⟩ : Sp.Node)]) (((n.length : Int) - 1) + 1)) == (safeFound n ((n.length : Int) - 1))) then (bif ((safeTested ((keepTwinNodes n) ++ [(⟨a1_0,(⟨([] : Txt),([] : (List Sp.Term))⟩ : Sp.Atom),((n.length : Int) - 1),0⟩ : Sp.Node)]) (((n.length : Int) - 1) + 1)) == (safeFound n ((n.length : Int) - 1))) then (bif (keepTexts (safeVars ((keepTwinNodes n) ++ [(⟨a1_0,(⟨([] : Txt),([] : (List Sp.Term))⟩ : Sp.Atom),((n.length : Int) - 1),0⟩ : Sp.Node)]) (((n.length : Int) - 1) + 1)) (safeVars n ((n.length : Int) - 1))) then lawSafeFound_l1 n q1 (a1_0 + 1) else false) else false) else false) else (bif (a1_0 == 7) then (bif (safeFound ((keepTwinNodes n) ++ [(⟨a1_0,(⟨([] : Txt),([] : (List Sp.Term))⟩ : Sp.Atom),((n.length : Int) - 1),0⟩ : Sp.Node)]) (((n.length : Int) - 1) + 1)) then false else (bif (keepTexts (safeVars ((keepTwinNodes n) ++ [(⟨a1_0,(⟨([] : Txt),([] : (List Sp.Term))⟩ : Sp.Atom),((n.length : Int) - 1),0⟩ : Sp.Node)]) (((n.length : Int) - 1) + 1)) (safeVars n ((n.length : Int) - 1))) then lawSafeFound_l1 n q1 (a1_0 + 1) else false)) else (bif (keepTexts (safeVars ((keepTwinNodes n) ++ [(⟨a1_0,(⟨([] : Txt),([] : (List Sp.Term))⟩ : Sp.Atom),((n.length : Int) - 1),0⟩ : Sp.Node)]) (((n.length : Int) - 1) + 1)) (safeVars n ((n.length : Int) - 1))) then lawSafeFound_l1 n q1 (a1_0 + 1) else false))))) else lawSafeFound_l1 n q1 (a1_0 + 1))))) else (lawWakes))
def lawSafeFound_l2 (n : (List Sp.Node)) : Nat → Int → Bool
  | 0,_=>default
  | q2 + 1,a2_0=>(bif (decide (a2_0 ≤ 8)) then (bif (a2_0 == 3) then lawSafeFound_l2 n q2 (a2_0 + 1) else (bif (a2_0 == 4) then lawSafeFound_l2 n q2 (a2_0 + 1) else (bif (a2_0 == 8) then lawSafeFound_l2 n q2 (a2_0 + 1) else (bif (refFormula ((keepTwinNodes n) ++ [(⟨a2_0,(⟨([] : Txt),([] : (List Sp.Term))⟩ : Sp.Atom),((n.length : Int) - 1),0⟩ : Sp.Node)])) then (bif (a2_0 == 2) then (bif (safeFound ((keepTwinNodes n) ++ [(⟨a2_0,(⟨([] : Txt),([] : (List Sp.Term))⟩ : Sp.Atom),((n.length : Int) - 1),0⟩ : Sp.Node)]) (((n.length : Int) - 1) + 1)) then false else (bif ((safeTested ((keepTwinNodes n) ++ [(⟨a2_0,(⟨([] : Txt),([] : (List Sp.Term))⟩ : Sp.Atom),((n.length : Int) - 1),0⟩ : Sp.Node)]) (((n.length : Int) - 1) + 1)) == (safeTested n ((n.length : Int) - 1))) then (bif (keepTexts (safeVars ((keepTwinNodes n) ++ [(⟨a2_0,(⟨([] : Txt),([] : (List Sp.Term))⟩ : Sp.Atom),((n.length : Int) - 1),0⟩ : Sp.Node)]) (((n.length : Int) - 1) + 1)) (safeVars n ((n.length : Int) - 1))) then lawSafeFound_l2 n q2 (a2_0 + 1) else false) else false)) else (bif (a2_0 == 5) then (bif ((safeFound ((keepTwinNodes n) ++ [(⟨a2_0,(⟨([] : Txt),([] : (List Sp.Term))⟩ : Sp.Atom),((n.length : Int) - 1),0⟩ : Sp.Node)]) (((n.length : Int) - 1) + 1)) == (safeFound n ((n.length : Int) - 1))) then (bif ((safeTested ((keepTwinNodes n) ++ [(⟨a2_0,(⟨([] : Txt),([] : (List Sp.Term))⟩ : Sp.Atom),((n.length : Int) - 1),0⟩ : Sp.Node)]) (((n.length : Int) - 1) + 1)) == (safeFound n ((n.length : Int) - 1))) then (bif (keepTexts (safeVars ((keepTwinNodes n) ++ [(⟨a2_0,(⟨([] : Txt),([] : (List Sp.Term))⟩ : Sp.Atom),((n.length : Int) - 1),0⟩ : Sp.Node)]) (((n.length : Int) - 1) + 1)) (safeVars n ((n.length : Int) - 1))) then lawSafeFound_l2 n q2 (a2_0 + 1) else false) else false) else false) else (bif (a2_0 == 6) then (bif ((safeFound ((keepTwinNodes n) ++ [(⟨a2_0,(⟨([] : Txt),([] : (List Sp.Term))⟩ : Sp.Atom),((n.length : Int) - 1),0⟩ : Sp.Node)]) (((n.length : Int) - 1) + 1)) == (safeFound n ((n.length : Int) - 1))) then (bif ((safeTested ((keepTwinNodes n) ++ [(⟨a2_0,(⟨([] : Txt),([] : (List Sp.Term))⟩ : Sp.Atom),((n.length : Int) - 1),0⟩ : Sp.Node)]) (((n.length : Int) - 1) + 1)) == (safeFound n ((n.length : Int) - 1))) then (bif (keepTexts (safeVars ((keepTwinNodes n) ++ [(⟨a2_0,(⟨([] : Txt),([] : (List Sp.Term))⟩ : Sp.Atom),((n.length : Int) - 1),0⟩ : Sp.Node)]) (((n.length : Int) - 1) + 1)) (safeVars n ((n.length : Int) - 1))) then lawSafeFound_l2 n q2 (a2_0 + 1) else false) else false) else false) else (bif (a2_0 == 7) then (bif (safeFound ((keepTwinNodes n) ++ [(⟨a2_0,(⟨([] : Txt),([] : (List Sp.Term))⟩ : Sp.Atom),((n.length : Int) - 1),0⟩ : Sp.Node)]) (((n.length : Int) - 1) + 1)) then false else (bif (keepTexts (safeVars ((keepTwinNodes n) ++ [(⟨a2_0,(⟨([] : Txt),([] : (List Sp.Term))⟩ : Sp.Atom),((n.length : Int) - 1),0⟩ : Sp.Node)]) (((n.length : Int) - 1) + 1)) (safeVars n ((n.length : Int) - 1))) then lawSafeFound_l2 n q2 (a2_0 + 1) else false)) else (bif (keepTexts (safeVars ((keepTwinNodes n) ++ [(⟨a2_0,(⟨([] : Txt),([] : (List Sp.Term))⟩ : Sp.Atom),((n.length : Int) - 1),0⟩ : Sp.Node)]) (((n.length : Int) - 1) + 1)) (safeVars n ((n.length : Int) - 1))) then lawSafeFound_l2 n q2 (a2_0 + 1) else false))))) else lawSafeFound_l2 n q2 (a2_0 + 1))))) else (lawWakes))
def lawSafeFound (n : (List Sp.Node)) : Bool:=(bif (heavyNodes n) then true else (bif (refFormula n) then (bif (decide ((n.length : Int) ≥ 40)) then true else (bif (safeFound n ((n.length : Int) - 1)) then (bif (safeTested n ((n.length : Int) - 1)) then lawSafeFound_l1 n 8 2 else false) else lawSafeFound_l2 n 8 2)) else true))
theorem lawSafeFound_says (n : (List Sp.Node)) (ok_n : okL n) : SaysT TX 4 [(eL 5 eNode) n] (eB (lawSafeFound n)) :=
  sy (e:=eB) (F:=c4) rfl fun sg=>gO 8<|cl (heavyNodes_says n (by first | assumption | omega | exact ok_n | exact ref_args (by assumption) | (have q:=ref_le (l:=n) (by assumption); omega) | (have q:=ref_le (l:=n) (by assumption); exact okL_top ok_n q.2 (by omega) (by omega)) | exact Nat.le_trans (safeVars_len _ _) (by decide)))<|gO 1<|dc 12 (fun h1=>gO 17<|en) (fun h1=>gO 1<|cl (refFormula_says n (by first | assumption | omega | exact ok_n | exact ref_args (by assumption) | (have q:=ref_le (l:=n) (by assumption); omega) | (have q:=ref_le (l:=n) (by assumption); exact okL_top ok_n q.2 (by omega) (by omega)) | exact Nat.le_trans (safeVars_len _ _) (by decide)))<|gO 3<|dcn 17 (fun h2=>gO 2<|kw 19 (len_map eNode n)<|gO 3<|dp 21 (fun h3=>gO 7<|en) (fun h3=>gO 6<|kw 23 (len_map eNode n)<|gO 1<|kw 24 (congrArg (V.int .i64) (wrap_id (n:=(n.length : Int) - 1) (by first | omega | (have q:=ref_le (l:=n) (by assumption); omega)) (by first | omega | (have q:=ref_le (l:=n) (by assumption); omega))))<|gO 6<|cl (safeFound_says n ((n.length : Int) - 1) (by first | assumption | omega | exact ok_n | exact ref_args (by assumption) | (have q:=ref_le (l:=n) (by assumption); omega) | (have q:=ref_le (l:=n) (by assumption); exact okL_top ok_n q.2 (by omega) (by omega)) | exact Nat.le_trans (safeVars_len _ _) (by decide)))<|gO 2<|cl (safeTested_says n ((n.length : Int) - 1) (by first | assumption | omega | exact ok_n | exact ref_args (by assumption) | (have q:=ref_le (l:=n) (by assumption); omega) | (have q:=ref_le (l:=n) (by assumption); exact okL_top ok_n q.2 (by omega) (by omega)) | exact Nat.le_trans (safeVars_len _ _) (by decide)))<|gO 8<|dc 32 (fun h4=>gO 4<|dcn 35 (fun h5=>gO 8<|lp (A:=Int) (fun a1_0=>2 ≤ a1_0 ∧ a1_0 ≤ 9) (fun a1_0=>(9 - a1_0).toNat) (fun a1_0=>{ vals:=[(.sl .no 5 (n.map eNode)),(.int .i64 ((n.length : Int) - 1)),(.bool (safeFound n ((n.length : Int) - 1))),(.bool (safeTested n ((n.length : Int) - 1))),(.int .i64 a1_0)],fr:=[],sg:=sg,wd:=0 }) (acc0:=2) (fn:=lawSafeFound_l1 n) (q:=8) (by omega) (by omega) (fun q1 a1_0 hi1 hm1 ih1=>have hi1 : 2 ≤ a1_0 ∧ a1_0 ≤ 9:=hi1; have hm1 : (9 - a1_0).toNat < q1 + 1:=hm1; gO 6<|dp 37 (fun h6=>gO 10<|dq 42 (fun h7=>gO 15<|kw 39 (congrArg (V.int .i64) (wrap_id (n:=a1_0 + 1) (by first | omega | (have q:=ref_le (l:=n) (by assumption); omega)) (by first | omega | (have q:=ref_le (l:=n) (by assumption); omega))))<|gO 2<|nx (ih1 (a1_0 + 1) (by first | assumption | omega | exact ok_n | exact ref_args (by assumption) | (have q:=ref_le (l:=n) (by assumption); omega) | (have q:=ref_le (l:=n) (by assumption); exact okL_top ok_n q.2 (by omega) (by omega)) | exact Nat.le_trans (safeVars_len _ _) (by decide)) (by first | assumption | omega | exact ok_n | exact ref_args (by assumption) | (have q:=ref_le (l:=n) (by assumption); omega) | (have q:=ref_le (l:=n) (by assumption); exact okL_top ok_n q.2 (by omega) (by omega)) | exact Nat.le_trans (safeVars_len _ _) (by decide)))) (fun h7=>gO 4<|dq 46 (fun h8=>gO 11<|kw 39 (congrArg (V.int .i64) (wrap_id (n:=a1_0 + 1) (by first | omega | (have q:=ref_le (l:=n) (by assumption); omega)) (by first | omega | (have q:=ref_le (l:=n) (by assumption); omega))))<|gO 2<|nx (ih1 (a1_0 + 1) (by first | assumption | omega | exact ok_n | exact ref_args (by assumption) | (have q:=ref_le (l:=n) (by assumption); omega) | (have q:=ref_le (l:=n) (by assumption); exact okL_top ok_n q.2 (by omega) (by omega)) | exact Nat.le_trans (safeVars_len _ _) (by decide)) (by first | assumption | omega | exact ok_n | exact ref_args (by assumption) | (have q:=ref_le (l:=n) (by assumption); omega) | (have q:=ref_le (l:=n) (by assumption); exact okL_top ok_n q.2 (by omega) (by omega)) | exact Nat.le_trans (safeVars_len _ _) (by decide)))) (fun h8=>gO 4<|dq 49 (fun h9=>gO 7<|kw 39 (congrArg (V.int .i64) (wrap_id (n:=a1_0 + 1) (by first | omega | (have q:=ref_le (l:=n) (by assumption); omega)) (by first | omega | (have q:=ref_le (l:=n) (by assumption); omega))))<|gO 2<|nx (ih1 (a1_0 + 1) (by first | assumption | omega | exact ok_n | exact ref_args (by assumption) | (have q:=ref_le (l:=n) (by assumption); omega) | (have q:=ref_le (l:=n) (by assumption); exact okL_top ok_n q.2 (by omega) (by omega)) | exact Nat.le_trans (safeVars_len _ _) (by decide)) (by first | assumption | omega | exact ok_n | exact ref_args (by assumption) | (have q:=ref_le (l:=n) (by assumption); omega) | (have q:=ref_le (l:=n) (by assumption); exact okL_top ok_n q.2 (by omega) (by omega)) | exact Nat.le_trans (safeVars_len _ _) (by decide)))) (fun h9=>gO 5<|clr ⟨1,Nat.le_refl _,keepTwinNodes_in n (by first | assumption | omega | exact ok_n | exact ref_args (by assumption) | (have q:=ref_le (l:=n) (by assumption); omega) | (have q:=ref_le (l:=n) (by assumption); exact okL_top ok_n q.2 (by omega) (by omega)) | exact Nat.le_trans (safeVars_len _ _) (by decide)) (by first | assumption | omega | exact ok_n | exact ref_args (by assumption) | (have q:=ref_le (l:=n) (by assumption); omega) | (have q:=ref_le (l:=n) (by assumption); exact okL_top ok_n q.2 (by omega) (by omega)) | exact Nat.le_trans (safeVars_len _ _) (by decide))⟩<|gO 4<|ap (en:=eNode) (L:=(keepTwinNodes n)) (M:=[(⟨a1_0,(⟨([] : Txt),([] : (List Sp.Term))⟩ : Sp.Atom),((n.length : Int) - 1),0⟩ : Sp.Node)]) (by (rw [twin_eq]; have q:=ref_le (l:=n) (by assumption); simp only [List.length_append,List.length_cons,List.length_nil]; unfold lim; omega)) (fun _ _=>rfl)<|gO 6<|cl (refFormula_says ((keepTwinNodes n) ++ [(⟨a1_0,(⟨([] : Txt),([] : (List Sp.Term))⟩ : Sp.Atom),((n.length : Int) - 1),0⟩ : Sp.Node)]) (by first | assumption | omega | exact ok_n | exact ref_args (by assumption) | (have q:=ref_le (l:=n) (by assumption); omega) | (have q:=ref_le (l:=n) (by assumption); exact okL_top ok_n q.2 (by omega) (by omega)) | exact Nat.le_trans (safeVars_len _ _) (by decide)))<|gO 2<|dcn 59 (fun h10=>gO 7<|kw 62 (congrArg (V.int .i64) (wrap_id (n:=((n.length : Int) - 1) + 1) (by first | omega | (have q:=ref_le (l:=n) (by assumption); omega)) (by first | omega | (have q:=ref_le (l:=n) (by assumption); omega))))<|cl (safeFound_says ((keepTwinNodes n) ++ [(⟨a1_0,(⟨([] : Txt),([] : (List Sp.Term))⟩ : Sp.Atom),((n.length : Int) - 1),0⟩ : Sp.Node)]) (((n.length : Int) - 1) + 1) (by first | assumption | omega | exact ok_n | exact ref_args (by assumption) | (have q:=ref_le (l:=n) (by assumption); omega) | (have q:=ref_le (l:=n) (by assumption); exact okL_top ok_n q.2 (by omega) (by omega)) | exact Nat.le_trans (safeVars_len _ _) (by decide)))<|gO 3<|kw 66 (congrArg (V.int .i64) (wrap_id (n:=((n.length : Int) - 1) + 1) (by first | omega | (have q:=ref_le (l:=n) (by assumption); omega)) (by first | omega | (have q:=ref_le (l:=n) (by assumption); omega))))<|cl (safeTested_says ((keepTwinNodes n) ++ [(⟨a1_0,(⟨([] : Txt),([] : (List Sp.Term))⟩ : Sp.Atom),((n.length : Int) - 1),0⟩ : Sp.Node)]) (((n.length : Int) - 1) + 1) (by first | assumption | omega | exact ok_n | exact ref_args (by assumption) | (have q:=ref_le (l:=n) (by assumption); omega) | (have q:=ref_le (l:=n) (by assumption); exact okL_top ok_n q.2 (by omega) (by omega)) | exact Nat.le_trans (safeVars_len _ _) (by decide)))<|gO 14<|dq 69 (fun h11=>gO 5<|dc 72 (fun h12=>gO 18<|en) (fun h12=>gO 5<|dcn 76 (fun h13=>gO 8<|kw 93 (congrArg (V.int .i64) (wrap_id (n:=((n.length : Int) - 1) + 1) (by first | omega | (have q:=ref_le (l:=n) (by assumption); omega)) (by first | omega | (have q:=ref_le (l:=n) (by assumption); omega))))<|cl (safeVars_says ((keepTwinNodes n) ++ [(⟨a1_0,(⟨([] : Txt),([] : (List Sp.Term))⟩ : Sp.Atom),((n.length : Int) - 1),0⟩ : Sp.Node)]) (((n.length : Int) - 1) + 1) (by first | assumption | omega | exact ok_n | exact ref_args (by assumption) | (have q:=ref_le (l:=n) (by assumption); omega) | (have q:=ref_le (l:=n) (by assumption); exact okL_top ok_n q.2 (by omega) (by omega)) | exact Nat.le_trans (safeVars_len _ _) (by decide)))<|gO 2<|cl (safeVars_says n ((n.length : Int) - 1) (by first | assumption | omega | exact ok_n | exact ref_args (by assumption) | (have q:=ref_le (l:=n) (by assumption); omega) | (have q:=ref_le (l:=n) (by assumption); exact okL_top ok_n q.2 (by omega) (by omega)) | exact Nat.le_trans (safeVars_len _ _) (by decide)))<|cl (keepTexts_says (safeVars ((keepTwinNodes n) ++ [(⟨a1_0,(⟨([] : Txt),([] : (List Sp.Term))⟩ : Sp.Atom),((n.length : Int) - 1),0⟩ : Sp.Node)]) (((n.length : Int) - 1) + 1)) (safeVars n ((n.length : Int) - 1)) (by first | assumption | omega | exact ok_n | exact ref_args (by assumption) | (have q:=ref_le (l:=n) (by assumption); omega) | (have q:=ref_le (l:=n) (by assumption); exact okL_top ok_n q.2 (by omega) (by omega)) | exact Nat.le_trans (safeVars_len _ _) (by decide)) (by first | assumption | omega | exact ok_n | exact ref_args (by assumption) | (have q:=ref_le (l:=n) (by assumption); omega) | (have q:=ref_le (l:=n) (by assumption); exact okL_top ok_n q.2 (by omega) (by omega)) | exact Nat.le_trans (safeVars_len _ _) (by decide)))<|gO 2<|dcn 99 (fun h14=>gO 6<|kw 39 (congrArg (V.int .i64) (wrap_id (n:=a1_0 + 1) (by first | omega | (have q:=ref_le (l:=n) (by assumption); omega)) (by first | omega | (have q:=ref_le (l:=n) (by assumption); omega))))<|gO 2<|nx (ih1 (a1_0 + 1) (by first | assumption | omega | exact ok_n | exact ref_args (by assumption) | (have q:=ref_le (l:=n) (by assumption); omega) | (have q:=ref_le (l:=n) (by assumption); exact okL_top ok_n q.2 (by omega) (by omega)) | exact Nat.le_trans (safeVars_len _ _) (by decide)) (by first | assumption | omega | exact ok_n | exact ref_args (by assumption) | (have q:=ref_le (l:=n) (by assumption); omega) | (have q:=ref_le (l:=n) (by assumption); exact okL_top ok_n q.2 (by omega) (by omega)) | exact Nat.le_trans (safeVars_len _ _) (by decide)))) (fun h14=>gO 11<|en)) (fun h13=>gO 13<|en))) (fun h11=>gO 7<|dq 77 (fun h15=>gO 9<|dcn 83 (fun h16=>gO 5<|dcn 87 (fun h17=>gO 8<|kw 93 (congrArg (V.int .i64) (wrap_id (n:=((n.length : Int) - 1) + 1) (by first | omega | (have q:=ref_le (l:=n) (by assumption); omega)) (by first | omega | (have q:=ref_le (l:=n) (by assumption); omega))))<|cl (safeVars_says ((keepTwinNodes n) ++ [(⟨a1_0,(⟨([] : Txt),([] : (List Sp.Term))⟩ : Sp.Atom),((n.length : Int) - 1),0⟩ : Sp.Node)]) (((n.length : Int) - 1) + 1) (by first | assumption | omega | exact ok_n | exact ref_args (by assumption) | (have q:=ref_le (l:=n) (by assumption); omega) | (have q:=ref_le (l:=n) (by assumption); exact okL_top ok_n q.2 (by omega) (by omega)) | exact Nat.le_trans (safeVars_len _ _) (by decide)))<|gO 2<|cl (safeVars_says n ((n.length : Int) - 1) (by first | assumption | omega | exact ok_n | exact ref_args (by assumption) | (have q:=ref_le (l:=n) (by assumption); omega) | (have q:=ref_le (l:=n) (by assumption); exact okL_top ok_n q.2 (by omega) (by omega)) | exact Nat.le_trans (safeVars_len _ _) (by decide)))<|cl (keepTexts_says (safeVars ((keepTwinNodes n) ++ [(⟨a1_0,(⟨([] : Txt),([] : (List Sp.Term))⟩ : Sp.Atom),((n.length : Int) - 1),0⟩ : Sp.Node)]) (((n.length : Int) - 1) + 1)) (safeVars n ((n.length : Int) - 1)) (by first | assumption | omega | exact ok_n | exact ref_args (by assumption) | (have q:=ref_le (l:=n) (by assumption); omega) | (have q:=ref_le (l:=n) (by assumption); exact okL_top ok_n q.2 (by omega) (by omega)) | exact Nat.le_trans (safeVars_len _ _) (by decide)) (by first | assumption | omega | exact ok_n | exact ref_args (by assumption) | (have q:=ref_le (l:=n) (by assumption); omega) | (have q:=ref_le (l:=n) (by assumption); exact okL_top ok_n q.2 (by omega) (by omega)) | exact Nat.le_trans (safeVars_len _ _) (by decide)))<|gO 2<|dcn 99 (fun h18=>gO 6<|kw 39 (congrArg (V.int .i64) (wrap_id (n:=a1_0 + 1) (by first | omega | (have q:=ref_le (l:=n) (by assumption); omega)) (by first | omega | (have q:=ref_le (l:=n) (by assumption); omega))))<|gO 2<|nx (ih1 (a1_0 + 1) (by first | assumption | omega | exact ok_n | exact ref_args (by assumption) | (have q:=ref_le (l:=n) (by assumption); omega) | (have q:=ref_le (l:=n) (by assumption); exact okL_top ok_n q.2 (by omega) (by omega)) | exact Nat.le_trans (safeVars_len _ _) (by decide)) (by first | assumption | omega | exact ok_n | exact ref_args (by assumption) | (have q:=ref_le (l:=n) (by assumption); omega) | (have q:=ref_le (l:=n) (by assumption); exact okL_top ok_n q.2 (by omega) (by omega)) | exact Nat.le_trans (safeVars_len _ _) (by decide)))) (fun h18=>gO 11<|en)) (fun h17=>gO 13<|en)) (fun h16=>gO 18<|en)) (fun h15=>gO 5<|dq 77 (fun h19=>gO 7<|dcn 83 (fun h20=>gO 5<|dcn 87 (fun h21=>gO 8<|kw 93 (congrArg (V.int .i64) (wrap_id (n:=((n.length : Int) - 1) + 1) (by first | omega | (have q:=ref_le (l:=n) (by assumption); omega)) (by first | omega | (have q:=ref_le (l:=n) (by assumption); omega))))<|cl (safeVars_says ((keepTwinNodes n) ++ [(⟨a1_0,(⟨([] : Txt),([] : (List Sp.Term))⟩ : Sp.Atom),((n.length : Int) - 1),0⟩ : Sp.Node)]) (((n.length : Int) - 1) + 1) (by first | assumption | omega | exact ok_n | exact ref_args (by assumption) | (have q:=ref_le (l:=n) (by assumption); omega) | (have q:=ref_le (l:=n) (by assumption); exact okL_top ok_n q.2 (by omega) (by omega)) | exact Nat.le_trans (safeVars_len _ _) (by decide)))<|gO 2<|cl (safeVars_says n ((n.length : Int) - 1) (by first | assumption | omega | exact ok_n | exact ref_args (by assumption) | (have q:=ref_le (l:=n) (by assumption); omega) | (have q:=ref_le (l:=n) (by assumption); exact okL_top ok_n q.2 (by omega) (by omega)) | exact Nat.le_trans (safeVars_len _ _) (by decide)))<|cl (keepTexts_says (safeVars ((keepTwinNodes n) ++ [(⟨a1_0,(⟨([] : Txt),([] : (List Sp.Term))⟩ : Sp.Atom),((n.length : Int) - 1),0⟩ : Sp.Node)]) (((n.length : Int) - 1) + 1)) (safeVars n ((n.length : Int) - 1)) (by first | assumption | omega | exact ok_n | exact ref_args (by assumption) | (have q:=ref_le (l:=n) (by assumption); omega) | (have q:=ref_le (l:=n) (by assumption); exact okL_top ok_n q.2 (by omega) (by omega)) | exact Nat.le_trans (safeVars_len _ _) (by decide)) (by first | assumption | omega | exact ok_n | exact ref_args (by assumption) | (have q:=ref_le (l:=n) (by assumption); omega) | (have q:=ref_le (l:=n) (by assumption); exact okL_top ok_n q.2 (by omega) (by omega)) | exact Nat.le_trans (safeVars_len _ _) (by decide)))<|gO 2<|dcn 99 (fun h22=>gO 6<|kw 39 (congrArg (V.int .i64) (wrap_id (n:=a1_0 + 1) (by first | omega | (have q:=ref_le (l:=n) (by assumption); omega)) (by first | omega | (have q:=ref_le (l:=n) (by assumption); omega))))<|gO 2<|nx (ih1 (a1_0 + 1) (by first | assumption | omega | exact ok_n | exact ref_args (by assumption) | (have q:=ref_le (l:=n) (by assumption); omega) | (have q:=ref_le (l:=n) (by assumption); exact okL_top ok_n q.2 (by omega) (by omega)) | exact Nat.le_trans (safeVars_len _ _) (by decide)) (by first | assumption | omega | exact ok_n | exact ref_args (by assumption) | (have q:=ref_le (l:=n) (by assumption); omega) | (have q:=ref_le (l:=n) (by assumption); exact okL_top ok_n q.2 (by omega) (by omega)) | exact Nat.le_trans (safeVars_len _ _) (by decide)))) (fun h22=>gO 11<|en)) (fun h21=>gO 13<|en)) (fun h20=>gO 18<|en)) (fun h19=>gO 6<|dq 88 (fun h23=>gO 5<|dc 90 (fun h24=>gO 13<|en) (fun h24=>gO 8<|kw 93 (congrArg (V.int .i64) (wrap_id (n:=((n.length : Int) - 1) + 1) (by first | omega | (have q:=ref_le (l:=n) (by assumption); omega)) (by first | omega | (have q:=ref_le (l:=n) (by assumption); omega))))<|cl (safeVars_says ((keepTwinNodes n) ++ [(⟨a1_0,(⟨([] : Txt),([] : (List Sp.Term))⟩ : Sp.Atom),((n.length : Int) - 1),0⟩ : Sp.Node)]) (((n.length : Int) - 1) + 1) (by first | assumption | omega | exact ok_n | exact ref_args (by assumption) | (have q:=ref_le (l:=n) (by assumption); omega) | (have q:=ref_le (l:=n) (by assumption); exact okL_top ok_n q.2 (by omega) (by omega)) | exact Nat.le_trans (safeVars_len _ _) (by decide)))<|gO 2<|cl (safeVars_says n ((n.length : Int) - 1) (by first | assumption | omega | exact ok_n | exact ref_args (by assumption) | (have q:=ref_le (l:=n) (by assumption); omega) | (have q:=ref_le (l:=n) (by assumption); exact okL_top ok_n q.2 (by omega) (by omega)) | exact Nat.le_trans (safeVars_len _ _) (by decide)))<|cl (keepTexts_says (safeVars ((keepTwinNodes n) ++ [(⟨a1_0,(⟨([] : Txt),([] : (List Sp.Term))⟩ : Sp.Atom),((n.length : Int) - 1),0⟩ : Sp.Node)]) (((n.length : Int) - 1) + 1)) (safeVars n ((n.length : Int) - 1)) (by first | assumption | omega | exact ok_n | exact ref_args (by assumption) | (have q:=ref_le (l:=n) (by assumption); omega) | (have q:=ref_le (l:=n) (by assumption); exact okL_top ok_n q.2 (by omega) (by omega)) | exact Nat.le_trans (safeVars_len _ _) (by decide)) (by first | assumption | omega | exact ok_n | exact ref_args (by assumption) | (have q:=ref_le (l:=n) (by assumption); omega) | (have q:=ref_le (l:=n) (by assumption); exact okL_top ok_n q.2 (by omega) (by omega)) | exact Nat.le_trans (safeVars_len _ _) (by decide)))<|gO 2<|dcn 99 (fun h25=>gO 6<|kw 39 (congrArg (V.int .i64) (wrap_id (n:=a1_0 + 1) (by first | omega | (have q:=ref_le (l:=n) (by assumption); omega)) (by first | omega | (have q:=ref_le (l:=n) (by assumption); omega))))<|gO 2<|nx (ih1 (a1_0 + 1) (by first | assumption | omega | exact ok_n | exact ref_args (by assumption) | (have q:=ref_le (l:=n) (by assumption); omega) | (have q:=ref_le (l:=n) (by assumption); exact okL_top ok_n q.2 (by omega) (by omega)) | exact Nat.le_trans (safeVars_len _ _) (by decide)) (by first | assumption | omega | exact ok_n | exact ref_args (by assumption) | (have q:=ref_le (l:=n) (by assumption); omega) | (have q:=ref_le (l:=n) (by assumption); exact okL_top ok_n q.2 (by omega) (by omega)) | exact Nat.le_trans (safeVars_len _ _) (by decide)))) (fun h25=>gO 11<|en))) (fun h23=>gO 8<|kw 93 (congrArg (V.int .i64) (wrap_id (n:=((n.length : Int) - 1) + 1) (by first | omega | (have q:=ref_le (l:=n) (by assumption); omega)) (by first | omega | (have q:=ref_le (l:=n) (by assumption); omega))))<|cl (safeVars_says ((keepTwinNodes n) ++ [(⟨a1_0,(⟨([] : Txt),([] : (List Sp.Term))⟩ : Sp.Atom),((n.length : Int) - 1),0⟩ : Sp.Node)]) (((n.length : Int) - 1) + 1) (by first | assumption | omega | exact ok_n | exact ref_args (by assumption) | (have q:=ref_le (l:=n) (by assumption); omega) | (have q:=ref_le (l:=n) (by assumption); exact okL_top ok_n q.2 (by omega) (by omega)) | exact Nat.le_trans (safeVars_len _ _) (by decide)))<|gO 2<|cl (safeVars_says n ((n.length : Int) - 1) (by first | assumption | omega | exact ok_n | exact ref_args (by assumption) | (have q:=ref_le (l:=n) (by assumption); omega) | (have q:=ref_le (l:=n) (by assumption); exact okL_top ok_n q.2 (by omega) (by omega)) | exact Nat.le_trans (safeVars_len _ _) (by decide)))<|cl (keepTexts_says (safeVars ((keepTwinNodes n) ++ [(⟨a1_0,(⟨([] : Txt),([] : (List Sp.Term))⟩ : Sp.Atom),((n.length : Int) - 1),0⟩ : Sp.Node)]) (((n.length : Int) - 1) + 1)) (safeVars n ((n.length : Int) - 1)) (by first | assumption | omega | exact ok_n | exact ref_args (by assumption) | (have q:=ref_le (l:=n) (by assumption); omega) | (have q:=ref_le (l:=n) (by assumption); exact okL_top ok_n q.2 (by omega) (by omega)) | exact Nat.le_trans (safeVars_len _ _) (by decide)) (by first | assumption | omega | exact ok_n | exact ref_args (by assumption) | (have q:=ref_le (l:=n) (by assumption); omega) | (have q:=ref_le (l:=n) (by assumption); exact okL_top ok_n q.2 (by omega) (by omega)) | exact Nat.le_trans (safeVars_len _ _) (by decide)))<|gO 2<|dcn 99 (fun h26=>gO 6<|kw 39 (congrArg (V.int .i64) (wrap_id (n:=a1_0 + 1) (by first | omega | (have q:=ref_le (l:=n) (by assumption); omega)) (by first | omega | (have q:=ref_le (l:=n) (by assumption); omega))))<|gO 2<|nx (ih1 (a1_0 + 1) (by first | assumption | omega | exact ok_n | exact ref_args (by assumption) | (have q:=ref_le (l:=n) (by assumption); omega) | (have q:=ref_le (l:=n) (by assumption); exact okL_top ok_n q.2 (by omega) (by omega)) | exact Nat.le_trans (safeVars_len _ _) (by decide)) (by first | assumption | omega | exact ok_n | exact ref_args (by assumption) | (have q:=ref_le (l:=n) (by assumption); omega) | (have q:=ref_le (l:=n) (by assumption); exact okL_top ok_n q.2 (by omega) (by omega)) | exact Nat.le_trans (safeVars_len _ _) (by decide)))) (fun h26=>gO 11<|en)))))) (fun h10=>gO 7<|kw 39 (congrArg (V.int .i64) (wrap_id (n:=a1_0 + 1) (by first | omega | (have q:=ref_le (l:=n) (by assumption); omega)) (by first | omega | (have q:=ref_le (l:=n) (by assumption); omega))))<|gO 2<|nx (ih1 (a1_0 + 1) (by first | assumption | omega | exact ok_n | exact ref_args (by assumption) | (have q:=ref_le (l:=n) (by assumption); omega) | (have q:=ref_le (l:=n) (by assumption); exact okL_top ok_n q.2 (by omega) (by omega)) | exact Nat.le_trans (safeVars_len _ _) (by decide)) (by first | assumption | omega | exact ok_n | exact ref_args (by assumption) | (have q:=ref_le (l:=n) (by assumption); omega) | (have q:=ref_le (l:=n) (by assumption); exact okL_top ok_n q.2 (by omega) (by omega)) | exact Nat.le_trans (safeVars_len _ _) (by decide)))))))) (fun h6=>gO 7<|cl (lawWakes_says )<|gO 3<|en))) (fun h5=>gO 7<|en)) (fun h4=>gO 12<|lp (A:=Int) (fun a2_0=>2 ≤ a2_0 ∧ a2_0 ≤ 9) (fun a2_0=>(9 - a2_0).toNat) (fun a2_0=>{ vals:=[(.sl .no 5 (n.map eNode)),(.int .i64 ((n.length : Int) - 1)),(.bool (safeFound n ((n.length : Int) - 1))),(.bool (safeTested n ((n.length : Int) - 1))),(.int .i64 a2_0)],fr:=[],sg:=sg,wd:=0 }) (acc0:=2) (fn:=lawSafeFound_l2 n) (q:=8) (by omega) (by omega) (fun q2 a2_0 hi2 hm2 ih2=>have hi2 : 2 ≤ a2_0 ∧ a2_0 ≤ 9:=hi2; have hm2 : (9 - a2_0).toNat < q2 + 1:=hm2; gO 6<|dp 37 (fun h27=>gO 10<|dq 42 (fun h28=>gO 15<|kw 39 (congrArg (V.int .i64) (wrap_id (n:=a2_0 + 1) (by first | omega | (have q:=ref_le (l:=n) (by assumption); omega)) (by first | omega | (have q:=ref_le (l:=n) (by assumption); omega))))<|gO 2<|nx (ih2 (a2_0 + 1) (by first | assumption | omega | exact ok_n | exact ref_args (by assumption) | (have q:=ref_le (l:=n) (by assumption); omega) | (have q:=ref_le (l:=n) (by assumption); exact okL_top ok_n q.2 (by omega) (by omega)) | exact Nat.le_trans (safeVars_len _ _) (by decide)) (by first | assumption | omega | exact ok_n | exact ref_args (by assumption) | (have q:=ref_le (l:=n) (by assumption); omega) | (have q:=ref_le (l:=n) (by assumption); exact okL_top ok_n q.2 (by omega) (by omega)) | exact Nat.le_trans (safeVars_len _ _) (by decide)))) (fun h28=>gO 4<|dq 46 (fun h29=>gO 11<|kw 39 (congrArg (V.int .i64) (wrap_id (n:=a2_0 + 1) (by first | omega | (have q:=ref_le (l:=n) (by assumption); omega)) (by first | omega | (have q:=ref_le (l:=n) (by assumption); omega))))<|gO 2<|nx (ih2 (a2_0 + 1) (by first | assumption | omega | exact ok_n | exact ref_args (by assumption) | (have q:=ref_le (l:=n) (by assumption); omega) | (have q:=ref_le (l:=n) (by assumption); exact okL_top ok_n q.2 (by omega) (by omega)) | exact Nat.le_trans (safeVars_len _ _) (by decide)) (by first | assumption | omega | exact ok_n | exact ref_args (by assumption) | (have q:=ref_le (l:=n) (by assumption); omega) | (have q:=ref_le (l:=n) (by assumption); exact okL_top ok_n q.2 (by omega) (by omega)) | exact Nat.le_trans (safeVars_len _ _) (by decide)))) (fun h29=>gO 4<|dq 49 (fun h30=>gO 7<|kw 39 (congrArg (V.int .i64) (wrap_id (n:=a2_0 + 1) (by first | omega | (have q:=ref_le (l:=n) (by assumption); omega)) (by first | omega | (have q:=ref_le (l:=n) (by assumption); omega))))<|gO 2<|nx (ih2 (a2_0 + 1) (by first | assumption | omega | exact ok_n | exact ref_args (by assumption) | (have q:=ref_le (l:=n) (by assumption); omega) | (have q:=ref_le (l:=n) (by assumption); exact okL_top ok_n q.2 (by omega) (by omega)) | exact Nat.le_trans (safeVars_len _ _) (by decide)) (by first | assumption | omega | exact ok_n | exact ref_args (by assumption) | (have q:=ref_le (l:=n) (by assumption); omega) | (have q:=ref_le (l:=n) (by assumption); exact okL_top ok_n q.2 (by omega) (by omega)) | exact Nat.le_trans (safeVars_len _ _) (by decide)))) (fun h30=>gO 5<|clr ⟨1,Nat.le_refl _,keepTwinNodes_in n (by first | assumption | omega | exact ok_n | exact ref_args (by assumption) | (have q:=ref_le (l:=n) (by assumption); omega) | (have q:=ref_le (l:=n) (by assumption); exact okL_top ok_n q.2 (by omega) (by omega)) | exact Nat.le_trans (safeVars_len _ _) (by decide)) (by first | assumption | omega | exact ok_n | exact ref_args (by assumption) | (have q:=ref_le (l:=n) (by assumption); omega) | (have q:=ref_le (l:=n) (by assumption); exact okL_top ok_n q.2 (by omega) (by omega)) | exact Nat.le_trans (safeVars_len _ _) (by decide))⟩<|gO 4<|ap (en:=eNode) (L:=(keepTwinNodes n)) (M:=[(⟨a2_0,(⟨([] : Txt),([] : (List Sp.Term))⟩ : Sp.Atom),((n.length : Int) - 1),0⟩ : Sp.Node)]) (by (rw [twin_eq]; have q:=ref_le (l:=n) (by assumption); simp only [List.length_append,List.length_cons,List.length_nil]; unfold lim; omega)) (fun _ _=>rfl)<|gO 6<|cl (refFormula_says ((keepTwinNodes n) ++ [(⟨a2_0,(⟨([] : Txt),([] : (List Sp.Term))⟩ : Sp.Atom),((n.length : Int) - 1),0⟩ : Sp.Node)]) (by first | assumption | omega | exact ok_n | exact ref_args (by assumption) | (have q:=ref_le (l:=n) (by assumption); omega) | (have q:=ref_le (l:=n) (by assumption); exact okL_top ok_n q.2 (by omega) (by omega)) | exact Nat.le_trans (safeVars_len _ _) (by decide)))<|gO 2<|dcn 59 (fun h31=>gO 7<|kw 62 (congrArg (V.int .i64) (wrap_id (n:=((n.length : Int) - 1) + 1) (by first | omega | (have q:=ref_le (l:=n) (by assumption); omega)) (by first | omega | (have q:=ref_le (l:=n) (by assumption); omega))))<|cl (safeFound_says ((keepTwinNodes n) ++ [(⟨a2_0,(⟨([] : Txt),([] : (List Sp.Term))⟩ : Sp.Atom),((n.length : Int) - 1),0⟩ : Sp.Node)]) (((n.length : Int) - 1) + 1) (by first | assumption | omega | exact ok_n | exact ref_args (by assumption) | (have q:=ref_le (l:=n) (by assumption); omega) | (have q:=ref_le (l:=n) (by assumption); exact okL_top ok_n q.2 (by omega) (by omega)) | exact Nat.le_trans (safeVars_len _ _) (by decide)))<|gO 3<|kw 66 (congrArg (V.int .i64) (wrap_id (n:=((n.length : Int) - 1) + 1) (by first | omega | (have q:=ref_le (l:=n) (by assumption); omega)) (by first | omega | (have q:=ref_le (l:=n) (by assumption); omega))))<|cl (safeTested_says ((keepTwinNodes n) ++ [(⟨a2_0,(⟨([] : Txt),([] : (List Sp.Term))⟩ : Sp.Atom),((n.length : Int) - 1),0⟩ : Sp.Node)]) (((n.length : Int) - 1) + 1) (by first | assumption | omega | exact ok_n | exact ref_args (by assumption) | (have q:=ref_le (l:=n) (by assumption); omega) | (have q:=ref_le (l:=n) (by assumption); exact okL_top ok_n q.2 (by omega) (by omega)) | exact Nat.le_trans (safeVars_len _ _) (by decide)))<|gO 14<|dq 69 (fun h32=>gO 5<|dc 72 (fun h33=>gO 18<|en) (fun h33=>gO 5<|dcn 76 (fun h34=>gO 8<|kw 93 (congrArg (V.int .i64) (wrap_id (n:=((n.length : Int) - 1) + 1) (by first | omega | (have q:=ref_le (l:=n) (by assumption); omega)) (by first | omega | (have q:=ref_le (l:=n) (by assumption); omega))))<|cl (safeVars_says ((keepTwinNodes n) ++ [(⟨a2_0,(⟨([] : Txt),([] : (List Sp.Term))⟩ : Sp.Atom),((n.length : Int) - 1),0⟩ : Sp.Node)]) (((n.length : Int) - 1) + 1) (by first | assumption | omega | exact ok_n | exact ref_args (by assumption) | (have q:=ref_le (l:=n) (by assumption); omega) | (have q:=ref_le (l:=n) (by assumption); exact okL_top ok_n q.2 (by omega) (by omega)) | exact Nat.le_trans (safeVars_len _ _) (by decide)))<|gO 2<|cl (safeVars_says n ((n.length : Int) - 1) (by first | assumption | omega | exact ok_n | exact ref_args (by assumption) | (have q:=ref_le (l:=n) (by assumption); omega) | (have q:=ref_le (l:=n) (by assumption); exact okL_top ok_n q.2 (by omega) (by omega)) | exact Nat.le_trans (safeVars_len _ _) (by decide)))<|cl (keepTexts_says (safeVars ((keepTwinNodes n) ++ [(⟨a2_0,(⟨([] : Txt),([] : (List Sp.Term))⟩ : Sp.Atom),((n.length : Int) - 1),0⟩ : Sp.Node)]) (((n.length : Int) - 1) + 1)) (safeVars n ((n.length : Int) - 1)) (by first | assumption | omega | exact ok_n | exact ref_args (by assumption) | (have q:=ref_le (l:=n) (by assumption); omega) | (have q:=ref_le (l:=n) (by assumption); exact okL_top ok_n q.2 (by omega) (by omega)) | exact Nat.le_trans (safeVars_len _ _) (by decide)) (by first | assumption | omega | exact ok_n | exact ref_args (by assumption) | (have q:=ref_le (l:=n) (by assumption); omega) | (have q:=ref_le (l:=n) (by assumption); exact okL_top ok_n q.2 (by omega) (by omega)) | exact Nat.le_trans (safeVars_len _ _) (by decide)))<|gO 2<|dcn 99 (fun h35=>gO 6<|kw 39 (congrArg (V.int .i64) (wrap_id (n:=a2_0 + 1) (by first | omega | (have q:=ref_le (l:=n) (by assumption); omega)) (by first | omega | (have q:=ref_le (l:=n) (by assumption); omega))))<|gO 2<|nx (ih2 (a2_0 + 1) (by first | assumption | omega | exact ok_n | exact ref_args (by assumption) | (have q:=ref_le (l:=n) (by assumption); omega) | (have q:=ref_le (l:=n) (by assumption); exact okL_top ok_n q.2 (by omega) (by omega)) | exact Nat.le_trans (safeVars_len _ _) (by decide)) (by first | assumption | omega | exact ok_n | exact ref_args (by assumption) | (have q:=ref_le (l:=n) (by assumption); omega) | (have q:=ref_le (l:=n) (by assumption); exact okL_top ok_n q.2 (by omega) (by omega)) | exact Nat.le_trans (safeVars_len _ _) (by decide)))) (fun h35=>gO 11<|en)) (fun h34=>gO 13<|en))) (fun h32=>gO 7<|dq 77 (fun h36=>gO 9<|dcn 83 (fun h37=>gO 5<|dcn 87 (fun h38=>gO 8<|kw 93 (congrArg (V.int .i64) (wrap_id (n:=((n.length : Int) - 1) + 1) (by first | omega | (have q:=ref_le (l:=n) (by assumption); omega)) (by first | omega | (have q:=ref_le (l:=n) (by assumption); omega))))<|cl (safeVars_says ((keepTwinNodes n) ++ [(⟨a2_0,(⟨([] : Txt),([] : (List Sp.Term))⟩ : Sp.Atom),((n.length : Int) - 1),0⟩ : Sp.Node)]) (((n.length : Int) - 1) + 1) (by first | assumption | omega | exact ok_n | exact ref_args (by assumption) | (have q:=ref_le (l:=n) (by assumption); omega) | (have q:=ref_le (l:=n) (by assumption); exact okL_top ok_n q.2 (by omega) (by omega)) | exact Nat.le_trans (safeVars_len _ _) (by decide)))<|gO 2<|cl (safeVars_says n ((n.length : Int) - 1) (by first | assumption | omega | exact ok_n | exact ref_args (by assumption) | (have q:=ref_le (l:=n) (by assumption); omega) | (have q:=ref_le (l:=n) (by assumption); exact okL_top ok_n q.2 (by omega) (by omega)) | exact Nat.le_trans (safeVars_len _ _) (by decide)))<|cl (keepTexts_says (safeVars ((keepTwinNodes n) ++ [(⟨a2_0,(⟨([] : Txt),([] : (List Sp.Term))⟩ : Sp.Atom),((n.length : Int) - 1),0⟩ : Sp.Node)]) (((n.length : Int) - 1) + 1)) (safeVars n ((n.length : Int) - 1)) (by first | assumption | omega | exact ok_n | exact ref_args (by assumption) | (have q:=ref_le (l:=n) (by assumption); omega) | (have q:=ref_le (l:=n) (by assumption); exact okL_top ok_n q.2 (by omega) (by omega)) | exact Nat.le_trans (safeVars_len _ _) (by decide)) (by first | assumption | omega | exact ok_n | exact ref_args (by assumption) | (have q:=ref_le (l:=n) (by assumption); omega) | (have q:=ref_le (l:=n) (by assumption); exact okL_top ok_n q.2 (by omega) (by omega)) | exact Nat.le_trans (safeVars_len _ _) (by decide)))<|gO 2<|dcn 99 (fun h39=>gO 6<|kw 39 (congrArg (V.int .i64) (wrap_id (n:=a2_0 + 1) (by first | omega | (have q:=ref_le (l:=n) (by assumption); omega)) (by first | omega | (have q:=ref_le (l:=n) (by assumption); omega))))<|gO 2<|nx (ih2 (a2_0 + 1) (by first | assumption | omega | exact ok_n | exact ref_args (by assumption) | (have q:=ref_le (l:=n) (by assumption); omega) | (have q:=ref_le (l:=n) (by assumption); exact okL_top ok_n q.2 (by omega) (by omega)) | exact Nat.le_trans (safeVars_len _ _) (by decide)) (by first | assumption | omega | exact ok_n | exact ref_args (by assumption) | (have q:=ref_le (l:=n) (by assumption); omega) | (have q:=ref_le (l:=n) (by assumption); exact okL_top ok_n q.2 (by omega) (by omega)) | exact Nat.le_trans (safeVars_len _ _) (by decide)))) (fun h39=>gO 11<|en)) (fun h38=>gO 13<|en)) (fun h37=>gO 18<|en)) (fun h36=>gO 5<|dq 77 (fun h40=>gO 7<|dcn 83 (fun h41=>gO 5<|dcn 87 (fun h42=>gO 8<|kw 93 (congrArg (V.int .i64) (wrap_id (n:=((n.length : Int) - 1) + 1) (by first | omega | (have q:=ref_le (l:=n) (by assumption); omega)) (by first | omega | (have q:=ref_le (l:=n) (by assumption); omega))))<|cl (safeVars_says ((keepTwinNodes n) ++ [(⟨a2_0,(⟨([] : Txt),([] : (List Sp.Term))⟩ : Sp.Atom),((n.length : Int) - 1),0⟩ : Sp.Node)]) (((n.length : Int) - 1) + 1) (by first | assumption | omega | exact ok_n | exact ref_args (by assumption) | (have q:=ref_le (l:=n) (by assumption); omega) | (have q:=ref_le (l:=n) (by assumption); exact okL_top ok_n q.2 (by omega) (by omega)) | exact Nat.le_trans (safeVars_len _ _) (by decide)))<|gO 2<|cl (safeVars_says n ((n.length : Int) - 1) (by first | assumption | omega | exact ok_n | exact ref_args (by assumption) | (have q:=ref_le (l:=n) (by assumption); omega) | (have q:=ref_le (l:=n) (by assumption); exact okL_top ok_n q.2 (by omega) (by omega)) | exact Nat.le_trans (safeVars_len _ _) (by decide)))<|cl (keepTexts_says (safeVars ((keepTwinNodes n) ++ [(⟨a2_0,(⟨([] : Txt),([] : (List Sp.Term))⟩ : Sp.Atom),((n.length : Int) - 1),0⟩ : Sp.Node)]) (((n.length : Int) - 1) + 1)) (safeVars n ((n.length : Int) - 1)) (by first | assumption | omega | exact ok_n | exact ref_args (by assumption) | (have q:=ref_le (l:=n) (by assumption); omega) | (have q:=ref_le (l:=n) (by assumption); exact okL_top ok_n q.2 (by omega) (by omega)) | exact Nat.le_trans (safeVars_len _ _) (by decide)) (by first | assumption | omega | exact ok_n | exact ref_args (by assumption) | (have q:=ref_le (l:=n) (by assumption); omega) | (have q:=ref_le (l:=n) (by assumption); exact okL_top ok_n q.2 (by omega) (by omega)) | exact Nat.le_trans (safeVars_len _ _) (by decide)))<|gO 2<|dcn 99 (fun h43=>gO 6<|kw 39 (congrArg (V.int .i64) (wrap_id (n:=a2_0 + 1) (by first | omega | (have q:=ref_le (l:=n) (by assumption); omega)) (by first | omega | (have q:=ref_le (l:=n) (by assumption); omega))))<|gO 2<|nx (ih2 (a2_0 + 1) (by first | assumption | omega | exact ok_n | exact ref_args (by assumption) | (have q:=ref_le (l:=n) (by assumption); omega) | (have q:=ref_le (l:=n) (by assumption); exact okL_top ok_n q.2 (by omega) (by omega)) | exact Nat.le_trans (safeVars_len _ _) (by decide)) (by first | assumption | omega | exact ok_n | exact ref_args (by assumption) | (have q:=ref_le (l:=n) (by assumption); omega) | (have q:=ref_le (l:=n) (by assumption); exact okL_top ok_n q.2 (by omega) (by omega)) | exact Nat.le_trans (safeVars_len _ _) (by decide)))) (fun h43=>gO 11<|en)) (fun h42=>gO 13<|en)) (fun h41=>gO 18<|en)) (fun h40=>gO 6<|dq 88 (fun h44=>gO 5<|dc 90 (fun h45=>gO 13<|en) (fun h45=>gO 8<|kw 93 (congrArg (V.int .i64) (wrap_id (n:=((n.length : Int) - 1) + 1) (by first | omega | (have q:=ref_le (l:=n) (by assumption); omega)) (by first | omega | (have q:=ref_le (l:=n) (by assumption); omega))))<|cl (safeVars_says ((keepTwinNodes n) ++ [(⟨a2_0,(⟨([] : Txt),([] : (List Sp.Term))⟩ : Sp.Atom),((n.length : Int) - 1),0⟩ : Sp.Node)]) (((n.length : Int) - 1) + 1) (by first | assumption | omega | exact ok_n | exact ref_args (by assumption) | (have q:=ref_le (l:=n) (by assumption); omega) | (have q:=ref_le (l:=n) (by assumption); exact okL_top ok_n q.2 (by omega) (by omega)) | exact Nat.le_trans (safeVars_len _ _) (by decide)))<|gO 2<|cl (safeVars_says n ((n.length : Int) - 1) (by first | assumption | omega | exact ok_n | exact ref_args (by assumption) | (have q:=ref_le (l:=n) (by assumption); omega) | (have q:=ref_le (l:=n) (by assumption); exact okL_top ok_n q.2 (by omega) (by omega)) | exact Nat.le_trans (safeVars_len _ _) (by decide)))<|cl (keepTexts_says (safeVars ((keepTwinNodes n) ++ [(⟨a2_0,(⟨([] : Txt),([] : (List Sp.Term))⟩ : Sp.Atom),((n.length : Int) - 1),0⟩ : Sp.Node)]) (((n.length : Int) - 1) + 1)) (safeVars n ((n.length : Int) - 1)) (by first | assumption | omega | exact ok_n | exact ref_args (by assumption) | (have q:=ref_le (l:=n) (by assumption); omega) | (have q:=ref_le (l:=n) (by assumption); exact okL_top ok_n q.2 (by omega) (by omega)) | exact Nat.le_trans (safeVars_len _ _) (by decide)) (by first | assumption | omega | exact ok_n | exact ref_args (by assumption) | (have q:=ref_le (l:=n) (by assumption); omega) | (have q:=ref_le (l:=n) (by assumption); exact okL_top ok_n q.2 (by omega) (by omega)) | exact Nat.le_trans (safeVars_len _ _) (by decide)))<|gO 2<|dcn 99 (fun h46=>gO 6<|kw 39 (congrArg (V.int .i64) (wrap_id (n:=a2_0 + 1) (by first | omega | (have q:=ref_le (l:=n) (by assumption); omega)) (by first | omega | (have q:=ref_le (l:=n) (by assumption); omega))))<|gO 2<|nx (ih2 (a2_0 + 1) (by first | assumption | omega | exact ok_n | exact ref_args (by assumption) | (have q:=ref_le (l:=n) (by assumption); omega) | (have q:=ref_le (l:=n) (by assumption); exact okL_top ok_n q.2 (by omega) (by omega)) | exact Nat.le_trans (safeVars_len _ _) (by decide)) (by first | assumption | omega | exact ok_n | exact ref_args (by assumption) | (have q:=ref_le (l:=n) (by assumption); omega) | (have q:=ref_le (l:=n) (by assumption); exact okL_top ok_n q.2 (by omega) (by omega)) | exact Nat.le_trans (safeVars_len _ _) (by decide)))) (fun h46=>gO 11<|en))) (fun h44=>gO 8<|kw 93 (congrArg (V.int .i64) (wrap_id (n:=((n.length : Int) - 1) + 1) (by first | omega | (have q:=ref_le (l:=n) (by assumption); omega)) (by first | omega | (have q:=ref_le (l:=n) (by assumption); omega))))<|cl (safeVars_says ((keepTwinNodes n) ++ [(⟨a2_0,(⟨([] : Txt),([] : (List Sp.Term))⟩ : Sp.Atom),((n.length : Int) - 1),0⟩ : Sp.Node)]) (((n.length : Int) - 1) + 1) (by first | assumption | omega | exact ok_n | exact ref_args (by assumption) | (have q:=ref_le (l:=n) (by assumption); omega) | (have q:=ref_le (l:=n) (by assumption); exact okL_top ok_n q.2 (by omega) (by omega)) | exact Nat.le_trans (safeVars_len _ _) (by decide)))<|gO 2<|cl (safeVars_says n ((n.length : Int) - 1) (by first | assumption | omega | exact ok_n | exact ref_args (by assumption) | (have q:=ref_le (l:=n) (by assumption); omega) | (have q:=ref_le (l:=n) (by assumption); exact okL_top ok_n q.2 (by omega) (by omega)) | exact Nat.le_trans (safeVars_len _ _) (by decide)))<|cl (keepTexts_says (safeVars ((keepTwinNodes n) ++ [(⟨a2_0,(⟨([] : Txt),([] : (List Sp.Term))⟩ : Sp.Atom),((n.length : Int) - 1),0⟩ : Sp.Node)]) (((n.length : Int) - 1) + 1)) (safeVars n ((n.length : Int) - 1)) (by first | assumption | omega | exact ok_n | exact ref_args (by assumption) | (have q:=ref_le (l:=n) (by assumption); omega) | (have q:=ref_le (l:=n) (by assumption); exact okL_top ok_n q.2 (by omega) (by omega)) | exact Nat.le_trans (safeVars_len _ _) (by decide)) (by first | assumption | omega | exact ok_n | exact ref_args (by assumption) | (have q:=ref_le (l:=n) (by assumption); omega) | (have q:=ref_le (l:=n) (by assumption); exact okL_top ok_n q.2 (by omega) (by omega)) | exact Nat.le_trans (safeVars_len _ _) (by decide)))<|gO 2<|dcn 99 (fun h47=>gO 6<|kw 39 (congrArg (V.int .i64) (wrap_id (n:=a2_0 + 1) (by first | omega | (have q:=ref_le (l:=n) (by assumption); omega)) (by first | omega | (have q:=ref_le (l:=n) (by assumption); omega))))<|gO 2<|nx (ih2 (a2_0 + 1) (by first | assumption | omega | exact ok_n | exact ref_args (by assumption) | (have q:=ref_le (l:=n) (by assumption); omega) | (have q:=ref_le (l:=n) (by assumption); exact okL_top ok_n q.2 (by omega) (by omega)) | exact Nat.le_trans (safeVars_len _ _) (by decide)) (by first | assumption | omega | exact ok_n | exact ref_args (by assumption) | (have q:=ref_le (l:=n) (by assumption); omega) | (have q:=ref_le (l:=n) (by assumption); exact okL_top ok_n q.2 (by omega) (by omega)) | exact Nat.le_trans (safeVars_len _ _) (by decide)))) (fun h47=>gO 11<|en)))))) (fun h31=>gO 7<|kw 39 (congrArg (V.int .i64) (wrap_id (n:=a2_0 + 1) (by first | omega | (have q:=ref_le (l:=n) (by assumption); omega)) (by first | omega | (have q:=ref_le (l:=n) (by assumption); omega))))<|gO 2<|nx (ih2 (a2_0 + 1) (by first | assumption | omega | exact ok_n | exact ref_args (by assumption) | (have q:=ref_le (l:=n) (by assumption); omega) | (have q:=ref_le (l:=n) (by assumption); exact okL_top ok_n q.2 (by omega) (by omega)) | exact Nat.le_trans (safeVars_len _ _) (by decide)) (by first | assumption | omega | exact ok_n | exact ref_args (by assumption) | (have q:=ref_le (l:=n) (by assumption); omega) | (have q:=ref_le (l:=n) (by assumption); exact okL_top ok_n q.2 (by omega) (by omega)) | exact Nat.le_trans (safeVars_len _ _) (by decide)))))))) (fun h27=>gO 7<|cl (lawWakes_says )<|gO 3<|en))))) (fun h2=>gO 12<|en))

end Go.Vm

/-
  Right formulas within others: what is found, may be tested, its variables are the same there.
-/
namespace Go.Vm
open Go Go.Sp

theorem says_inj {f : FuncId} {l : List V} {a b : Bool} (h1 : SaysT TX f l (eB a)) (h2 : SaysT TX f l (eB b)) : a = b := by
  have := (h1 []).symm.trans (h2 [])
  simpa using this

section
variable {k : Sp.Looker} (ok : okL k.l) (fm : formulaCheck k.l = 0)
include ok fm
theorem foundF_eq {at_ : Int} (h0 : 0 ≤ at_) (h1 : at_ < k.l.length) {q : Nat} (hq : 3 * at_.toNat < q) : lookerFoundF q k at_ = lookerFound k at_ :=
  says_inj ((lookerFound_grp q).1 k at_ ok fm h0 h1 hq) (lookerFound_says k at_ ok fm h0 h1)
theorem testedF_eq {at_ : Int} (h0 : 0 ≤ at_) (h1 : at_ < k.l.length) {q : Nat} (hq : 3 * at_.toNat + 1 < q) : lookerTestedF q k at_ = lookerTested k at_ :=
  says_inj ((lookerFound_grp q).2.1 k at_ ok fm h0 h1 hq) (lookerTested_says k at_ ok fm h0 h1)
theorem alwaysF_eq {at_ : Int} (h0 : 0 ≤ at_) (h1 : at_ < k.l.length) {q : Nat} (hq : 3 * at_.toNat + 2 < q) : lookerAlwaysF q k at_ = lookerAlways k at_ :=
  says_inj ((lookerFound_grp q).2.2 k at_ ok fm h0 h1 hq) (lookerAlways_says k at_ ok fm h0 h1)

theorem found_at {j : Nat} {x : Sp.Node} (hx : k.l[j]? = some x) : lookerFound k j = (bif x.kind == 1 then true else bif x.kind == 5 then lookerFound k x.a else bif x.kind == 6 then lookerFound k x.a else
    bif x.kind == 3 then (lookerFound k x.a && (lookerHolds k x.b x.a && lookerTested k x.b)) else
    bif x.kind == 4 then (lookerFound k x.a && (lookerFound k x.b && (lookerHolds k x.a x.b && lookerHolds k x.b x.a))) else
    bif x.kind == 8 then (lookerFound k x.b && (lookerHolds k x.a x.b && lookerTested k x.a)) else false) := by
  obtain ⟨k1, k2, k3⟩ := kids fm hx
  show lookerFoundF (3 * (j : Int).toNat + 1) k j = _
  rw [lookerFoundF, Int.toNat_natCast, hx]
  simp only [onS]
  cases c1 : (x.kind == 1) with
  | true => rfl
  | false =>
  have h1 : x.kind ≠ 1 := by simpa using c1
  have ea : lookerFoundF (3 * j) k x.a = lookerFound k x.a := foundF_eq ok fm (by omega) (by omega) (by omega)
  have ta : lookerTestedF (3 * j) k x.a = lookerTested k x.a := testedF_eq ok fm (by omega) (by omega) (by omega)
  rw [ea, ta]
  cases c5 : (x.kind == 5) with
  | true => rfl
  | false =>
  cases c6 : (x.kind == 6) with
  | true => rfl
  | false =>
  have eb : x.kind = 3 ∨ x.kind = 4 ∨ x.kind = 8 → lookerFoundF (3 * j) k x.b = lookerFound k x.b := fun h => foundF_eq ok fm (by omega) (by omega) (by omega)
  have tb : x.kind = 3 ∨ x.kind = 4 ∨ x.kind = 8 → lookerTestedF (3 * j) k x.b = lookerTested k x.b := fun h => testedF_eq ok fm (by omega) (by omega) (by omega)
  cases c3 : (x.kind == 3) with
  | true =>
    have h3 : x.kind = 3 := by simpa using c3
    rw [tb (.inl h3)]
    cases lookerFound k x.a <;> cases lookerHolds k x.b x.a <;> rfl
  | false =>
  cases c4 : (x.kind == 4) with
  | true =>
    have h3 : x.kind = 4 := by simpa using c4
    rw [eb (.inr (.inl h3))]
    cases lookerFound k x.a <;> cases lookerFound k x.b <;> cases lookerHolds k x.a x.b <;> rfl
  | false =>
  cases c8 : (x.kind == 8) with
  | true =>
    have h3 : x.kind = 8 := by simpa using c8
    rw [eb (.inr (.inr h3))]
    cases lookerFound k x.b <;> cases lookerHolds k x.a x.b <;> rfl
  | false => rfl

theorem tested_at {j : Nat} {x : Sp.Node} (hx : k.l[j]? = some x) : lookerTested k j = (bif x.kind == 2 then lookerTested k x.a else
    bif x.kind == 3 then ((lookerTested k x.a && lookerTested k x.b) || lookerFound k j) else
    bif x.kind == 4 then ((lookerTested k x.a && lookerTested k x.b) || lookerFound k j) else
    bif x.kind == 7 then lookerAlways k x.a else lookerFound k j) := by
  obtain ⟨k1, k2, k3⟩ := kids fm hx
  show lookerTestedF (3 * (j : Int).toNat + 1 + 1) k j = _
  rw [lookerTestedF, Int.toNat_natCast, hx]
  simp only [onS]
  have ej : lookerFoundF (3 * j + 1) k (j : Int) = lookerFound k (j : Int) := foundF_eq ok fm (by omega) (by omega) (by simp)
  rw [ej]
  have ta : x.kind ≠ 1 → lookerTestedF (3 * j + 1) k x.a = lookerTested k x.a := fun h => testedF_eq ok fm (by omega) (by omega) (by omega)
  have tb : x.kind = 3 ∨ x.kind = 4 ∨ x.kind = 8 → lookerTestedF (3 * j + 1) k x.b = lookerTested k x.b := fun h => testedF_eq ok fm (by omega) (by omega) (by omega)
  have la : x.kind ≠ 1 → lookerAlwaysF (3 * j + 1) k x.a = lookerAlways k x.a := fun h => alwaysF_eq ok fm (by omega) (by omega) (by omega)
  cases c2 : (x.kind == 2) with
  | true =>
    have h : x.kind = 2 := by simpa using c2
    exact ta (by omega)
  | false =>
  cases c3 : (x.kind == 3) with
  | true =>
    have h : x.kind = 3 := by simpa using c3
    rw [ta (by omega), tb (.inl h)]
    cases lookerTested k x.a <;> cases lookerTested k x.b <;> rfl
  | false =>
  cases c4 : (x.kind == 4) with
  | true =>
    have h : x.kind = 4 := by simpa using c4
    rw [ta (by omega), tb (.inr (.inl h))]
    cases lookerTested k x.a <;> cases lookerTested k x.b <;> rfl
  | false =>
  cases c7 : (x.kind == 7) with
  | true =>
    have h : x.kind = 7 := by simpa using c7
    exact la (by omega)
  | false => rfl

theorem always_at {j : Nat} {x : Sp.Node} (hx : k.l[j]? = some x) : lookerAlways k j = (bif x.kind == 2 then lookerFound k x.a else
    bif x.kind == 4 then (onS k.l[x.a.toNat]? (fun y => (y.kind == 2) && (lookerFound k y.a && (lookerHolds k x.b x.a && lookerTested k x.b))) default) else false) := by
  obtain ⟨k1, k2, k3⟩ := kids fm hx
  show lookerAlwaysF (3 * (j : Int).toNat + 2 + 1) k j = _
  rw [lookerAlwaysF, Int.toNat_natCast, hx]
  simp only [onS]
  cases c2 : (x.kind == 2) with
  | true =>
    have h : x.kind = 2 := by simpa using c2
    exact foundF_eq ok fm (by omega) (by omega) (by omega)
  | false =>
  cases c4 : (x.kind == 4) with
  | false => rfl
  | true =>
    have h : x.kind = 4 := by simpa using c4
    have tb : lookerTestedF (3 * j + 2) k x.b = lookerTested k x.b := testedF_eq ok fm (by omega) (by omega) (by omega)
    simp only [cond_true, cond_false]
    cases hy : k.l[x.a.toNat]? with
    | none => rfl
    | some y =>
      simp only []
      cases d2 : (y.kind == 2) with
      | false => rfl
      | true =>
        obtain ⟨q1, q2, q3⟩ := kids fm hy
        have h2 : y.kind = 2 := by simpa using d2
        rw [tb, foundF_eq ok fm (at_ := y.a) (by omega) (by omega) (by omega)]
        cases lookerFound k y.a <;> cases lookerHolds k x.b x.a <;> rfl
end

/-- a node farther on -/
def shN (s : Nat) (x : Sp.Node) : Sp.Node := { x with a := bif x.kind == 1 then x.a else x.a + s, b := bif (x.kind == 3 || (x.kind == 4 || x.kind == 8)) then x.b + s else x.b }
/-- a formula's nodes stand within another one's -/
def Emb (l l' : List Sp.Node) (s : Nat) : Prop := ∀ (j : Nat) (x : Sp.Node), l[j]? = some x → l'[j + s]? = some (shN s x)
theorem shN_a {s : Nat} {x : Sp.Node} (h : x.kind ≠ 1) : (shN s x).a = x.a + s := by
  have : (x.kind == 1) = false := by simpa using h
  simp [shN, this]
theorem shN_b {s : Nat} {x : Sp.Node} (h : x.kind = 3 ∨ x.kind = 4 ∨ x.kind = 8) : (shN s x).b = x.b + s := by
  have : (x.kind == 3 || (x.kind == 4 || x.kind == 8)) = true := by
    rcases h with h | h | h <;> rw [h] <;> rfl
  simp only [shN, this, cond_true]
theorem shN_zero (x : Sp.Node) : shN 0 x = x := by
  unfold shN
  cases x.kind == 1 <;> cases (x.kind == 3 || (x.kind == 4 || x.kind == 8)) <;> simp

section
variable {l l' : List Sp.Node} {s : Nat} (fm : formulaCheck l = 0) (fm' : formulaCheck l' = 0) (e : Emb l l' s)
include fm fm' e
theorem emb_from (j : Nat) (hj : j < l.length) : (formulaFroms l').1[j + s]? = ((formulaFroms l).1[j]?).map (· + (s : Int)) := by
  induction j using Nat.strongRecOn with
  | _ j ih =>
    have hx : l[j]? = some l[j] := List.getElem?_eq_getElem hj
    generalize l[j] = x at hx
    have hx' := e j x hx
    have hk : (shN s x).kind = x.kind := rfl
    have n := fc_Nd fm hx
    have n' := fc_Nd fm' hx'
    unfold Nd at n n'
    rw [hk] at n'
    rcases n with ⟨h1, h2, h3, h4, h5⟩ | ⟨h1, h2, h3, h4, h5, h6⟩ | ⟨h1, h2, h3, y, h4, h5, h6, h7, h8⟩
    · rcases n' with ⟨g1, g2, g3, g4, g5⟩ | ⟨g1, _⟩ | ⟨g1, _⟩
      · rw [g5, h5]; simp
      · omega
      · omega
    · rcases n' with ⟨g1, _⟩ | ⟨g1, g2, g3, g4, g5, g6⟩ | ⟨g1, _⟩
      · omega
      · rw [g6, h6, show j + s - 1 = (j - 1) + s by omega]
        exact ih (j - 1) (by omega) (by omega)
      · omega
    · rcases n' with ⟨g1, _⟩ | ⟨g1, _⟩ | ⟨g1, g2, g3, y', g4, g5, g6, g7, g8⟩
      · omega
      · omega
      · have hy := (froms_ok (fc_froms fm)).2.2.1 _ _ h4
        rw [shN_a (by omega)] at g8
        rw [g8, h8, show (x.a + (s : Int)).toNat = x.a.toNat + s by omega]
        exact ih x.a.toNat (by omega) (by omega)
theorem emb_fromI {j : Nat} (hj : j < l.length) (hj' : j + s < l'.length) : formulaFrom l' ((j + s : Nat) : Int) = formulaFrom l j + s := by
  have h1 := from_eq fm (at_ := (j : Int)) (by omega) (by omega)
  have h2 := from_eq fm' (at_ := ((j + s : Nat) : Int)) (by omega) (by omega)
  rw [Int.toNat_natCast] at h1 h2
  have h3 := emb_from fm fm' e j hj
  rw [h2, h1] at h3
  simpa using h3
omit fm fm' in
theorem emb_lt {j : Nat} (hj : j < l.length) : j + s < l'.length := by
  have := e j l[j] (List.getElem?_eq_getElem hj)
  exact (List.getElem?_eq_some_iff.1 this).1
end

section
variable {l l' : List Sp.Node} {s : Nat} (fm : formulaCheck l = 0) (fm' : formulaCheck l' = 0) (e : Emb l l' s)
include fm fm' e
theorem emb_vars {j : Nat} (hj : j < l.length) : lookerVars ⟨l'⟩ ((j + s : Nat) : Int) = lookerVars ⟨l⟩ j := by
  rw [vars_eq, vars_eq]
  have hf := emb_fromI fm fm' e hj (emb_lt e hj)
  have hl := from_le fm (at_ := (j : Int)) (by omega) (by omega)
  simp only [hf]
  congr 3
  apply List.ext_getElem?
  intro i
  rw [List.getElem?_map, List.getElem?_map, List.getElem?_take, List.getElem?_take]
  have e1 : (((j + s : Nat) : Int) + 1).toNat - (formulaFrom l j + (s : Int)).toNat = ((j : Int) + 1).toNat - (formulaFrom l j).toNat := by omega
  rw [e1]
  split
  · rename_i hi
    rw [List.getElem?_drop, List.getElem?_drop, show (formulaFrom l j + (s : Int)).toNat + i = ((formulaFrom l j).toNat + i) + s by omega]
    have hx : l[(formulaFrom l j).toNat + i]? = some l[(formulaFrom l j).toNat + i] := List.getElem?_eq_getElem (by omega)
    rw [hx, e _ _ hx]
    rfl
  · rfl
theorem emb_varsI {a : Int} (h0 : 0 ≤ a) (h1 : a < l.length) : lookerVars ⟨l'⟩ (a + s) = lookerVars ⟨l⟩ a := by
  have := emb_vars fm fm' e (j := a.toNat) (by omega)
  rwa [show ((a.toNat + s : Nat) : Int) = a + s by omega, show ((a.toNat : Nat) : Int) = a by omega] at this
theorem emb_holds {a b : Int} (h0 : 0 ≤ a) (h1 : a < l.length) (h2 : 0 ≤ b) (h3 : b < l.length) : lookerHolds ⟨l'⟩ (a + s) (b + s) = lookerHolds ⟨l⟩ a b := by
  unfold lookerHolds
  rw [emb_varsI fm fm' e h0 h1, emb_varsI fm fm' e h2 h3]

theorem emb_all (ok : okL l) (ok' : okL l') (j : Nat) (hj : j < l.length) : lookerFound ⟨l'⟩ ((j + s : Nat) : Int) = lookerFound ⟨l⟩ j ∧ lookerTested ⟨l'⟩ ((j + s : Nat) : Int) = lookerTested ⟨l⟩ j ∧ lookerAlways ⟨l'⟩ ((j + s : Nat) : Int) = lookerAlways ⟨l⟩ j := by
  induction j using Nat.strongRecOn with
  | _ j ih =>
    have hx : l[j]? = some l[j] := List.getElem?_eq_getElem hj
    generalize l[j] = x at hx
    have hx' := e j x hx
    have hk : (shN s x).kind = x.kind := rfl
    obtain ⟨k1, k2, k3⟩ := kids fm hx
    have ihI : ∀ a : Int, 0 ≤ a → a < j → lookerFound ⟨l'⟩ (a + s) = lookerFound ⟨l⟩ a ∧ lookerTested ⟨l'⟩ (a + s) = lookerTested ⟨l⟩ a ∧ lookerAlways ⟨l'⟩ (a + s) = lookerAlways ⟨l⟩ a := by
      intro a h0 h1
      have := ih a.toNat (by omega) (by omega)
      rwa [show ((a.toNat + s : Nat) : Int) = a + s by omega, show ((a.toNat : Nat) : Int) = a by omega] at this
    have hA : x.kind ≠ 1 → (shN s x).a = x.a + s := shN_a
    have hB : x.kind = 3 ∨ x.kind = 4 ∨ x.kind = 8 → (shN s x).b = x.b + s := shN_b
    have f1 := found_at (k := ⟨l⟩) ok fm hx
    have f2 := found_at (k := ⟨l'⟩) ok' fm' hx'
    rw [hk] at f2
    have hF : lookerFound ⟨l'⟩ ((j + s : Nat) : Int) = lookerFound ⟨l⟩ j := by
      rw [f1, f2]
      cases c1 : (x.kind == 1) with
      | true => rfl
      | false =>
      have h1 : x.kind ≠ 1 := by simpa using c1
      rw [hA h1]
      have ia := ihI x.a (by omega) (by omega)
      rw [ia.1, ia.2.1]
      cases c5 : (x.kind == 5) with
      | true => rfl
      | false =>
      cases c6 : (x.kind == 6) with
      | true => rfl
      | false =>
      by_cases hb : x.kind = 3 ∨ x.kind = 4 ∨ x.kind = 8
      · have k2' := k2 hb
        have ib := ihI x.b (by omega) (by omega)
        rw [hB hb, ib.1, ib.2.1, emb_holds fm fm' e (a := x.a) (b := x.b) (by omega) (by omega) (by omega) (by omega), emb_holds fm fm' e (a := x.b) (b := x.a) (by omega) (by omega) (by omega) (by omega)]
      · have e3 : (x.kind == 3) = false := by simp; omega
        have e4 : (x.kind == 4) = false := by simp; omega
        have e8 : (x.kind == 8) = false := by simp; omega
        rw [e3, e4, e8]; rfl
    refine ⟨hF, ?_, ?_⟩
    · have t1 := tested_at (k := ⟨l⟩) ok fm hx
      have t2 := tested_at (k := ⟨l'⟩) ok' fm' hx'
      rw [hk] at t2
      rw [t1, t2, hF]
      by_cases h1 : x.kind = 1
      · rw [h1]; rfl
      rw [hA h1]
      have ia := ihI x.a (by omega) (by omega)
      rw [ia.2.1, ia.2.2]
      by_cases hb : x.kind = 3 ∨ x.kind = 4 ∨ x.kind = 8
      · have k2' := k2 hb
        have ib := ihI x.b (by omega) (by omega)
        rw [hB hb, ib.2.1]
      · have e3 : (x.kind == 3) = false := by simp; omega
        have e4 : (x.kind == 4) = false := by simp; omega
        rw [e3, e4]; rfl
    · have t1 := always_at (k := ⟨l⟩) ok fm hx
      have t2 := always_at (k := ⟨l'⟩) ok' fm' hx'
      rw [hk] at t2
      rw [t1, t2]
      by_cases h1 : x.kind = 1
      · rw [h1]; rfl
      rw [hA h1]
      have ia := ihI x.a (by omega) (by omega)
      rw [ia.1]
      cases c2 : (x.kind == 2) with
      | true => rfl
      | false =>
      cases c4 : (x.kind == 4) with
      | false => rfl
      | true =>
        have h4 : x.kind = 4 := by simpa using c4
        have k2' := k2 (by omega)
        have ib := ihI x.b (by omega) (by omega)
        simp only [cond_true, cond_false]
        have hy : l[x.a.toNat]? = some l[x.a.toNat] := List.getElem?_eq_getElem (by omega)
        generalize l[x.a.toNat] = y at hy
        have hy' := e _ _ hy
        obtain ⟨q1, q2, q3⟩ := kids fm hy
        show onS l'[(x.a + (s : Int)).toNat]? _ _ = onS l[x.a.toNat]? _ _
        rw [show (x.a + (s : Int)).toNat = x.a.toNat + s by omega, hy, hy']
        simp only [onS]
        have hky : (shN s y).kind = y.kind := rfl
        rw [hky]
        cases d2 : (y.kind == 2) with
        | false => rfl
        | true =>
          have h2 : y.kind = 2 := by simpa using d2
          have iy := ihI y.a (by omega) (by omega)
          rw [shN_a (x := y) (by omega), hB (by omega), iy.1, ib.2.1, emb_holds fm fm' e (a := x.b) (b := x.a) (by omega) (by omega) (by omega) (by omega)]
end
end Go.Vm

/-
  SafeFound: whatever nodes come in.
-/
namespace Go.Vm
open Go Go.Sp

theorem texts_l1 (b : List Txt) : ∀ (xs : List Txt) (i : Nat), (∀ (j : Nat) (x : Txt), xs[j]? = some x → b[i + j]? = some x) → keepTexts_l1 b b i xs () = true
  | [], _, _ => rfl
  | x :: xs, i, hx => by
    have h0 := hx 0 x rfl
    rw [Nat.add_zero] at h0
    rw [keepTexts_l1, h0]
    simp only [onS, beq_self_eq_true, cond_true]
    exact texts_l1 b xs (i + 1) fun j y hy => by
      have := hx (j + 1) y (by simpa using hy)
      rwa [show i + 1 + j = i + (j + 1) by omega]
theorem texts_refl (a : List Txt) : keepTexts a a = true := by
  unfold keepTexts
  rw [beq_self_eq_true, cond_true]
  exact texts_l1 a a 0 fun j x h => by rwa [Nat.zero_add]

theorem safe_in {l : List Sp.Node} (fm : formulaCheck l = 0) {j : Nat} (hj : j < l.length) : safeAt l (j : Int) = true := by
  unfold safeAt
  rw [fm, show ((0 : Int) == 0) = true from rfl, cond_true, decide_eq_true (by omega), cond_true]
  exact decide_eq_true (by omega)
theorem safeFound_eq {l : List Sp.Node} (fm : formulaCheck l = 0) {j : Nat} (hj : j < l.length) : safeFound l (j : Int) = lookerFound ⟨l⟩ j := by
  unfold safeFound; rw [safe_in fm hj]; rfl
theorem safeTested_eq {l : List Sp.Node} (fm : formulaCheck l = 0) {j : Nat} (hj : j < l.length) : safeTested l (j : Int) = lookerTested ⟨l⟩ j := by
  unfold safeTested; rw [safe_in fm hj]; rfl
theorem safeVars_eq {l : List Sp.Node} (fm : formulaCheck l = 0) {j : Nat} (hj : j < l.length) : safeVars l (j : Int) = lookerVars ⟨l⟩ j := by
  unfold safeVars; rw [safe_in fm hj]; rfl

/-- what is found may be tested -/
theorem found_tested {l : List Sp.Node} (ok : okL l) (fm : formulaCheck l = 0) {j : Nat} (hj : j < l.length) (h : lookerFound ⟨l⟩ j = true) : lookerTested ⟨l⟩ j = true := by
  have hx : l[j]? = some l[j] := List.getElem?_eq_getElem hj
  generalize l[j] = x at hx
  have h1 := found_at (k := ⟨l⟩) ok fm hx
  rw [tested_at (k := ⟨l⟩) ok fm hx, h]
  rw [h] at h1
  by_cases h2 : x.kind = 2
  · rw [h2] at h1; exact absurd (show true = false from h1) (by decide)
  by_cases h7 : x.kind = 7
  · rw [h7] at h1; exact absurd (show true = false from h1) (by decide)
  have e2 : (x.kind == 2) = false := by simpa using h2
  have e7 : (x.kind == 7) = false := by simpa using h7
  rw [e2, e7]
  simp

/-- a node on top -/
abbrev topN (n : List Sp.Node) (a : Int) : List Sp.Node := keepTwinNodes n ++ [(⟨a, (⟨([] : Txt), ([] : (List Sp.Term))⟩ : Sp.Atom), ((n.length : Int) - 1), 0⟩ : Sp.Node)]
theorem top_emb (n : List Sp.Node) (a : Int) : Emb n (topN n a) 0 := by
  intro j x hx
  unfold topN
  rw [twin_eq, Nat.add_zero, shN_zero, List.getElem?_append_left (List.getElem?_eq_some_iff.1 hx).1]
  exact hx
theorem top_len (n : List Sp.Node) (a : Int) : (topN n a).length = n.length + 1 := by unfold topN; rw [twin_eq]; simp
theorem top_at (n : List Sp.Node) (a : Int) : (topN n a)[n.length]? = some ⟨a, ⟨[], []⟩, (n.length : Int) - 1, 0⟩ := by
  unfold topN
  rw [twin_eq, List.getElem?_append_right (Nat.le_refl _), Nat.sub_self]; rfl

section
variable {n : List Sp.Node} {a : Int} (ok : okL n) (fm : formulaCheck n = 0) (fm' : formulaCheck (topN n a) = 0) (ha : a = 2 ∨ a = 5 ∨ a = 6 ∨ a = 7)
include ok fm fm' ha
theorem top_all : safeFound (topN n a) (((n.length : Int) - 1) + 1) = (bif a == 5 then safeFound n ((n.length : Int) - 1) else bif a == 6 then safeFound n ((n.length : Int) - 1) else false) ∧
    (a ≠ 7 → safeTested (topN n a) (((n.length : Int) - 1) + 1) = (bif a == 2 then safeTested n ((n.length : Int) - 1) else safeFound (topN n a) (((n.length : Int) - 1) + 1))) ∧
    safeVars (topN n a) (((n.length : Int) - 1) + 1) = safeVars n ((n.length : Int) - 1) := by
  have hn := fc_le fm
  have okT : okL (topN n a) := okL_top ok hn.2 (by omega) (by omega)
  have e1 : ((n.length : Int) - 1) + 1 = ((n.length : Nat) : Int) := by omega
  have e2 : (n.length : Int) - 1 = ((n.length - 1 : Nat) : Int) := by omega
  have hl := top_len n a
  have hT : n.length < (topN n a).length := by omega
  have hL : n.length - 1 < n.length := by omega
  obtain ⟨i1, i2, i3⟩ := emb_all fm fm' (top_emb n a) ok okT (n.length - 1) hL
  have iv := emb_vars fm fm' (top_emb n a) hL
  rw [Nat.add_zero] at i1 i2 i3 iv
  have f := found_at (k := ⟨topN n a⟩) okT fm' (top_at n a)
  have t := tested_at (k := ⟨topN n a⟩) okT fm' (top_at n a)
  simp only at f t
  rw [e2] at f t
  rw [i1] at f
  rw [i2] at t
  have a1 : (a == 1) = false := by simp; omega
  have a3 : (a == 3) = false := by simp; omega
  have a4 : (a == 4) = false := by simp; omega
  have a8 : (a == 8) = false := by simp; omega
  rw [a1, a3, a4, a8] at f
  rw [a3, a4] at t
  simp only [cond_false] at f t
  rw [e1, e2, safeFound_eq fm' hT, safeFound_eq fm hL, safeTested_eq fm' hT, safeTested_eq fm hL, safeVars_eq fm' hT, safeVars_eq fm hL]
  refine ⟨f, fun h7 => ?_, ?_⟩
  · have a7 : (a == 7) = false := by simpa using h7
    rw [t, a7]; rfl
  · rw [← iv, vars_eq, vars_eq]
    -- the node on top has no variables
    have n1 := fc_Nd fm' (top_at n a)
    have hF : formulaFrom (topN n a) (n.length : Nat) = formulaFrom (topN n a) ((n.length - 1 : Nat) : Int) := by
      have q1 := from_eq fm' (at_ := ((n.length : Nat) : Int)) (by omega) (by omega)
      have q2 := from_eq fm' (at_ := ((n.length - 1 : Nat) : Int)) (by omega) (by omega)
      rw [Int.toNat_natCast] at q1 q2
      rcases n1 with ⟨h1, _⟩ | ⟨_, _, _, _, _, h6⟩ | ⟨h1, _⟩
      · simp only at h1; omega
      · rw [q1, q2] at h6; exact Option.some.inj h6
      · simp only at h1; omega
    have hle := from_le fm' (at_ := ((n.length - 1 : Nat) : Int)) (by omega) (by omega)
    rw [hF]
    generalize hf : formulaFrom (topN n a) ((n.length - 1 : Nat) : Int) = fr at hle
    simp only
    have c1 : (((n.length : Nat) : Int) + 1).toNat - fr.toNat = (n.length - fr.toNat) + 1 := by omega
    have c2 : (((n.length - 1 : Nat) : Int) + 1).toNat - fr.toNat = n.length - fr.toNat := by omega
    rw [c1, c2]
    have hd : ((topN n a).drop fr.toNat) = n.drop fr.toNat ++ [⟨a, ⟨[], []⟩, (n.length : Int) - 1, 0⟩] := by
      unfold topN
      rw [twin_eq, List.drop_append_of_le_length (by omega)]
    have hdl : (n.drop fr.toNat).length = n.length - fr.toNat := List.length_drop
    rw [hd, List.take_of_length_le (by rw [List.length_append, hdl]; simp), List.take_append_of_le_length (by omega), List.take_of_length_le (by omega), List.map_append, List.flatMap_append]
    have : matchVars ⟨[], []⟩ = [] := rfl
    simp [this]
end

theorem wakes_t : lawWakes = true := rfl
theorem loop1 (n : List Sp.Node) (ok : okL n) (fm : formulaCheck n = 0) (q : Nat) (a : Int) (h0 : 2 ≤ a) (h1 : a ≤ 8) : lawSafeFound_l1 n (q + 1) a = lawSafeFound_l1 n q (a + 1) := by
  rw [lawSafeFound_l1, decide_eq_true h1, cond_true]
  by_cases a3 : a = 3
  · subst a3; rfl
  by_cases a4 : a = 4
  · subst a4; rfl
  by_cases a8 : a = 8
  · subst a8; rfl
  have e3 : (a == 3) = false := by simpa using a3
  have e4 : (a == 4) = false := by simpa using a4
  have e8 : (a == 8) = false := by simpa using a8
  rw [e3, e4, e8]
  simp only [cond_false]
  cases hr : refFormula (topN n a) with
  | false => rfl
  | true =>
    obtain ⟨g1, g2, g3⟩ := top_all ok fm (ref_check hr) (by omega)
    rw [cond_true, g3, texts_refl, cond_true]
    by_cases a2 : a = 2
    · rw [g1, g2 (by omega), a2]
      simp only [show ((2 : Int) == 2) = true from rfl, show ((2 : Int) == 5) = false from rfl, show ((2 : Int) == 6) = false from rfl, cond_true, cond_false, beq_self_eq_true]
    by_cases a5 : a = 5
    · rw [g2 (by omega), g1, a5]
      simp only [show ((5 : Int) == 2) = false from rfl, show ((5 : Int) == 5) = true from rfl, cond_true, cond_false, beq_self_eq_true]
    by_cases a6 : a = 6
    · rw [g2 (by omega), g1, a6]
      simp only [show ((6 : Int) == 2) = false from rfl, show ((6 : Int) == 5) = false from rfl, show ((6 : Int) == 6) = true from rfl, cond_true, cond_false, beq_self_eq_true]
    have a7 : a = 7 := by omega
    rw [g1, a7]
    rfl
theorem loop2 (n : List Sp.Node) (ok : okL n) (fm : formulaCheck n = 0) (q : Nat) (a : Int) (h0 : 2 ≤ a) (h1 : a ≤ 8) : lawSafeFound_l2 n (q + 1) a = lawSafeFound_l2 n q (a + 1) := by
  rw [lawSafeFound_l2, decide_eq_true h1, cond_true]
  by_cases a3 : a = 3
  · subst a3; rfl
  by_cases a4 : a = 4
  · subst a4; rfl
  by_cases a8 : a = 8
  · subst a8; rfl
  have e3 : (a == 3) = false := by simpa using a3
  have e4 : (a == 4) = false := by simpa using a4
  have e8 : (a == 8) = false := by simpa using a8
  rw [e3, e4, e8]
  simp only [cond_false]
  cases hr : refFormula (topN n a) with
  | false => rfl
  | true =>
    obtain ⟨g1, g2, g3⟩ := top_all ok fm (ref_check hr) (by omega)
    rw [cond_true, g3, texts_refl, cond_true]
    by_cases a2 : a = 2
    · rw [g1, g2 (by omega), a2]
      simp only [show ((2 : Int) == 2) = true from rfl, show ((2 : Int) == 5) = false from rfl, show ((2 : Int) == 6) = false from rfl, cond_true, cond_false, beq_self_eq_true]
    by_cases a5 : a = 5
    · rw [g2 (by omega), g1, a5]
      simp only [show ((5 : Int) == 2) = false from rfl, show ((5 : Int) == 5) = true from rfl, cond_true, cond_false, beq_self_eq_true]
    by_cases a6 : a = 6
    · rw [g2 (by omega), g1, a6]
      simp only [show ((6 : Int) == 2) = false from rfl, show ((6 : Int) == 5) = false from rfl, show ((6 : Int) == 6) = true from rfl, cond_true, cond_false, beq_self_eq_true]
    have a7 : a = 7 := by omega
    rw [g1, a7]
    rfl

theorem safeFound_law (n : List Sp.Node) (ok : okL n) : lawSafeFound n = true := by
  unfold lawSafeFound
  cases heavyNodes n with
  | true => rfl
  | false =>
  cases hr : refFormula n with
  | false => rfl
  | true =>
  rw [cond_false, cond_true]
  cases decide ((n.length : Int) ≥ 40) with
  | true => rfl
  | false =>
  have fm := ref_check hr
  have hn := fc_le fm
  rw [cond_false]
  have l1 : lawSafeFound_l1 n 8 2 = true := by
    rw [loop1 n ok fm 7 2 (by decide) (by decide), loop1 n ok fm 6 (2 + 1) (by decide) (by decide), loop1 n ok fm 5 (2 + 1 + 1) (by decide) (by decide), loop1 n ok fm 4 (2 + 1 + 1 + 1) (by decide) (by decide), loop1 n ok fm 3 (2 + 1 + 1 + 1 + 1) (by decide) (by decide), loop1 n ok fm 2 (2 + 1 + 1 + 1 + 1 + 1) (by decide) (by decide), loop1 n ok fm 1 (2 + 1 + 1 + 1 + 1 + 1 + 1) (by decide) (by decide)]
    rfl
  have l2 : lawSafeFound_l2 n 8 2 = true := by
    rw [loop2 n ok fm 7 2 (by decide) (by decide), loop2 n ok fm 6 (2 + 1) (by decide) (by decide), loop2 n ok fm 5 (2 + 1 + 1) (by decide) (by decide), loop2 n ok fm 4 (2 + 1 + 1 + 1) (by decide) (by decide), loop2 n ok fm 3 (2 + 1 + 1 + 1 + 1) (by decide) (by decide), loop2 n ok fm 2 (2 + 1 + 1 + 1 + 1 + 1) (by decide) (by decide), loop2 n ok fm 1 (2 + 1 + 1 + 1 + 1 + 1 + 1) (by decide) (by decide)]
    rfl
  rw [l1, l2]
  have e2 : (n.length : Int) - 1 = ((n.length - 1 : Nat) : Int) := by omega
  rw [e2, safeFound_eq fm (by omega), safeTested_eq fm (by omega)]
  cases hf : lookerFound ⟨n⟩ ((n.length - 1 : Nat) : Int) with
  | false => rfl
  | true => rw [found_tested ok fm (by omega) hf]; rfl

theorem safeFound_run (x0 : V) (h0 : HasV (.sl 5 shNode) x0) : ∃ wd, TX.call 4 [x0] [] = some (.bool true, [], wd) := by
  obtain ⟨l, rfl, ok⟩ := has_nodes h0
  have := lawSafeFound_says l ok []
  rw [safeFound_law l ok] at this
  exact ⟨0, this⟩
end Go.Vm
