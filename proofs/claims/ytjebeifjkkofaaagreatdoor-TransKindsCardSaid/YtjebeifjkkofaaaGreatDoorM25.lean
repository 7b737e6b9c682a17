/-
  A part of a proof: the last text of the claim says what is proved, and under which conditions.
-/
import Derived.Test.YtjebeifjkkofaaaGreatDoorM22
set_option linter.unusedSimpArgs false
set_option linter.unusedVariables false
set_option linter.unnecessarySimpa false
/- Printed by closed2.py. -/
namespace Go.Vm
open Go
set_option maxRecDepth 1000000
noncomputable def TO2_0 : Orc := orcM (orcS [(.rem,.int .i16 2,.int .u64 5,.int .i16 3),(.rem,.int .i16 5,.int .u64 10,.int .u64 2),(.geq,.int .i16 4,.int .i64 (-4611686018427387904),.bool true),(.leq,.int .i16 4,.int .i64 4611686018427387904,.bool true),(.neq,.int .i16 4,.int .i16 4,.bool false),(.lss,.int .i16 4,.int .i16 4,.bool false),(.gtr,.int .i16 4,.int .i16 4,.bool false)] [(.u64,.int .i16 1,.int .i16 2),(.i64,.int .i16 3,.int .i16 4),(.u64,.int .i16 0,.int .i16 5)] [([2,1,1,2],.agg [.str [88],.int .i64 1,.int .i16 4,.str []],.agg [.str [88],.int .i64 1,.int .i16 4,.str []],true)]) TA4
theorem TO2_0_ok (h n u c hu : Int) (H : HT 2 h n u c hu) : OrcOk TX (sgT [(.i64,h),(.i64,n),(.u64,u),(.u64,c),(.i64,c),(.u64,hu)]) TO2_0 := by
  obtain ⟨e1,e2,e3,e7,e8,hc⟩ := H
  refine orcM_ok (orcS_ok ?_ ?_ ?_) TA4_ok
  · intro p hp
    simp only [List.mem_cons,List.mem_nil_iff,or_false] at hp
    rcases hp with rfl | rfl | rfl | rfl | rfl | rfl | rfl
    · exact congrArg (fun q => some (V.int .u64 q)) e2
    · exact congrArg (fun q => some (V.int .u64 q)) e8
    · first | rfl | exact bT (by omega) | exact bF (by omega) | exact beT (by omega) | exact beF (by omega) | exact bnT (by omega) | exact bnF (by omega)
    · first | rfl | exact bT (by omega) | exact bF (by omega) | exact beT (by omega) | exact beF (by omega) | exact bnT (by omega) | exact bnF (by omega)
    · first | rfl | exact bT (by omega) | exact bF (by omega) | exact beT (by omega) | exact beF (by omega) | exact bnT (by omega) | exact bnF (by omega)
    · first | rfl | exact bT (by omega) | exact bF (by omega) | exact beT (by omega) | exact beF (by omega) | exact bnT (by omega) | exact bnF (by omega)
    · first | rfl | exact bT (by omega) | exact bF (by omega) | exact beT (by omega) | exact beF (by omega) | exact bnT (by omega) | exact bnF (by omega)
  · intro p hp
    simp only [List.mem_cons,List.mem_nil_iff,or_false] at hp
    rcases hp with rfl | rfl | rfl
    · exact ⟨_,_,rfl,congrArg (V.int .u64) e1.symm⟩
    · exact ⟨_,_,rfl,congrArg (V.int .i64) e3.symm⟩
    · exact ⟨_,_,rfl,congrArg (V.int .u64) e7.symm⟩
  · intro p hp
    simp only [List.mem_cons,List.mem_nil_iff,or_false] at hp
    rcases hp with rfl
    · exact ⟨_,_,rfl,rfl,by simp [eqL,eqK,su,suL,sgT,show (IntKind.i64 == IntKind.i16) = false from by decide,show (IntKind.u64 == IntKind.i16) = false from by decide,show (IntKind.u8 == IntKind.i16) = false from by decide]⟩
end Go.Vm

/- Printed by closed2.py. -/
namespace Go.Vm
open Go
set_option maxRecDepth 1000000
theorem Tr50 (p : List Fr → Bool) (sg : List Fr) : callC C0 TO2_0 TX.funs TX.prim 2000 372 Ta50 sg (fun v' sg' wd => ifK (veq v' Tv50) (ifK (Nat.beq wd 0) (p sg') false) false) = p sg := by kernel_rfl
theorem Ts50 (h n u c hu : Int) (H : HT 2 h n u c hu) : SaysS TX (sgT [(.i64,h),(.i64,n),(.u64,u),(.u64,c),(.i64,c),(.u64,hu)]) 372 Ta50 Tv50 := saysS_of_C (sgT_num _) (sgT_onto _) (TO2_0_ok h n u c hu H) (prim_su (sgT_num _)) cl_ok Tr50
theorem Tr53 (p : List Fr → Bool) (sg : List Fr) : callC C0 TO2_0 TX.funs TX.prim 2000 372 Ta53 sg (fun v' sg' wd => ifK (veq v' Tv53) (ifK (Nat.beq wd 0) (p sg') false) false) = p sg := by kernel_rfl
theorem Ts53 (h n u c hu : Int) (H : HT 2 h n u c hu) : SaysS TX (sgT [(.i64,h),(.i64,n),(.u64,u),(.u64,c),(.i64,c),(.u64,hu)]) 372 Ta53 Tv53 := saysS_of_C (sgT_num _) (sgT_onto _) (TO2_0_ok h n u c hu H) (prim_su (sgT_num _)) cl_ok Tr53
theorem Tr51 (p : List Fr → Bool) (sg : List Fr) : callC C0 TO2_0 TX.funs TX.prim 2000 263 Ta51 sg (fun v' sg' wd => ifK (veq v' Tv51) (ifK (Nat.beq wd 0) (p sg') false) false) = p sg := by kernel_rfl
theorem Ts51 (h n u c hu : Int) (H : HT 2 h n u c hu) : SaysS TX (sgT [(.i64,h),(.i64,n),(.u64,u),(.u64,c),(.i64,c),(.u64,hu)]) 263 Ta51 Tv51 := saysS_of_C (sgT_num _) (sgT_onto _) (TO2_0_ok h n u c hu H) (prim_su (sgT_num _)) cl_ok Tr51
end Go.Vm

/- Printed by closed2.py. -/
namespace Go.Vm
open Go
set_option maxRecDepth 1000000
noncomputable def Tk2_1_263 : List V → Option V := kM [(Ta51,Tv51)]
theorem Tk2_1_263_ok (h n u c hu : Int) (H : HT 2 h n u c hu) : KOkS TX (sgT [(.i64,h),(.i64,n),(.u64,u),(.u64,c),(.i64,c),(.u64,hu)]) 263 Tk2_1_263 := kM_okS fun p hp => by
  simp only [List.mem_cons,List.mem_nil_iff,or_false] at hp
  rcases hp with rfl
  · exact Ts51 h n u c hu H
noncomputable def Tk2_1_372 : List V → Option V := kM [(Ta50,Tv50),(Ta53,Tv53)]
theorem Tk2_1_372_ok (h n u c hu : Int) (H : HT 2 h n u c hu) : KOkS TX (sgT [(.i64,h),(.i64,n),(.u64,u),(.u64,c),(.i64,c),(.u64,hu)]) 372 Tk2_1_372 := kM_okS fun p hp => by
  simp only [List.mem_cons,List.mem_nil_iff,or_false] at hp
  rcases hp with rfl | rfl
  · exact Ts50 h n u c hu H
  · exact Ts53 h n u c hu H
noncomputable def TT2_1 : KT := (.node 372 Tk2_1_372 (.node 263 Tk2_1_263 .leaf .leaf) .leaf)
theorem TT2_1_ok (h n u c hu : Int) (H : HT 2 h n u c hu) : KT.OkS TX (sgT [(.i64,h),(.i64,n),(.u64,u),(.u64,c),(.i64,c),(.u64,hu)]) TT2_1 := ⟨Tk2_1_372_ok h n u c hu H,⟨Tk2_1_263_ok h n u c hu H,trivial,trivial⟩,trivial⟩
noncomputable def TO2_1 : Orc := orcL TT2_1 TO2_0
theorem TO2_1_ok (h n u c hu : Int) (H : HT 2 h n u c hu) : OrcOk TX (sgT [(.i64,h),(.i64,n),(.u64,u),(.u64,c),(.i64,c),(.u64,hu)]) TO2_1 := orcL_okS (TT2_1_ok h n u c hu H) (TO2_0_ok h n u c hu H)
end Go.Vm

/- Printed by closed2.py. -/
namespace Go.Vm
open Go
set_option maxRecDepth 1000000
theorem Tr58 (p : List Fr → Bool) (sg : List Fr) : callC C0 TO2_1 TX.funs TX.prim 2000 372 Ta58 sg (fun v' sg' wd => ifK (veq v' Tv58) (ifK (Nat.beq wd 0) (p sg') false) false) = p sg := by kernel_rfl
theorem Ts58 (h n u c hu : Int) (H : HT 2 h n u c hu) : SaysS TX (sgT [(.i64,h),(.i64,n),(.u64,u),(.u64,c),(.i64,c),(.u64,hu)]) 372 Ta58 Tv58 := saysS_of_C (sgT_num _) (sgT_onto _) (TO2_1_ok h n u c hu H) (prim_su (sgT_num _)) cl_ok Tr58
theorem Tr57 (p : List Fr → Bool) (sg : List Fr) : callC C0 TO2_1 TX.funs TX.prim 2000 372 Ta57 sg (fun v' sg' wd => ifK (veq v' Tv57) (ifK (Nat.beq wd 0) (p sg') false) false) = p sg := by kernel_rfl
theorem Ts57 (h n u c hu : Int) (H : HT 2 h n u c hu) : SaysS TX (sgT [(.i64,h),(.i64,n),(.u64,u),(.u64,c),(.i64,c),(.u64,hu)]) 372 Ta57 Tv57 := saysS_of_C (sgT_num _) (sgT_onto _) (TO2_1_ok h n u c hu H) (prim_su (sgT_num _)) cl_ok Tr57
theorem Tr52 (p : List Fr → Bool) (sg : List Fr) : callC C0 TO2_1 TX.funs TX.prim 2000 372 Ta52 sg (fun v' sg' wd => ifK (veq v' Tv52) (ifK (Nat.beq wd 0) (p sg') false) false) = p sg := by kernel_rfl
theorem Ts52 (h n u c hu : Int) (H : HT 2 h n u c hu) : SaysS TX (sgT [(.i64,h),(.i64,n),(.u64,u),(.u64,c),(.i64,c),(.u64,hu)]) 372 Ta52 Tv52 := saysS_of_C (sgT_num _) (sgT_onto _) (TO2_1_ok h n u c hu H) (prim_su (sgT_num _)) cl_ok Tr52
end Go.Vm

/- Printed by closed2.py. -/
namespace Go.Vm
open Go
set_option maxRecDepth 1000000
theorem Tr61 (p : List Fr → Bool) (sg : List Fr) : callC C0 TO2_1 TX.funs TX.prim 2000 372 Ta61 sg (fun v' sg' wd => ifK (veq v' Tv61) (ifK (Nat.beq wd 0) (p sg') false) false) = p sg := by kernel_rfl
theorem Ts61 (h n u c hu : Int) (H : HT 2 h n u c hu) : SaysS TX (sgT [(.i64,h),(.i64,n),(.u64,u),(.u64,c),(.i64,c),(.u64,hu)]) 372 Ta61 Tv61 := saysS_of_C (sgT_num _) (sgT_onto _) (TO2_1_ok h n u c hu H) (prim_su (sgT_num _)) cl_ok Tr61
theorem Tr55 (p : List Fr → Bool) (sg : List Fr) : callC C0 TO2_1 TX.funs TX.prim 2000 372 Ta55 sg (fun v' sg' wd => ifK (veq v' Tv55) (ifK (Nat.beq wd 0) (p sg') false) false) = p sg := by kernel_rfl
theorem Ts55 (h n u c hu : Int) (H : HT 2 h n u c hu) : SaysS TX (sgT [(.i64,h),(.i64,n),(.u64,u),(.u64,c),(.i64,c),(.u64,hu)]) 372 Ta55 Tv55 := saysS_of_C (sgT_num _) (sgT_onto _) (TO2_1_ok h n u c hu H) (prim_su (sgT_num _)) cl_ok Tr55
theorem Tr60 (p : List Fr → Bool) (sg : List Fr) : callC C0 TO2_1 TX.funs TX.prim 2000 372 Ta60 sg (fun v' sg' wd => ifK (veq v' Tv60) (ifK (Nat.beq wd 0) (p sg') false) false) = p sg := by kernel_rfl
theorem Ts60 (h n u c hu : Int) (H : HT 2 h n u c hu) : SaysS TX (sgT [(.i64,h),(.i64,n),(.u64,u),(.u64,c),(.i64,c),(.u64,hu)]) 372 Ta60 Tv60 := saysS_of_C (sgT_num _) (sgT_onto _) (TO2_1_ok h n u c hu H) (prim_su (sgT_num _)) cl_ok Tr60
theorem Tr54 (p : List Fr → Bool) (sg : List Fr) : callC C0 TO2_1 TX.funs TX.prim 2000 372 Ta54 sg (fun v' sg' wd => ifK (veq v' Tv54) (ifK (Nat.beq wd 0) (p sg') false) false) = p sg := by kernel_rfl
theorem Ts54 (h n u c hu : Int) (H : HT 2 h n u c hu) : SaysS TX (sgT [(.i64,h),(.i64,n),(.u64,u),(.u64,c),(.i64,c),(.u64,hu)]) 372 Ta54 Tv54 := saysS_of_C (sgT_num _) (sgT_onto _) (TO2_1_ok h n u c hu H) (prim_su (sgT_num _)) cl_ok Tr54
end Go.Vm

/- Printed by closed2.py. -/
namespace Go.Vm
open Go
set_option maxRecDepth 1000000
noncomputable def Tk2_2_372 : List V → Option V := kM [(Ta58,Tv58),(Ta61,Tv61),(Ta55,Tv55),(Ta57,Tv57),(Ta60,Tv60),(Ta52,Tv52),(Ta54,Tv54)]
theorem Tk2_2_372_ok (h n u c hu : Int) (H : HT 2 h n u c hu) : KOkS TX (sgT [(.i64,h),(.i64,n),(.u64,u),(.u64,c),(.i64,c),(.u64,hu)]) 372 Tk2_2_372 := kM_okS fun p hp => by
  simp only [List.mem_cons,List.mem_nil_iff,or_false] at hp
  rcases hp with rfl | rfl | rfl | rfl | rfl | rfl | rfl
  · exact Ts58 h n u c hu H
  · exact Ts61 h n u c hu H
  · exact Ts55 h n u c hu H
  · exact Ts57 h n u c hu H
  · exact Ts60 h n u c hu H
  · exact Ts52 h n u c hu H
  · exact Ts54 h n u c hu H
noncomputable def TT2_2 : KT := (.node 372 Tk2_2_372 .leaf .leaf)
theorem TT2_2_ok (h n u c hu : Int) (H : HT 2 h n u c hu) : KT.OkS TX (sgT [(.i64,h),(.i64,n),(.u64,u),(.u64,c),(.i64,c),(.u64,hu)]) TT2_2 := ⟨Tk2_2_372_ok h n u c hu H,trivial,trivial⟩
noncomputable def TO2_2 : Orc := orcL TT2_2 TO2_1
theorem TO2_2_ok (h n u c hu : Int) (H : HT 2 h n u c hu) : OrcOk TX (sgT [(.i64,h),(.i64,n),(.u64,u),(.u64,c),(.i64,c),(.u64,hu)]) TO2_2 := orcL_okS (TT2_2_ok h n u c hu H) (TO2_1_ok h n u c hu H)
end Go.Vm

/- Printed by closed2.py. -/
namespace Go.Vm
open Go
set_option maxRecDepth 1000000
theorem Tr56 (p : List Fr → Bool) (sg : List Fr) : callC C0 TO2_2 TX.funs TX.prim 2000 22 Ta56 sg (fun v' sg' wd => ifK (veq v' Tv56) (ifK (Nat.beq wd 0) (p sg') false) false) = p sg := by kernel_rfl
theorem Ts56 (h n u c hu : Int) (H : HT 2 h n u c hu) : SaysS TX (sgT [(.i64,h),(.i64,n),(.u64,u),(.u64,c),(.i64,c),(.u64,hu)]) 22 Ta56 Tv56 := saysS_of_C (sgT_num _) (sgT_onto _) (TO2_2_ok h n u c hu H) (prim_su (sgT_num _)) cl_ok Tr56
theorem Tr59 (p : List Fr → Bool) (sg : List Fr) : callC C0 TO2_2 TX.funs TX.prim 2000 22 Ta59 sg (fun v' sg' wd => ifK (veq v' Tv59) (ifK (Nat.beq wd 0) (p sg') false) false) = p sg := by kernel_rfl
theorem Ts59 (h n u c hu : Int) (H : HT 2 h n u c hu) : SaysS TX (sgT [(.i64,h),(.i64,n),(.u64,u),(.u64,c),(.i64,c),(.u64,hu)]) 22 Ta59 Tv59 := saysS_of_C (sgT_num _) (sgT_onto _) (TO2_2_ok h n u c hu H) (prim_su (sgT_num _)) cl_ok Tr59
end Go.Vm

/- Printed by closed2.py. -/
namespace Go.Vm
open Go
set_option maxRecDepth 1000000
noncomputable def Tk2_3_22 : List V → Option V := kM [(Ta56,Tv56),(Ta59,Tv59)]
theorem Tk2_3_22_ok (h n u c hu : Int) (H : HT 2 h n u c hu) : KOkS TX (sgT [(.i64,h),(.i64,n),(.u64,u),(.u64,c),(.i64,c),(.u64,hu)]) 22 Tk2_3_22 := kM_okS fun p hp => by
  simp only [List.mem_cons,List.mem_nil_iff,or_false] at hp
  rcases hp with rfl | rfl
  · exact Ts56 h n u c hu H
  · exact Ts59 h n u c hu H
noncomputable def TT2_3 : KT := (.node 22 Tk2_3_22 .leaf .leaf)
theorem TT2_3_ok (h n u c hu : Int) (H : HT 2 h n u c hu) : KT.OkS TX (sgT [(.i64,h),(.i64,n),(.u64,u),(.u64,c),(.i64,c),(.u64,hu)]) TT2_3 := ⟨Tk2_3_22_ok h n u c hu H,trivial,trivial⟩
noncomputable def TO2_3 : Orc := orcL TT2_3 TO2_2
theorem TO2_3_ok (h n u c hu : Int) (H : HT 2 h n u c hu) : OrcOk TX (sgT [(.i64,h),(.i64,n),(.u64,u),(.u64,c),(.i64,c),(.u64,hu)]) TO2_3 := orcL_okS (TT2_3_ok h n u c hu H) (TO2_2_ok h n u c hu H)
end Go.Vm

/- Printed by closed2.py. -/
namespace Go.Vm
open Go
set_option maxRecDepth 1000000
theorem Tr62 (p : List Fr → Bool) (sg : List Fr) : callC C0 TO2_3 TX.funs TX.prim 2000 7 Ta62 sg (fun v' sg' wd => ifK (veq v' Tv62) (ifK (Nat.beq wd 0) (p sg') false) false) = p sg := by kernel_rfl
theorem Ts62 (h n u c hu : Int) (H : HT 2 h n u c hu) : SaysS TX (sgT [(.i64,h),(.i64,n),(.u64,u),(.u64,c),(.i64,c),(.u64,hu)]) 7 Ta62 Tv62 := saysS_of_C (sgT_num _) (sgT_onto _) (TO2_3_ok h n u c hu H) (prim_su (sgT_num _)) cl_ok Tr62
end Go.Vm

/- Printed by closed2.py. -/
namespace Go.Vm
open Go
set_option maxRecDepth 1000000
noncomputable def Tk2_4_7 : List V → Option V := kM [(Ta62,Tv62)]
theorem Tk2_4_7_ok (h n u c hu : Int) (H : HT 2 h n u c hu) : KOkS TX (sgT [(.i64,h),(.i64,n),(.u64,u),(.u64,c),(.i64,c),(.u64,hu)]) 7 Tk2_4_7 := kM_okS fun p hp => by
  simp only [List.mem_cons,List.mem_nil_iff,or_false] at hp
  rcases hp with rfl
  · exact Ts62 h n u c hu H
noncomputable def TT2_4 : KT := (.node 7 Tk2_4_7 .leaf .leaf)
theorem TT2_4_ok (h n u c hu : Int) (H : HT 2 h n u c hu) : KT.OkS TX (sgT [(.i64,h),(.i64,n),(.u64,u),(.u64,c),(.i64,c),(.u64,hu)]) TT2_4 := ⟨Tk2_4_7_ok h n u c hu H,trivial,trivial⟩
noncomputable def TO2_4 : Orc := orcL TT2_4 TO2_3
theorem TO2_4_ok (h n u c hu : Int) (H : HT 2 h n u c hu) : OrcOk TX (sgT [(.i64,h),(.i64,n),(.u64,u),(.u64,c),(.i64,c),(.u64,hu)]) TO2_4 := orcL_okS (TT2_4_ok h n u c hu H) (TO2_3_ok h n u c hu H)
end Go.Vm

/- Printed by closed2.py. -/
namespace Go.Vm
open Go
set_option maxRecDepth 1000000
theorem Tr63 (p : List Fr → Bool) (sg : List Fr) : callC C0 TO2_4 TX.funs TX.prim 2000 3 Ta63 sg (fun v' sg' wd => ifK (veq v' Tv63) (ifK (Nat.beq wd 0) (p sg') false) false) = p sg := by kernel_rfl
theorem Ts63 (h n u c hu : Int) (H : HT 2 h n u c hu) : SaysS TX (sgT [(.i64,h),(.i64,n),(.u64,u),(.u64,c),(.i64,c),(.u64,hu)]) 3 Ta63 Tv63 := saysS_of_C (sgT_num _) (sgT_onto _) (TO2_4_ok h n u c hu H) (prim_su (sgT_num _)) cl_ok Tr63
end Go.Vm

/- Printed by closed2.py. -/
namespace Go.Vm
open Go
set_option maxRecDepth 1000000
noncomputable def Tk2_5_3 : List V → Option V := kM [(Ta63,Tv63)]
theorem Tk2_5_3_ok (h n u c hu : Int) (H : HT 2 h n u c hu) : KOkS TX (sgT [(.i64,h),(.i64,n),(.u64,u),(.u64,c),(.i64,c),(.u64,hu)]) 3 Tk2_5_3 := kM_okS fun p hp => by
  simp only [List.mem_cons,List.mem_nil_iff,or_false] at hp
  rcases hp with rfl
  · exact Ts63 h n u c hu H
noncomputable def TT2_5 : KT := (.node 3 Tk2_5_3 .leaf .leaf)
theorem TT2_5_ok (h n u c hu : Int) (H : HT 2 h n u c hu) : KT.OkS TX (sgT [(.i64,h),(.i64,n),(.u64,u),(.u64,c),(.i64,c),(.u64,hu)]) TT2_5 := ⟨Tk2_5_3_ok h n u c hu H,trivial,trivial⟩
noncomputable def TO2_5 : Orc := orcL TT2_5 TO2_4
theorem TO2_5_ok (h n u c hu : Int) (H : HT 2 h n u c hu) : OrcOk TX (sgT [(.i64,h),(.i64,n),(.u64,u),(.u64,c),(.i64,c),(.u64,hu)]) TO2_5 := orcL_okS (TT2_5_ok h n u c hu H) (TO2_4_ok h n u c hu H)
end Go.Vm
