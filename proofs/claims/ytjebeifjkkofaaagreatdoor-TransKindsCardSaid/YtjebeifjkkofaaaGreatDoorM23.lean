/-
  A part of a proof: the last text of the claim says what is proved, and under which conditions.
-/
import Derived.Test.YtjebeifjkkofaaaGreatDoorM22
set_option linter.unusedSimpArgs false
set_option linter.unusedVariables false
set_option linter.unnecessarySimpa false
/- Printed by closed2.py. -/
namespace Go.Vm
open Go
set_option maxRecDepth 1000000
noncomputable def TO0_0 : Orc := orcM (orcS [(.rem,.int .i16 2,.int .u64 5,.int .i16 3),(.rem,.int .i16 5,.int .u64 10,.int .u64 0),(.geq,.int .i16 4,.int .i64 (-4611686018427387904),.bool true),(.leq,.int .i16 4,.int .i64 4611686018427387904,.bool true),(.neq,.int .i16 4,.int .i16 4,.bool false),(.lss,.int .i16 4,.int .i16 4,.bool false),(.gtr,.int .i16 4,.int .i16 4,.bool false)] [(.u64,.int .i16 1,.int .i16 2),(.i64,.int .i16 3,.int .i16 4),(.u64,.int .i16 0,.int .i16 5)] [([2,1,1,2],.agg [.str [88],.int .i64 1,.int .i16 4,.str []],.agg [.str [88],.int .i64 1,.int .i16 4,.str []],true)]) TA4
theorem TO0_0_ok (h n u c hu : Int) (H : HT 0 h n u c hu) : OrcOk TX (sgT [(.i64,h),(.i64,n),(.u64,u),(.u64,c),(.i64,c),(.u64,hu)]) TO0_0 := by
  obtain ⟨e1,e2,e3,e7,e8,hc⟩ := H
  refine orcM_ok (orcS_ok ?_ ?_ ?_) TA4_ok
  · intro p hp
    simp only [List.mem_cons,List.mem_nil_iff,or_false] at hp
    rcases hp with rfl | rfl | rfl | rfl | rfl | rfl | rfl
    · exact congrArg (fun q => some (V.int .u64 q)) e2
    · exact congrArg (fun q => some (V.int .u64 q)) e8
    · first | rfl | exact bT (by omega) | exact bF (by omega) | exact beT (by omega) | exact beF (by omega) | exact bnT (by omega) | exact bnF (by omega)
    · first | rfl | exact bT (by omega) | exact bF (by omega) | exact beT (by omega) | exact beF (by omega) | exact bnT (by omega) | exact bnF (by omega)
    · first | rfl | exact bT (by omega) | exact bF (by omega) | exact beT (by omega) | exact beF (by omega) | exact bnT (by omega) | exact bnF (by omega)
    · first | rfl | exact bT (by omega) | exact bF (by omega) | exact beT (by omega) | exact beF (by omega) | exact bnT (by omega) | exact bnF (by omega)
    · first | rfl | exact bT (by omega) | exact bF (by omega) | exact beT (by omega) | exact beF (by omega) | exact bnT (by omega) | exact bnF (by omega)
  · intro p hp
    simp only [List.mem_cons,List.mem_nil_iff,or_false] at hp
    rcases hp with rfl | rfl | rfl
    · exact ⟨_,_,rfl,congrArg (V.int .u64) e1.symm⟩
    · exact ⟨_,_,rfl,congrArg (V.int .i64) e3.symm⟩
    · exact ⟨_,_,rfl,congrArg (V.int .u64) e7.symm⟩
  · intro p hp
    simp only [List.mem_cons,List.mem_nil_iff,or_false] at hp
    rcases hp with rfl
    · exact ⟨_,_,rfl,rfl,by simp [eqL,eqK,su,suL,sgT,show (IntKind.i64 == IntKind.i16) = false from by decide,show (IntKind.u64 == IntKind.i16) = false from by decide,show (IntKind.u8 == IntKind.i16) = false from by decide]⟩
end Go.Vm

/- Printed by closed2.py. -/
namespace Go.Vm
open Go
set_option maxRecDepth 1000000
theorem Tr15 (p : List Fr → Bool) (sg : List Fr) : callC C0 TO0_0 TX.funs TX.prim 2000 372 Ta15 sg (fun v' sg' wd => ifK (veq v' Tv15) (ifK (Nat.beq wd 0) (p sg') false) false) = p sg := by kernel_rfl
theorem Ts15 (h n u c hu : Int) (H : HT 0 h n u c hu) : SaysS TX (sgT [(.i64,h),(.i64,n),(.u64,u),(.u64,c),(.i64,c),(.u64,hu)]) 372 Ta15 Tv15 := saysS_of_C (sgT_num _) (sgT_onto _) (TO0_0_ok h n u c hu H) (prim_su (sgT_num _)) cl_ok Tr15
theorem Tr16 (p : List Fr → Bool) (sg : List Fr) : callC C0 TO0_0 TX.funs TX.prim 2000 263 Ta16 sg (fun v' sg' wd => ifK (veq v' Tv16) (ifK (Nat.beq wd 0) (p sg') false) false) = p sg := by kernel_rfl
theorem Ts16 (h n u c hu : Int) (H : HT 0 h n u c hu) : SaysS TX (sgT [(.i64,h),(.i64,n),(.u64,u),(.u64,c),(.i64,c),(.u64,hu)]) 263 Ta16 Tv16 := saysS_of_C (sgT_num _) (sgT_onto _) (TO0_0_ok h n u c hu H) (prim_su (sgT_num _)) cl_ok Tr16
end Go.Vm

/- Printed by closed2.py. -/
namespace Go.Vm
open Go
set_option maxRecDepth 1000000
noncomputable def Tk0_1_263 : List V → Option V := kM [(Ta16,Tv16)]
theorem Tk0_1_263_ok (h n u c hu : Int) (H : HT 0 h n u c hu) : KOkS TX (sgT [(.i64,h),(.i64,n),(.u64,u),(.u64,c),(.i64,c),(.u64,hu)]) 263 Tk0_1_263 := kM_okS fun p hp => by
  simp only [List.mem_cons,List.mem_nil_iff,or_false] at hp
  rcases hp with rfl
  · exact Ts16 h n u c hu H
noncomputable def Tk0_1_372 : List V → Option V := kM [(Ta15,Tv15)]
theorem Tk0_1_372_ok (h n u c hu : Int) (H : HT 0 h n u c hu) : KOkS TX (sgT [(.i64,h),(.i64,n),(.u64,u),(.u64,c),(.i64,c),(.u64,hu)]) 372 Tk0_1_372 := kM_okS fun p hp => by
  simp only [List.mem_cons,List.mem_nil_iff,or_false] at hp
  rcases hp with rfl
  · exact Ts15 h n u c hu H
noncomputable def TT0_1 : KT := (.node 372 Tk0_1_372 (.node 263 Tk0_1_263 .leaf .leaf) .leaf)
theorem TT0_1_ok (h n u c hu : Int) (H : HT 0 h n u c hu) : KT.OkS TX (sgT [(.i64,h),(.i64,n),(.u64,u),(.u64,c),(.i64,c),(.u64,hu)]) TT0_1 := ⟨Tk0_1_372_ok h n u c hu H,⟨Tk0_1_263_ok h n u c hu H,trivial,trivial⟩,trivial⟩
noncomputable def TO0_1 : Orc := orcL TT0_1 TO0_0
theorem TO0_1_ok (h n u c hu : Int) (H : HT 0 h n u c hu) : OrcOk TX (sgT [(.i64,h),(.i64,n),(.u64,u),(.u64,c),(.i64,c),(.u64,hu)]) TO0_1 := orcL_okS (TT0_1_ok h n u c hu H) (TO0_0_ok h n u c hu H)
end Go.Vm

/- Printed by closed2.py. -/
namespace Go.Vm
open Go
set_option maxRecDepth 1000000
theorem Tr19 (p : List Fr → Bool) (sg : List Fr) : callC C0 TO0_1 TX.funs TX.prim 2000 372 Ta19 sg (fun v' sg' wd => ifK (veq v' Tv19) (ifK (Nat.beq wd 0) (p sg') false) false) = p sg := by kernel_rfl
theorem Ts19 (h n u c hu : Int) (H : HT 0 h n u c hu) : SaysS TX (sgT [(.i64,h),(.i64,n),(.u64,u),(.u64,c),(.i64,c),(.u64,hu)]) 372 Ta19 Tv19 := saysS_of_C (sgT_num _) (sgT_onto _) (TO0_1_ok h n u c hu H) (prim_su (sgT_num _)) cl_ok Tr19
theorem Tr21 (p : List Fr → Bool) (sg : List Fr) : callC C0 TO0_1 TX.funs TX.prim 2000 372 Ta21 sg (fun v' sg' wd => ifK (veq v' Tv21) (ifK (Nat.beq wd 0) (p sg') false) false) = p sg := by kernel_rfl
theorem Ts21 (h n u c hu : Int) (H : HT 0 h n u c hu) : SaysS TX (sgT [(.i64,h),(.i64,n),(.u64,u),(.u64,c),(.i64,c),(.u64,hu)]) 372 Ta21 Tv21 := saysS_of_C (sgT_num _) (sgT_onto _) (TO0_1_ok h n u c hu H) (prim_su (sgT_num _)) cl_ok Tr21
theorem Tr17 (p : List Fr → Bool) (sg : List Fr) : callC C0 TO0_1 TX.funs TX.prim 2000 372 Ta17 sg (fun v' sg' wd => ifK (veq v' Tv17) (ifK (Nat.beq wd 0) (p sg') false) false) = p sg := by kernel_rfl
theorem Ts17 (h n u c hu : Int) (H : HT 0 h n u c hu) : SaysS TX (sgT [(.i64,h),(.i64,n),(.u64,u),(.u64,c),(.i64,c),(.u64,hu)]) 372 Ta17 Tv17 := saysS_of_C (sgT_num _) (sgT_onto _) (TO0_1_ok h n u c hu H) (prim_su (sgT_num _)) cl_ok Tr17
theorem Tr18 (p : List Fr → Bool) (sg : List Fr) : callC C0 TO0_1 TX.funs TX.prim 2000 372 Ta18 sg (fun v' sg' wd => ifK (veq v' Tv18) (ifK (Nat.beq wd 0) (p sg') false) false) = p sg := by kernel_rfl
theorem Ts18 (h n u c hu : Int) (H : HT 0 h n u c hu) : SaysS TX (sgT [(.i64,h),(.i64,n),(.u64,u),(.u64,c),(.i64,c),(.u64,hu)]) 372 Ta18 Tv18 := saysS_of_C (sgT_num _) (sgT_onto _) (TO0_1_ok h n u c hu H) (prim_su (sgT_num _)) cl_ok Tr18
theorem Tr22 (p : List Fr → Bool) (sg : List Fr) : callC C0 TO0_1 TX.funs TX.prim 2000 372 Ta22 sg (fun v' sg' wd => ifK (veq v' Tv22) (ifK (Nat.beq wd 0) (p sg') false) false) = p sg := by kernel_rfl
theorem Ts22 (h n u c hu : Int) (H : HT 0 h n u c hu) : SaysS TX (sgT [(.i64,h),(.i64,n),(.u64,u),(.u64,c),(.i64,c),(.u64,hu)]) 372 Ta22 Tv22 := saysS_of_C (sgT_num _) (sgT_onto _) (TO0_1_ok h n u c hu H) (prim_su (sgT_num _)) cl_ok Tr22
end Go.Vm

/- Printed by closed2.py. -/
namespace Go.Vm
open Go
set_option maxRecDepth 1000000
noncomputable def Tk0_2_372 : List V → Option V := kM [(Ta19,Tv19),(Ta21,Tv21),(Ta17,Tv17),(Ta18,Tv18),(Ta22,Tv22)]
theorem Tk0_2_372_ok (h n u c hu : Int) (H : HT 0 h n u c hu) : KOkS TX (sgT [(.i64,h),(.i64,n),(.u64,u),(.u64,c),(.i64,c),(.u64,hu)]) 372 Tk0_2_372 := kM_okS fun p hp => by
  simp only [List.mem_cons,List.mem_nil_iff,or_false] at hp
  rcases hp with rfl | rfl | rfl | rfl | rfl
  · exact Ts19 h n u c hu H
  · exact Ts21 h n u c hu H
  · exact Ts17 h n u c hu H
  · exact Ts18 h n u c hu H
  · exact Ts22 h n u c hu H
noncomputable def TT0_2 : KT := (.node 372 Tk0_2_372 .leaf .leaf)
theorem TT0_2_ok (h n u c hu : Int) (H : HT 0 h n u c hu) : KT.OkS TX (sgT [(.i64,h),(.i64,n),(.u64,u),(.u64,c),(.i64,c),(.u64,hu)]) TT0_2 := ⟨Tk0_2_372_ok h n u c hu H,trivial,trivial⟩
noncomputable def TO0_2 : Orc := orcL TT0_2 TO0_1
theorem TO0_2_ok (h n u c hu : Int) (H : HT 0 h n u c hu) : OrcOk TX (sgT [(.i64,h),(.i64,n),(.u64,u),(.u64,c),(.i64,c),(.u64,hu)]) TO0_2 := orcL_okS (TT0_2_ok h n u c hu H) (TO0_1_ok h n u c hu H)
end Go.Vm

/- Printed by closed2.py. -/
namespace Go.Vm
open Go
set_option maxRecDepth 1000000
theorem Tr20 (p : List Fr → Bool) (sg : List Fr) : callC C0 TO0_2 TX.funs TX.prim 2000 22 Ta20 sg (fun v' sg' wd => ifK (veq v' Tv20) (ifK (Nat.beq wd 0) (p sg') false) false) = p sg := by kernel_rfl
theorem Ts20 (h n u c hu : Int) (H : HT 0 h n u c hu) : SaysS TX (sgT [(.i64,h),(.i64,n),(.u64,u),(.u64,c),(.i64,c),(.u64,hu)]) 22 Ta20 Tv20 := saysS_of_C (sgT_num _) (sgT_onto _) (TO0_2_ok h n u c hu H) (prim_su (sgT_num _)) cl_ok Tr20
end Go.Vm

/- Printed by closed2.py. -/
namespace Go.Vm
open Go
set_option maxRecDepth 1000000
noncomputable def Tk0_3_22 : List V → Option V := kM [(Ta20,Tv20)]
theorem Tk0_3_22_ok (h n u c hu : Int) (H : HT 0 h n u c hu) : KOkS TX (sgT [(.i64,h),(.i64,n),(.u64,u),(.u64,c),(.i64,c),(.u64,hu)]) 22 Tk0_3_22 := kM_okS fun p hp => by
  simp only [List.mem_cons,List.mem_nil_iff,or_false] at hp
  rcases hp with rfl
  · exact Ts20 h n u c hu H
noncomputable def TT0_3 : KT := (.node 22 Tk0_3_22 .leaf .leaf)
theorem TT0_3_ok (h n u c hu : Int) (H : HT 0 h n u c hu) : KT.OkS TX (sgT [(.i64,h),(.i64,n),(.u64,u),(.u64,c),(.i64,c),(.u64,hu)]) TT0_3 := ⟨Tk0_3_22_ok h n u c hu H,trivial,trivial⟩
noncomputable def TO0_3 : Orc := orcL TT0_3 TO0_2
theorem TO0_3_ok (h n u c hu : Int) (H : HT 0 h n u c hu) : OrcOk TX (sgT [(.i64,h),(.i64,n),(.u64,u),(.u64,c),(.i64,c),(.u64,hu)]) TO0_3 := orcL_okS (TT0_3_ok h n u c hu H) (TO0_2_ok h n u c hu H)
end Go.Vm

/- Printed by closed2.py. -/
namespace Go.Vm
open Go
set_option maxRecDepth 1000000
theorem Tr23 (p : List Fr → Bool) (sg : List Fr) : callC C0 TO0_3 TX.funs TX.prim 2000 7 Ta23 sg (fun v' sg' wd => ifK (veq v' Tv23) (ifK (Nat.beq wd 0) (p sg') false) false) = p sg := by kernel_rfl
theorem Ts23 (h n u c hu : Int) (H : HT 0 h n u c hu) : SaysS TX (sgT [(.i64,h),(.i64,n),(.u64,u),(.u64,c),(.i64,c),(.u64,hu)]) 7 Ta23 Tv23 := saysS_of_C (sgT_num _) (sgT_onto _) (TO0_3_ok h n u c hu H) (prim_su (sgT_num _)) cl_ok Tr23
end Go.Vm

/- Printed by closed2.py. -/
namespace Go.Vm
open Go
set_option maxRecDepth 1000000
noncomputable def Tk0_4_7 : List V → Option V := kM [(Ta23,Tv23)]
theorem Tk0_4_7_ok (h n u c hu : Int) (H : HT 0 h n u c hu) : KOkS TX (sgT [(.i64,h),(.i64,n),(.u64,u),(.u64,c),(.i64,c),(.u64,hu)]) 7 Tk0_4_7 := kM_okS fun p hp => by
  simp only [List.mem_cons,List.mem_nil_iff,or_false] at hp
  rcases hp with rfl
  · exact Ts23 h n u c hu H
noncomputable def TT0_4 : KT := (.node 7 Tk0_4_7 .leaf .leaf)
theorem TT0_4_ok (h n u c hu : Int) (H : HT 0 h n u c hu) : KT.OkS TX (sgT [(.i64,h),(.i64,n),(.u64,u),(.u64,c),(.i64,c),(.u64,hu)]) TT0_4 := ⟨Tk0_4_7_ok h n u c hu H,trivial,trivial⟩
noncomputable def TO0_4 : Orc := orcL TT0_4 TO0_3
theorem TO0_4_ok (h n u c hu : Int) (H : HT 0 h n u c hu) : OrcOk TX (sgT [(.i64,h),(.i64,n),(.u64,u),(.u64,c),(.i64,c),(.u64,hu)]) TO0_4 := orcL_okS (TT0_4_ok h n u c hu H) (TO0_3_ok h n u c hu H)
end Go.Vm

/- Printed by closed2.py. -/
namespace Go.Vm
open Go
set_option maxRecDepth 1000000
theorem Tr26 (p : List Fr → Bool) (sg : List Fr) : callC C0 TO0_4 TX.funs TX.prim 2000 3 Ta26 sg (fun v' sg' wd => ifK (veq v' Tv26) (ifK (Nat.beq wd 0) (p sg') false) false) = p sg := by kernel_rfl
theorem Ts26 (h n u c hu : Int) (H : HT 0 h n u c hu) : SaysS TX (sgT [(.i64,h),(.i64,n),(.u64,u),(.u64,c),(.i64,c),(.u64,hu)]) 3 Ta26 Tv26 := saysS_of_C (sgT_num _) (sgT_onto _) (TO0_4_ok h n u c hu H) (prim_su (sgT_num _)) cl_ok Tr26
end Go.Vm

/- Printed by closed2.py. -/
namespace Go.Vm
open Go
set_option maxRecDepth 1000000
noncomputable def Tk0_5_3 : List V → Option V := kM [(Ta26,Tv26)]
theorem Tk0_5_3_ok (h n u c hu : Int) (H : HT 0 h n u c hu) : KOkS TX (sgT [(.i64,h),(.i64,n),(.u64,u),(.u64,c),(.i64,c),(.u64,hu)]) 3 Tk0_5_3 := kM_okS fun p hp => by
  simp only [List.mem_cons,List.mem_nil_iff,or_false] at hp
  rcases hp with rfl
  · exact Ts26 h n u c hu H
noncomputable def TT0_5 : KT := (.node 3 Tk0_5_3 .leaf .leaf)
theorem TT0_5_ok (h n u c hu : Int) (H : HT 0 h n u c hu) : KT.OkS TX (sgT [(.i64,h),(.i64,n),(.u64,u),(.u64,c),(.i64,c),(.u64,hu)]) TT0_5 := ⟨Tk0_5_3_ok h n u c hu H,trivial,trivial⟩
noncomputable def TO0_5 : Orc := orcL TT0_5 TO0_4
theorem TO0_5_ok (h n u c hu : Int) (H : HT 0 h n u c hu) : OrcOk TX (sgT [(.i64,h),(.i64,n),(.u64,u),(.u64,c),(.i64,c),(.u64,hu)]) TO0_5 := orcL_okS (TT0_5_ok h n u c hu H) (TO0_4_ok h n u c hu H)
end Go.Vm
