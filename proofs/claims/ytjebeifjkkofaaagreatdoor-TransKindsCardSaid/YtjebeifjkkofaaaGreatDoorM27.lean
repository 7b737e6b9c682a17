/-
  A part of a proof: the last text of the claim says what is proved, and under which conditions.
-/
import Derived.Test.YtjebeifjkkofaaaGreatDoorM22
set_option linter.unusedSimpArgs false
set_option linter.unusedVariables false
set_option linter.unnecessarySimpa false
/- Printed by closed2.py. -/
namespace Go.Vm
open Go
set_option maxRecDepth 1000000
noncomputable def TO4_0 : Orc := orcM (orcS [(.rem,.int .i16 2,.int .u64 5,.int .i16 3),(.rem,.int .i16 5,.int .u64 10,.int .u64 4),(.geq,.int .i16 4,.int .i64 (-4611686018427387904),.bool true),(.leq,.int .i16 4,.int .i64 4611686018427387904,.bool true),(.neq,.int .i16 4,.int .i16 4,.bool false),(.lss,.int .i16 4,.int .i16 4,.bool false),(.gtr,.int .i16 4,.int .i16 4,.bool false)] [(.u64,.int .i16 1,.int .i16 2),(.i64,.int .i16 3,.int .i16 4),(.u64,.int .i16 0,.int .i16 5)] [([2,1,1,2],.agg [.str [88],.int .i64 1,.int .i16 4,.str []],.agg [.str [88],.int .i64 1,.int .i16 4,.str []],true)]) TA4
theorem TO4_0_ok (h n u c hu : Int) (H : HT 4 h n u c hu) : OrcOk TX (sgT [(.i64,h),(.i64,n),(.u64,u),(.u64,c),(.i64,c),(.u64,hu)]) TO4_0 := by
  obtain ⟨e1,e2,e3,e7,e8,hc⟩ := H
  refine orcM_ok (orcS_ok ?_ ?_ ?_) TA4_ok
  · intro p hp
    simp only [List.mem_cons,List.mem_nil_iff,or_false] at hp
    rcases hp with rfl | rfl | rfl | rfl | rfl | rfl | rfl
    · exact congrArg (fun q => some (V.int .u64 q)) e2
    · exact congrArg (fun q => some (V.int .u64 q)) e8
    · first | rfl | exact bT (by omega) | exact bF (by omega) | exact beT (by omega) | exact beF (by omega) | exact bnT (by omega) | exact bnF (by omega)
    · first | rfl | exact bT (by omega) | exact bF (by omega) | exact beT (by omega) | exact beF (by omega) | exact bnT (by omega) | exact bnF (by omega)
    · first | rfl | exact bT (by omega) | exact bF (by omega) | exact beT (by omega) | exact beF (by omega) | exact bnT (by omega) | exact bnF (by omega)
    · first | rfl | exact bT (by omega) | exact bF (by omega) | exact beT (by omega) | exact beF (by omega) | exact bnT (by omega) | exact bnF (by omega)
    · first | rfl | exact bT (by omega) | exact bF (by omega) | exact beT (by omega) | exact beF (by omega) | exact bnT (by omega) | exact bnF (by omega)
  · intro p hp
    simp only [List.mem_cons,List.mem_nil_iff,or_false] at hp
    rcases hp with rfl | rfl | rfl
    · exact ⟨_,_,rfl,congrArg (V.int .u64) e1.symm⟩
    · exact ⟨_,_,rfl,congrArg (V.int .i64) e3.symm⟩
    · exact ⟨_,_,rfl,congrArg (V.int .u64) e7.symm⟩
  · intro p hp
    simp only [List.mem_cons,List.mem_nil_iff,or_false] at hp
    rcases hp with rfl
    · exact ⟨_,_,rfl,rfl,by simp [eqL,eqK,su,suL,sgT,show (IntKind.i64 == IntKind.i16) = false from by decide,show (IntKind.u64 == IntKind.i16) = false from by decide,show (IntKind.u8 == IntKind.i16) = false from by decide]⟩
end Go.Vm

/- Printed by closed2.py. -/
namespace Go.Vm
open Go
set_option maxRecDepth 1000000
theorem Tr78 (p : List Fr → Bool) (sg : List Fr) : callC C0 TO4_0 TX.funs TX.prim 2000 22 Ta78 sg (fun v' sg' wd => ifK (veq v' Tv78) (ifK (Nat.beq wd 0) (p sg') false) false) = p sg := by kernel_rfl
theorem Ts78 (h n u c hu : Int) (H : HT 4 h n u c hu) : SaysS TX (sgT [(.i64,h),(.i64,n),(.u64,u),(.u64,c),(.i64,c),(.u64,hu)]) 22 Ta78 Tv78 := saysS_of_C (sgT_num _) (sgT_onto _) (TO4_0_ok h n u c hu H) (prim_su (sgT_num _)) cl_ok Tr78
theorem Tr77 (p : List Fr → Bool) (sg : List Fr) : callC C0 TO4_0 TX.funs TX.prim 2000 372 Ta77 sg (fun v' sg' wd => ifK (veq v' Tv77) (ifK (Nat.beq wd 0) (p sg') false) false) = p sg := by kernel_rfl
theorem Ts77 (h n u c hu : Int) (H : HT 4 h n u c hu) : SaysS TX (sgT [(.i64,h),(.i64,n),(.u64,u),(.u64,c),(.i64,c),(.u64,hu)]) 372 Ta77 Tv77 := saysS_of_C (sgT_num _) (sgT_onto _) (TO4_0_ok h n u c hu H) (prim_su (sgT_num _)) cl_ok Tr77
theorem Tr79 (p : List Fr → Bool) (sg : List Fr) : callC C0 TO4_0 TX.funs TX.prim 2000 263 Ta79 sg (fun v' sg' wd => ifK (veq v' Tv79) (ifK (Nat.beq wd 0) (p sg') false) false) = p sg := by kernel_rfl
theorem Ts79 (h n u c hu : Int) (H : HT 4 h n u c hu) : SaysS TX (sgT [(.i64,h),(.i64,n),(.u64,u),(.u64,c),(.i64,c),(.u64,hu)]) 263 Ta79 Tv79 := saysS_of_C (sgT_num _) (sgT_onto _) (TO4_0_ok h n u c hu H) (prim_su (sgT_num _)) cl_ok Tr79
end Go.Vm

/- Printed by closed2.py. -/
namespace Go.Vm
open Go
set_option maxRecDepth 1000000
noncomputable def Tk4_1_22 : List V → Option V := kM [(Ta78,Tv78)]
theorem Tk4_1_22_ok (h n u c hu : Int) (H : HT 4 h n u c hu) : KOkS TX (sgT [(.i64,h),(.i64,n),(.u64,u),(.u64,c),(.i64,c),(.u64,hu)]) 22 Tk4_1_22 := kM_okS fun p hp => by
  simp only [List.mem_cons,List.mem_nil_iff,or_false] at hp
  rcases hp with rfl
  · exact Ts78 h n u c hu H
noncomputable def Tk4_1_263 : List V → Option V := kM [(Ta79,Tv79)]
theorem Tk4_1_263_ok (h n u c hu : Int) (H : HT 4 h n u c hu) : KOkS TX (sgT [(.i64,h),(.i64,n),(.u64,u),(.u64,c),(.i64,c),(.u64,hu)]) 263 Tk4_1_263 := kM_okS fun p hp => by
  simp only [List.mem_cons,List.mem_nil_iff,or_false] at hp
  rcases hp with rfl
  · exact Ts79 h n u c hu H
noncomputable def Tk4_1_372 : List V → Option V := kM [(Ta77,Tv77)]
theorem Tk4_1_372_ok (h n u c hu : Int) (H : HT 4 h n u c hu) : KOkS TX (sgT [(.i64,h),(.i64,n),(.u64,u),(.u64,c),(.i64,c),(.u64,hu)]) 372 Tk4_1_372 := kM_okS fun p hp => by
  simp only [List.mem_cons,List.mem_nil_iff,or_false] at hp
  rcases hp with rfl
  · exact Ts77 h n u c hu H
noncomputable def TT4_1 : KT := (.node 263 Tk4_1_263 (.node 22 Tk4_1_22 .leaf .leaf) (.node 372 Tk4_1_372 .leaf .leaf))
theorem TT4_1_ok (h n u c hu : Int) (H : HT 4 h n u c hu) : KT.OkS TX (sgT [(.i64,h),(.i64,n),(.u64,u),(.u64,c),(.i64,c),(.u64,hu)]) TT4_1 := ⟨Tk4_1_263_ok h n u c hu H,⟨Tk4_1_22_ok h n u c hu H,trivial,trivial⟩,⟨Tk4_1_372_ok h n u c hu H,trivial,trivial⟩⟩
noncomputable def TO4_1 : Orc := orcL TT4_1 TO4_0
theorem TO4_1_ok (h n u c hu : Int) (H : HT 4 h n u c hu) : OrcOk TX (sgT [(.i64,h),(.i64,n),(.u64,u),(.u64,c),(.i64,c),(.u64,hu)]) TO4_1 := orcL_okS (TT4_1_ok h n u c hu H) (TO4_0_ok h n u c hu H)
end Go.Vm

/- Printed by closed2.py. -/
namespace Go.Vm
open Go
set_option maxRecDepth 1000000
theorem Tr84 (p : List Fr → Bool) (sg : List Fr) : callC C0 TO4_1 TX.funs TX.prim 2000 372 Ta84 sg (fun v' sg' wd => ifK (veq v' Tv84) (ifK (Nat.beq wd 0) (p sg') false) false) = p sg := by kernel_rfl
theorem Ts84 (h n u c hu : Int) (H : HT 4 h n u c hu) : SaysS TX (sgT [(.i64,h),(.i64,n),(.u64,u),(.u64,c),(.i64,c),(.u64,hu)]) 372 Ta84 Tv84 := saysS_of_C (sgT_num _) (sgT_onto _) (TO4_1_ok h n u c hu H) (prim_su (sgT_num _)) cl_ok Tr84
theorem Tr81 (p : List Fr → Bool) (sg : List Fr) : callC C0 TO4_1 TX.funs TX.prim 2000 372 Ta81 sg (fun v' sg' wd => ifK (veq v' Tv81) (ifK (Nat.beq wd 0) (p sg') false) false) = p sg := by kernel_rfl
theorem Ts81 (h n u c hu : Int) (H : HT 4 h n u c hu) : SaysS TX (sgT [(.i64,h),(.i64,n),(.u64,u),(.u64,c),(.i64,c),(.u64,hu)]) 372 Ta81 Tv81 := saysS_of_C (sgT_num _) (sgT_onto _) (TO4_1_ok h n u c hu H) (prim_su (sgT_num _)) cl_ok Tr81
theorem Tr83 (p : List Fr → Bool) (sg : List Fr) : callC C0 TO4_1 TX.funs TX.prim 2000 372 Ta83 sg (fun v' sg' wd => ifK (veq v' Tv83) (ifK (Nat.beq wd 0) (p sg') false) false) = p sg := by kernel_rfl
theorem Ts83 (h n u c hu : Int) (H : HT 4 h n u c hu) : SaysS TX (sgT [(.i64,h),(.i64,n),(.u64,u),(.u64,c),(.i64,c),(.u64,hu)]) 372 Ta83 Tv83 := saysS_of_C (sgT_num _) (sgT_onto _) (TO4_1_ok h n u c hu H) (prim_su (sgT_num _)) cl_ok Tr83
theorem Tr80 (p : List Fr → Bool) (sg : List Fr) : callC C0 TO4_1 TX.funs TX.prim 2000 372 Ta80 sg (fun v' sg' wd => ifK (veq v' Tv80) (ifK (Nat.beq wd 0) (p sg') false) false) = p sg := by kernel_rfl
theorem Ts80 (h n u c hu : Int) (H : HT 4 h n u c hu) : SaysS TX (sgT [(.i64,h),(.i64,n),(.u64,u),(.u64,c),(.i64,c),(.u64,hu)]) 372 Ta80 Tv80 := saysS_of_C (sgT_num _) (sgT_onto _) (TO4_1_ok h n u c hu H) (prim_su (sgT_num _)) cl_ok Tr80
end Go.Vm

/- Printed by closed2.py. -/
namespace Go.Vm
open Go
set_option maxRecDepth 1000000
noncomputable def Tk4_2_372 : List V → Option V := kM [(Ta84,Tv84),(Ta81,Tv81),(Ta83,Tv83),(Ta80,Tv80)]
theorem Tk4_2_372_ok (h n u c hu : Int) (H : HT 4 h n u c hu) : KOkS TX (sgT [(.i64,h),(.i64,n),(.u64,u),(.u64,c),(.i64,c),(.u64,hu)]) 372 Tk4_2_372 := kM_okS fun p hp => by
  simp only [List.mem_cons,List.mem_nil_iff,or_false] at hp
  rcases hp with rfl | rfl | rfl | rfl
  · exact Ts84 h n u c hu H
  · exact Ts81 h n u c hu H
  · exact Ts83 h n u c hu H
  · exact Ts80 h n u c hu H
noncomputable def TT4_2 : KT := (.node 372 Tk4_2_372 .leaf .leaf)
theorem TT4_2_ok (h n u c hu : Int) (H : HT 4 h n u c hu) : KT.OkS TX (sgT [(.i64,h),(.i64,n),(.u64,u),(.u64,c),(.i64,c),(.u64,hu)]) TT4_2 := ⟨Tk4_2_372_ok h n u c hu H,trivial,trivial⟩
noncomputable def TO4_2 : Orc := orcL TT4_2 TO4_1
theorem TO4_2_ok (h n u c hu : Int) (H : HT 4 h n u c hu) : OrcOk TX (sgT [(.i64,h),(.i64,n),(.u64,u),(.u64,c),(.i64,c),(.u64,hu)]) TO4_2 := orcL_okS (TT4_2_ok h n u c hu H) (TO4_1_ok h n u c hu H)
end Go.Vm

/- Printed by closed2.py. -/
namespace Go.Vm
open Go
set_option maxRecDepth 1000000
theorem Tr82 (p : List Fr → Bool) (sg : List Fr) : callC C0 TO4_2 TX.funs TX.prim 2000 22 Ta82 sg (fun v' sg' wd => ifK (veq v' Tv82) (ifK (Nat.beq wd 0) (p sg') false) false) = p sg := by kernel_rfl
theorem Ts82 (h n u c hu : Int) (H : HT 4 h n u c hu) : SaysS TX (sgT [(.i64,h),(.i64,n),(.u64,u),(.u64,c),(.i64,c),(.u64,hu)]) 22 Ta82 Tv82 := saysS_of_C (sgT_num _) (sgT_onto _) (TO4_2_ok h n u c hu H) (prim_su (sgT_num _)) cl_ok Tr82
theorem Tr85 (p : List Fr → Bool) (sg : List Fr) : callC C0 TO4_2 TX.funs TX.prim 2000 22 Ta85 sg (fun v' sg' wd => ifK (veq v' Tv85) (ifK (Nat.beq wd 0) (p sg') false) false) = p sg := by kernel_rfl
theorem Ts85 (h n u c hu : Int) (H : HT 4 h n u c hu) : SaysS TX (sgT [(.i64,h),(.i64,n),(.u64,u),(.u64,c),(.i64,c),(.u64,hu)]) 22 Ta85 Tv85 := saysS_of_C (sgT_num _) (sgT_onto _) (TO4_2_ok h n u c hu H) (prim_su (sgT_num _)) cl_ok Tr85
end Go.Vm

/- Printed by closed2.py. -/
namespace Go.Vm
open Go
set_option maxRecDepth 1000000
noncomputable def Tk4_3_22 : List V → Option V := kM [(Ta82,Tv82),(Ta85,Tv85)]
theorem Tk4_3_22_ok (h n u c hu : Int) (H : HT 4 h n u c hu) : KOkS TX (sgT [(.i64,h),(.i64,n),(.u64,u),(.u64,c),(.i64,c),(.u64,hu)]) 22 Tk4_3_22 := kM_okS fun p hp => by
  simp only [List.mem_cons,List.mem_nil_iff,or_false] at hp
  rcases hp with rfl | rfl
  · exact Ts82 h n u c hu H
  · exact Ts85 h n u c hu H
noncomputable def TT4_3 : KT := (.node 22 Tk4_3_22 .leaf .leaf)
theorem TT4_3_ok (h n u c hu : Int) (H : HT 4 h n u c hu) : KT.OkS TX (sgT [(.i64,h),(.i64,n),(.u64,u),(.u64,c),(.i64,c),(.u64,hu)]) TT4_3 := ⟨Tk4_3_22_ok h n u c hu H,trivial,trivial⟩
noncomputable def TO4_3 : Orc := orcL TT4_3 TO4_2
theorem TO4_3_ok (h n u c hu : Int) (H : HT 4 h n u c hu) : OrcOk TX (sgT [(.i64,h),(.i64,n),(.u64,u),(.u64,c),(.i64,c),(.u64,hu)]) TO4_3 := orcL_okS (TT4_3_ok h n u c hu H) (TO4_2_ok h n u c hu H)
end Go.Vm

/- Printed by closed2.py. -/
namespace Go.Vm
open Go
set_option maxRecDepth 1000000
theorem Tr86 (p : List Fr → Bool) (sg : List Fr) : callC C0 TO4_3 TX.funs TX.prim 2000 3 Ta86 sg (fun v' sg' wd => ifK (veq v' Tv86) (ifK (Nat.beq wd 0) (p sg') false) false) = p sg := by kernel_rfl
theorem Ts86 (h n u c hu : Int) (H : HT 4 h n u c hu) : SaysS TX (sgT [(.i64,h),(.i64,n),(.u64,u),(.u64,c),(.i64,c),(.u64,hu)]) 3 Ta86 Tv86 := saysS_of_C (sgT_num _) (sgT_onto _) (TO4_3_ok h n u c hu H) (prim_su (sgT_num _)) cl_ok Tr86
end Go.Vm

/- Printed by closed2.py. -/
namespace Go.Vm
open Go
set_option maxRecDepth 1000000
noncomputable def Tk4_4_3 : List V → Option V := kM [(Ta86,Tv86)]
theorem Tk4_4_3_ok (h n u c hu : Int) (H : HT 4 h n u c hu) : KOkS TX (sgT [(.i64,h),(.i64,n),(.u64,u),(.u64,c),(.i64,c),(.u64,hu)]) 3 Tk4_4_3 := kM_okS fun p hp => by
  simp only [List.mem_cons,List.mem_nil_iff,or_false] at hp
  rcases hp with rfl
  · exact Ts86 h n u c hu H
noncomputable def TT4_4 : KT := (.node 3 Tk4_4_3 .leaf .leaf)
theorem TT4_4_ok (h n u c hu : Int) (H : HT 4 h n u c hu) : KT.OkS TX (sgT [(.i64,h),(.i64,n),(.u64,u),(.u64,c),(.i64,c),(.u64,hu)]) TT4_4 := ⟨Tk4_4_3_ok h n u c hu H,trivial,trivial⟩
noncomputable def TO4_4 : Orc := orcL TT4_4 TO4_3
theorem TO4_4_ok (h n u c hu : Int) (H : HT 4 h n u c hu) : OrcOk TX (sgT [(.i64,h),(.i64,n),(.u64,u),(.u64,c),(.i64,c),(.u64,hu)]) TO4_4 := orcL_okS (TT4_4_ok h n u c hu H) (TO4_3_ok h n u c hu H)
end Go.Vm
