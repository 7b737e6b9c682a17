/-
  A part of a proof: the last text of the claim says what is proved, and under which conditions.
-/
import Derived.Test.YtjebeifjkkofaaaGreatDoorM22
set_option linter.unusedSimpArgs false
set_option linter.unusedVariables false
set_option linter.unnecessarySimpa false
/- Printed by closed2.py. -/
namespace Go.Vm
open Go
set_option maxRecDepth 1000000
noncomputable def TO5_0 : Orc := orcM (orcS [(.rem,.int .i16 2,.int .u64 5,.int .i16 3),(.rem,.int .i16 5,.int .u64 10,.int .u64 5),(.geq,.int .i16 4,.int .i64 (-4611686018427387904),.bool true),(.leq,.int .i16 4,.int .i64 4611686018427387904,.bool true),(.neq,.int .i16 4,.int .i16 4,.bool false),(.lss,.int .i16 4,.int .i16 4,.bool false),(.gtr,.int .i16 4,.int .i16 4,.bool false)] [(.u64,.int .i16 1,.int .i16 2),(.i64,.int .i16 3,.int .i16 4),(.u64,.int .i16 0,.int .i16 5)] [([2,1,1,2],.agg [.str [88],.int .i64 1,.int .i16 4,.str []],.agg [.str [88],.int .i64 1,.int .i16 4,.str []],true)]) TA4
theorem TO5_0_ok (h n u c hu : Int) (H : HT 5 h n u c hu) : OrcOk TX (sgT [(.i64,h),(.i64,n),(.u64,u),(.u64,c),(.i64,c),(.u64,hu)]) TO5_0 := by
  obtain ⟨e1,e2,e3,e7,e8,hc⟩ := H
  refine orcM_ok (orcS_ok ?_ ?_ ?_) TA4_ok
  · intro p hp
    simp only [List.mem_cons,List.mem_nil_iff,or_false] at hp
    rcases hp with rfl | rfl | rfl | rfl | rfl | rfl | rfl
    · exact congrArg (fun q => some (V.int .u64 q)) e2
    · exact congrArg (fun q => some (V.int .u64 q)) e8
    · first | rfl | exact bT (by omega) | exact bF (by omega) | exact beT (by omega) | exact beF (by omega) | exact bnT (by omega) | exact bnF (by omega)
    · first | rfl | exact bT (by omega) | exact bF (by omega) | exact beT (by omega) | exact beF (by omega) | exact bnT (by omega) | exact bnF (by omega)
    · first | rfl | exact bT (by omega) | exact bF (by omega) | exact beT (by omega) | exact beF (by omega) | exact bnT (by omega) | exact bnF (by omega)
    · first | rfl | exact bT (by omega) | exact bF (by omega) | exact beT (by omega) | exact beF (by omega) | exact bnT (by omega) | exact bnF (by omega)
    · first | rfl | exact bT (by omega) | exact bF (by omega) | exact beT (by omega) | exact beF (by omega) | exact bnT (by omega) | exact bnF (by omega)
  · intro p hp
    simp only [List.mem_cons,List.mem_nil_iff,or_false] at hp
    rcases hp with rfl | rfl | rfl
    · exact ⟨_,_,rfl,congrArg (V.int .u64) e1.symm⟩
    · exact ⟨_,_,rfl,congrArg (V.int .i64) e3.symm⟩
    · exact ⟨_,_,rfl,congrArg (V.int .u64) e7.symm⟩
  · intro p hp
    simp only [List.mem_cons,List.mem_nil_iff,or_false] at hp
    rcases hp with rfl
    · exact ⟨_,_,rfl,rfl,by simp [eqL,eqK,su,suL,sgT,show (IntKind.i64 == IntKind.i16) = false from by decide,show (IntKind.u64 == IntKind.i16) = false from by decide,show (IntKind.u8 == IntKind.i16) = false from by decide]⟩
end Go.Vm

/- Printed by closed2.py. -/
namespace Go.Vm
open Go
set_option maxRecDepth 1000000
theorem Tr96 (p : List Fr → Bool) (sg : List Fr) : callC C0 TO5_0 TX.funs TX.prim 2000 22 Ta96 sg (fun v' sg' wd => ifK (veq v' Tv96) (ifK (Nat.beq wd 0) (p sg') false) false) = p sg := by kernel_rfl
theorem Ts96 (h n u c hu : Int) (H : HT 5 h n u c hu) : SaysS TX (sgT [(.i64,h),(.i64,n),(.u64,u),(.u64,c),(.i64,c),(.u64,hu)]) 22 Ta96 Tv96 := saysS_of_C (sgT_num _) (sgT_onto _) (TO5_0_ok h n u c hu H) (prim_su (sgT_num _)) cl_ok Tr96
theorem Tr94 (p : List Fr → Bool) (sg : List Fr) : callC C0 TO5_0 TX.funs TX.prim 2000 372 Ta94 sg (fun v' sg' wd => ifK (veq v' Tv94) (ifK (Nat.beq wd 0) (p sg') false) false) = p sg := by kernel_rfl
theorem Ts94 (h n u c hu : Int) (H : HT 5 h n u c hu) : SaysS TX (sgT [(.i64,h),(.i64,n),(.u64,u),(.u64,c),(.i64,c),(.u64,hu)]) 372 Ta94 Tv94 := saysS_of_C (sgT_num _) (sgT_onto _) (TO5_0_ok h n u c hu H) (prim_su (sgT_num _)) cl_ok Tr94
end Go.Vm

/- Printed by closed2.py. -/
namespace Go.Vm
open Go
set_option maxRecDepth 1000000
noncomputable def Tk5_1_22 : List V → Option V := kM [(Ta96,Tv96)]
theorem Tk5_1_22_ok (h n u c hu : Int) (H : HT 5 h n u c hu) : KOkS TX (sgT [(.i64,h),(.i64,n),(.u64,u),(.u64,c),(.i64,c),(.u64,hu)]) 22 Tk5_1_22 := kM_okS fun p hp => by
  simp only [List.mem_cons,List.mem_nil_iff,or_false] at hp
  rcases hp with rfl
  · exact Ts96 h n u c hu H
noncomputable def Tk5_1_372 : List V → Option V := kM [(Ta94,Tv94)]
theorem Tk5_1_372_ok (h n u c hu : Int) (H : HT 5 h n u c hu) : KOkS TX (sgT [(.i64,h),(.i64,n),(.u64,u),(.u64,c),(.i64,c),(.u64,hu)]) 372 Tk5_1_372 := kM_okS fun p hp => by
  simp only [List.mem_cons,List.mem_nil_iff,or_false] at hp
  rcases hp with rfl
  · exact Ts94 h n u c hu H
noncomputable def TT5_1 : KT := (.node 372 Tk5_1_372 (.node 22 Tk5_1_22 .leaf .leaf) .leaf)
theorem TT5_1_ok (h n u c hu : Int) (H : HT 5 h n u c hu) : KT.OkS TX (sgT [(.i64,h),(.i64,n),(.u64,u),(.u64,c),(.i64,c),(.u64,hu)]) TT5_1 := ⟨Tk5_1_372_ok h n u c hu H,⟨Tk5_1_22_ok h n u c hu H,trivial,trivial⟩,trivial⟩
noncomputable def TO5_1 : Orc := orcL TT5_1 TO5_0
theorem TO5_1_ok (h n u c hu : Int) (H : HT 5 h n u c hu) : OrcOk TX (sgT [(.i64,h),(.i64,n),(.u64,u),(.u64,c),(.i64,c),(.u64,hu)]) TO5_1 := orcL_okS (TT5_1_ok h n u c hu H) (TO5_0_ok h n u c hu H)
end Go.Vm

/- Printed by closed2.py. -/
namespace Go.Vm
open Go
set_option maxRecDepth 1000000
theorem Tr95 (p : List Fr → Bool) (sg : List Fr) : callC C0 TO5_1 TX.funs TX.prim 2000 22 Ta95 sg (fun v' sg' wd => ifK (veq v' Tv95) (ifK (Nat.beq wd 0) (p sg') false) false) = p sg := by kernel_rfl
theorem Ts95 (h n u c hu : Int) (H : HT 5 h n u c hu) : SaysS TX (sgT [(.i64,h),(.i64,n),(.u64,u),(.u64,c),(.i64,c),(.u64,hu)]) 22 Ta95 Tv95 := saysS_of_C (sgT_num _) (sgT_onto _) (TO5_1_ok h n u c hu H) (prim_su (sgT_num _)) cl_ok Tr95
end Go.Vm

/- Printed by closed2.py. -/
namespace Go.Vm
open Go
set_option maxRecDepth 1000000
noncomputable def Tk5_2_22 : List V → Option V := kM [(Ta95,Tv95)]
theorem Tk5_2_22_ok (h n u c hu : Int) (H : HT 5 h n u c hu) : KOkS TX (sgT [(.i64,h),(.i64,n),(.u64,u),(.u64,c),(.i64,c),(.u64,hu)]) 22 Tk5_2_22 := kM_okS fun p hp => by
  simp only [List.mem_cons,List.mem_nil_iff,or_false] at hp
  rcases hp with rfl
  · exact Ts95 h n u c hu H
noncomputable def TT5_2 : KT := (.node 22 Tk5_2_22 .leaf .leaf)
theorem TT5_2_ok (h n u c hu : Int) (H : HT 5 h n u c hu) : KT.OkS TX (sgT [(.i64,h),(.i64,n),(.u64,u),(.u64,c),(.i64,c),(.u64,hu)]) TT5_2 := ⟨Tk5_2_22_ok h n u c hu H,trivial,trivial⟩
noncomputable def TO5_2 : Orc := orcL TT5_2 TO5_1
theorem TO5_2_ok (h n u c hu : Int) (H : HT 5 h n u c hu) : OrcOk TX (sgT [(.i64,h),(.i64,n),(.u64,u),(.u64,c),(.i64,c),(.u64,hu)]) TO5_2 := orcL_okS (TT5_2_ok h n u c hu H) (TO5_1_ok h n u c hu H)
end Go.Vm

/- Printed by closed2.py. -/
namespace Go.Vm
open Go
set_option maxRecDepth 1000000
theorem Tr97 (p : List Fr → Bool) (sg : List Fr) : callC C0 TO5_2 TX.funs TX.prim 2000 3 Ta97 sg (fun v' sg' wd => ifK (veq v' Tv97) (ifK (Nat.beq wd 0) (p sg') false) false) = p sg := by kernel_rfl
theorem Ts97 (h n u c hu : Int) (H : HT 5 h n u c hu) : SaysS TX (sgT [(.i64,h),(.i64,n),(.u64,u),(.u64,c),(.i64,c),(.u64,hu)]) 3 Ta97 Tv97 := saysS_of_C (sgT_num _) (sgT_onto _) (TO5_2_ok h n u c hu H) (prim_su (sgT_num _)) cl_ok Tr97
end Go.Vm

/- Printed by closed2.py. -/
namespace Go.Vm
open Go
set_option maxRecDepth 1000000
noncomputable def Tk5_3_3 : List V → Option V := kM [(Ta97,Tv97)]
theorem Tk5_3_3_ok (h n u c hu : Int) (H : HT 5 h n u c hu) : KOkS TX (sgT [(.i64,h),(.i64,n),(.u64,u),(.u64,c),(.i64,c),(.u64,hu)]) 3 Tk5_3_3 := kM_okS fun p hp => by
  simp only [List.mem_cons,List.mem_nil_iff,or_false] at hp
  rcases hp with rfl
  · exact Ts97 h n u c hu H
noncomputable def TT5_3 : KT := (.node 3 Tk5_3_3 .leaf .leaf)
theorem TT5_3_ok (h n u c hu : Int) (H : HT 5 h n u c hu) : KT.OkS TX (sgT [(.i64,h),(.i64,n),(.u64,u),(.u64,c),(.i64,c),(.u64,hu)]) TT5_3 := ⟨Tk5_3_3_ok h n u c hu H,trivial,trivial⟩
noncomputable def TO5_3 : Orc := orcL TT5_3 TO5_2
theorem TO5_3_ok (h n u c hu : Int) (H : HT 5 h n u c hu) : OrcOk TX (sgT [(.i64,h),(.i64,n),(.u64,u),(.u64,c),(.i64,c),(.u64,hu)]) TO5_3 := orcL_okS (TT5_3_ok h n u c hu H) (TO5_2_ok h n u c hu H)
end Go.Vm
