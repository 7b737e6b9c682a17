/-
  A part of a proof: the last text of the claim says what is proved, and under which conditions.
-/
import Derived.Test.YtjebeifjkkofaaaGreatDoorM22
set_option linter.unusedSimpArgs false
set_option linter.unusedVariables false
set_option linter.unnecessarySimpa false
/- Printed by closed2.py. -/
namespace Go.Vm
open Go
set_option maxRecDepth 1000000
noncomputable def TO7_0 : Orc := orcM (orcS [(.rem,.int .i16 2,.int .u64 5,.int .i16 3),(.rem,.int .i16 5,.int .u64 10,.int .u64 7),(.geq,.int .i16 4,.int .i64 (-4611686018427387904),.bool true),(.leq,.int .i16 4,.int .i64 4611686018427387904,.bool true),(.neq,.int .i16 4,.int .i16 4,.bool false),(.lss,.int .i16 4,.int .i16 4,.bool false),(.gtr,.int .i16 4,.int .i16 4,.bool false)] [(.u64,.int .i16 1,.int .i16 2),(.i64,.int .i16 3,.int .i16 4),(.u64,.int .i16 0,.int .i16 5)] [([2,1,1,2],.agg [.str [88],.int .i64 1,.int .i16 4,.str []],.agg [.str [88],.int .i64 1,.int .i16 4,.str []],true)]) TA4
theorem TO7_0_ok (h n u c hu : Int) (H : HT 7 h n u c hu) : OrcOk TX (sgT [(.i64,h),(.i64,n),(.u64,u),(.u64,c),(.i64,c),(.u64,hu)]) TO7_0 := by
  obtain ⟨e1,e2,e3,e7,e8,hc⟩ := H
  refine orcM_ok (orcS_ok ?_ ?_ ?_) TA4_ok
  · intro p hp
    simp only [List.mem_cons,List.mem_nil_iff,or_false] at hp
    rcases hp with rfl | rfl | rfl | rfl | rfl | rfl | rfl
    · exact congrArg (fun q => some (V.int .u64 q)) e2
    · exact congrArg (fun q => some (V.int .u64 q)) e8
    · first | rfl | exact bT (by omega) | exact bF (by omega) | exact beT (by omega) | exact beF (by omega) | exact bnT (by omega) | exact bnF (by omega)
    · first | rfl | exact bT (by omega) | exact bF (by omega) | exact beT (by omega) | exact beF (by omega) | exact bnT (by omega) | exact bnF (by omega)
    · first | rfl | exact bT (by omega) | exact bF (by omega) | exact beT (by omega) | exact beF (by omega) | exact bnT (by omega) | exact bnF (by omega)
    · first | rfl | exact bT (by omega) | exact bF (by omega) | exact beT (by omega) | exact beF (by omega) | exact bnT (by omega) | exact bnF (by omega)
    · first | rfl | exact bT (by omega) | exact bF (by omega) | exact beT (by omega) | exact beF (by omega) | exact bnT (by omega) | exact bnF (by omega)
  · intro p hp
    simp only [List.mem_cons,List.mem_nil_iff,or_false] at hp
    rcases hp with rfl | rfl | rfl
    · exact ⟨_,_,rfl,congrArg (V.int .u64) e1.symm⟩
    · exact ⟨_,_,rfl,congrArg (V.int .i64) e3.symm⟩
    · exact ⟨_,_,rfl,congrArg (V.int .u64) e7.symm⟩
  · intro p hp
    simp only [List.mem_cons,List.mem_nil_iff,or_false] at hp
    rcases hp with rfl
    · exact ⟨_,_,rfl,rfl,by simp [eqL,eqK,su,suL,sgT,show (IntKind.i64 == IntKind.i16) = false from by decide,show (IntKind.u64 == IntKind.i16) = false from by decide,show (IntKind.u8 == IntKind.i16) = false from by decide]⟩
end Go.Vm

/- Printed by closed2.py. -/
namespace Go.Vm
open Go
set_option maxRecDepth 1000000
theorem Tr127 (p : List Fr → Bool) (sg : List Fr) : callC C0 TO7_0 TX.funs TX.prim 2000 372 Ta127 sg (fun v' sg' wd => ifK (veq v' Tv127) (ifK (Nat.beq wd 0) (p sg') false) false) = p sg := by kernel_rfl
theorem Ts127 (h n u c hu : Int) (H : HT 7 h n u c hu) : SaysS TX (sgT [(.i64,h),(.i64,n),(.u64,u),(.u64,c),(.i64,c),(.u64,hu)]) 372 Ta127 Tv127 := saysS_of_C (sgT_num _) (sgT_onto _) (TO7_0_ok h n u c hu H) (prim_su (sgT_num _)) cl_ok Tr127
theorem Tr126 (p : List Fr → Bool) (sg : List Fr) : callC C0 TO7_0 TX.funs TX.prim 2000 372 Ta126 sg (fun v' sg' wd => ifK (veq v' Tv126) (ifK (Nat.beq wd 0) (p sg') false) false) = p sg := by kernel_rfl
theorem Ts126 (h n u c hu : Int) (H : HT 7 h n u c hu) : SaysS TX (sgT [(.i64,h),(.i64,n),(.u64,u),(.u64,c),(.i64,c),(.u64,hu)]) 372 Ta126 Tv126 := saysS_of_C (sgT_num _) (sgT_onto _) (TO7_0_ok h n u c hu H) (prim_su (sgT_num _)) cl_ok Tr126
theorem Tr124 (p : List Fr → Bool) (sg : List Fr) : callC C0 TO7_0 TX.funs TX.prim 2000 372 Ta124 sg (fun v' sg' wd => ifK (veq v' Tv124) (ifK (Nat.beq wd 0) (p sg') false) false) = p sg := by kernel_rfl
theorem Ts124 (h n u c hu : Int) (H : HT 7 h n u c hu) : SaysS TX (sgT [(.i64,h),(.i64,n),(.u64,u),(.u64,c),(.i64,c),(.u64,hu)]) 372 Ta124 Tv124 := saysS_of_C (sgT_num _) (sgT_onto _) (TO7_0_ok h n u c hu H) (prim_su (sgT_num _)) cl_ok Tr124
theorem Tr121 (p : List Fr → Bool) (sg : List Fr) : callC C0 TO7_0 TX.funs TX.prim 2000 372 Ta121 sg (fun v' sg' wd => ifK (veq v' Tv121) (ifK (Nat.beq wd 0) (p sg') false) false) = p sg := by kernel_rfl
theorem Ts121 (h n u c hu : Int) (H : HT 7 h n u c hu) : SaysS TX (sgT [(.i64,h),(.i64,n),(.u64,u),(.u64,c),(.i64,c),(.u64,hu)]) 372 Ta121 Tv121 := saysS_of_C (sgT_num _) (sgT_onto _) (TO7_0_ok h n u c hu H) (prim_su (sgT_num _)) cl_ok Tr121
theorem Tr123 (p : List Fr → Bool) (sg : List Fr) : callC C0 TO7_0 TX.funs TX.prim 2000 372 Ta123 sg (fun v' sg' wd => ifK (veq v' Tv123) (ifK (Nat.beq wd 0) (p sg') false) false) = p sg := by kernel_rfl
theorem Ts123 (h n u c hu : Int) (H : HT 7 h n u c hu) : SaysS TX (sgT [(.i64,h),(.i64,n),(.u64,u),(.u64,c),(.i64,c),(.u64,hu)]) 372 Ta123 Tv123 := saysS_of_C (sgT_num _) (sgT_onto _) (TO7_0_ok h n u c hu H) (prim_su (sgT_num _)) cl_ok Tr123
theorem Tr122 (p : List Fr → Bool) (sg : List Fr) : callC C0 TO7_0 TX.funs TX.prim 2000 372 Ta122 sg (fun v' sg' wd => ifK (veq v' Tv122) (ifK (Nat.beq wd 0) (p sg') false) false) = p sg := by kernel_rfl
theorem Ts122 (h n u c hu : Int) (H : HT 7 h n u c hu) : SaysS TX (sgT [(.i64,h),(.i64,n),(.u64,u),(.u64,c),(.i64,c),(.u64,hu)]) 372 Ta122 Tv122 := saysS_of_C (sgT_num _) (sgT_onto _) (TO7_0_ok h n u c hu H) (prim_su (sgT_num _)) cl_ok Tr122
end Go.Vm

/- Printed by closed2.py. -/
namespace Go.Vm
open Go
set_option maxRecDepth 1000000
noncomputable def Tk7_1_372 : List V → Option V := kM [(Ta127,Tv127),(Ta126,Tv126),(Ta124,Tv124),(Ta121,Tv121),(Ta123,Tv123),(Ta122,Tv122)]
theorem Tk7_1_372_ok (h n u c hu : Int) (H : HT 7 h n u c hu) : KOkS TX (sgT [(.i64,h),(.i64,n),(.u64,u),(.u64,c),(.i64,c),(.u64,hu)]) 372 Tk7_1_372 := kM_okS fun p hp => by
  simp only [List.mem_cons,List.mem_nil_iff,or_false] at hp
  rcases hp with rfl | rfl | rfl | rfl | rfl | rfl
  · exact Ts127 h n u c hu H
  · exact Ts126 h n u c hu H
  · exact Ts124 h n u c hu H
  · exact Ts121 h n u c hu H
  · exact Ts123 h n u c hu H
  · exact Ts122 h n u c hu H
noncomputable def TT7_1 : KT := (.node 372 Tk7_1_372 .leaf .leaf)
theorem TT7_1_ok (h n u c hu : Int) (H : HT 7 h n u c hu) : KT.OkS TX (sgT [(.i64,h),(.i64,n),(.u64,u),(.u64,c),(.i64,c),(.u64,hu)]) TT7_1 := ⟨Tk7_1_372_ok h n u c hu H,trivial,trivial⟩
noncomputable def TO7_1 : Orc := orcL TT7_1 TO7_0
theorem TO7_1_ok (h n u c hu : Int) (H : HT 7 h n u c hu) : OrcOk TX (sgT [(.i64,h),(.i64,n),(.u64,u),(.u64,c),(.i64,c),(.u64,hu)]) TO7_1 := orcL_okS (TT7_1_ok h n u c hu H) (TO7_0_ok h n u c hu H)
end Go.Vm

/- Printed by closed2.py. -/
namespace Go.Vm
open Go
set_option maxRecDepth 1000000
theorem Tr128 (p : List Fr → Bool) (sg : List Fr) : callC C0 TO7_1 TX.funs TX.prim 2000 22 Ta128 sg (fun v' sg' wd => ifK (veq v' Tv128) (ifK (Nat.beq wd 0) (p sg') false) false) = p sg := by kernel_rfl
theorem Ts128 (h n u c hu : Int) (H : HT 7 h n u c hu) : SaysS TX (sgT [(.i64,h),(.i64,n),(.u64,u),(.u64,c),(.i64,c),(.u64,hu)]) 22 Ta128 Tv128 := saysS_of_C (sgT_num _) (sgT_onto _) (TO7_1_ok h n u c hu H) (prim_su (sgT_num _)) cl_ok Tr128
theorem Tr125 (p : List Fr → Bool) (sg : List Fr) : callC C0 TO7_1 TX.funs TX.prim 2000 22 Ta125 sg (fun v' sg' wd => ifK (veq v' Tv125) (ifK (Nat.beq wd 0) (p sg') false) false) = p sg := by kernel_rfl
theorem Ts125 (h n u c hu : Int) (H : HT 7 h n u c hu) : SaysS TX (sgT [(.i64,h),(.i64,n),(.u64,u),(.u64,c),(.i64,c),(.u64,hu)]) 22 Ta125 Tv125 := saysS_of_C (sgT_num _) (sgT_onto _) (TO7_1_ok h n u c hu H) (prim_su (sgT_num _)) cl_ok Tr125
end Go.Vm

/- Printed by closed2.py. -/
namespace Go.Vm
open Go
set_option maxRecDepth 1000000
noncomputable def Tk7_2_22 : List V → Option V := kM [(Ta128,Tv128),(Ta125,Tv125)]
theorem Tk7_2_22_ok (h n u c hu : Int) (H : HT 7 h n u c hu) : KOkS TX (sgT [(.i64,h),(.i64,n),(.u64,u),(.u64,c),(.i64,c),(.u64,hu)]) 22 Tk7_2_22 := kM_okS fun p hp => by
  simp only [List.mem_cons,List.mem_nil_iff,or_false] at hp
  rcases hp with rfl | rfl
  · exact Ts128 h n u c hu H
  · exact Ts125 h n u c hu H
noncomputable def TT7_2 : KT := (.node 22 Tk7_2_22 .leaf .leaf)
theorem TT7_2_ok (h n u c hu : Int) (H : HT 7 h n u c hu) : KT.OkS TX (sgT [(.i64,h),(.i64,n),(.u64,u),(.u64,c),(.i64,c),(.u64,hu)]) TT7_2 := ⟨Tk7_2_22_ok h n u c hu H,trivial,trivial⟩
noncomputable def TO7_2 : Orc := orcL TT7_2 TO7_1
theorem TO7_2_ok (h n u c hu : Int) (H : HT 7 h n u c hu) : OrcOk TX (sgT [(.i64,h),(.i64,n),(.u64,u),(.u64,c),(.i64,c),(.u64,hu)]) TO7_2 := orcL_okS (TT7_2_ok h n u c hu H) (TO7_1_ok h n u c hu H)
end Go.Vm

/- Printed by closed2.py. -/
namespace Go.Vm
open Go
set_option maxRecDepth 1000000
theorem Tr129 (p : List Fr → Bool) (sg : List Fr) : callC C0 TO7_2 TX.funs TX.prim 2000 3 Ta129 sg (fun v' sg' wd => ifK (veq v' Tv129) (ifK (Nat.beq wd 0) (p sg') false) false) = p sg := by kernel_rfl
theorem Ts129 (h n u c hu : Int) (H : HT 7 h n u c hu) : SaysS TX (sgT [(.i64,h),(.i64,n),(.u64,u),(.u64,c),(.i64,c),(.u64,hu)]) 3 Ta129 Tv129 := saysS_of_C (sgT_num _) (sgT_onto _) (TO7_2_ok h n u c hu H) (prim_su (sgT_num _)) cl_ok Tr129
end Go.Vm

/- Printed by closed2.py. -/
namespace Go.Vm
open Go
set_option maxRecDepth 1000000
noncomputable def Tk7_3_3 : List V → Option V := kM [(Ta129,Tv129)]
theorem Tk7_3_3_ok (h n u c hu : Int) (H : HT 7 h n u c hu) : KOkS TX (sgT [(.i64,h),(.i64,n),(.u64,u),(.u64,c),(.i64,c),(.u64,hu)]) 3 Tk7_3_3 := kM_okS fun p hp => by
  simp only [List.mem_cons,List.mem_nil_iff,or_false] at hp
  rcases hp with rfl
  · exact Ts129 h n u c hu H
noncomputable def TT7_3 : KT := (.node 3 Tk7_3_3 .leaf .leaf)
theorem TT7_3_ok (h n u c hu : Int) (H : HT 7 h n u c hu) : KT.OkS TX (sgT [(.i64,h),(.i64,n),(.u64,u),(.u64,c),(.i64,c),(.u64,hu)]) TT7_3 := ⟨Tk7_3_3_ok h n u c hu H,trivial,trivial⟩
noncomputable def TO7_3 : Orc := orcL TT7_3 TO7_2
theorem TO7_3_ok (h n u c hu : Int) (H : HT 7 h n u c hu) : OrcOk TX (sgT [(.i64,h),(.i64,n),(.u64,u),(.u64,c),(.i64,c),(.u64,hu)]) TO7_3 := orcL_okS (TT7_3_ok h n u c hu H) (TO7_2_ok h n u c hu H)
end Go.Vm
