/-
  A part of a proof: the last text of the claim says what is proved, and under which conditions.
-/
import Derived.Test.YtjebeifjkkofaaaGreatDoorM22
set_option linter.unusedSimpArgs false
set_option linter.unusedVariables false
set_option linter.unnecessarySimpa false
/- Printed by closed2.py. -/
namespace Go.Vm
open Go
set_option maxRecDepth 1000000
noncomputable def TO6_0 : Orc := orcM (orcS [(.rem,.int .i16 2,.int .u64 5,.int .i16 3),(.rem,.int .i16 5,.int .u64 10,.int .u64 6),(.geq,.int .i16 4,.int .i64 (-4611686018427387904),.bool true),(.leq,.int .i16 4,.int .i64 4611686018427387904,.bool true),(.neq,.int .i16 4,.int .i16 4,.bool false),(.lss,.int .i16 4,.int .i16 4,.bool false),(.gtr,.int .i16 4,.int .i16 4,.bool false)] [(.u64,.int .i16 1,.int .i16 2),(.i64,.int .i16 3,.int .i16 4),(.u64,.int .i16 0,.int .i16 5)] [([2,1,1,2],.agg [.str [88],.int .i64 1,.int .i16 4,.str []],.agg [.str [88],.int .i64 1,.int .i16 4,.str []],true)]) TA4
theorem TO6_0_ok (h n u c hu : Int) (H : HT 6 h n u c hu) : OrcOk TX (sgT [(.i64,h),(.i64,n),(.u64,u),(.u64,c),(.i64,c),(.u64,hu)]) TO6_0 := by
  obtain ⟨e1,e2,e3,e7,e8,hc⟩ := H
  refine orcM_ok (orcS_ok ?_ ?_ ?_) TA4_ok
  · intro p hp
    simp only [List.mem_cons,List.mem_nil_iff,or_false] at hp
    rcases hp with rfl | rfl | rfl | rfl | rfl | rfl | rfl
    · exact congrArg (fun q => some (V.int .u64 q)) e2
    · exact congrArg (fun q => some (V.int .u64 q)) e8
    · first | rfl | exact bT (by omega) | exact bF (by omega) | exact beT (by omega) | exact beF (by omega) | exact bnT (by omega) | exact bnF (by omega)
    · first | rfl | exact bT (by omega) | exact bF (by omega) | exact beT (by omega) | exact beF (by omega) | exact bnT (by omega) | exact bnF (by omega)
    · first | rfl | exact bT (by omega) | exact bF (by omega) | exact beT (by omega) | exact beF (by omega) | exact bnT (by omega) | exact bnF (by omega)
    · first | rfl | exact bT (by omega) | exact bF (by omega) | exact beT (by omega) | exact beF (by omega) | exact bnT (by omega) | exact bnF (by omega)
    · first | rfl | exact bT (by omega) | exact bF (by omega) | exact beT (by omega) | exact beF (by omega) | exact bnT (by omega) | exact bnF (by omega)
  · intro p hp
    simp only [List.mem_cons,List.mem_nil_iff,or_false] at hp
    rcases hp with rfl | rfl | rfl
    · exact ⟨_,_,rfl,congrArg (V.int .u64) e1.symm⟩
    · exact ⟨_,_,rfl,congrArg (V.int .i64) e3.symm⟩
    · exact ⟨_,_,rfl,congrArg (V.int .u64) e7.symm⟩
  · intro p hp
    simp only [List.mem_cons,List.mem_nil_iff,or_false] at hp
    rcases hp with rfl
    · exact ⟨_,_,rfl,rfl,by simp [eqL,eqK,su,suL,sgT,show (IntKind.i64 == IntKind.i16) = false from by decide,show (IntKind.u64 == IntKind.i16) = false from by decide,show (IntKind.u8 == IntKind.i16) = false from by decide]⟩
end Go.Vm

/- Printed by closed2.py. -/
namespace Go.Vm
open Go
set_option maxRecDepth 1000000
theorem Tr107 (p : List Fr → Bool) (sg : List Fr) : callC C0 TO6_0 TX.funs TX.prim 2000 263 Ta107 sg (fun v' sg' wd => ifK (veq v' Tv107) (ifK (Nat.beq wd 0) (p sg') false) false) = p sg := by kernel_rfl
theorem Ts107 (h n u c hu : Int) (H : HT 6 h n u c hu) : SaysS TX (sgT [(.i64,h),(.i64,n),(.u64,u),(.u64,c),(.i64,c),(.u64,hu)]) 263 Ta107 Tv107 := saysS_of_C (sgT_num _) (sgT_onto _) (TO6_0_ok h n u c hu H) (prim_su (sgT_num _)) cl_ok Tr107
end Go.Vm

/- Printed by closed2.py. -/
namespace Go.Vm
open Go
set_option maxRecDepth 1000000
noncomputable def Tk6_1_263 : List V → Option V := kM [(Ta107,Tv107)]
theorem Tk6_1_263_ok (h n u c hu : Int) (H : HT 6 h n u c hu) : KOkS TX (sgT [(.i64,h),(.i64,n),(.u64,u),(.u64,c),(.i64,c),(.u64,hu)]) 263 Tk6_1_263 := kM_okS fun p hp => by
  simp only [List.mem_cons,List.mem_nil_iff,or_false] at hp
  rcases hp with rfl
  · exact Ts107 h n u c hu H
noncomputable def TT6_1 : KT := (.node 263 Tk6_1_263 .leaf .leaf)
theorem TT6_1_ok (h n u c hu : Int) (H : HT 6 h n u c hu) : KT.OkS TX (sgT [(.i64,h),(.i64,n),(.u64,u),(.u64,c),(.i64,c),(.u64,hu)]) TT6_1 := ⟨Tk6_1_263_ok h n u c hu H,trivial,trivial⟩
noncomputable def TO6_1 : Orc := orcL TT6_1 TO6_0
theorem TO6_1_ok (h n u c hu : Int) (H : HT 6 h n u c hu) : OrcOk TX (sgT [(.i64,h),(.i64,n),(.u64,u),(.u64,c),(.i64,c),(.u64,hu)]) TO6_1 := orcL_okS (TT6_1_ok h n u c hu H) (TO6_0_ok h n u c hu H)
end Go.Vm

/- Printed by closed2.py. -/
namespace Go.Vm
open Go
set_option maxRecDepth 1000000
theorem Tr115 (p : List Fr → Bool) (sg : List Fr) : callC C0 TO6_1 TX.funs TX.prim 2000 372 Ta115 sg (fun v' sg' wd => ifK (veq v' Tv115) (ifK (Nat.beq wd 0) (p sg') false) false) = p sg := by kernel_rfl
theorem Ts115 (h n u c hu : Int) (H : HT 6 h n u c hu) : SaysS TX (sgT [(.i64,h),(.i64,n),(.u64,u),(.u64,c),(.i64,c),(.u64,hu)]) 372 Ta115 Tv115 := saysS_of_C (sgT_num _) (sgT_onto _) (TO6_1_ok h n u c hu H) (prim_su (sgT_num _)) cl_ok Tr115
theorem Tr112 (p : List Fr → Bool) (sg : List Fr) : callC C0 TO6_1 TX.funs TX.prim 2000 372 Ta112 sg (fun v' sg' wd => ifK (veq v' Tv112) (ifK (Nat.beq wd 0) (p sg') false) false) = p sg := by kernel_rfl
theorem Ts112 (h n u c hu : Int) (H : HT 6 h n u c hu) : SaysS TX (sgT [(.i64,h),(.i64,n),(.u64,u),(.u64,c),(.i64,c),(.u64,hu)]) 372 Ta112 Tv112 := saysS_of_C (sgT_num _) (sgT_onto _) (TO6_1_ok h n u c hu H) (prim_su (sgT_num _)) cl_ok Tr112
theorem Tr110 (p : List Fr → Bool) (sg : List Fr) : callC C0 TO6_1 TX.funs TX.prim 2000 372 Ta110 sg (fun v' sg' wd => ifK (veq v' Tv110) (ifK (Nat.beq wd 0) (p sg') false) false) = p sg := by kernel_rfl
theorem Ts110 (h n u c hu : Int) (H : HT 6 h n u c hu) : SaysS TX (sgT [(.i64,h),(.i64,n),(.u64,u),(.u64,c),(.i64,c),(.u64,hu)]) 372 Ta110 Tv110 := saysS_of_C (sgT_num _) (sgT_onto _) (TO6_1_ok h n u c hu H) (prim_su (sgT_num _)) cl_ok Tr110
theorem Tr114 (p : List Fr → Bool) (sg : List Fr) : callC C0 TO6_1 TX.funs TX.prim 2000 372 Ta114 sg (fun v' sg' wd => ifK (veq v' Tv114) (ifK (Nat.beq wd 0) (p sg') false) false) = p sg := by kernel_rfl
theorem Ts114 (h n u c hu : Int) (H : HT 6 h n u c hu) : SaysS TX (sgT [(.i64,h),(.i64,n),(.u64,u),(.u64,c),(.i64,c),(.u64,hu)]) 372 Ta114 Tv114 := saysS_of_C (sgT_num _) (sgT_onto _) (TO6_1_ok h n u c hu H) (prim_su (sgT_num _)) cl_ok Tr114
theorem Tr108 (p : List Fr → Bool) (sg : List Fr) : callC C0 TO6_1 TX.funs TX.prim 2000 372 Ta108 sg (fun v' sg' wd => ifK (veq v' Tv108) (ifK (Nat.beq wd 0) (p sg') false) false) = p sg := by kernel_rfl
theorem Ts108 (h n u c hu : Int) (H : HT 6 h n u c hu) : SaysS TX (sgT [(.i64,h),(.i64,n),(.u64,u),(.u64,c),(.i64,c),(.u64,hu)]) 372 Ta108 Tv108 := saysS_of_C (sgT_num _) (sgT_onto _) (TO6_1_ok h n u c hu H) (prim_su (sgT_num _)) cl_ok Tr108
end Go.Vm

/- Printed by closed2.py. -/
namespace Go.Vm
open Go
set_option maxRecDepth 1000000
noncomputable def Tk6_2_372 : List V → Option V := kM [(Ta115,Tv115),(Ta112,Tv112),(Ta110,Tv110),(Ta114,Tv114),(Ta108,Tv108)]
theorem Tk6_2_372_ok (h n u c hu : Int) (H : HT 6 h n u c hu) : KOkS TX (sgT [(.i64,h),(.i64,n),(.u64,u),(.u64,c),(.i64,c),(.u64,hu)]) 372 Tk6_2_372 := kM_okS fun p hp => by
  simp only [List.mem_cons,List.mem_nil_iff,or_false] at hp
  rcases hp with rfl | rfl | rfl | rfl | rfl
  · exact Ts115 h n u c hu H
  · exact Ts112 h n u c hu H
  · exact Ts110 h n u c hu H
  · exact Ts114 h n u c hu H
  · exact Ts108 h n u c hu H
noncomputable def TT6_2 : KT := (.node 372 Tk6_2_372 .leaf .leaf)
theorem TT6_2_ok (h n u c hu : Int) (H : HT 6 h n u c hu) : KT.OkS TX (sgT [(.i64,h),(.i64,n),(.u64,u),(.u64,c),(.i64,c),(.u64,hu)]) TT6_2 := ⟨Tk6_2_372_ok h n u c hu H,trivial,trivial⟩
noncomputable def TO6_2 : Orc := orcL TT6_2 TO6_1
theorem TO6_2_ok (h n u c hu : Int) (H : HT 6 h n u c hu) : OrcOk TX (sgT [(.i64,h),(.i64,n),(.u64,u),(.u64,c),(.i64,c),(.u64,hu)]) TO6_2 := orcL_okS (TT6_2_ok h n u c hu H) (TO6_1_ok h n u c hu H)
end Go.Vm

/- Printed by closed2.py. -/
namespace Go.Vm
open Go
set_option maxRecDepth 1000000
theorem Tr113 (p : List Fr → Bool) (sg : List Fr) : callC C0 TO6_2 TX.funs TX.prim 2000 22 Ta113 sg (fun v' sg' wd => ifK (veq v' Tv113) (ifK (Nat.beq wd 0) (p sg') false) false) = p sg := by kernel_rfl
theorem Ts113 (h n u c hu : Int) (H : HT 6 h n u c hu) : SaysS TX (sgT [(.i64,h),(.i64,n),(.u64,u),(.u64,c),(.i64,c),(.u64,hu)]) 22 Ta113 Tv113 := saysS_of_C (sgT_num _) (sgT_onto _) (TO6_2_ok h n u c hu H) (prim_su (sgT_num _)) cl_ok Tr113
theorem Tr109 (p : List Fr → Bool) (sg : List Fr) : callC C0 TO6_2 TX.funs TX.prim 2000 22 Ta109 sg (fun v' sg' wd => ifK (veq v' Tv109) (ifK (Nat.beq wd 0) (p sg') false) false) = p sg := by kernel_rfl
theorem Ts109 (h n u c hu : Int) (H : HT 6 h n u c hu) : SaysS TX (sgT [(.i64,h),(.i64,n),(.u64,u),(.u64,c),(.i64,c),(.u64,hu)]) 22 Ta109 Tv109 := saysS_of_C (sgT_num _) (sgT_onto _) (TO6_2_ok h n u c hu H) (prim_su (sgT_num _)) cl_ok Tr109
theorem Tr111 (p : List Fr → Bool) (sg : List Fr) : callC C0 TO6_2 TX.funs TX.prim 2000 22 Ta111 sg (fun v' sg' wd => ifK (veq v' Tv111) (ifK (Nat.beq wd 0) (p sg') false) false) = p sg := by kernel_rfl
theorem Ts111 (h n u c hu : Int) (H : HT 6 h n u c hu) : SaysS TX (sgT [(.i64,h),(.i64,n),(.u64,u),(.u64,c),(.i64,c),(.u64,hu)]) 22 Ta111 Tv111 := saysS_of_C (sgT_num _) (sgT_onto _) (TO6_2_ok h n u c hu H) (prim_su (sgT_num _)) cl_ok Tr111
theorem Tr116 (p : List Fr → Bool) (sg : List Fr) : callC C0 TO6_2 TX.funs TX.prim 2000 22 Ta116 sg (fun v' sg' wd => ifK (veq v' Tv116) (ifK (Nat.beq wd 0) (p sg') false) false) = p sg := by kernel_rfl
theorem Ts116 (h n u c hu : Int) (H : HT 6 h n u c hu) : SaysS TX (sgT [(.i64,h),(.i64,n),(.u64,u),(.u64,c),(.i64,c),(.u64,hu)]) 22 Ta116 Tv116 := saysS_of_C (sgT_num _) (sgT_onto _) (TO6_2_ok h n u c hu H) (prim_su (sgT_num _)) cl_ok Tr116
end Go.Vm

/- Printed by closed2.py. -/
namespace Go.Vm
open Go
set_option maxRecDepth 1000000
noncomputable def Tk6_3_22 : List V → Option V := kM [(Ta113,Tv113),(Ta109,Tv109),(Ta111,Tv111),(Ta116,Tv116)]
theorem Tk6_3_22_ok (h n u c hu : Int) (H : HT 6 h n u c hu) : KOkS TX (sgT [(.i64,h),(.i64,n),(.u64,u),(.u64,c),(.i64,c),(.u64,hu)]) 22 Tk6_3_22 := kM_okS fun p hp => by
  simp only [List.mem_cons,List.mem_nil_iff,or_false] at hp
  rcases hp with rfl | rfl | rfl | rfl
  · exact Ts113 h n u c hu H
  · exact Ts109 h n u c hu H
  · exact Ts111 h n u c hu H
  · exact Ts116 h n u c hu H
noncomputable def TT6_3 : KT := (.node 22 Tk6_3_22 .leaf .leaf)
theorem TT6_3_ok (h n u c hu : Int) (H : HT 6 h n u c hu) : KT.OkS TX (sgT [(.i64,h),(.i64,n),(.u64,u),(.u64,c),(.i64,c),(.u64,hu)]) TT6_3 := ⟨Tk6_3_22_ok h n u c hu H,trivial,trivial⟩
noncomputable def TO6_3 : Orc := orcL TT6_3 TO6_2
theorem TO6_3_ok (h n u c hu : Int) (H : HT 6 h n u c hu) : OrcOk TX (sgT [(.i64,h),(.i64,n),(.u64,u),(.u64,c),(.i64,c),(.u64,hu)]) TO6_3 := orcL_okS (TT6_3_ok h n u c hu H) (TO6_2_ok h n u c hu H)
end Go.Vm

/- Printed by closed2.py. -/
namespace Go.Vm
open Go
set_option maxRecDepth 1000000
theorem Tr117 (p : List Fr → Bool) (sg : List Fr) : callC C0 TO6_3 TX.funs TX.prim 2000 3 Ta117 sg (fun v' sg' wd => ifK (veq v' Tv117) (ifK (Nat.beq wd 0) (p sg') false) false) = p sg := by kernel_rfl
theorem Ts117 (h n u c hu : Int) (H : HT 6 h n u c hu) : SaysS TX (sgT [(.i64,h),(.i64,n),(.u64,u),(.u64,c),(.i64,c),(.u64,hu)]) 3 Ta117 Tv117 := saysS_of_C (sgT_num _) (sgT_onto _) (TO6_3_ok h n u c hu H) (prim_su (sgT_num _)) cl_ok Tr117
end Go.Vm

/- Printed by closed2.py. -/
namespace Go.Vm
open Go
set_option maxRecDepth 1000000
noncomputable def Tk6_4_3 : List V → Option V := kM [(Ta117,Tv117)]
theorem Tk6_4_3_ok (h n u c hu : Int) (H : HT 6 h n u c hu) : KOkS TX (sgT [(.i64,h),(.i64,n),(.u64,u),(.u64,c),(.i64,c),(.u64,hu)]) 3 Tk6_4_3 := kM_okS fun p hp => by
  simp only [List.mem_cons,List.mem_nil_iff,or_false] at hp
  rcases hp with rfl
  · exact Ts117 h n u c hu H
noncomputable def TT6_4 : KT := (.node 3 Tk6_4_3 .leaf .leaf)
theorem TT6_4_ok (h n u c hu : Int) (H : HT 6 h n u c hu) : KT.OkS TX (sgT [(.i64,h),(.i64,n),(.u64,u),(.u64,c),(.i64,c),(.u64,hu)]) TT6_4 := ⟨Tk6_4_3_ok h n u c hu H,trivial,trivial⟩
noncomputable def TO6_4 : Orc := orcL TT6_4 TO6_3
theorem TO6_4_ok (h n u c hu : Int) (H : HT 6 h n u c hu) : OrcOk TX (sgT [(.i64,h),(.i64,n),(.u64,u),(.u64,c),(.i64,c),(.u64,hu)]) TO6_4 := orcL_okS (TT6_4_ok h n u c hu H) (TO6_3_ok h n u c hu H)
end Go.Vm
