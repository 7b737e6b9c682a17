/-
  A part of a proof: the last text of the claim says what is proved, and under which conditions.
-/
import Derived.Test.YtjebeifjkkofaaaGreatDoorM22
set_option linter.unusedSimpArgs false
set_option linter.unusedVariables false
set_option linter.unnecessarySimpa false
/- Printed by closed2.py. -/
namespace Go.Vm
open Go
set_option maxRecDepth 1000000
noncomputable def TO1_0 : Orc := orcM (orcS [(.rem,.int .i16 2,.int .u64 5,.int .i16 3),(.rem,.int .i16 5,.int .u64 10,.int .u64 1),(.geq,.int .i16 4,.int .i64 (-4611686018427387904),.bool true),(.leq,.int .i16 4,.int .i64 4611686018427387904,.bool true),(.neq,.int .i16 4,.int .i16 4,.bool false),(.lss,.int .i16 4,.int .i16 4,.bool false),(.gtr,.int .i16 4,.int .i16 4,.bool false)] [(.u64,.int .i16 1,.int .i16 2),(.i64,.int .i16 3,.int .i16 4),(.u64,.int .i16 0,.int .i16 5)] [([2,1,1,2],.agg [.str [88],.int .i64 1,.int .i16 4,.str []],.agg [.str [88],.int .i64 1,.int .i16 4,.str []],true)]) TA4
theorem TO1_0_ok (h n u c hu : Int) (H : HT 1 h n u c hu) : OrcOk TX (sgT [(.i64,h),(.i64,n),(.u64,u),(.u64,c),(.i64,c),(.u64,hu)]) TO1_0 := by
  obtain ⟨e1,e2,e3,e7,e8,hc⟩ := H
  refine orcM_ok (orcS_ok ?_ ?_ ?_) TA4_ok
  · intro p hp
    simp only [List.mem_cons,List.mem_nil_iff,or_false] at hp
    rcases hp with rfl | rfl | rfl | rfl | rfl | rfl | rfl
    · exact congrArg (fun q => some (V.int .u64 q)) e2
    · exact congrArg (fun q => some (V.int .u64 q)) e8
    · first | rfl | exact bT (by omega) | exact bF (by omega) | exact beT (by omega) | exact beF (by omega) | exact bnT (by omega) | exact bnF (by omega)
    · first | rfl | exact bT (by omega) | exact bF (by omega) | exact beT (by omega) | exact beF (by omega) | exact bnT (by omega) | exact bnF (by omega)
    · first | rfl | exact bT (by omega) | exact bF (by omega) | exact beT (by omega) | exact beF (by omega) | exact bnT (by omega) | exact bnF (by omega)
    · first | rfl | exact bT (by omega) | exact bF (by omega) | exact beT (by omega) | exact beF (by omega) | exact bnT (by omega) | exact bnF (by omega)
    · first | rfl | exact bT (by omega) | exact bF (by omega) | exact beT (by omega) | exact beF (by omega) | exact bnT (by omega) | exact bnF (by omega)
  · intro p hp
    simp only [List.mem_cons,List.mem_nil_iff,or_false] at hp
    rcases hp with rfl | rfl | rfl
    · exact ⟨_,_,rfl,congrArg (V.int .u64) e1.symm⟩
    · exact ⟨_,_,rfl,congrArg (V.int .i64) e3.symm⟩
    · exact ⟨_,_,rfl,congrArg (V.int .u64) e7.symm⟩
  · intro p hp
    simp only [List.mem_cons,List.mem_nil_iff,or_false] at hp
    rcases hp with rfl
    · exact ⟨_,_,rfl,rfl,by simp [eqL,eqK,su,suL,sgT,show (IntKind.i64 == IntKind.i16) = false from by decide,show (IntKind.u64 == IntKind.i16) = false from by decide,show (IntKind.u8 == IntKind.i16) = false from by decide]⟩
end Go.Vm

/- Printed by closed2.py. -/
namespace Go.Vm
open Go
set_option maxRecDepth 1000000
theorem Tr36 (p : List Fr → Bool) (sg : List Fr) : callC C0 TO1_0 TX.funs TX.prim 2000 372 Ta36 sg (fun v' sg' wd => ifK (veq v' Tv36) (ifK (Nat.beq wd 0) (p sg') false) false) = p sg := by kernel_rfl
theorem Ts36 (h n u c hu : Int) (H : HT 1 h n u c hu) : SaysS TX (sgT [(.i64,h),(.i64,n),(.u64,u),(.u64,c),(.i64,c),(.u64,hu)]) 372 Ta36 Tv36 := saysS_of_C (sgT_num _) (sgT_onto _) (TO1_0_ok h n u c hu H) (prim_su (sgT_num _)) cl_ok Tr36
theorem Tr32 (p : List Fr → Bool) (sg : List Fr) : callC C0 TO1_0 TX.funs TX.prim 2000 372 Ta32 sg (fun v' sg' wd => ifK (veq v' Tv32) (ifK (Nat.beq wd 0) (p sg') false) false) = p sg := by kernel_rfl
theorem Ts32 (h n u c hu : Int) (H : HT 1 h n u c hu) : SaysS TX (sgT [(.i64,h),(.i64,n),(.u64,u),(.u64,c),(.i64,c),(.u64,hu)]) 372 Ta32 Tv32 := saysS_of_C (sgT_num _) (sgT_onto _) (TO1_0_ok h n u c hu H) (prim_su (sgT_num _)) cl_ok Tr32
theorem Tr34 (p : List Fr → Bool) (sg : List Fr) : callC C0 TO1_0 TX.funs TX.prim 2000 372 Ta34 sg (fun v' sg' wd => ifK (veq v' Tv34) (ifK (Nat.beq wd 0) (p sg') false) false) = p sg := by kernel_rfl
theorem Ts34 (h n u c hu : Int) (H : HT 1 h n u c hu) : SaysS TX (sgT [(.i64,h),(.i64,n),(.u64,u),(.u64,c),(.i64,c),(.u64,hu)]) 372 Ta34 Tv34 := saysS_of_C (sgT_num _) (sgT_onto _) (TO1_0_ok h n u c hu H) (prim_su (sgT_num _)) cl_ok Tr34
theorem Tr31 (p : List Fr → Bool) (sg : List Fr) : callC C0 TO1_0 TX.funs TX.prim 2000 372 Ta31 sg (fun v' sg' wd => ifK (veq v' Tv31) (ifK (Nat.beq wd 0) (p sg') false) false) = p sg := by kernel_rfl
theorem Ts31 (h n u c hu : Int) (H : HT 1 h n u c hu) : SaysS TX (sgT [(.i64,h),(.i64,n),(.u64,u),(.u64,c),(.i64,c),(.u64,hu)]) 372 Ta31 Tv31 := saysS_of_C (sgT_num _) (sgT_onto _) (TO1_0_ok h n u c hu H) (prim_su (sgT_num _)) cl_ok Tr31
theorem Tr33 (p : List Fr → Bool) (sg : List Fr) : callC C0 TO1_0 TX.funs TX.prim 2000 372 Ta33 sg (fun v' sg' wd => ifK (veq v' Tv33) (ifK (Nat.beq wd 0) (p sg') false) false) = p sg := by kernel_rfl
theorem Ts33 (h n u c hu : Int) (H : HT 1 h n u c hu) : SaysS TX (sgT [(.i64,h),(.i64,n),(.u64,u),(.u64,c),(.i64,c),(.u64,hu)]) 372 Ta33 Tv33 := saysS_of_C (sgT_num _) (sgT_onto _) (TO1_0_ok h n u c hu H) (prim_su (sgT_num _)) cl_ok Tr33
theorem Tr37 (p : List Fr → Bool) (sg : List Fr) : callC C0 TO1_0 TX.funs TX.prim 2000 372 Ta37 sg (fun v' sg' wd => ifK (veq v' Tv37) (ifK (Nat.beq wd 0) (p sg') false) false) = p sg := by kernel_rfl
theorem Ts37 (h n u c hu : Int) (H : HT 1 h n u c hu) : SaysS TX (sgT [(.i64,h),(.i64,n),(.u64,u),(.u64,c),(.i64,c),(.u64,hu)]) 372 Ta37 Tv37 := saysS_of_C (sgT_num _) (sgT_onto _) (TO1_0_ok h n u c hu H) (prim_su (sgT_num _)) cl_ok Tr37
end Go.Vm

/- Printed by closed2.py. -/
namespace Go.Vm
open Go
set_option maxRecDepth 1000000
noncomputable def Tk1_1_372 : List V → Option V := kM [(Ta36,Tv36),(Ta32,Tv32),(Ta34,Tv34),(Ta31,Tv31),(Ta33,Tv33),(Ta37,Tv37)]
theorem Tk1_1_372_ok (h n u c hu : Int) (H : HT 1 h n u c hu) : KOkS TX (sgT [(.i64,h),(.i64,n),(.u64,u),(.u64,c),(.i64,c),(.u64,hu)]) 372 Tk1_1_372 := kM_okS fun p hp => by
  simp only [List.mem_cons,List.mem_nil_iff,or_false] at hp
  rcases hp with rfl | rfl | rfl | rfl | rfl | rfl
  · exact Ts36 h n u c hu H
  · exact Ts32 h n u c hu H
  · exact Ts34 h n u c hu H
  · exact Ts31 h n u c hu H
  · exact Ts33 h n u c hu H
  · exact Ts37 h n u c hu H
noncomputable def TT1_1 : KT := (.node 372 Tk1_1_372 .leaf .leaf)
theorem TT1_1_ok (h n u c hu : Int) (H : HT 1 h n u c hu) : KT.OkS TX (sgT [(.i64,h),(.i64,n),(.u64,u),(.u64,c),(.i64,c),(.u64,hu)]) TT1_1 := ⟨Tk1_1_372_ok h n u c hu H,trivial,trivial⟩
noncomputable def TO1_1 : Orc := orcL TT1_1 TO1_0
theorem TO1_1_ok (h n u c hu : Int) (H : HT 1 h n u c hu) : OrcOk TX (sgT [(.i64,h),(.i64,n),(.u64,u),(.u64,c),(.i64,c),(.u64,hu)]) TO1_1 := orcL_okS (TT1_1_ok h n u c hu H) (TO1_0_ok h n u c hu H)
end Go.Vm

/- Printed by closed2.py. -/
namespace Go.Vm
open Go
set_option maxRecDepth 1000000
theorem Tr35 (p : List Fr → Bool) (sg : List Fr) : callC C0 TO1_1 TX.funs TX.prim 2000 22 Ta35 sg (fun v' sg' wd => ifK (veq v' Tv35) (ifK (Nat.beq wd 0) (p sg') false) false) = p sg := by kernel_rfl
theorem Ts35 (h n u c hu : Int) (H : HT 1 h n u c hu) : SaysS TX (sgT [(.i64,h),(.i64,n),(.u64,u),(.u64,c),(.i64,c),(.u64,hu)]) 22 Ta35 Tv35 := saysS_of_C (sgT_num _) (sgT_onto _) (TO1_1_ok h n u c hu H) (prim_su (sgT_num _)) cl_ok Tr35
end Go.Vm

/- Printed by closed2.py. -/
namespace Go.Vm
open Go
set_option maxRecDepth 1000000
noncomputable def Tk1_2_22 : List V → Option V := kM [(Ta35,Tv35)]
theorem Tk1_2_22_ok (h n u c hu : Int) (H : HT 1 h n u c hu) : KOkS TX (sgT [(.i64,h),(.i64,n),(.u64,u),(.u64,c),(.i64,c),(.u64,hu)]) 22 Tk1_2_22 := kM_okS fun p hp => by
  simp only [List.mem_cons,List.mem_nil_iff,or_false] at hp
  rcases hp with rfl
  · exact Ts35 h n u c hu H
noncomputable def TT1_2 : KT := (.node 22 Tk1_2_22 .leaf .leaf)
theorem TT1_2_ok (h n u c hu : Int) (H : HT 1 h n u c hu) : KT.OkS TX (sgT [(.i64,h),(.i64,n),(.u64,u),(.u64,c),(.i64,c),(.u64,hu)]) TT1_2 := ⟨Tk1_2_22_ok h n u c hu H,trivial,trivial⟩
noncomputable def TO1_2 : Orc := orcL TT1_2 TO1_1
theorem TO1_2_ok (h n u c hu : Int) (H : HT 1 h n u c hu) : OrcOk TX (sgT [(.i64,h),(.i64,n),(.u64,u),(.u64,c),(.i64,c),(.u64,hu)]) TO1_2 := orcL_okS (TT1_2_ok h n u c hu H) (TO1_1_ok h n u c hu H)
end Go.Vm

/- Printed by closed2.py. -/
namespace Go.Vm
open Go
set_option maxRecDepth 1000000
theorem Tr38 (p : List Fr → Bool) (sg : List Fr) : callC C0 TO1_2 TX.funs TX.prim 2000 7 Ta38 sg (fun v' sg' wd => ifK (veq v' Tv38) (ifK (Nat.beq wd 0) (p sg') false) false) = p sg := by kernel_rfl
theorem Ts38 (h n u c hu : Int) (H : HT 1 h n u c hu) : SaysS TX (sgT [(.i64,h),(.i64,n),(.u64,u),(.u64,c),(.i64,c),(.u64,hu)]) 7 Ta38 Tv38 := saysS_of_C (sgT_num _) (sgT_onto _) (TO1_2_ok h n u c hu H) (prim_su (sgT_num _)) cl_ok Tr38
end Go.Vm

/- Printed by closed2.py. -/
namespace Go.Vm
open Go
set_option maxRecDepth 1000000
noncomputable def Tk1_3_7 : List V → Option V := kM [(Ta38,Tv38)]
theorem Tk1_3_7_ok (h n u c hu : Int) (H : HT 1 h n u c hu) : KOkS TX (sgT [(.i64,h),(.i64,n),(.u64,u),(.u64,c),(.i64,c),(.u64,hu)]) 7 Tk1_3_7 := kM_okS fun p hp => by
  simp only [List.mem_cons,List.mem_nil_iff,or_false] at hp
  rcases hp with rfl
  · exact Ts38 h n u c hu H
noncomputable def TT1_3 : KT := (.node 7 Tk1_3_7 .leaf .leaf)
theorem TT1_3_ok (h n u c hu : Int) (H : HT 1 h n u c hu) : KT.OkS TX (sgT [(.i64,h),(.i64,n),(.u64,u),(.u64,c),(.i64,c),(.u64,hu)]) TT1_3 := ⟨Tk1_3_7_ok h n u c hu H,trivial,trivial⟩
noncomputable def TO1_3 : Orc := orcL TT1_3 TO1_2
theorem TO1_3_ok (h n u c hu : Int) (H : HT 1 h n u c hu) : OrcOk TX (sgT [(.i64,h),(.i64,n),(.u64,u),(.u64,c),(.i64,c),(.u64,hu)]) TO1_3 := orcL_okS (TT1_3_ok h n u c hu H) (TO1_2_ok h n u c hu H)
end Go.Vm

/- Printed by closed2.py. -/
namespace Go.Vm
open Go
set_option maxRecDepth 1000000
theorem Tr39 (p : List Fr → Bool) (sg : List Fr) : callC C0 TO1_3 TX.funs TX.prim 2000 3 Ta39 sg (fun v' sg' wd => ifK (veq v' Tv39) (ifK (Nat.beq wd 0) (p sg') false) false) = p sg := by kernel_rfl
theorem Ts39 (h n u c hu : Int) (H : HT 1 h n u c hu) : SaysS TX (sgT [(.i64,h),(.i64,n),(.u64,u),(.u64,c),(.i64,c),(.u64,hu)]) 3 Ta39 Tv39 := saysS_of_C (sgT_num _) (sgT_onto _) (TO1_3_ok h n u c hu H) (prim_su (sgT_num _)) cl_ok Tr39
end Go.Vm

/- Printed by closed2.py. -/
namespace Go.Vm
open Go
set_option maxRecDepth 1000000
noncomputable def Tk1_4_3 : List V → Option V := kM [(Ta39,Tv39)]
theorem Tk1_4_3_ok (h n u c hu : Int) (H : HT 1 h n u c hu) : KOkS TX (sgT [(.i64,h),(.i64,n),(.u64,u),(.u64,c),(.i64,c),(.u64,hu)]) 3 Tk1_4_3 := kM_okS fun p hp => by
  simp only [List.mem_cons,List.mem_nil_iff,or_false] at hp
  rcases hp with rfl
  · exact Ts39 h n u c hu H
noncomputable def TT1_4 : KT := (.node 3 Tk1_4_3 .leaf .leaf)
theorem TT1_4_ok (h n u c hu : Int) (H : HT 1 h n u c hu) : KT.OkS TX (sgT [(.i64,h),(.i64,n),(.u64,u),(.u64,c),(.i64,c),(.u64,hu)]) TT1_4 := ⟨Tk1_4_3_ok h n u c hu H,trivial,trivial⟩
noncomputable def TO1_4 : Orc := orcL TT1_4 TO1_3
theorem TO1_4_ok (h n u c hu : Int) (H : HT 1 h n u c hu) : OrcOk TX (sgT [(.i64,h),(.i64,n),(.u64,u),(.u64,c),(.i64,c),(.u64,hu)]) TO1_4 := orcL_okS (TT1_4_ok h n u c hu H) (TO1_3_ok h n u c hu H)
end Go.Vm
