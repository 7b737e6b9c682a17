/-
  A part of a proof: the last text of the claim says what is proved, and under which conditions.
-/
import Derived.Test.YtjebeifjkkofaaaGreatDoorM22
set_option linter.unusedSimpArgs false
set_option linter.unusedVariables false
set_option linter.unnecessarySimpa false
/- Printed by closed2.py. -/
namespace Go.Vm
open Go
set_option maxRecDepth 1000000
noncomputable def TO3_0 : Orc := orcM (orcS [(.rem,.int .i16 2,.int .u64 5,.int .i16 3),(.rem,.int .i16 5,.int .u64 10,.int .u64 3),(.geq,.int .i16 4,.int .i64 (-4611686018427387904),.bool true),(.leq,.int .i16 4,.int .i64 4611686018427387904,.bool true),(.neq,.int .i16 4,.int .i16 4,.bool false),(.lss,.int .i16 4,.int .i16 4,.bool false),(.gtr,.int .i16 4,.int .i16 4,.bool false)] [(.u64,.int .i16 1,.int .i16 2),(.i64,.int .i16 3,.int .i16 4),(.u64,.int .i16 0,.int .i16 5)] [([2,1,1,2],.agg [.str [88],.int .i64 1,.int .i16 4,.str []],.agg [.str [88],.int .i64 1,.int .i16 4,.str []],true)]) TA4
theorem TO3_0_ok (h n u c hu : Int) (H : HT 3 h n u c hu) : OrcOk TX (sgT [(.i64,h),(.i64,n),(.u64,u),(.u64,c),(.i64,c),(.u64,hu)]) TO3_0 := by
  obtain ⟨e1,e2,e3,e7,e8,hc⟩ := H
  refine orcM_ok (orcS_ok ?_ ?_ ?_) TA4_ok
  · intro p hp
    simp only [List.mem_cons,List.mem_nil_iff,or_false] at hp
    rcases hp with rfl | rfl | rfl | rfl | rfl | rfl | rfl
    · exact congrArg (fun q => some (V.int .u64 q)) e2
    · exact congrArg (fun q => some (V.int .u64 q)) e8
    · first | rfl | exact bT (by omega) | exact bF (by omega) | exact beT (by omega) | exact beF (by omega) | exact bnT (by omega) | exact bnF (by omega)
    · first | rfl | exact bT (by omega) | exact bF (by omega) | exact beT (by omega) | exact beF (by omega) | exact bnT (by omega) | exact bnF (by omega)
    · first | rfl | exact bT (by omega) | exact bF (by omega) | exact beT (by omega) | exact beF (by omega) | exact bnT (by omega) | exact bnF (by omega)
    · first | rfl | exact bT (by omega) | exact bF (by omega) | exact beT (by omega) | exact beF (by omega) | exact bnT (by omega) | exact bnF (by omega)
    · first | rfl | exact bT (by omega) | exact bF (by omega) | exact beT (by omega) | exact beF (by omega) | exact bnT (by omega) | exact bnF (by omega)
  · intro p hp
    simp only [List.mem_cons,List.mem_nil_iff,or_false] at hp
    rcases hp with rfl | rfl | rfl
    · exact ⟨_,_,rfl,congrArg (V.int .u64) e1.symm⟩
    · exact ⟨_,_,rfl,congrArg (V.int .i64) e3.symm⟩
    · exact ⟨_,_,rfl,congrArg (V.int .u64) e7.symm⟩
  · intro p hp
    simp only [List.mem_cons,List.mem_nil_iff,or_false] at hp
    rcases hp with rfl
    · exact ⟨_,_,rfl,rfl,by simp [eqL,eqK,su,suL,sgT,show (IntKind.i64 == IntKind.i16) = false from by decide,show (IntKind.u64 == IntKind.i16) = false from by decide,show (IntKind.u8 == IntKind.i16) = false from by decide]⟩
end Go.Vm

/- Printed by closed2.py. -/
namespace Go.Vm
open Go
set_option maxRecDepth 1000000
theorem Tr68 (p : List Fr → Bool) (sg : List Fr) : callC C0 TO3_0 TX.funs TX.prim 2000 263 Ta68 sg (fun v' sg' wd => ifK (veq v' Tv68) (ifK (Nat.beq wd 0) (p sg') false) false) = p sg := by kernel_rfl
theorem Ts68 (h n u c hu : Int) (H : HT 3 h n u c hu) : SaysS TX (sgT [(.i64,h),(.i64,n),(.u64,u),(.u64,c),(.i64,c),(.u64,hu)]) 263 Ta68 Tv68 := saysS_of_C (sgT_num _) (sgT_onto _) (TO3_0_ok h n u c hu H) (prim_su (sgT_num _)) cl_ok Tr68
end Go.Vm

/- Printed by closed2.py. -/
namespace Go.Vm
open Go
set_option maxRecDepth 1000000
noncomputable def Tk3_1_263 : List V → Option V := kM [(Ta68,Tv68)]
theorem Tk3_1_263_ok (h n u c hu : Int) (H : HT 3 h n u c hu) : KOkS TX (sgT [(.i64,h),(.i64,n),(.u64,u),(.u64,c),(.i64,c),(.u64,hu)]) 263 Tk3_1_263 := kM_okS fun p hp => by
  simp only [List.mem_cons,List.mem_nil_iff,or_false] at hp
  rcases hp with rfl
  · exact Ts68 h n u c hu H
noncomputable def TT3_1 : KT := (.node 263 Tk3_1_263 .leaf .leaf)
theorem TT3_1_ok (h n u c hu : Int) (H : HT 3 h n u c hu) : KT.OkS TX (sgT [(.i64,h),(.i64,n),(.u64,u),(.u64,c),(.i64,c),(.u64,hu)]) TT3_1 := ⟨Tk3_1_263_ok h n u c hu H,trivial,trivial⟩
noncomputable def TO3_1 : Orc := orcL TT3_1 TO3_0
theorem TO3_1_ok (h n u c hu : Int) (H : HT 3 h n u c hu) : OrcOk TX (sgT [(.i64,h),(.i64,n),(.u64,u),(.u64,c),(.i64,c),(.u64,hu)]) TO3_1 := orcL_okS (TT3_1_ok h n u c hu H) (TO3_0_ok h n u c hu H)
end Go.Vm

/- Printed by closed2.py. -/
namespace Go.Vm
open Go
set_option maxRecDepth 1000000
theorem Tr69 (p : List Fr → Bool) (sg : List Fr) : callC C0 TO3_1 TX.funs TX.prim 2000 22 Ta69 sg (fun v' sg' wd => ifK (veq v' Tv69) (ifK (Nat.beq wd 0) (p sg') false) false) = p sg := by kernel_rfl
theorem Ts69 (h n u c hu : Int) (H : HT 3 h n u c hu) : SaysS TX (sgT [(.i64,h),(.i64,n),(.u64,u),(.u64,c),(.i64,c),(.u64,hu)]) 22 Ta69 Tv69 := saysS_of_C (sgT_num _) (sgT_onto _) (TO3_1_ok h n u c hu H) (prim_su (sgT_num _)) cl_ok Tr69
theorem Tr70 (p : List Fr → Bool) (sg : List Fr) : callC C0 TO3_1 TX.funs TX.prim 2000 372 Ta70 sg (fun v' sg' wd => ifK (veq v' Tv70) (ifK (Nat.beq wd 0) (p sg') false) false) = p sg := by kernel_rfl
theorem Ts70 (h n u c hu : Int) (H : HT 3 h n u c hu) : SaysS TX (sgT [(.i64,h),(.i64,n),(.u64,u),(.u64,c),(.i64,c),(.u64,hu)]) 372 Ta70 Tv70 := saysS_of_C (sgT_num _) (sgT_onto _) (TO3_1_ok h n u c hu H) (prim_su (sgT_num _)) cl_ok Tr70
end Go.Vm

/- Printed by closed2.py. -/
namespace Go.Vm
open Go
set_option maxRecDepth 1000000
noncomputable def Tk3_2_22 : List V → Option V := kM [(Ta69,Tv69)]
theorem Tk3_2_22_ok (h n u c hu : Int) (H : HT 3 h n u c hu) : KOkS TX (sgT [(.i64,h),(.i64,n),(.u64,u),(.u64,c),(.i64,c),(.u64,hu)]) 22 Tk3_2_22 := kM_okS fun p hp => by
  simp only [List.mem_cons,List.mem_nil_iff,or_false] at hp
  rcases hp with rfl
  · exact Ts69 h n u c hu H
noncomputable def Tk3_2_372 : List V → Option V := kM [(Ta70,Tv70)]
theorem Tk3_2_372_ok (h n u c hu : Int) (H : HT 3 h n u c hu) : KOkS TX (sgT [(.i64,h),(.i64,n),(.u64,u),(.u64,c),(.i64,c),(.u64,hu)]) 372 Tk3_2_372 := kM_okS fun p hp => by
  simp only [List.mem_cons,List.mem_nil_iff,or_false] at hp
  rcases hp with rfl
  · exact Ts70 h n u c hu H
noncomputable def TT3_2 : KT := (.node 372 Tk3_2_372 (.node 22 Tk3_2_22 .leaf .leaf) .leaf)
theorem TT3_2_ok (h n u c hu : Int) (H : HT 3 h n u c hu) : KT.OkS TX (sgT [(.i64,h),(.i64,n),(.u64,u),(.u64,c),(.i64,c),(.u64,hu)]) TT3_2 := ⟨Tk3_2_372_ok h n u c hu H,⟨Tk3_2_22_ok h n u c hu H,trivial,trivial⟩,trivial⟩
noncomputable def TO3_2 : Orc := orcL TT3_2 TO3_1
theorem TO3_2_ok (h n u c hu : Int) (H : HT 3 h n u c hu) : OrcOk TX (sgT [(.i64,h),(.i64,n),(.u64,u),(.u64,c),(.i64,c),(.u64,hu)]) TO3_2 := orcL_okS (TT3_2_ok h n u c hu H) (TO3_1_ok h n u c hu H)
end Go.Vm

/- Printed by closed2.py. -/
namespace Go.Vm
open Go
set_option maxRecDepth 1000000
theorem Tr71 (p : List Fr → Bool) (sg : List Fr) : callC C0 TO3_2 TX.funs TX.prim 2000 22 Ta71 sg (fun v' sg' wd => ifK (veq v' Tv71) (ifK (Nat.beq wd 0) (p sg') false) false) = p sg := by kernel_rfl
theorem Ts71 (h n u c hu : Int) (H : HT 3 h n u c hu) : SaysS TX (sgT [(.i64,h),(.i64,n),(.u64,u),(.u64,c),(.i64,c),(.u64,hu)]) 22 Ta71 Tv71 := saysS_of_C (sgT_num _) (sgT_onto _) (TO3_2_ok h n u c hu H) (prim_su (sgT_num _)) cl_ok Tr71
end Go.Vm

/- Printed by closed2.py. -/
namespace Go.Vm
open Go
set_option maxRecDepth 1000000
noncomputable def Tk3_3_22 : List V → Option V := kM [(Ta71,Tv71)]
theorem Tk3_3_22_ok (h n u c hu : Int) (H : HT 3 h n u c hu) : KOkS TX (sgT [(.i64,h),(.i64,n),(.u64,u),(.u64,c),(.i64,c),(.u64,hu)]) 22 Tk3_3_22 := kM_okS fun p hp => by
  simp only [List.mem_cons,List.mem_nil_iff,or_false] at hp
  rcases hp with rfl
  · exact Ts71 h n u c hu H
noncomputable def TT3_3 : KT := (.node 22 Tk3_3_22 .leaf .leaf)
theorem TT3_3_ok (h n u c hu : Int) (H : HT 3 h n u c hu) : KT.OkS TX (sgT [(.i64,h),(.i64,n),(.u64,u),(.u64,c),(.i64,c),(.u64,hu)]) TT3_3 := ⟨Tk3_3_22_ok h n u c hu H,trivial,trivial⟩
noncomputable def TO3_3 : Orc := orcL TT3_3 TO3_2
theorem TO3_3_ok (h n u c hu : Int) (H : HT 3 h n u c hu) : OrcOk TX (sgT [(.i64,h),(.i64,n),(.u64,u),(.u64,c),(.i64,c),(.u64,hu)]) TO3_3 := orcL_okS (TT3_3_ok h n u c hu H) (TO3_2_ok h n u c hu H)
end Go.Vm

/- Printed by closed2.py. -/
namespace Go.Vm
open Go
set_option maxRecDepth 1000000
theorem Tr72 (p : List Fr → Bool) (sg : List Fr) : callC C0 TO3_3 TX.funs TX.prim 2000 7 Ta72 sg (fun v' sg' wd => ifK (veq v' Tv72) (ifK (Nat.beq wd 0) (p sg') false) false) = p sg := by kernel_rfl
theorem Ts72 (h n u c hu : Int) (H : HT 3 h n u c hu) : SaysS TX (sgT [(.i64,h),(.i64,n),(.u64,u),(.u64,c),(.i64,c),(.u64,hu)]) 7 Ta72 Tv72 := saysS_of_C (sgT_num _) (sgT_onto _) (TO3_3_ok h n u c hu H) (prim_su (sgT_num _)) cl_ok Tr72
end Go.Vm

/- Printed by closed2.py. -/
namespace Go.Vm
open Go
set_option maxRecDepth 1000000
noncomputable def Tk3_4_7 : List V → Option V := kM [(Ta72,Tv72)]
theorem Tk3_4_7_ok (h n u c hu : Int) (H : HT 3 h n u c hu) : KOkS TX (sgT [(.i64,h),(.i64,n),(.u64,u),(.u64,c),(.i64,c),(.u64,hu)]) 7 Tk3_4_7 := kM_okS fun p hp => by
  simp only [List.mem_cons,List.mem_nil_iff,or_false] at hp
  rcases hp with rfl
  · exact Ts72 h n u c hu H
noncomputable def TT3_4 : KT := (.node 7 Tk3_4_7 .leaf .leaf)
theorem TT3_4_ok (h n u c hu : Int) (H : HT 3 h n u c hu) : KT.OkS TX (sgT [(.i64,h),(.i64,n),(.u64,u),(.u64,c),(.i64,c),(.u64,hu)]) TT3_4 := ⟨Tk3_4_7_ok h n u c hu H,trivial,trivial⟩
noncomputable def TO3_4 : Orc := orcL TT3_4 TO3_3
theorem TO3_4_ok (h n u c hu : Int) (H : HT 3 h n u c hu) : OrcOk TX (sgT [(.i64,h),(.i64,n),(.u64,u),(.u64,c),(.i64,c),(.u64,hu)]) TO3_4 := orcL_okS (TT3_4_ok h n u c hu H) (TO3_3_ok h n u c hu H)
end Go.Vm

/- Printed by closed2.py. -/
namespace Go.Vm
open Go
set_option maxRecDepth 1000000
theorem Tr73 (p : List Fr → Bool) (sg : List Fr) : callC C0 TO3_4 TX.funs TX.prim 2000 3 Ta73 sg (fun v' sg' wd => ifK (veq v' Tv73) (ifK (Nat.beq wd 0) (p sg') false) false) = p sg := by kernel_rfl
theorem Ts73 (h n u c hu : Int) (H : HT 3 h n u c hu) : SaysS TX (sgT [(.i64,h),(.i64,n),(.u64,u),(.u64,c),(.i64,c),(.u64,hu)]) 3 Ta73 Tv73 := saysS_of_C (sgT_num _) (sgT_onto _) (TO3_4_ok h n u c hu H) (prim_su (sgT_num _)) cl_ok Tr73
end Go.Vm

/- Printed by closed2.py. -/
namespace Go.Vm
open Go
set_option maxRecDepth 1000000
noncomputable def Tk3_5_3 : List V → Option V := kM [(Ta73,Tv73)]
theorem Tk3_5_3_ok (h n u c hu : Int) (H : HT 3 h n u c hu) : KOkS TX (sgT [(.i64,h),(.i64,n),(.u64,u),(.u64,c),(.i64,c),(.u64,hu)]) 3 Tk3_5_3 := kM_okS fun p hp => by
  simp only [List.mem_cons,List.mem_nil_iff,or_false] at hp
  rcases hp with rfl
  · exact Ts73 h n u c hu H
noncomputable def TT3_5 : KT := (.node 3 Tk3_5_3 .leaf .leaf)
theorem TT3_5_ok (h n u c hu : Int) (H : HT 3 h n u c hu) : KT.OkS TX (sgT [(.i64,h),(.i64,n),(.u64,u),(.u64,c),(.i64,c),(.u64,hu)]) TT3_5 := ⟨Tk3_5_3_ok h n u c hu H,trivial,trivial⟩
noncomputable def TO3_5 : Orc := orcL TT3_5 TO3_4
theorem TO3_5_ok (h n u c hu : Int) (H : HT 3 h n u c hu) : OrcOk TX (sgT [(.i64,h),(.i64,n),(.u64,u),(.u64,c),(.i64,c),(.u64,hu)]) TO3_5 := orcL_okS (TT3_5_ok h n u c hu H) (TO3_4_ok h n u c hu H)
end Go.Vm
