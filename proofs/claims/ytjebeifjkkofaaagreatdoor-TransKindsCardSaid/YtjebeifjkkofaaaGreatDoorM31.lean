/-
  A part of a proof: the last text of the claim says what is proved, and under which conditions.
-/
import Derived.Test.YtjebeifjkkofaaaGreatDoorM22
set_option linter.unusedSimpArgs false
set_option linter.unusedVariables false
set_option linter.unnecessarySimpa false
/- Printed by closed2.py. -/
namespace Go.Vm
open Go
set_option maxRecDepth 1000000
noncomputable def TO8_0 : Orc := orcM (orcS [(.rem,.int .i16 2,.int .u64 5,.int .i16 3),(.rem,.int .i16 5,.int .u64 10,.int .u64 8),(.geq,.int .i16 4,.int .i64 (-4611686018427387904),.bool true),(.leq,.int .i16 4,.int .i64 4611686018427387904,.bool true),(.neq,.int .i16 4,.int .i16 4,.bool false),(.lss,.int .i16 4,.int .i16 4,.bool false),(.gtr,.int .i16 4,.int .i16 4,.bool false)] [(.u64,.int .i16 1,.int .i16 2),(.i64,.int .i16 3,.int .i16 4),(.u64,.int .i16 0,.int .i16 5)] [([2,1,1,2],.agg [.str [88],.int .i64 1,.int .i16 4,.str []],.agg [.str [88],.int .i64 1,.int .i16 4,.str []],true)]) TA4
theorem TO8_0_ok (h n u c hu : Int) (H : HT 8 h n u c hu) : OrcOk TX (sgT [(.i64,h),(.i64,n),(.u64,u),(.u64,c),(.i64,c),(.u64,hu)]) TO8_0 := by
  obtain ⟨e1,e2,e3,e7,e8,hc⟩ := H
  refine orcM_ok (orcS_ok ?_ ?_ ?_) TA4_ok
  · intro p hp
    simp only [List.mem_cons,List.mem_nil_iff,or_false] at hp
    rcases hp with rfl | rfl | rfl | rfl | rfl | rfl | rfl
    · exact congrArg (fun q => some (V.int .u64 q)) e2
    · exact congrArg (fun q => some (V.int .u64 q)) e8
    · first | rfl | exact bT (by omega) | exact bF (by omega) | exact beT (by omega) | exact beF (by omega) | exact bnT (by omega) | exact bnF (by omega)
    · first | rfl | exact bT (by omega) | exact bF (by omega) | exact beT (by omega) | exact beF (by omega) | exact bnT (by omega) | exact bnF (by omega)
    · first | rfl | exact bT (by omega) | exact bF (by omega) | exact beT (by omega) | exact beF (by omega) | exact bnT (by omega) | exact bnF (by omega)
    · first | rfl | exact bT (by omega) | exact bF (by omega) | exact beT (by omega) | exact beF (by omega) | exact bnT (by omega) | exact bnF (by omega)
    · first | rfl | exact bT (by omega) | exact bF (by omega) | exact beT (by omega) | exact beF (by omega) | exact bnT (by omega) | exact bnF (by omega)
  · intro p hp
    simp only [List.mem_cons,List.mem_nil_iff,or_false] at hp
    rcases hp with rfl | rfl | rfl
    · exact ⟨_,_,rfl,congrArg (V.int .u64) e1.symm⟩
    · exact ⟨_,_,rfl,congrArg (V.int .i64) e3.symm⟩
    · exact ⟨_,_,rfl,congrArg (V.int .u64) e7.symm⟩
  · intro p hp
    simp only [List.mem_cons,List.mem_nil_iff,or_false] at hp
    rcases hp with rfl
    · exact ⟨_,_,rfl,rfl,by simp [eqL,eqK,su,suL,sgT,show (IntKind.i64 == IntKind.i16) = false from by decide,show (IntKind.u64 == IntKind.i16) = false from by decide,show (IntKind.u8 == IntKind.i16) = false from by decide]⟩
end Go.Vm

/- Printed by closed2.py. -/
namespace Go.Vm
open Go
set_option maxRecDepth 1000000
theorem Tr136 (p : List Fr → Bool) (sg : List Fr) : callC C0 TO8_0 TX.funs TX.prim 2000 372 Ta136 sg (fun v' sg' wd => ifK (veq v' Tv136) (ifK (Nat.beq wd 0) (p sg') false) false) = p sg := by kernel_rfl
theorem Ts136 (h n u c hu : Int) (H : HT 8 h n u c hu) : SaysS TX (sgT [(.i64,h),(.i64,n),(.u64,u),(.u64,c),(.i64,c),(.u64,hu)]) 372 Ta136 Tv136 := saysS_of_C (sgT_num _) (sgT_onto _) (TO8_0_ok h n u c hu H) (prim_su (sgT_num _)) cl_ok Tr136
theorem Tr139 (p : List Fr → Bool) (sg : List Fr) : callC C0 TO8_0 TX.funs TX.prim 2000 372 Ta139 sg (fun v' sg' wd => ifK (veq v' Tv139) (ifK (Nat.beq wd 0) (p sg') false) false) = p sg := by kernel_rfl
theorem Ts139 (h n u c hu : Int) (H : HT 8 h n u c hu) : SaysS TX (sgT [(.i64,h),(.i64,n),(.u64,u),(.u64,c),(.i64,c),(.u64,hu)]) 372 Ta139 Tv139 := saysS_of_C (sgT_num _) (sgT_onto _) (TO8_0_ok h n u c hu H) (prim_su (sgT_num _)) cl_ok Tr139
theorem Tr137 (p : List Fr → Bool) (sg : List Fr) : callC C0 TO8_0 TX.funs TX.prim 2000 263 Ta137 sg (fun v' sg' wd => ifK (veq v' Tv137) (ifK (Nat.beq wd 0) (p sg') false) false) = p sg := by kernel_rfl
theorem Ts137 (h n u c hu : Int) (H : HT 8 h n u c hu) : SaysS TX (sgT [(.i64,h),(.i64,n),(.u64,u),(.u64,c),(.i64,c),(.u64,hu)]) 263 Ta137 Tv137 := saysS_of_C (sgT_num _) (sgT_onto _) (TO8_0_ok h n u c hu H) (prim_su (sgT_num _)) cl_ok Tr137
end Go.Vm

/- Printed by closed2.py. -/
namespace Go.Vm
open Go
set_option maxRecDepth 1000000
noncomputable def Tk8_1_263 : List V → Option V := kM [(Ta137,Tv137)]
theorem Tk8_1_263_ok (h n u c hu : Int) (H : HT 8 h n u c hu) : KOkS TX (sgT [(.i64,h),(.i64,n),(.u64,u),(.u64,c),(.i64,c),(.u64,hu)]) 263 Tk8_1_263 := kM_okS fun p hp => by
  simp only [List.mem_cons,List.mem_nil_iff,or_false] at hp
  rcases hp with rfl
  · exact Ts137 h n u c hu H
noncomputable def Tk8_1_372 : List V → Option V := kM [(Ta136,Tv136),(Ta139,Tv139)]
theorem Tk8_1_372_ok (h n u c hu : Int) (H : HT 8 h n u c hu) : KOkS TX (sgT [(.i64,h),(.i64,n),(.u64,u),(.u64,c),(.i64,c),(.u64,hu)]) 372 Tk8_1_372 := kM_okS fun p hp => by
  simp only [List.mem_cons,List.mem_nil_iff,or_false] at hp
  rcases hp with rfl | rfl
  · exact Ts136 h n u c hu H
  · exact Ts139 h n u c hu H
noncomputable def TT8_1 : KT := (.node 372 Tk8_1_372 (.node 263 Tk8_1_263 .leaf .leaf) .leaf)
theorem TT8_1_ok (h n u c hu : Int) (H : HT 8 h n u c hu) : KT.OkS TX (sgT [(.i64,h),(.i64,n),(.u64,u),(.u64,c),(.i64,c),(.u64,hu)]) TT8_1 := ⟨Tk8_1_372_ok h n u c hu H,⟨Tk8_1_263_ok h n u c hu H,trivial,trivial⟩,trivial⟩
noncomputable def TO8_1 : Orc := orcL TT8_1 TO8_0
theorem TO8_1_ok (h n u c hu : Int) (H : HT 8 h n u c hu) : OrcOk TX (sgT [(.i64,h),(.i64,n),(.u64,u),(.u64,c),(.i64,c),(.u64,hu)]) TO8_1 := orcL_okS (TT8_1_ok h n u c hu H) (TO8_0_ok h n u c hu H)
end Go.Vm

/- Printed by closed2.py. -/
namespace Go.Vm
open Go
set_option maxRecDepth 1000000
theorem Tr142 (p : List Fr → Bool) (sg : List Fr) : callC C0 TO8_1 TX.funs TX.prim 2000 372 Ta142 sg (fun v' sg' wd => ifK (veq v' Tv142) (ifK (Nat.beq wd 0) (p sg') false) false) = p sg := by kernel_rfl
theorem Ts142 (h n u c hu : Int) (H : HT 8 h n u c hu) : SaysS TX (sgT [(.i64,h),(.i64,n),(.u64,u),(.u64,c),(.i64,c),(.u64,hu)]) 372 Ta142 Tv142 := saysS_of_C (sgT_num _) (sgT_onto _) (TO8_1_ok h n u c hu H) (prim_su (sgT_num _)) cl_ok Tr142
theorem Tr149 (p : List Fr → Bool) (sg : List Fr) : callC C0 TO8_1 TX.funs TX.prim 2000 372 Ta149 sg (fun v' sg' wd => ifK (veq v' Tv149) (ifK (Nat.beq wd 0) (p sg') false) false) = p sg := by kernel_rfl
theorem Ts149 (h n u c hu : Int) (H : HT 8 h n u c hu) : SaysS TX (sgT [(.i64,h),(.i64,n),(.u64,u),(.u64,c),(.i64,c),(.u64,hu)]) 372 Ta149 Tv149 := saysS_of_C (sgT_num _) (sgT_onto _) (TO8_1_ok h n u c hu H) (prim_su (sgT_num _)) cl_ok Tr149
theorem Tr151 (p : List Fr → Bool) (sg : List Fr) : callC C0 TO8_1 TX.funs TX.prim 2000 372 Ta151 sg (fun v' sg' wd => ifK (veq v' Tv151) (ifK (Nat.beq wd 0) (p sg') false) false) = p sg := by kernel_rfl
theorem Ts151 (h n u c hu : Int) (H : HT 8 h n u c hu) : SaysS TX (sgT [(.i64,h),(.i64,n),(.u64,u),(.u64,c),(.i64,c),(.u64,hu)]) 372 Ta151 Tv151 := saysS_of_C (sgT_num _) (sgT_onto _) (TO8_1_ok h n u c hu H) (prim_su (sgT_num _)) cl_ok Tr151
theorem Tr144 (p : List Fr → Bool) (sg : List Fr) : callC C0 TO8_1 TX.funs TX.prim 2000 372 Ta144 sg (fun v' sg' wd => ifK (veq v' Tv144) (ifK (Nat.beq wd 0) (p sg') false) false) = p sg := by kernel_rfl
theorem Ts144 (h n u c hu : Int) (H : HT 8 h n u c hu) : SaysS TX (sgT [(.i64,h),(.i64,n),(.u64,u),(.u64,c),(.i64,c),(.u64,hu)]) 372 Ta144 Tv144 := saysS_of_C (sgT_num _) (sgT_onto _) (TO8_1_ok h n u c hu H) (prim_su (sgT_num _)) cl_ok Tr144
theorem Tr138 (p : List Fr → Bool) (sg : List Fr) : callC C0 TO8_1 TX.funs TX.prim 2000 372 Ta138 sg (fun v' sg' wd => ifK (veq v' Tv138) (ifK (Nat.beq wd 0) (p sg') false) false) = p sg := by kernel_rfl
theorem Ts138 (h n u c hu : Int) (H : HT 8 h n u c hu) : SaysS TX (sgT [(.i64,h),(.i64,n),(.u64,u),(.u64,c),(.i64,c),(.u64,hu)]) 372 Ta138 Tv138 := saysS_of_C (sgT_num _) (sgT_onto _) (TO8_1_ok h n u c hu H) (prim_su (sgT_num _)) cl_ok Tr138
theorem Tr140 (p : List Fr → Bool) (sg : List Fr) : callC C0 TO8_1 TX.funs TX.prim 2000 372 Ta140 sg (fun v' sg' wd => ifK (veq v' Tv140) (ifK (Nat.beq wd 0) (p sg') false) false) = p sg := by kernel_rfl
theorem Ts140 (h n u c hu : Int) (H : HT 8 h n u c hu) : SaysS TX (sgT [(.i64,h),(.i64,n),(.u64,u),(.u64,c),(.i64,c),(.u64,hu)]) 372 Ta140 Tv140 := saysS_of_C (sgT_num _) (sgT_onto _) (TO8_1_ok h n u c hu H) (prim_su (sgT_num _)) cl_ok Tr140
end Go.Vm

/- Printed by closed2.py. -/
namespace Go.Vm
open Go
set_option maxRecDepth 1000000
theorem Tr152 (p : List Fr → Bool) (sg : List Fr) : callC C0 TO8_1 TX.funs TX.prim 2000 372 Ta152 sg (fun v' sg' wd => ifK (veq v' Tv152) (ifK (Nat.beq wd 0) (p sg') false) false) = p sg := by kernel_rfl
theorem Ts152 (h n u c hu : Int) (H : HT 8 h n u c hu) : SaysS TX (sgT [(.i64,h),(.i64,n),(.u64,u),(.u64,c),(.i64,c),(.u64,hu)]) 372 Ta152 Tv152 := saysS_of_C (sgT_num _) (sgT_onto _) (TO8_1_ok h n u c hu H) (prim_su (sgT_num _)) cl_ok Tr152
theorem Tr145 (p : List Fr → Bool) (sg : List Fr) : callC C0 TO8_1 TX.funs TX.prim 2000 372 Ta145 sg (fun v' sg' wd => ifK (veq v' Tv145) (ifK (Nat.beq wd 0) (p sg') false) false) = p sg := by kernel_rfl
theorem Ts145 (h n u c hu : Int) (H : HT 8 h n u c hu) : SaysS TX (sgT [(.i64,h),(.i64,n),(.u64,u),(.u64,c),(.i64,c),(.u64,hu)]) 372 Ta145 Tv145 := saysS_of_C (sgT_num _) (sgT_onto _) (TO8_1_ok h n u c hu H) (prim_su (sgT_num _)) cl_ok Tr145
theorem Tr141 (p : List Fr → Bool) (sg : List Fr) : callC C0 TO8_1 TX.funs TX.prim 2000 372 Ta141 sg (fun v' sg' wd => ifK (veq v' Tv141) (ifK (Nat.beq wd 0) (p sg') false) false) = p sg := by kernel_rfl
theorem Ts141 (h n u c hu : Int) (H : HT 8 h n u c hu) : SaysS TX (sgT [(.i64,h),(.i64,n),(.u64,u),(.u64,c),(.i64,c),(.u64,hu)]) 372 Ta141 Tv141 := saysS_of_C (sgT_num _) (sgT_onto _) (TO8_1_ok h n u c hu H) (prim_su (sgT_num _)) cl_ok Tr141
theorem Tr148 (p : List Fr → Bool) (sg : List Fr) : callC C0 TO8_1 TX.funs TX.prim 2000 372 Ta148 sg (fun v' sg' wd => ifK (veq v' Tv148) (ifK (Nat.beq wd 0) (p sg') false) false) = p sg := by kernel_rfl
theorem Ts148 (h n u c hu : Int) (H : HT 8 h n u c hu) : SaysS TX (sgT [(.i64,h),(.i64,n),(.u64,u),(.u64,c),(.i64,c),(.u64,hu)]) 372 Ta148 Tv148 := saysS_of_C (sgT_num _) (sgT_onto _) (TO8_1_ok h n u c hu H) (prim_su (sgT_num _)) cl_ok Tr148
theorem Tr147 (p : List Fr → Bool) (sg : List Fr) : callC C0 TO8_1 TX.funs TX.prim 2000 372 Ta147 sg (fun v' sg' wd => ifK (veq v' Tv147) (ifK (Nat.beq wd 0) (p sg') false) false) = p sg := by kernel_rfl
theorem Ts147 (h n u c hu : Int) (H : HT 8 h n u c hu) : SaysS TX (sgT [(.i64,h),(.i64,n),(.u64,u),(.u64,c),(.i64,c),(.u64,hu)]) 372 Ta147 Tv147 := saysS_of_C (sgT_num _) (sgT_onto _) (TO8_1_ok h n u c hu H) (prim_su (sgT_num _)) cl_ok Tr147
end Go.Vm

/- Printed by closed2.py. -/
namespace Go.Vm
open Go
set_option maxRecDepth 1000000
noncomputable def Tk8_2_372 : List V → Option V := kM [(Ta142,Tv142),(Ta152,Tv152),(Ta145,Tv145),(Ta149,Tv149),(Ta151,Tv151),(Ta141,Tv141),(Ta148,Tv148),(Ta144,Tv144),(Ta138,Tv138),(Ta147,Tv147),(Ta140,Tv140)]
theorem Tk8_2_372_ok (h n u c hu : Int) (H : HT 8 h n u c hu) : KOkS TX (sgT [(.i64,h),(.i64,n),(.u64,u),(.u64,c),(.i64,c),(.u64,hu)]) 372 Tk8_2_372 := kM_okS fun p hp => by
  simp only [List.mem_cons,List.mem_nil_iff,or_false] at hp
  rcases hp with rfl | rfl | rfl | rfl | rfl | rfl | rfl | rfl | rfl | rfl | rfl
  · exact Ts142 h n u c hu H
  · exact Ts152 h n u c hu H
  · exact Ts145 h n u c hu H
  · exact Ts149 h n u c hu H
  · exact Ts151 h n u c hu H
  · exact Ts141 h n u c hu H
  · exact Ts148 h n u c hu H
  · exact Ts144 h n u c hu H
  · exact Ts138 h n u c hu H
  · exact Ts147 h n u c hu H
  · exact Ts140 h n u c hu H
noncomputable def TT8_2 : KT := (.node 372 Tk8_2_372 .leaf .leaf)
theorem TT8_2_ok (h n u c hu : Int) (H : HT 8 h n u c hu) : KT.OkS TX (sgT [(.i64,h),(.i64,n),(.u64,u),(.u64,c),(.i64,c),(.u64,hu)]) TT8_2 := ⟨Tk8_2_372_ok h n u c hu H,trivial,trivial⟩
noncomputable def TO8_2 : Orc := orcL TT8_2 TO8_1
theorem TO8_2_ok (h n u c hu : Int) (H : HT 8 h n u c hu) : OrcOk TX (sgT [(.i64,h),(.i64,n),(.u64,u),(.u64,c),(.i64,c),(.u64,hu)]) TO8_2 := orcL_okS (TT8_2_ok h n u c hu H) (TO8_1_ok h n u c hu H)
end Go.Vm

/- Printed by closed2.py. -/
namespace Go.Vm
open Go
set_option maxRecDepth 1000000
theorem Tr143 (p : List Fr → Bool) (sg : List Fr) : callC C0 TO8_2 TX.funs TX.prim 2000 22 Ta143 sg (fun v' sg' wd => ifK (veq v' Tv143) (ifK (Nat.beq wd 0) (p sg') false) false) = p sg := by kernel_rfl
theorem Ts143 (h n u c hu : Int) (H : HT 8 h n u c hu) : SaysS TX (sgT [(.i64,h),(.i64,n),(.u64,u),(.u64,c),(.i64,c),(.u64,hu)]) 22 Ta143 Tv143 := saysS_of_C (sgT_num _) (sgT_onto _) (TO8_2_ok h n u c hu H) (prim_su (sgT_num _)) cl_ok Tr143
theorem Tr150 (p : List Fr → Bool) (sg : List Fr) : callC C0 TO8_2 TX.funs TX.prim 2000 22 Ta150 sg (fun v' sg' wd => ifK (veq v' Tv150) (ifK (Nat.beq wd 0) (p sg') false) false) = p sg := by kernel_rfl
theorem Ts150 (h n u c hu : Int) (H : HT 8 h n u c hu) : SaysS TX (sgT [(.i64,h),(.i64,n),(.u64,u),(.u64,c),(.i64,c),(.u64,hu)]) 22 Ta150 Tv150 := saysS_of_C (sgT_num _) (sgT_onto _) (TO8_2_ok h n u c hu H) (prim_su (sgT_num _)) cl_ok Tr150
theorem Tr153 (p : List Fr → Bool) (sg : List Fr) : callC C0 TO8_2 TX.funs TX.prim 2000 22 Ta153 sg (fun v' sg' wd => ifK (veq v' Tv153) (ifK (Nat.beq wd 0) (p sg') false) false) = p sg := by kernel_rfl
theorem Ts153 (h n u c hu : Int) (H : HT 8 h n u c hu) : SaysS TX (sgT [(.i64,h),(.i64,n),(.u64,u),(.u64,c),(.i64,c),(.u64,hu)]) 22 Ta153 Tv153 := saysS_of_C (sgT_num _) (sgT_onto _) (TO8_2_ok h n u c hu H) (prim_su (sgT_num _)) cl_ok Tr153
theorem Tr146 (p : List Fr → Bool) (sg : List Fr) : callC C0 TO8_2 TX.funs TX.prim 2000 22 Ta146 sg (fun v' sg' wd => ifK (veq v' Tv146) (ifK (Nat.beq wd 0) (p sg') false) false) = p sg := by kernel_rfl
theorem Ts146 (h n u c hu : Int) (H : HT 8 h n u c hu) : SaysS TX (sgT [(.i64,h),(.i64,n),(.u64,u),(.u64,c),(.i64,c),(.u64,hu)]) 22 Ta146 Tv146 := saysS_of_C (sgT_num _) (sgT_onto _) (TO8_2_ok h n u c hu H) (prim_su (sgT_num _)) cl_ok Tr146
end Go.Vm

/- Printed by closed2.py. -/
namespace Go.Vm
open Go
set_option maxRecDepth 1000000
noncomputable def Tk8_3_22 : List V → Option V := kM [(Ta143,Tv143),(Ta150,Tv150),(Ta153,Tv153),(Ta146,Tv146)]
theorem Tk8_3_22_ok (h n u c hu : Int) (H : HT 8 h n u c hu) : KOkS TX (sgT [(.i64,h),(.i64,n),(.u64,u),(.u64,c),(.i64,c),(.u64,hu)]) 22 Tk8_3_22 := kM_okS fun p hp => by
  simp only [List.mem_cons,List.mem_nil_iff,or_false] at hp
  rcases hp with rfl | rfl | rfl | rfl
  · exact Ts143 h n u c hu H
  · exact Ts150 h n u c hu H
  · exact Ts153 h n u c hu H
  · exact Ts146 h n u c hu H
noncomputable def TT8_3 : KT := (.node 22 Tk8_3_22 .leaf .leaf)
theorem TT8_3_ok (h n u c hu : Int) (H : HT 8 h n u c hu) : KT.OkS TX (sgT [(.i64,h),(.i64,n),(.u64,u),(.u64,c),(.i64,c),(.u64,hu)]) TT8_3 := ⟨Tk8_3_22_ok h n u c hu H,trivial,trivial⟩
noncomputable def TO8_3 : Orc := orcL TT8_3 TO8_2
theorem TO8_3_ok (h n u c hu : Int) (H : HT 8 h n u c hu) : OrcOk TX (sgT [(.i64,h),(.i64,n),(.u64,u),(.u64,c),(.i64,c),(.u64,hu)]) TO8_3 := orcL_okS (TT8_3_ok h n u c hu H) (TO8_2_ok h n u c hu H)
end Go.Vm

/- Printed by closed2.py. -/
namespace Go.Vm
open Go
set_option maxRecDepth 1000000
theorem Tr154 (p : List Fr → Bool) (sg : List Fr) : callC C0 TO8_3 TX.funs TX.prim 2000 3 Ta154 sg (fun v' sg' wd => ifK (veq v' Tv154) (ifK (Nat.beq wd 0) (p sg') false) false) = p sg := by kernel_rfl
theorem Ts154 (h n u c hu : Int) (H : HT 8 h n u c hu) : SaysS TX (sgT [(.i64,h),(.i64,n),(.u64,u),(.u64,c),(.i64,c),(.u64,hu)]) 3 Ta154 Tv154 := saysS_of_C (sgT_num _) (sgT_onto _) (TO8_3_ok h n u c hu H) (prim_su (sgT_num _)) cl_ok Tr154
end Go.Vm

/- Printed by closed2.py. -/
namespace Go.Vm
open Go
set_option maxRecDepth 1000000
noncomputable def Tk8_4_3 : List V → Option V := kM [(Ta154,Tv154)]
theorem Tk8_4_3_ok (h n u c hu : Int) (H : HT 8 h n u c hu) : KOkS TX (sgT [(.i64,h),(.i64,n),(.u64,u),(.u64,c),(.i64,c),(.u64,hu)]) 3 Tk8_4_3 := kM_okS fun p hp => by
  simp only [List.mem_cons,List.mem_nil_iff,or_false] at hp
  rcases hp with rfl
  · exact Ts154 h n u c hu H
noncomputable def TT8_4 : KT := (.node 3 Tk8_4_3 .leaf .leaf)
theorem TT8_4_ok (h n u c hu : Int) (H : HT 8 h n u c hu) : KT.OkS TX (sgT [(.i64,h),(.i64,n),(.u64,u),(.u64,c),(.i64,c),(.u64,hu)]) TT8_4 := ⟨Tk8_4_3_ok h n u c hu H,trivial,trivial⟩
noncomputable def TO8_4 : Orc := orcL TT8_4 TO8_3
theorem TO8_4_ok (h n u c hu : Int) (H : HT 8 h n u c hu) : OrcOk TX (sgT [(.i64,h),(.i64,n),(.u64,u),(.u64,c),(.i64,c),(.u64,hu)]) TO8_4 := orcL_okS (TT8_4_ok h n u c hu H) (TO8_3_ok h n u c hu H)
end Go.Vm
