/-
  A part of a proof: the last text of the claim says what is proved, and under which conditions.
-/
import Derived.Test.YtjebeifjkkofaaaGreatDoorM22
set_option linter.unusedSimpArgs false
set_option linter.unusedVariables false
set_option linter.unnecessarySimpa false
/- Printed by closed2.py. -/
namespace Go.Vm
open Go
set_option maxRecDepth 1000000
noncomputable def TO9_0 : Orc := orcM (orcS [(.rem,.int .i16 2,.int .u64 5,.int .i16 3),(.rem,.int .i16 5,.int .u64 10,.int .u64 9),(.geq,.int .i16 4,.int .i64 (-4611686018427387904),.bool true),(.leq,.int .i16 4,.int .i64 4611686018427387904,.bool true),(.neq,.int .i16 4,.int .i16 4,.bool false),(.lss,.int .i16 4,.int .i16 4,.bool false),(.gtr,.int .i16 4,.int .i16 4,.bool false)] [(.u64,.int .i16 1,.int .i16 2),(.i64,.int .i16 3,.int .i16 4),(.u64,.int .i16 0,.int .i16 5)] [([2,1,1,2],.agg [.str [88],.int .i64 1,.int .i16 4,.str []],.agg [.str [88],.int .i64 1,.int .i16 4,.str []],true)]) TA4
theorem TO9_0_ok (h n u c hu : Int) (H : HT 9 h n u c hu) : OrcOk TX (sgT [(.i64,h),(.i64,n),(.u64,u),(.u64,c),(.i64,c),(.u64,hu)]) TO9_0 := by
  obtain ⟨e1,e2,e3,e7,e8,hc⟩ := H
  refine orcM_ok (orcS_ok ?_ ?_ ?_) TA4_ok
  · intro p hp
    simp only [List.mem_cons,List.mem_nil_iff,or_false] at hp
    rcases hp with rfl | rfl | rfl | rfl | rfl | rfl | rfl
    · exact congrArg (fun q => some (V.int .u64 q)) e2
    · exact congrArg (fun q => some (V.int .u64 q)) e8
    · first | rfl | exact bT (by omega) | exact bF (by omega) | exact beT (by omega) | exact beF (by omega) | exact bnT (by omega) | exact bnF (by omega)
    · first | rfl | exact bT (by omega) | exact bF (by omega) | exact beT (by omega) | exact beF (by omega) | exact bnT (by omega) | exact bnF (by omega)
    · first | rfl | exact bT (by omega) | exact bF (by omega) | exact beT (by omega) | exact beF (by omega) | exact bnT (by omega) | exact bnF (by omega)
    · first | rfl | exact bT (by omega) | exact bF (by omega) | exact beT (by omega) | exact beF (by omega) | exact bnT (by omega) | exact bnF (by omega)
    · first | rfl | exact bT (by omega) | exact bF (by omega) | exact beT (by omega) | exact beF (by omega) | exact bnT (by omega) | exact bnF (by omega)
  · intro p hp
    simp only [List.mem_cons,List.mem_nil_iff,or_false] at hp
    rcases hp with rfl | rfl | rfl
    · exact ⟨_,_,rfl,congrArg (V.int .u64) e1.symm⟩
    · exact ⟨_,_,rfl,congrArg (V.int .i64) e3.symm⟩
    · exact ⟨_,_,rfl,congrArg (V.int .u64) e7.symm⟩
  · intro p hp
    simp only [List.mem_cons,List.mem_nil_iff,or_false] at hp
    rcases hp with rfl
    · exact ⟨_,_,rfl,rfl,by simp [eqL,eqK,su,suL,sgT,show (IntKind.i64 == IntKind.i16) = false from by decide,show (IntKind.u64 == IntKind.i16) = false from by decide,show (IntKind.u8 == IntKind.i16) = false from by decide]⟩
end Go.Vm

/- Printed by closed2.py. -/
namespace Go.Vm
open Go
set_option maxRecDepth 1000000
theorem Tr162 (p : List Fr → Bool) (sg : List Fr) : callC C0 TO9_0 TX.funs TX.prim 2000 372 Ta162 sg (fun v' sg' wd => ifK (veq v' Tv162) (ifK (Nat.beq wd 0) (p sg') false) false) = p sg := by kernel_rfl
theorem Ts162 (h n u c hu : Int) (H : HT 9 h n u c hu) : SaysS TX (sgT [(.i64,h),(.i64,n),(.u64,u),(.u64,c),(.i64,c),(.u64,hu)]) 372 Ta162 Tv162 := saysS_of_C (sgT_num _) (sgT_onto _) (TO9_0_ok h n u c hu H) (prim_su (sgT_num _)) cl_ok Tr162
theorem Tr165 (p : List Fr → Bool) (sg : List Fr) : callC C0 TO9_0 TX.funs TX.prim 2000 372 Ta165 sg (fun v' sg' wd => ifK (veq v' Tv165) (ifK (Nat.beq wd 0) (p sg') false) false) = p sg := by kernel_rfl
theorem Ts165 (h n u c hu : Int) (H : HT 9 h n u c hu) : SaysS TX (sgT [(.i64,h),(.i64,n),(.u64,u),(.u64,c),(.i64,c),(.u64,hu)]) 372 Ta165 Tv165 := saysS_of_C (sgT_num _) (sgT_onto _) (TO9_0_ok h n u c hu H) (prim_su (sgT_num _)) cl_ok Tr165
theorem Tr163 (p : List Fr → Bool) (sg : List Fr) : callC C0 TO9_0 TX.funs TX.prim 2000 263 Ta163 sg (fun v' sg' wd => ifK (veq v' Tv163) (ifK (Nat.beq wd 0) (p sg') false) false) = p sg := by kernel_rfl
theorem Ts163 (h n u c hu : Int) (H : HT 9 h n u c hu) : SaysS TX (sgT [(.i64,h),(.i64,n),(.u64,u),(.u64,c),(.i64,c),(.u64,hu)]) 263 Ta163 Tv163 := saysS_of_C (sgT_num _) (sgT_onto _) (TO9_0_ok h n u c hu H) (prim_su (sgT_num _)) cl_ok Tr163
end Go.Vm

/- Printed by closed2.py. -/
namespace Go.Vm
open Go
set_option maxRecDepth 1000000
noncomputable def Tk9_1_263 : List V → Option V := kM [(Ta163,Tv163)]
theorem Tk9_1_263_ok (h n u c hu : Int) (H : HT 9 h n u c hu) : KOkS TX (sgT [(.i64,h),(.i64,n),(.u64,u),(.u64,c),(.i64,c),(.u64,hu)]) 263 Tk9_1_263 := kM_okS fun p hp => by
  simp only [List.mem_cons,List.mem_nil_iff,or_false] at hp
  rcases hp with rfl
  · exact Ts163 h n u c hu H
noncomputable def Tk9_1_372 : List V → Option V := kM [(Ta162,Tv162),(Ta165,Tv165)]
theorem Tk9_1_372_ok (h n u c hu : Int) (H : HT 9 h n u c hu) : KOkS TX (sgT [(.i64,h),(.i64,n),(.u64,u),(.u64,c),(.i64,c),(.u64,hu)]) 372 Tk9_1_372 := kM_okS fun p hp => by
  simp only [List.mem_cons,List.mem_nil_iff,or_false] at hp
  rcases hp with rfl | rfl
  · exact Ts162 h n u c hu H
  · exact Ts165 h n u c hu H
noncomputable def TT9_1 : KT := (.node 372 Tk9_1_372 (.node 263 Tk9_1_263 .leaf .leaf) .leaf)
theorem TT9_1_ok (h n u c hu : Int) (H : HT 9 h n u c hu) : KT.OkS TX (sgT [(.i64,h),(.i64,n),(.u64,u),(.u64,c),(.i64,c),(.u64,hu)]) TT9_1 := ⟨Tk9_1_372_ok h n u c hu H,⟨Tk9_1_263_ok h n u c hu H,trivial,trivial⟩,trivial⟩
noncomputable def TO9_1 : Orc := orcL TT9_1 TO9_0
theorem TO9_1_ok (h n u c hu : Int) (H : HT 9 h n u c hu) : OrcOk TX (sgT [(.i64,h),(.i64,n),(.u64,u),(.u64,c),(.i64,c),(.u64,hu)]) TO9_1 := orcL_okS (TT9_1_ok h n u c hu H) (TO9_0_ok h n u c hu H)
end Go.Vm

/- Printed by closed2.py. -/
namespace Go.Vm
open Go
set_option maxRecDepth 1000000
theorem Tr174 (p : List Fr → Bool) (sg : List Fr) : callC C0 TO9_1 TX.funs TX.prim 2000 372 Ta174 sg (fun v' sg' wd => ifK (veq v' Tv174) (ifK (Nat.beq wd 0) (p sg') false) false) = p sg := by kernel_rfl
theorem Ts174 (h n u c hu : Int) (H : HT 9 h n u c hu) : SaysS TX (sgT [(.i64,h),(.i64,n),(.u64,u),(.u64,c),(.i64,c),(.u64,hu)]) 372 Ta174 Tv174 := saysS_of_C (sgT_num _) (sgT_onto _) (TO9_1_ok h n u c hu H) (prim_su (sgT_num _)) cl_ok Tr174
theorem Tr170 (p : List Fr → Bool) (sg : List Fr) : callC C0 TO9_1 TX.funs TX.prim 2000 372 Ta170 sg (fun v' sg' wd => ifK (veq v' Tv170) (ifK (Nat.beq wd 0) (p sg') false) false) = p sg := by kernel_rfl
theorem Ts170 (h n u c hu : Int) (H : HT 9 h n u c hu) : SaysS TX (sgT [(.i64,h),(.i64,n),(.u64,u),(.u64,c),(.i64,c),(.u64,hu)]) 372 Ta170 Tv170 := saysS_of_C (sgT_num _) (sgT_onto _) (TO9_1_ok h n u c hu H) (prim_su (sgT_num _)) cl_ok Tr170
theorem Tr172 (p : List Fr → Bool) (sg : List Fr) : callC C0 TO9_1 TX.funs TX.prim 2000 372 Ta172 sg (fun v' sg' wd => ifK (veq v' Tv172) (ifK (Nat.beq wd 0) (p sg') false) false) = p sg := by kernel_rfl
theorem Ts172 (h n u c hu : Int) (H : HT 9 h n u c hu) : SaysS TX (sgT [(.i64,h),(.i64,n),(.u64,u),(.u64,c),(.i64,c),(.u64,hu)]) 372 Ta172 Tv172 := saysS_of_C (sgT_num _) (sgT_onto _) (TO9_1_ok h n u c hu H) (prim_su (sgT_num _)) cl_ok Tr172
theorem Tr166 (p : List Fr → Bool) (sg : List Fr) : callC C0 TO9_1 TX.funs TX.prim 2000 372 Ta166 sg (fun v' sg' wd => ifK (veq v' Tv166) (ifK (Nat.beq wd 0) (p sg') false) false) = p sg := by kernel_rfl
theorem Ts166 (h n u c hu : Int) (H : HT 9 h n u c hu) : SaysS TX (sgT [(.i64,h),(.i64,n),(.u64,u),(.u64,c),(.i64,c),(.u64,hu)]) 372 Ta166 Tv166 := saysS_of_C (sgT_num _) (sgT_onto _) (TO9_1_ok h n u c hu H) (prim_su (sgT_num _)) cl_ok Tr166
end Go.Vm

/- Printed by closed2.py. -/
namespace Go.Vm
open Go
set_option maxRecDepth 1000000
theorem Tr168 (p : List Fr → Bool) (sg : List Fr) : callC C0 TO9_1 TX.funs TX.prim 2000 372 Ta168 sg (fun v' sg' wd => ifK (veq v' Tv168) (ifK (Nat.beq wd 0) (p sg') false) false) = p sg := by kernel_rfl
theorem Ts168 (h n u c hu : Int) (H : HT 9 h n u c hu) : SaysS TX (sgT [(.i64,h),(.i64,n),(.u64,u),(.u64,c),(.i64,c),(.u64,hu)]) 372 Ta168 Tv168 := saysS_of_C (sgT_num _) (sgT_onto _) (TO9_1_ok h n u c hu H) (prim_su (sgT_num _)) cl_ok Tr168
theorem Tr173 (p : List Fr → Bool) (sg : List Fr) : callC C0 TO9_1 TX.funs TX.prim 2000 372 Ta173 sg (fun v' sg' wd => ifK (veq v' Tv173) (ifK (Nat.beq wd 0) (p sg') false) false) = p sg := by kernel_rfl
theorem Ts173 (h n u c hu : Int) (H : HT 9 h n u c hu) : SaysS TX (sgT [(.i64,h),(.i64,n),(.u64,u),(.u64,c),(.i64,c),(.u64,hu)]) 372 Ta173 Tv173 := saysS_of_C (sgT_num _) (sgT_onto _) (TO9_1_ok h n u c hu H) (prim_su (sgT_num _)) cl_ok Tr173
theorem Tr167 (p : List Fr → Bool) (sg : List Fr) : callC C0 TO9_1 TX.funs TX.prim 2000 372 Ta167 sg (fun v' sg' wd => ifK (veq v' Tv167) (ifK (Nat.beq wd 0) (p sg') false) false) = p sg := by kernel_rfl
theorem Ts167 (h n u c hu : Int) (H : HT 9 h n u c hu) : SaysS TX (sgT [(.i64,h),(.i64,n),(.u64,u),(.u64,c),(.i64,c),(.u64,hu)]) 372 Ta167 Tv167 := saysS_of_C (sgT_num _) (sgT_onto _) (TO9_1_ok h n u c hu H) (prim_su (sgT_num _)) cl_ok Tr167
theorem Tr164 (p : List Fr → Bool) (sg : List Fr) : callC C0 TO9_1 TX.funs TX.prim 2000 372 Ta164 sg (fun v' sg' wd => ifK (veq v' Tv164) (ifK (Nat.beq wd 0) (p sg') false) false) = p sg := by kernel_rfl
theorem Ts164 (h n u c hu : Int) (H : HT 9 h n u c hu) : SaysS TX (sgT [(.i64,h),(.i64,n),(.u64,u),(.u64,c),(.i64,c),(.u64,hu)]) 372 Ta164 Tv164 := saysS_of_C (sgT_num _) (sgT_onto _) (TO9_1_ok h n u c hu H) (prim_su (sgT_num _)) cl_ok Tr164
end Go.Vm

/- Printed by closed2.py. -/
namespace Go.Vm
open Go
set_option maxRecDepth 1000000
noncomputable def Tk9_2_372 : List V → Option V := kM [(Ta174,Tv174),(Ta168,Tv168),(Ta173,Tv173),(Ta170,Tv170),(Ta167,Tv167),(Ta172,Tv172),(Ta164,Tv164),(Ta166,Tv166)]
theorem Tk9_2_372_ok (h n u c hu : Int) (H : HT 9 h n u c hu) : KOkS TX (sgT [(.i64,h),(.i64,n),(.u64,u),(.u64,c),(.i64,c),(.u64,hu)]) 372 Tk9_2_372 := kM_okS fun p hp => by
  simp only [List.mem_cons,List.mem_nil_iff,or_false] at hp
  rcases hp with rfl | rfl | rfl | rfl | rfl | rfl | rfl | rfl
  · exact Ts174 h n u c hu H
  · exact Ts168 h n u c hu H
  · exact Ts173 h n u c hu H
  · exact Ts170 h n u c hu H
  · exact Ts167 h n u c hu H
  · exact Ts172 h n u c hu H
  · exact Ts164 h n u c hu H
  · exact Ts166 h n u c hu H
noncomputable def TT9_2 : KT := (.node 372 Tk9_2_372 .leaf .leaf)
theorem TT9_2_ok (h n u c hu : Int) (H : HT 9 h n u c hu) : KT.OkS TX (sgT [(.i64,h),(.i64,n),(.u64,u),(.u64,c),(.i64,c),(.u64,hu)]) TT9_2 := ⟨Tk9_2_372_ok h n u c hu H,trivial,trivial⟩
noncomputable def TO9_2 : Orc := orcL TT9_2 TO9_1
theorem TO9_2_ok (h n u c hu : Int) (H : HT 9 h n u c hu) : OrcOk TX (sgT [(.i64,h),(.i64,n),(.u64,u),(.u64,c),(.i64,c),(.u64,hu)]) TO9_2 := orcL_okS (TT9_2_ok h n u c hu H) (TO9_1_ok h n u c hu H)
end Go.Vm

/- Printed by closed2.py. -/
namespace Go.Vm
open Go
set_option maxRecDepth 1000000
theorem Tr175 (p : List Fr → Bool) (sg : List Fr) : callC C0 TO9_2 TX.funs TX.prim 2000 22 Ta175 sg (fun v' sg' wd => ifK (veq v' Tv175) (ifK (Nat.beq wd 0) (p sg') false) false) = p sg := by kernel_rfl
theorem Ts175 (h n u c hu : Int) (H : HT 9 h n u c hu) : SaysS TX (sgT [(.i64,h),(.i64,n),(.u64,u),(.u64,c),(.i64,c),(.u64,hu)]) 22 Ta175 Tv175 := saysS_of_C (sgT_num _) (sgT_onto _) (TO9_2_ok h n u c hu H) (prim_su (sgT_num _)) cl_ok Tr175
theorem Tr169 (p : List Fr → Bool) (sg : List Fr) : callC C0 TO9_2 TX.funs TX.prim 2000 22 Ta169 sg (fun v' sg' wd => ifK (veq v' Tv169) (ifK (Nat.beq wd 0) (p sg') false) false) = p sg := by kernel_rfl
theorem Ts169 (h n u c hu : Int) (H : HT 9 h n u c hu) : SaysS TX (sgT [(.i64,h),(.i64,n),(.u64,u),(.u64,c),(.i64,c),(.u64,hu)]) 22 Ta169 Tv169 := saysS_of_C (sgT_num _) (sgT_onto _) (TO9_2_ok h n u c hu H) (prim_su (sgT_num _)) cl_ok Tr169
theorem Tr171 (p : List Fr → Bool) (sg : List Fr) : callC C0 TO9_2 TX.funs TX.prim 2000 22 Ta171 sg (fun v' sg' wd => ifK (veq v' Tv171) (ifK (Nat.beq wd 0) (p sg') false) false) = p sg := by kernel_rfl
theorem Ts171 (h n u c hu : Int) (H : HT 9 h n u c hu) : SaysS TX (sgT [(.i64,h),(.i64,n),(.u64,u),(.u64,c),(.i64,c),(.u64,hu)]) 22 Ta171 Tv171 := saysS_of_C (sgT_num _) (sgT_onto _) (TO9_2_ok h n u c hu H) (prim_su (sgT_num _)) cl_ok Tr171
end Go.Vm

/- Printed by closed2.py. -/
namespace Go.Vm
open Go
set_option maxRecDepth 1000000
noncomputable def Tk9_3_22 : List V → Option V := kM [(Ta175,Tv175),(Ta169,Tv169),(Ta171,Tv171)]
theorem Tk9_3_22_ok (h n u c hu : Int) (H : HT 9 h n u c hu) : KOkS TX (sgT [(.i64,h),(.i64,n),(.u64,u),(.u64,c),(.i64,c),(.u64,hu)]) 22 Tk9_3_22 := kM_okS fun p hp => by
  simp only [List.mem_cons,List.mem_nil_iff,or_false] at hp
  rcases hp with rfl | rfl | rfl
  · exact Ts175 h n u c hu H
  · exact Ts169 h n u c hu H
  · exact Ts171 h n u c hu H
noncomputable def TT9_3 : KT := (.node 22 Tk9_3_22 .leaf .leaf)
theorem TT9_3_ok (h n u c hu : Int) (H : HT 9 h n u c hu) : KT.OkS TX (sgT [(.i64,h),(.i64,n),(.u64,u),(.u64,c),(.i64,c),(.u64,hu)]) TT9_3 := ⟨Tk9_3_22_ok h n u c hu H,trivial,trivial⟩
noncomputable def TO9_3 : Orc := orcL TT9_3 TO9_2
theorem TO9_3_ok (h n u c hu : Int) (H : HT 9 h n u c hu) : OrcOk TX (sgT [(.i64,h),(.i64,n),(.u64,u),(.u64,c),(.i64,c),(.u64,hu)]) TO9_3 := orcL_okS (TT9_3_ok h n u c hu H) (TO9_2_ok h n u c hu H)
end Go.Vm

/- Printed by closed2.py. -/
namespace Go.Vm
open Go
set_option maxRecDepth 1000000
theorem Tr176 (p : List Fr → Bool) (sg : List Fr) : callC C0 TO9_3 TX.funs TX.prim 2000 3 Ta176 sg (fun v' sg' wd => ifK (veq v' Tv176) (ifK (Nat.beq wd 0) (p sg') false) false) = p sg := by kernel_rfl
theorem Ts176 (h n u c hu : Int) (H : HT 9 h n u c hu) : SaysS TX (sgT [(.i64,h),(.i64,n),(.u64,u),(.u64,c),(.i64,c),(.u64,hu)]) 3 Ta176 Tv176 := saysS_of_C (sgT_num _) (sgT_onto _) (TO9_3_ok h n u c hu H) (prim_su (sgT_num _)) cl_ok Tr176
end Go.Vm

/- Printed by closed2.py. -/
namespace Go.Vm
open Go
set_option maxRecDepth 1000000
noncomputable def Tk9_4_3 : List V → Option V := kM [(Ta176,Tv176)]
theorem Tk9_4_3_ok (h n u c hu : Int) (H : HT 9 h n u c hu) : KOkS TX (sgT [(.i64,h),(.i64,n),(.u64,u),(.u64,c),(.i64,c),(.u64,hu)]) 3 Tk9_4_3 := kM_okS fun p hp => by
  simp only [List.mem_cons,List.mem_nil_iff,or_false] at hp
  rcases hp with rfl
  · exact Ts176 h n u c hu H
noncomputable def TT9_4 : KT := (.node 3 Tk9_4_3 .leaf .leaf)
theorem TT9_4_ok (h n u c hu : Int) (H : HT 9 h n u c hu) : KT.OkS TX (sgT [(.i64,h),(.i64,n),(.u64,u),(.u64,c),(.i64,c),(.u64,hu)]) TT9_4 := ⟨Tk9_4_3_ok h n u c hu H,trivial,trivial⟩
noncomputable def TO9_4 : Orc := orcL TT9_4 TO9_3
theorem TO9_4_ok (h n u c hu : Int) (H : HT 9 h n u c hu) : OrcOk TX (sgT [(.i64,h),(.i64,n),(.u64,u),(.u64,c),(.i64,c),(.u64,hu)]) TO9_4 := orcL_okS (TT9_4_ok h n u c hu H) (TO9_3_ok h n u c hu H)
end Go.Vm
