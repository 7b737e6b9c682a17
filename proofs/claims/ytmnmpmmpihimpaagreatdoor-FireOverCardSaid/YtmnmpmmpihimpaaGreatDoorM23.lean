/-
  A part of a proof: the last text of the claim says what is proved, and under which conditions.
-/
import Derived.Test.YtmnmpmmpihimpaaGreatDoorM20
set_option linter.unusedSimpArgs false
set_option linter.unusedVariables false
set_option linter.unnecessarySimpa false
/- Printed by closed2.py. -/
namespace Go.Vm
open Go
set_option maxRecDepth 1000000
noncomputable def OO2_0 : Orc := orcM (orcS [(.rem, .int .i16 2, .int .u64 1000, .int .i16 3), (.add, .int .i64 1, .int .i16 4, .int .i16 5), (.add, .int .i64 3000000000, .int .i16 4, .int .i16 6), (.rem, .int .i16 1, .int .i64 1000, .int .i16 7), (.rem, .int .i16 8, .int .u64 4, .int .u64 0), (.geq, .int .i16 5, .int .i64 (-4611686018427387904), .bool true), (.leq, .int .i16 5, .int .i64 4611686018427387904, .bool true), (.neq, .int .i16 5, .int .i16 5, .bool false), (.lss, .int .i16 5, .int .i64 7, .bool false), (.gtr, .int .i16 5, .int .i64 7, .bool true), (.lss, .int .i64 7, .int .i16 5, .bool true), (.lss, .int .i16 5, .int .i16 5, .bool false), (.gtr, .int .i16 5, .int .i16 5, .bool false), (.gtr, .int .i16 5, .int .i64 0, .bool true)] [(.u64, .int .i16 1, .int .i16 2), (.i64, .int .i16 3, .int .i16 4), (.u64, .int .i16 0, .int .i16 8)] []) OA5
theorem OO2_0_ok (h n u c z hu : Int) (e1 : IntKind.u64.wrap n = u) (e2 : u.tmod 1000 = c) (e3 : IntKind.i64.wrap c = c) (e4 : IntKind.i64.wrap (1 + c) = 1 + c) (e5 : IntKind.i64.wrap (3000000000 + c) = 3000000000 + c) (e6 : n.tmod 1000 = z) (e7 : IntKind.u64.wrap h = hu) (e8 : hu.tmod 4 = 0) (hc : 0 ≤ c ∧ c < 1000) (hz : -1000 < z ∧ z < 1000) (hx : 7 < 1 + c) : OrcOk TX (sgT [(.i64, h), (.i64, n), (.u64, u), (.u64, c), (.i64, c), (.i64, 1 + c), (.i64, 3000000000 + c), (.i64, z), (.u64, hu)]) OO2_0 := by
  refine orcM_ok (orcS_ok ?_ ?_ ?_) OA5_ok
  · intro p hp
    simp only [List.mem_cons, List.mem_nil_iff, or_false] at hp
    rcases hp with rfl | rfl | rfl | rfl | rfl | rfl | rfl | rfl | rfl | rfl | rfl | rfl | rfl | rfl
    · exact congrArg (fun q => some (V.int .u64 q)) e2
    · exact congrArg (fun q => some (V.int .i64 q)) e4
    · exact congrArg (fun q => some (V.int .i64 q)) e5
    · exact congrArg (fun q => some (V.int .i64 q)) e6
    · exact congrArg (fun q => some (V.int .u64 q)) e8
    · first | rfl | exact bT (by omega) | exact bF (by omega) | exact beT (by omega) | exact beF (by omega) | exact bnT (by omega) | exact bnF (by omega)
    · first | rfl | exact bT (by omega) | exact bF (by omega) | exact beT (by omega) | exact beF (by omega) | exact bnT (by omega) | exact bnF (by omega)
    · first | rfl | exact bT (by omega) | exact bF (by omega) | exact beT (by omega) | exact beF (by omega) | exact bnT (by omega) | exact bnF (by omega)
    · first | rfl | exact bT (by omega) | exact bF (by omega) | exact beT (by omega) | exact beF (by omega) | exact bnT (by omega) | exact bnF (by omega)
    · first | rfl | exact bT (by omega) | exact bF (by omega) | exact beT (by omega) | exact beF (by omega) | exact bnT (by omega) | exact bnF (by omega)
    · first | rfl | exact bT (by omega) | exact bF (by omega) | exact beT (by omega) | exact beF (by omega) | exact bnT (by omega) | exact bnF (by omega)
    · first | rfl | exact bT (by omega) | exact bF (by omega) | exact beT (by omega) | exact beF (by omega) | exact bnT (by omega) | exact bnF (by omega)
    · first | rfl | exact bT (by omega) | exact bF (by omega) | exact beT (by omega) | exact beF (by omega) | exact bnT (by omega) | exact bnF (by omega)
    · first | rfl | exact bT (by omega) | exact bF (by omega) | exact beT (by omega) | exact beF (by omega) | exact bnT (by omega) | exact bnF (by omega)
  · intro p hp
    simp only [List.mem_cons, List.mem_nil_iff, or_false] at hp
    rcases hp with rfl | rfl | rfl
    · exact ⟨_, _, rfl, congrArg (V.int .u64) e1.symm⟩
    · exact ⟨_, _, rfl, congrArg (V.int .i64) e3.symm⟩
    · exact ⟨_, _, rfl, congrArg (V.int .u64) e7.symm⟩
  · intro p hp
    cases hp
end Go.Vm

/- Printed by closed2.py. -/
namespace Go.Vm
open Go
set_option maxRecDepth 1000000
theorem Or29 (p : List Fr → Bool) (sg : List Fr) : callC C0 OO2_0 TX.funs TX.prim 2000 337 Oa29 sg (fun v' sg' wd => ifK (veq v' Ov29) (ifK (Nat.beq wd 0) (p sg') false) false) = p sg := by kernel_rfl
theorem Os29 (h n u c z hu : Int) (e1 : IntKind.u64.wrap n = u) (e2 : u.tmod 1000 = c) (e3 : IntKind.i64.wrap c = c) (e4 : IntKind.i64.wrap (1 + c) = 1 + c) (e5 : IntKind.i64.wrap (3000000000 + c) = 3000000000 + c) (e6 : n.tmod 1000 = z) (e7 : IntKind.u64.wrap h = hu) (e8 : hu.tmod 4 = 0) (hc : 0 ≤ c ∧ c < 1000) (hz : -1000 < z ∧ z < 1000) (hx : 7 < 1 + c) : SaysS TX (sgT [(.i64, h), (.i64, n), (.u64, u), (.u64, c), (.i64, c), (.i64, 1 + c), (.i64, 3000000000 + c), (.i64, z), (.u64, hu)]) 337 Oa29 Ov29 := saysS_of_C (sgT_num _) (sgT_onto _) (OO2_0_ok h n u c z hu e1 e2 e3 e4 e5 e6 e7 e8 hc hz hx) (prim_su (sgT_num _)) cl_ok Or29
theorem Or28 (p : List Fr → Bool) (sg : List Fr) : callC C0 OO2_0 TX.funs TX.prim 2000 337 Oa28 sg (fun v' sg' wd => ifK (veq v' Ov28) (ifK (Nat.beq wd 0) (p sg') false) false) = p sg := by kernel_rfl
theorem Os28 (h n u c z hu : Int) (e1 : IntKind.u64.wrap n = u) (e2 : u.tmod 1000 = c) (e3 : IntKind.i64.wrap c = c) (e4 : IntKind.i64.wrap (1 + c) = 1 + c) (e5 : IntKind.i64.wrap (3000000000 + c) = 3000000000 + c) (e6 : n.tmod 1000 = z) (e7 : IntKind.u64.wrap h = hu) (e8 : hu.tmod 4 = 0) (hc : 0 ≤ c ∧ c < 1000) (hz : -1000 < z ∧ z < 1000) (hx : 7 < 1 + c) : SaysS TX (sgT [(.i64, h), (.i64, n), (.u64, u), (.u64, c), (.i64, c), (.i64, 1 + c), (.i64, 3000000000 + c), (.i64, z), (.u64, hu)]) 337 Oa28 Ov28 := saysS_of_C (sgT_num _) (sgT_onto _) (OO2_0_ok h n u c z hu e1 e2 e3 e4 e5 e6 e7 e8 hc hz hx) (prim_su (sgT_num _)) cl_ok Or28
end Go.Vm

/- Printed by closed2.py. -/
namespace Go.Vm
open Go
set_option maxRecDepth 1000000
noncomputable def Ok2_1_337 : List V → Option V := kM [(Oa29, Ov29), (Oa28, Ov28)]
theorem Ok2_1_337_ok (h n u c z hu : Int) (e1 : IntKind.u64.wrap n = u) (e2 : u.tmod 1000 = c) (e3 : IntKind.i64.wrap c = c) (e4 : IntKind.i64.wrap (1 + c) = 1 + c) (e5 : IntKind.i64.wrap (3000000000 + c) = 3000000000 + c) (e6 : n.tmod 1000 = z) (e7 : IntKind.u64.wrap h = hu) (e8 : hu.tmod 4 = 0) (hc : 0 ≤ c ∧ c < 1000) (hz : -1000 < z ∧ z < 1000) (hx : 7 < 1 + c) : KOkS TX (sgT [(.i64, h), (.i64, n), (.u64, u), (.u64, c), (.i64, c), (.i64, 1 + c), (.i64, 3000000000 + c), (.i64, z), (.u64, hu)]) 337 Ok2_1_337 := kM_okS fun p hp => by
  simp only [List.mem_cons, List.mem_nil_iff, or_false] at hp
  rcases hp with rfl | rfl
  · exact Os29 h n u c z hu e1 e2 e3 e4 e5 e6 e7 e8 hc hz hx
  · exact Os28 h n u c z hu e1 e2 e3 e4 e5 e6 e7 e8 hc hz hx
noncomputable def OT2_1 : KT := (.node 337 Ok2_1_337 .leaf .leaf)
theorem OT2_1_ok (h n u c z hu : Int) (e1 : IntKind.u64.wrap n = u) (e2 : u.tmod 1000 = c) (e3 : IntKind.i64.wrap c = c) (e4 : IntKind.i64.wrap (1 + c) = 1 + c) (e5 : IntKind.i64.wrap (3000000000 + c) = 3000000000 + c) (e6 : n.tmod 1000 = z) (e7 : IntKind.u64.wrap h = hu) (e8 : hu.tmod 4 = 0) (hc : 0 ≤ c ∧ c < 1000) (hz : -1000 < z ∧ z < 1000) (hx : 7 < 1 + c) : KT.OkS TX (sgT [(.i64, h), (.i64, n), (.u64, u), (.u64, c), (.i64, c), (.i64, 1 + c), (.i64, 3000000000 + c), (.i64, z), (.u64, hu)]) OT2_1 := ⟨Ok2_1_337_ok h n u c z hu e1 e2 e3 e4 e5 e6 e7 e8 hc hz hx, trivial, trivial⟩
noncomputable def OO2_1 : Orc := orcL OT2_1 OO2_0
theorem OO2_1_ok (h n u c z hu : Int) (e1 : IntKind.u64.wrap n = u) (e2 : u.tmod 1000 = c) (e3 : IntKind.i64.wrap c = c) (e4 : IntKind.i64.wrap (1 + c) = 1 + c) (e5 : IntKind.i64.wrap (3000000000 + c) = 3000000000 + c) (e6 : n.tmod 1000 = z) (e7 : IntKind.u64.wrap h = hu) (e8 : hu.tmod 4 = 0) (hc : 0 ≤ c ∧ c < 1000) (hz : -1000 < z ∧ z < 1000) (hx : 7 < 1 + c) : OrcOk TX (sgT [(.i64, h), (.i64, n), (.u64, u), (.u64, c), (.i64, c), (.i64, 1 + c), (.i64, 3000000000 + c), (.i64, z), (.u64, hu)]) OO2_1 := orcL_okS (OT2_1_ok h n u c z hu e1 e2 e3 e4 e5 e6 e7 e8 hc hz hx) (OO2_0_ok h n u c z hu e1 e2 e3 e4 e5 e6 e7 e8 hc hz hx)
end Go.Vm

/- Printed by closed2.py. -/
namespace Go.Vm
open Go
set_option maxRecDepth 1000000
theorem Or30 (p : List Fr → Bool) (sg : List Fr) : callC C0 OO2_1 TX.funs TX.prim 2000 7 Oa30 sg (fun v' sg' wd => ifK (veq v' Ov30) (ifK (Nat.beq wd 0) (p sg') false) false) = p sg := by kernel_rfl
theorem Os30 (h n u c z hu : Int) (e1 : IntKind.u64.wrap n = u) (e2 : u.tmod 1000 = c) (e3 : IntKind.i64.wrap c = c) (e4 : IntKind.i64.wrap (1 + c) = 1 + c) (e5 : IntKind.i64.wrap (3000000000 + c) = 3000000000 + c) (e6 : n.tmod 1000 = z) (e7 : IntKind.u64.wrap h = hu) (e8 : hu.tmod 4 = 0) (hc : 0 ≤ c ∧ c < 1000) (hz : -1000 < z ∧ z < 1000) (hx : 7 < 1 + c) : SaysS TX (sgT [(.i64, h), (.i64, n), (.u64, u), (.u64, c), (.i64, c), (.i64, 1 + c), (.i64, 3000000000 + c), (.i64, z), (.u64, hu)]) 7 Oa30 Ov30 := saysS_of_C (sgT_num _) (sgT_onto _) (OO2_1_ok h n u c z hu e1 e2 e3 e4 e5 e6 e7 e8 hc hz hx) (prim_su (sgT_num _)) cl_ok Or30
end Go.Vm

/- Printed by closed2.py. -/
namespace Go.Vm
open Go
set_option maxRecDepth 1000000
noncomputable def Ok2_2_7 : List V → Option V := kM [(Oa30, Ov30)]
theorem Ok2_2_7_ok (h n u c z hu : Int) (e1 : IntKind.u64.wrap n = u) (e2 : u.tmod 1000 = c) (e3 : IntKind.i64.wrap c = c) (e4 : IntKind.i64.wrap (1 + c) = 1 + c) (e5 : IntKind.i64.wrap (3000000000 + c) = 3000000000 + c) (e6 : n.tmod 1000 = z) (e7 : IntKind.u64.wrap h = hu) (e8 : hu.tmod 4 = 0) (hc : 0 ≤ c ∧ c < 1000) (hz : -1000 < z ∧ z < 1000) (hx : 7 < 1 + c) : KOkS TX (sgT [(.i64, h), (.i64, n), (.u64, u), (.u64, c), (.i64, c), (.i64, 1 + c), (.i64, 3000000000 + c), (.i64, z), (.u64, hu)]) 7 Ok2_2_7 := kM_okS fun p hp => by
  simp only [List.mem_cons, List.mem_nil_iff, or_false] at hp
  rcases hp with rfl
  · exact Os30 h n u c z hu e1 e2 e3 e4 e5 e6 e7 e8 hc hz hx
noncomputable def OT2_2 : KT := (.node 7 Ok2_2_7 .leaf .leaf)
theorem OT2_2_ok (h n u c z hu : Int) (e1 : IntKind.u64.wrap n = u) (e2 : u.tmod 1000 = c) (e3 : IntKind.i64.wrap c = c) (e4 : IntKind.i64.wrap (1 + c) = 1 + c) (e5 : IntKind.i64.wrap (3000000000 + c) = 3000000000 + c) (e6 : n.tmod 1000 = z) (e7 : IntKind.u64.wrap h = hu) (e8 : hu.tmod 4 = 0) (hc : 0 ≤ c ∧ c < 1000) (hz : -1000 < z ∧ z < 1000) (hx : 7 < 1 + c) : KT.OkS TX (sgT [(.i64, h), (.i64, n), (.u64, u), (.u64, c), (.i64, c), (.i64, 1 + c), (.i64, 3000000000 + c), (.i64, z), (.u64, hu)]) OT2_2 := ⟨Ok2_2_7_ok h n u c z hu e1 e2 e3 e4 e5 e6 e7 e8 hc hz hx, trivial, trivial⟩
noncomputable def OO2_2 : Orc := orcL OT2_2 OO2_1
theorem OO2_2_ok (h n u c z hu : Int) (e1 : IntKind.u64.wrap n = u) (e2 : u.tmod 1000 = c) (e3 : IntKind.i64.wrap c = c) (e4 : IntKind.i64.wrap (1 + c) = 1 + c) (e5 : IntKind.i64.wrap (3000000000 + c) = 3000000000 + c) (e6 : n.tmod 1000 = z) (e7 : IntKind.u64.wrap h = hu) (e8 : hu.tmod 4 = 0) (hc : 0 ≤ c ∧ c < 1000) (hz : -1000 < z ∧ z < 1000) (hx : 7 < 1 + c) : OrcOk TX (sgT [(.i64, h), (.i64, n), (.u64, u), (.u64, c), (.i64, c), (.i64, 1 + c), (.i64, 3000000000 + c), (.i64, z), (.u64, hu)]) OO2_2 := orcL_okS (OT2_2_ok h n u c z hu e1 e2 e3 e4 e5 e6 e7 e8 hc hz hx) (OO2_1_ok h n u c z hu e1 e2 e3 e4 e5 e6 e7 e8 hc hz hx)
end Go.Vm

/- Printed by closed2.py. -/
namespace Go.Vm
open Go
set_option maxRecDepth 1000000
theorem Or31 (p : List Fr → Bool) (sg : List Fr) : callC C0 OO2_2 TX.funs TX.prim 2000 4 Oa31 sg (fun v' sg' wd => ifK (veq v' Ov31) (ifK (Nat.beq wd 0) (p sg') false) false) = p sg := by kernel_rfl
theorem Os31 (h n u c z hu : Int) (e1 : IntKind.u64.wrap n = u) (e2 : u.tmod 1000 = c) (e3 : IntKind.i64.wrap c = c) (e4 : IntKind.i64.wrap (1 + c) = 1 + c) (e5 : IntKind.i64.wrap (3000000000 + c) = 3000000000 + c) (e6 : n.tmod 1000 = z) (e7 : IntKind.u64.wrap h = hu) (e8 : hu.tmod 4 = 0) (hc : 0 ≤ c ∧ c < 1000) (hz : -1000 < z ∧ z < 1000) (hx : 7 < 1 + c) : SaysS TX (sgT [(.i64, h), (.i64, n), (.u64, u), (.u64, c), (.i64, c), (.i64, 1 + c), (.i64, 3000000000 + c), (.i64, z), (.u64, hu)]) 4 Oa31 Ov31 := saysS_of_C (sgT_num _) (sgT_onto _) (OO2_2_ok h n u c z hu e1 e2 e3 e4 e5 e6 e7 e8 hc hz hx) (prim_su (sgT_num _)) cl_ok Or31
end Go.Vm

/- Printed by closed2.py. -/
namespace Go.Vm
open Go
set_option maxRecDepth 1000000
noncomputable def Ok2_3_4 : List V → Option V := kM [(Oa31, Ov31)]
theorem Ok2_3_4_ok (h n u c z hu : Int) (e1 : IntKind.u64.wrap n = u) (e2 : u.tmod 1000 = c) (e3 : IntKind.i64.wrap c = c) (e4 : IntKind.i64.wrap (1 + c) = 1 + c) (e5 : IntKind.i64.wrap (3000000000 + c) = 3000000000 + c) (e6 : n.tmod 1000 = z) (e7 : IntKind.u64.wrap h = hu) (e8 : hu.tmod 4 = 0) (hc : 0 ≤ c ∧ c < 1000) (hz : -1000 < z ∧ z < 1000) (hx : 7 < 1 + c) : KOkS TX (sgT [(.i64, h), (.i64, n), (.u64, u), (.u64, c), (.i64, c), (.i64, 1 + c), (.i64, 3000000000 + c), (.i64, z), (.u64, hu)]) 4 Ok2_3_4 := kM_okS fun p hp => by
  simp only [List.mem_cons, List.mem_nil_iff, or_false] at hp
  rcases hp with rfl
  · exact Os31 h n u c z hu e1 e2 e3 e4 e5 e6 e7 e8 hc hz hx
noncomputable def OT2_3 : KT := (.node 4 Ok2_3_4 .leaf .leaf)
theorem OT2_3_ok (h n u c z hu : Int) (e1 : IntKind.u64.wrap n = u) (e2 : u.tmod 1000 = c) (e3 : IntKind.i64.wrap c = c) (e4 : IntKind.i64.wrap (1 + c) = 1 + c) (e5 : IntKind.i64.wrap (3000000000 + c) = 3000000000 + c) (e6 : n.tmod 1000 = z) (e7 : IntKind.u64.wrap h = hu) (e8 : hu.tmod 4 = 0) (hc : 0 ≤ c ∧ c < 1000) (hz : -1000 < z ∧ z < 1000) (hx : 7 < 1 + c) : KT.OkS TX (sgT [(.i64, h), (.i64, n), (.u64, u), (.u64, c), (.i64, c), (.i64, 1 + c), (.i64, 3000000000 + c), (.i64, z), (.u64, hu)]) OT2_3 := ⟨Ok2_3_4_ok h n u c z hu e1 e2 e3 e4 e5 e6 e7 e8 hc hz hx, trivial, trivial⟩
noncomputable def OO2_3 : Orc := orcL OT2_3 OO2_2
theorem OO2_3_ok (h n u c z hu : Int) (e1 : IntKind.u64.wrap n = u) (e2 : u.tmod 1000 = c) (e3 : IntKind.i64.wrap c = c) (e4 : IntKind.i64.wrap (1 + c) = 1 + c) (e5 : IntKind.i64.wrap (3000000000 + c) = 3000000000 + c) (e6 : n.tmod 1000 = z) (e7 : IntKind.u64.wrap h = hu) (e8 : hu.tmod 4 = 0) (hc : 0 ≤ c ∧ c < 1000) (hz : -1000 < z ∧ z < 1000) (hx : 7 < 1 + c) : OrcOk TX (sgT [(.i64, h), (.i64, n), (.u64, u), (.u64, c), (.i64, c), (.i64, 1 + c), (.i64, 3000000000 + c), (.i64, z), (.u64, hu)]) OO2_3 := orcL_okS (OT2_3_ok h n u c z hu e1 e2 e3 e4 e5 e6 e7 e8 hc hz hx) (OO2_2_ok h n u c z hu e1 e2 e3 e4 e5 e6 e7 e8 hc hz hx)
end Go.Vm
