/-
  A part of a proof: the last text of the claim says what is proved, and under which conditions.
-/
import Derived.Test.YtmnmpmmpihimpaaGreatDoorM20
set_option linter.unusedSimpArgs false
set_option linter.unusedVariables false
set_option linter.unnecessarySimpa false
/- Printed by closed2.py. -/
namespace Go.Vm
open Go
set_option maxRecDepth 1000000
noncomputable def OO0_0 : Orc := orcM (orcS [(.rem, .int .i16 2, .int .u64 1000, .int .i16 3), (.add, .int .i64 1, .int .i16 4, .int .i16 5), (.add, .int .i64 3000000000, .int .i16 4, .int .i16 6), (.rem, .int .i16 1, .int .i64 1000, .int .i16 7), (.rem, .int .i16 8, .int .u64 4, .int .u64 0), (.geq, .int .i16 5, .int .i64 (-4611686018427387904), .bool true), (.leq, .int .i16 5, .int .i64 4611686018427387904, .bool true), (.neq, .int .i16 5, .int .i16 5, .bool false), (.lss, .int .i16 5, .int .i64 7, .bool true), (.lss, .int .i64 7, .int .i16 5, .bool false), (.gtr, .int .i64 7, .int .i16 5, .bool true), (.lss, .int .i16 5, .int .i16 5, .bool false), (.gtr, .int .i16 5, .int .i16 5, .bool false), (.gtr, .int .i16 5, .int .i64 0, .bool true)] [(.u64, .int .i16 1, .int .i16 2), (.i64, .int .i16 3, .int .i16 4), (.u64, .int .i16 0, .int .i16 8)] []) OA5
theorem OO0_0_ok (h n u c z hu : Int) (e1 : IntKind.u64.wrap n = u) (e2 : u.tmod 1000 = c) (e3 : IntKind.i64.wrap c = c) (e4 : IntKind.i64.wrap (1 + c) = 1 + c) (e5 : IntKind.i64.wrap (3000000000 + c) = 3000000000 + c) (e6 : n.tmod 1000 = z) (e7 : IntKind.u64.wrap h = hu) (e8 : hu.tmod 4 = 0) (hc : 0 ≤ c ∧ c < 1000) (hz : -1000 < z ∧ z < 1000) (hx : 1 + c < 7) : OrcOk TX (sgT [(.i64, h), (.i64, n), (.u64, u), (.u64, c), (.i64, c), (.i64, 1 + c), (.i64, 3000000000 + c), (.i64, z), (.u64, hu)]) OO0_0 := by
  refine orcM_ok (orcS_ok ?_ ?_ ?_) OA5_ok
  · intro p hp
    simp only [List.mem_cons, List.mem_nil_iff, or_false] at hp
    rcases hp with rfl | rfl | rfl | rfl | rfl | rfl | rfl | rfl | rfl | rfl | rfl | rfl | rfl | rfl
    · exact congrArg (fun q => some (V.int .u64 q)) e2
    · exact congrArg (fun q => some (V.int .i64 q)) e4
    · exact congrArg (fun q => some (V.int .i64 q)) e5
    · exact congrArg (fun q => some (V.int .i64 q)) e6
    · exact congrArg (fun q => some (V.int .u64 q)) e8
    · first | rfl | exact bT (by omega) | exact bF (by omega) | exact beT (by omega) | exact beF (by omega) | exact bnT (by omega) | exact bnF (by omega)
    · first | rfl | exact bT (by omega) | exact bF (by omega) | exact beT (by omega) | exact beF (by omega) | exact bnT (by omega) | exact bnF (by omega)
    · first | rfl | exact bT (by omega) | exact bF (by omega) | exact beT (by omega) | exact beF (by omega) | exact bnT (by omega) | exact bnF (by omega)
    · first | rfl | exact bT (by omega) | exact bF (by omega) | exact beT (by omega) | exact beF (by omega) | exact bnT (by omega) | exact bnF (by omega)
    · first | rfl | exact bT (by omega) | exact bF (by omega) | exact beT (by omega) | exact beF (by omega) | exact bnT (by omega) | exact bnF (by omega)
    · first | rfl | exact bT (by omega) | exact bF (by omega) | exact beT (by omega) | exact beF (by omega) | exact bnT (by omega) | exact bnF (by omega)
    · first | rfl | exact bT (by omega) | exact bF (by omega) | exact beT (by omega) | exact beF (by omega) | exact bnT (by omega) | exact bnF (by omega)
    · first | rfl | exact bT (by omega) | exact bF (by omega) | exact beT (by omega) | exact beF (by omega) | exact bnT (by omega) | exact bnF (by omega)
    · first | rfl | exact bT (by omega) | exact bF (by omega) | exact beT (by omega) | exact beF (by omega) | exact bnT (by omega) | exact bnF (by omega)
  · intro p hp
    simp only [List.mem_cons, List.mem_nil_iff, or_false] at hp
    rcases hp with rfl | rfl | rfl
    · exact ⟨_, _, rfl, congrArg (V.int .u64) e1.symm⟩
    · exact ⟨_, _, rfl, congrArg (V.int .i64) e3.symm⟩
    · exact ⟨_, _, rfl, congrArg (V.int .u64) e7.symm⟩
  · intro p hp
    cases hp
end Go.Vm

/- Printed by closed2.py. -/
namespace Go.Vm
open Go
set_option maxRecDepth 1000000
theorem Or10 (p : List Fr → Bool) (sg : List Fr) : callC C0 OO0_0 TX.funs TX.prim 2000 337 Oa10 sg (fun v' sg' wd => ifK (veq v' Ov10) (ifK (Nat.beq wd 0) (p sg') false) false) = p sg := by kernel_rfl
theorem Os10 (h n u c z hu : Int) (e1 : IntKind.u64.wrap n = u) (e2 : u.tmod 1000 = c) (e3 : IntKind.i64.wrap c = c) (e4 : IntKind.i64.wrap (1 + c) = 1 + c) (e5 : IntKind.i64.wrap (3000000000 + c) = 3000000000 + c) (e6 : n.tmod 1000 = z) (e7 : IntKind.u64.wrap h = hu) (e8 : hu.tmod 4 = 0) (hc : 0 ≤ c ∧ c < 1000) (hz : -1000 < z ∧ z < 1000) (hx : 1 + c < 7) : SaysS TX (sgT [(.i64, h), (.i64, n), (.u64, u), (.u64, c), (.i64, c), (.i64, 1 + c), (.i64, 3000000000 + c), (.i64, z), (.u64, hu)]) 337 Oa10 Ov10 := saysS_of_C (sgT_num _) (sgT_onto _) (OO0_0_ok h n u c z hu e1 e2 e3 e4 e5 e6 e7 e8 hc hz hx) (prim_su (sgT_num _)) cl_ok Or10
theorem Or9 (p : List Fr → Bool) (sg : List Fr) : callC C0 OO0_0 TX.funs TX.prim 2000 337 Oa9 sg (fun v' sg' wd => ifK (veq v' Ov9) (ifK (Nat.beq wd 0) (p sg') false) false) = p sg := by kernel_rfl
theorem Os9 (h n u c z hu : Int) (e1 : IntKind.u64.wrap n = u) (e2 : u.tmod 1000 = c) (e3 : IntKind.i64.wrap c = c) (e4 : IntKind.i64.wrap (1 + c) = 1 + c) (e5 : IntKind.i64.wrap (3000000000 + c) = 3000000000 + c) (e6 : n.tmod 1000 = z) (e7 : IntKind.u64.wrap h = hu) (e8 : hu.tmod 4 = 0) (hc : 0 ≤ c ∧ c < 1000) (hz : -1000 < z ∧ z < 1000) (hx : 1 + c < 7) : SaysS TX (sgT [(.i64, h), (.i64, n), (.u64, u), (.u64, c), (.i64, c), (.i64, 1 + c), (.i64, 3000000000 + c), (.i64, z), (.u64, hu)]) 337 Oa9 Ov9 := saysS_of_C (sgT_num _) (sgT_onto _) (OO0_0_ok h n u c z hu e1 e2 e3 e4 e5 e6 e7 e8 hc hz hx) (prim_su (sgT_num _)) cl_ok Or9
end Go.Vm

/- Printed by closed2.py. -/
namespace Go.Vm
open Go
set_option maxRecDepth 1000000
noncomputable def Ok0_1_337 : List V → Option V := kM [(Oa10, Ov10), (Oa9, Ov9)]
theorem Ok0_1_337_ok (h n u c z hu : Int) (e1 : IntKind.u64.wrap n = u) (e2 : u.tmod 1000 = c) (e3 : IntKind.i64.wrap c = c) (e4 : IntKind.i64.wrap (1 + c) = 1 + c) (e5 : IntKind.i64.wrap (3000000000 + c) = 3000000000 + c) (e6 : n.tmod 1000 = z) (e7 : IntKind.u64.wrap h = hu) (e8 : hu.tmod 4 = 0) (hc : 0 ≤ c ∧ c < 1000) (hz : -1000 < z ∧ z < 1000) (hx : 1 + c < 7) : KOkS TX (sgT [(.i64, h), (.i64, n), (.u64, u), (.u64, c), (.i64, c), (.i64, 1 + c), (.i64, 3000000000 + c), (.i64, z), (.u64, hu)]) 337 Ok0_1_337 := kM_okS fun p hp => by
  simp only [List.mem_cons, List.mem_nil_iff, or_false] at hp
  rcases hp with rfl | rfl
  · exact Os10 h n u c z hu e1 e2 e3 e4 e5 e6 e7 e8 hc hz hx
  · exact Os9 h n u c z hu e1 e2 e3 e4 e5 e6 e7 e8 hc hz hx
noncomputable def OT0_1 : KT := (.node 337 Ok0_1_337 .leaf .leaf)
theorem OT0_1_ok (h n u c z hu : Int) (e1 : IntKind.u64.wrap n = u) (e2 : u.tmod 1000 = c) (e3 : IntKind.i64.wrap c = c) (e4 : IntKind.i64.wrap (1 + c) = 1 + c) (e5 : IntKind.i64.wrap (3000000000 + c) = 3000000000 + c) (e6 : n.tmod 1000 = z) (e7 : IntKind.u64.wrap h = hu) (e8 : hu.tmod 4 = 0) (hc : 0 ≤ c ∧ c < 1000) (hz : -1000 < z ∧ z < 1000) (hx : 1 + c < 7) : KT.OkS TX (sgT [(.i64, h), (.i64, n), (.u64, u), (.u64, c), (.i64, c), (.i64, 1 + c), (.i64, 3000000000 + c), (.i64, z), (.u64, hu)]) OT0_1 := ⟨Ok0_1_337_ok h n u c z hu e1 e2 e3 e4 e5 e6 e7 e8 hc hz hx, trivial, trivial⟩
noncomputable def OO0_1 : Orc := orcL OT0_1 OO0_0
theorem OO0_1_ok (h n u c z hu : Int) (e1 : IntKind.u64.wrap n = u) (e2 : u.tmod 1000 = c) (e3 : IntKind.i64.wrap c = c) (e4 : IntKind.i64.wrap (1 + c) = 1 + c) (e5 : IntKind.i64.wrap (3000000000 + c) = 3000000000 + c) (e6 : n.tmod 1000 = z) (e7 : IntKind.u64.wrap h = hu) (e8 : hu.tmod 4 = 0) (hc : 0 ≤ c ∧ c < 1000) (hz : -1000 < z ∧ z < 1000) (hx : 1 + c < 7) : OrcOk TX (sgT [(.i64, h), (.i64, n), (.u64, u), (.u64, c), (.i64, c), (.i64, 1 + c), (.i64, 3000000000 + c), (.i64, z), (.u64, hu)]) OO0_1 := orcL_okS (OT0_1_ok h n u c z hu e1 e2 e3 e4 e5 e6 e7 e8 hc hz hx) (OO0_0_ok h n u c z hu e1 e2 e3 e4 e5 e6 e7 e8 hc hz hx)
end Go.Vm

/- Printed by closed2.py. -/
namespace Go.Vm
open Go
set_option maxRecDepth 1000000
theorem Or11 (p : List Fr → Bool) (sg : List Fr) : callC C0 OO0_1 TX.funs TX.prim 2000 7 Oa11 sg (fun v' sg' wd => ifK (veq v' Ov11) (ifK (Nat.beq wd 0) (p sg') false) false) = p sg := by kernel_rfl
theorem Os11 (h n u c z hu : Int) (e1 : IntKind.u64.wrap n = u) (e2 : u.tmod 1000 = c) (e3 : IntKind.i64.wrap c = c) (e4 : IntKind.i64.wrap (1 + c) = 1 + c) (e5 : IntKind.i64.wrap (3000000000 + c) = 3000000000 + c) (e6 : n.tmod 1000 = z) (e7 : IntKind.u64.wrap h = hu) (e8 : hu.tmod 4 = 0) (hc : 0 ≤ c ∧ c < 1000) (hz : -1000 < z ∧ z < 1000) (hx : 1 + c < 7) : SaysS TX (sgT [(.i64, h), (.i64, n), (.u64, u), (.u64, c), (.i64, c), (.i64, 1 + c), (.i64, 3000000000 + c), (.i64, z), (.u64, hu)]) 7 Oa11 Ov11 := saysS_of_C (sgT_num _) (sgT_onto _) (OO0_1_ok h n u c z hu e1 e2 e3 e4 e5 e6 e7 e8 hc hz hx) (prim_su (sgT_num _)) cl_ok Or11
end Go.Vm

/- Printed by closed2.py. -/
namespace Go.Vm
open Go
set_option maxRecDepth 1000000
noncomputable def Ok0_2_7 : List V → Option V := kM [(Oa11, Ov11)]
theorem Ok0_2_7_ok (h n u c z hu : Int) (e1 : IntKind.u64.wrap n = u) (e2 : u.tmod 1000 = c) (e3 : IntKind.i64.wrap c = c) (e4 : IntKind.i64.wrap (1 + c) = 1 + c) (e5 : IntKind.i64.wrap (3000000000 + c) = 3000000000 + c) (e6 : n.tmod 1000 = z) (e7 : IntKind.u64.wrap h = hu) (e8 : hu.tmod 4 = 0) (hc : 0 ≤ c ∧ c < 1000) (hz : -1000 < z ∧ z < 1000) (hx : 1 + c < 7) : KOkS TX (sgT [(.i64, h), (.i64, n), (.u64, u), (.u64, c), (.i64, c), (.i64, 1 + c), (.i64, 3000000000 + c), (.i64, z), (.u64, hu)]) 7 Ok0_2_7 := kM_okS fun p hp => by
  simp only [List.mem_cons, List.mem_nil_iff, or_false] at hp
  rcases hp with rfl
  · exact Os11 h n u c z hu e1 e2 e3 e4 e5 e6 e7 e8 hc hz hx
noncomputable def OT0_2 : KT := (.node 7 Ok0_2_7 .leaf .leaf)
theorem OT0_2_ok (h n u c z hu : Int) (e1 : IntKind.u64.wrap n = u) (e2 : u.tmod 1000 = c) (e3 : IntKind.i64.wrap c = c) (e4 : IntKind.i64.wrap (1 + c) = 1 + c) (e5 : IntKind.i64.wrap (3000000000 + c) = 3000000000 + c) (e6 : n.tmod 1000 = z) (e7 : IntKind.u64.wrap h = hu) (e8 : hu.tmod 4 = 0) (hc : 0 ≤ c ∧ c < 1000) (hz : -1000 < z ∧ z < 1000) (hx : 1 + c < 7) : KT.OkS TX (sgT [(.i64, h), (.i64, n), (.u64, u), (.u64, c), (.i64, c), (.i64, 1 + c), (.i64, 3000000000 + c), (.i64, z), (.u64, hu)]) OT0_2 := ⟨Ok0_2_7_ok h n u c z hu e1 e2 e3 e4 e5 e6 e7 e8 hc hz hx, trivial, trivial⟩
noncomputable def OO0_2 : Orc := orcL OT0_2 OO0_1
theorem OO0_2_ok (h n u c z hu : Int) (e1 : IntKind.u64.wrap n = u) (e2 : u.tmod 1000 = c) (e3 : IntKind.i64.wrap c = c) (e4 : IntKind.i64.wrap (1 + c) = 1 + c) (e5 : IntKind.i64.wrap (3000000000 + c) = 3000000000 + c) (e6 : n.tmod 1000 = z) (e7 : IntKind.u64.wrap h = hu) (e8 : hu.tmod 4 = 0) (hc : 0 ≤ c ∧ c < 1000) (hz : -1000 < z ∧ z < 1000) (hx : 1 + c < 7) : OrcOk TX (sgT [(.i64, h), (.i64, n), (.u64, u), (.u64, c), (.i64, c), (.i64, 1 + c), (.i64, 3000000000 + c), (.i64, z), (.u64, hu)]) OO0_2 := orcL_okS (OT0_2_ok h n u c z hu e1 e2 e3 e4 e5 e6 e7 e8 hc hz hx) (OO0_1_ok h n u c z hu e1 e2 e3 e4 e5 e6 e7 e8 hc hz hx)
end Go.Vm

/- Printed by closed2.py. -/
namespace Go.Vm
open Go
set_option maxRecDepth 1000000
theorem Or24 (p : List Fr → Bool) (sg : List Fr) : callC C0 OO0_2 TX.funs TX.prim 2000 4 Oa24 sg (fun v' sg' wd => ifK (veq v' Ov24) (ifK (Nat.beq wd 0) (p sg') false) false) = p sg := by kernel_rfl
theorem Os24 (h n u c z hu : Int) (e1 : IntKind.u64.wrap n = u) (e2 : u.tmod 1000 = c) (e3 : IntKind.i64.wrap c = c) (e4 : IntKind.i64.wrap (1 + c) = 1 + c) (e5 : IntKind.i64.wrap (3000000000 + c) = 3000000000 + c) (e6 : n.tmod 1000 = z) (e7 : IntKind.u64.wrap h = hu) (e8 : hu.tmod 4 = 0) (hc : 0 ≤ c ∧ c < 1000) (hz : -1000 < z ∧ z < 1000) (hx : 1 + c < 7) : SaysS TX (sgT [(.i64, h), (.i64, n), (.u64, u), (.u64, c), (.i64, c), (.i64, 1 + c), (.i64, 3000000000 + c), (.i64, z), (.u64, hu)]) 4 Oa24 Ov24 := saysS_of_C (sgT_num _) (sgT_onto _) (OO0_2_ok h n u c z hu e1 e2 e3 e4 e5 e6 e7 e8 hc hz hx) (prim_su (sgT_num _)) cl_ok Or24
end Go.Vm

/- Printed by closed2.py. -/
namespace Go.Vm
open Go
set_option maxRecDepth 1000000
noncomputable def Ok0_3_4 : List V → Option V := kM [(Oa24, Ov24)]
theorem Ok0_3_4_ok (h n u c z hu : Int) (e1 : IntKind.u64.wrap n = u) (e2 : u.tmod 1000 = c) (e3 : IntKind.i64.wrap c = c) (e4 : IntKind.i64.wrap (1 + c) = 1 + c) (e5 : IntKind.i64.wrap (3000000000 + c) = 3000000000 + c) (e6 : n.tmod 1000 = z) (e7 : IntKind.u64.wrap h = hu) (e8 : hu.tmod 4 = 0) (hc : 0 ≤ c ∧ c < 1000) (hz : -1000 < z ∧ z < 1000) (hx : 1 + c < 7) : KOkS TX (sgT [(.i64, h), (.i64, n), (.u64, u), (.u64, c), (.i64, c), (.i64, 1 + c), (.i64, 3000000000 + c), (.i64, z), (.u64, hu)]) 4 Ok0_3_4 := kM_okS fun p hp => by
  simp only [List.mem_cons, List.mem_nil_iff, or_false] at hp
  rcases hp with rfl
  · exact Os24 h n u c z hu e1 e2 e3 e4 e5 e6 e7 e8 hc hz hx
noncomputable def OT0_3 : KT := (.node 4 Ok0_3_4 .leaf .leaf)
theorem OT0_3_ok (h n u c z hu : Int) (e1 : IntKind.u64.wrap n = u) (e2 : u.tmod 1000 = c) (e3 : IntKind.i64.wrap c = c) (e4 : IntKind.i64.wrap (1 + c) = 1 + c) (e5 : IntKind.i64.wrap (3000000000 + c) = 3000000000 + c) (e6 : n.tmod 1000 = z) (e7 : IntKind.u64.wrap h = hu) (e8 : hu.tmod 4 = 0) (hc : 0 ≤ c ∧ c < 1000) (hz : -1000 < z ∧ z < 1000) (hx : 1 + c < 7) : KT.OkS TX (sgT [(.i64, h), (.i64, n), (.u64, u), (.u64, c), (.i64, c), (.i64, 1 + c), (.i64, 3000000000 + c), (.i64, z), (.u64, hu)]) OT0_3 := ⟨Ok0_3_4_ok h n u c z hu e1 e2 e3 e4 e5 e6 e7 e8 hc hz hx, trivial, trivial⟩
noncomputable def OO0_3 : Orc := orcL OT0_3 OO0_2
theorem OO0_3_ok (h n u c z hu : Int) (e1 : IntKind.u64.wrap n = u) (e2 : u.tmod 1000 = c) (e3 : IntKind.i64.wrap c = c) (e4 : IntKind.i64.wrap (1 + c) = 1 + c) (e5 : IntKind.i64.wrap (3000000000 + c) = 3000000000 + c) (e6 : n.tmod 1000 = z) (e7 : IntKind.u64.wrap h = hu) (e8 : hu.tmod 4 = 0) (hc : 0 ≤ c ∧ c < 1000) (hz : -1000 < z ∧ z < 1000) (hx : 1 + c < 7) : OrcOk TX (sgT [(.i64, h), (.i64, n), (.u64, u), (.u64, c), (.i64, c), (.i64, 1 + c), (.i64, 3000000000 + c), (.i64, z), (.u64, hu)]) OO0_3 := orcL_okS (OT0_3_ok h n u c z hu e1 e2 e3 e4 e5 e6 e7 e8 hc hz hx) (OO0_2_ok h n u c z hu e1 e2 e3 e4 e5 e6 e7 e8 hc hz hx)
end Go.Vm
