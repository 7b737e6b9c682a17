/-
  A part of a proof: the last text of the claim says what is proved, and under which conditions.
-/
import Derived.Test.YtmnmpmmpihimpaaGreatDoorM20
set_option linter.unusedSimpArgs false
set_option linter.unusedVariables false
set_option linter.unnecessarySimpa false
/- Printed by closed2.py. -/
namespace Go.Vm
open Go
set_option maxRecDepth 1000000
noncomputable def OO3_0 : Orc := orcM (orcS [(.rem, .int .i16 2, .int .u64 1000, .int .i16 3), (.add, .int .i64 1, .int .i16 4, .int .i16 5), (.add, .int .i64 3000000000, .int .i16 4, .int .i16 6), (.rem, .int .i16 1, .int .i64 1000, .int .i16 7), (.rem, .int .i16 8, .int .u64 4, .int .u64 1), (.geq, .int .i16 6, .int .i64 (-4611686018427387904), .bool true), (.leq, .int .i16 6, .int .i64 4611686018427387904, .bool true), (.neq, .int .i16 6, .int .i16 6, .bool false), (.lss, .int .i16 6, .int .i64 7, .bool false), (.gtr, .int .i16 6, .int .i64 7, .bool true), (.lss, .int .i64 7, .int .i16 6, .bool true), (.lss, .int .i16 6, .int .i64 0, .bool false), (.and, .int .i16 9, .int .u64 4294967295, .int .i16 10), (.shr, .int .i16 9, .int .u64 32, .int .i16 11), (.mul, .int .i16 10, .int .i16 10, .int .i16 12), (.mul, .int .i16 11, .int .i16 10, .int .i16 13), (.shr, .int .i16 12, .int .u64 32, .int .i16 14), (.add, .int .i16 13, .int .i16 14, .int .i16 15), (.and, .int .i16 15, .int .u64 4294967295, .int .i16 16), (.shr, .int .i16 15, .int .u64 32, .int .i16 17), (.mul, .int .i16 10, .int .i16 11, .int .i16 18), (.add, .int .i16 16, .int .i16 18, .int .i16 19), (.mul, .int .i16 11, .int .i16 11, .int .i16 20), (.add, .int .i16 20, .int .i16 17, .int .i16 21), (.shr, .int .i16 19, .int .u64 32, .int .i16 22), (.add, .int .i16 21, .int .i16 22, .int .i16 23), (.mul, .int .i16 9, .int .i16 9, .int .i16 24), (.gtr, .int .i16 23, .int .u64 0, .bool false), (.gtr, .int .i16 24, .int .u64 4611686018427387904, .bool true)] [(.u64, .int .i16 1, .int .i16 2), (.i64, .int .i16 3, .int .i16 4), (.u64, .int .i16 0, .int .i16 8), (.u64, .int .i16 6, .int .i16 9)] []) OA5
theorem OO3_0_ok (h n u c z hu : Int) (e1 : IntKind.u64.wrap n = u) (e2 : u.tmod 1000 = c) (e3 : IntKind.i64.wrap c = c) (e4 : IntKind.i64.wrap (1 + c) = 1 + c) (e5 : IntKind.i64.wrap (3000000000 + c) = 3000000000 + c) (e6 : n.tmod 1000 = z) (e7 : IntKind.u64.wrap h = hu) (e8 : hu.tmod 4 = 1) (hc : 0 ≤ c ∧ c < 1000) (hz : -1000 < z ∧ z < 1000) (x y t : Int) (ex : 3000000000 + c = x) (f1 : IntKind.u64.wrap x = x) (f2 : IntKind.u64.wrap (BitVec.ofInt (IntKind.bits .u64) x &&& BitVec.ofInt (IntKind.bits .u64) 4294967295).toNat = x) (f3 : x.fdiv (2 ^ min (Int.toNat 32) (IntKind.bits .u64)) = 0) (f4 : IntKind.u64.wrap (x * x) = y) (f5 : IntKind.u64.wrap (0 * x) = 0) (f6 : y.fdiv (2 ^ min (Int.toNat 32) (IntKind.bits .u64)) = t) (f7 : IntKind.u64.wrap (0 + t) = t) (f8 : IntKind.u64.wrap (BitVec.ofInt (IntKind.bits .u64) t &&& BitVec.ofInt (IntKind.bits .u64) 4294967295).toNat = t) (f9 : t.fdiv (2 ^ min (Int.toNat 32) (IntKind.bits .u64)) = 0) (f10 : IntKind.u64.wrap (x * 0) = 0) (f11 : IntKind.u64.wrap (t + 0) = t) (hy : 4611686018427387904 < y) : OrcOk TX (sgT [(.i64, h), (.i64, n), (.u64, u), (.u64, c), (.i64, c), (.i64, 1 + c), (.i64, x), (.i64, z), (.u64, hu), (.u64, x), (.u64, x), (.u64, 0), (.u64, y), (.u64, 0), (.u64, t), (.u64, t), (.u64, t), (.u64, 0), (.u64, 0), (.u64, t), (.u64, 0), (.u64, 0), (.u64, 0), (.u64, 0), (.u64, y)]) OO3_0 := by
  refine orcM_ok (orcS_ok ?_ ?_ ?_) OA5_ok
  · intro p hp
    simp only [List.mem_cons, List.mem_nil_iff, or_false] at hp
    rcases hp with rfl | rfl | rfl | rfl | rfl | rfl | rfl | rfl | rfl | rfl | rfl | rfl | rfl | rfl | rfl | rfl | rfl | rfl | rfl | rfl | rfl | rfl | rfl | rfl | rfl | rfl | rfl | rfl | rfl
    · exact congrArg (fun q => some (V.int .u64 q)) e2
    · exact congrArg (fun q => some (V.int .i64 q)) e4
    · exact congrArg (fun q => some (V.int .i64 q)) (e5.trans ex)
    · exact congrArg (fun q => some (V.int .i64 q)) e6
    · exact congrArg (fun q => some (V.int .u64 q)) e8
    · first | rfl | exact bT (by omega) | exact bF (by omega) | exact beT (by omega) | exact beF (by omega) | exact bnT (by omega) | exact bnF (by omega)
    · first | rfl | exact bT (by omega) | exact bF (by omega) | exact beT (by omega) | exact beF (by omega) | exact bnT (by omega) | exact bnF (by omega)
    · first | rfl | exact bT (by omega) | exact bF (by omega) | exact beT (by omega) | exact beF (by omega) | exact bnT (by omega) | exact bnF (by omega)
    · first | rfl | exact bT (by omega) | exact bF (by omega) | exact beT (by omega) | exact beF (by omega) | exact bnT (by omega) | exact bnF (by omega)
    · first | rfl | exact bT (by omega) | exact bF (by omega) | exact beT (by omega) | exact beF (by omega) | exact bnT (by omega) | exact bnF (by omega)
    · first | rfl | exact bT (by omega) | exact bF (by omega) | exact beT (by omega) | exact beF (by omega) | exact bnT (by omega) | exact bnF (by omega)
    · first | rfl | exact bT (by omega) | exact bF (by omega) | exact beT (by omega) | exact beF (by omega) | exact bnT (by omega) | exact bnF (by omega)
    · exact congrArg (fun q => some (V.int .u64 q)) f2
    · exact congrArg (fun q => some (V.int .u64 q)) f3
    · exact congrArg (fun q => some (V.int .u64 q)) f4
    · exact congrArg (fun q => some (V.int .u64 q)) f5
    · exact congrArg (fun q => some (V.int .u64 q)) f6
    · exact congrArg (fun q => some (V.int .u64 q)) f7
    · exact congrArg (fun q => some (V.int .u64 q)) f8
    · exact congrArg (fun q => some (V.int .u64 q)) f9
    · exact congrArg (fun q => some (V.int .u64 q)) f10
    · exact congrArg (fun q => some (V.int .u64 q)) f11
    · first | rfl | exact bT (by omega) | exact bF (by omega) | exact beT (by omega) | exact beF (by omega) | exact bnT (by omega) | exact bnF (by omega)
    · first | rfl | exact bT (by omega) | exact bF (by omega) | exact beT (by omega) | exact beF (by omega) | exact bnT (by omega) | exact bnF (by omega)
    · exact congrArg (fun q => some (V.int .u64 q)) f9
    · first | rfl | exact bT (by omega) | exact bF (by omega) | exact beT (by omega) | exact beF (by omega) | exact bnT (by omega) | exact bnF (by omega)
    · exact congrArg (fun q => some (V.int .u64 q)) f4
    · first | rfl | exact bT (by omega) | exact bF (by omega) | exact beT (by omega) | exact beF (by omega) | exact bnT (by omega) | exact bnF (by omega)
    · first | rfl | exact bT (by omega) | exact bF (by omega) | exact beT (by omega) | exact beF (by omega) | exact bnT (by omega) | exact bnF (by omega)
  · intro p hp
    simp only [List.mem_cons, List.mem_nil_iff, or_false] at hp
    rcases hp with rfl | rfl | rfl | rfl
    · exact ⟨_, _, rfl, congrArg (V.int .u64) e1.symm⟩
    · exact ⟨_, _, rfl, congrArg (V.int .i64) e3.symm⟩
    · exact ⟨_, _, rfl, congrArg (V.int .u64) e7.symm⟩
    · exact ⟨_, _, rfl, congrArg (V.int .u64) f1.symm⟩
  · intro p hp
    cases hp
end Go.Vm

/- Printed by closed2.py. -/
namespace Go.Vm
open Go
set_option maxRecDepth 1000000
theorem Or35 (p : List Fr → Bool) (sg : List Fr) : callC C0 OO3_0 TX.funs TX.prim 2000 7 Oa35 sg (fun v' sg' wd => ifK (veq v' Ov35) (ifK (Nat.beq wd 0) (p sg') false) false) = p sg := by kernel_rfl
theorem Os35 (h n u c z hu : Int) (e1 : IntKind.u64.wrap n = u) (e2 : u.tmod 1000 = c) (e3 : IntKind.i64.wrap c = c) (e4 : IntKind.i64.wrap (1 + c) = 1 + c) (e5 : IntKind.i64.wrap (3000000000 + c) = 3000000000 + c) (e6 : n.tmod 1000 = z) (e7 : IntKind.u64.wrap h = hu) (e8 : hu.tmod 4 = 1) (hc : 0 ≤ c ∧ c < 1000) (hz : -1000 < z ∧ z < 1000) (x y t : Int) (ex : 3000000000 + c = x) (f1 : IntKind.u64.wrap x = x) (f2 : IntKind.u64.wrap (BitVec.ofInt (IntKind.bits .u64) x &&& BitVec.ofInt (IntKind.bits .u64) 4294967295).toNat = x) (f3 : x.fdiv (2 ^ min (Int.toNat 32) (IntKind.bits .u64)) = 0) (f4 : IntKind.u64.wrap (x * x) = y) (f5 : IntKind.u64.wrap (0 * x) = 0) (f6 : y.fdiv (2 ^ min (Int.toNat 32) (IntKind.bits .u64)) = t) (f7 : IntKind.u64.wrap (0 + t) = t) (f8 : IntKind.u64.wrap (BitVec.ofInt (IntKind.bits .u64) t &&& BitVec.ofInt (IntKind.bits .u64) 4294967295).toNat = t) (f9 : t.fdiv (2 ^ min (Int.toNat 32) (IntKind.bits .u64)) = 0) (f10 : IntKind.u64.wrap (x * 0) = 0) (f11 : IntKind.u64.wrap (t + 0) = t) (hy : 4611686018427387904 < y) : SaysS TX (sgT [(.i64, h), (.i64, n), (.u64, u), (.u64, c), (.i64, c), (.i64, 1 + c), (.i64, x), (.i64, z), (.u64, hu), (.u64, x), (.u64, x), (.u64, 0), (.u64, y), (.u64, 0), (.u64, t), (.u64, t), (.u64, t), (.u64, 0), (.u64, 0), (.u64, t), (.u64, 0), (.u64, 0), (.u64, 0), (.u64, 0), (.u64, y)]) 7 Oa35 Ov35 := saysS_of_C (sgT_num _) (sgT_onto _) (OO3_0_ok h n u c z hu e1 e2 e3 e4 e5 e6 e7 e8 hc hz x y t ex f1 f2 f3 f4 f5 f6 f7 f8 f9 f10 f11 hy) (prim_su (sgT_num _)) cl_ok Or35
end Go.Vm

/- Printed by closed2.py. -/
namespace Go.Vm
open Go
set_option maxRecDepth 1000000
noncomputable def Ok3_1_7 : List V → Option V := kM [(Oa35, Ov35)]
theorem Ok3_1_7_ok (h n u c z hu : Int) (e1 : IntKind.u64.wrap n = u) (e2 : u.tmod 1000 = c) (e3 : IntKind.i64.wrap c = c) (e4 : IntKind.i64.wrap (1 + c) = 1 + c) (e5 : IntKind.i64.wrap (3000000000 + c) = 3000000000 + c) (e6 : n.tmod 1000 = z) (e7 : IntKind.u64.wrap h = hu) (e8 : hu.tmod 4 = 1) (hc : 0 ≤ c ∧ c < 1000) (hz : -1000 < z ∧ z < 1000) (x y t : Int) (ex : 3000000000 + c = x) (f1 : IntKind.u64.wrap x = x) (f2 : IntKind.u64.wrap (BitVec.ofInt (IntKind.bits .u64) x &&& BitVec.ofInt (IntKind.bits .u64) 4294967295).toNat = x) (f3 : x.fdiv (2 ^ min (Int.toNat 32) (IntKind.bits .u64)) = 0) (f4 : IntKind.u64.wrap (x * x) = y) (f5 : IntKind.u64.wrap (0 * x) = 0) (f6 : y.fdiv (2 ^ min (Int.toNat 32) (IntKind.bits .u64)) = t) (f7 : IntKind.u64.wrap (0 + t) = t) (f8 : IntKind.u64.wrap (BitVec.ofInt (IntKind.bits .u64) t &&& BitVec.ofInt (IntKind.bits .u64) 4294967295).toNat = t) (f9 : t.fdiv (2 ^ min (Int.toNat 32) (IntKind.bits .u64)) = 0) (f10 : IntKind.u64.wrap (x * 0) = 0) (f11 : IntKind.u64.wrap (t + 0) = t) (hy : 4611686018427387904 < y) : KOkS TX (sgT [(.i64, h), (.i64, n), (.u64, u), (.u64, c), (.i64, c), (.i64, 1 + c), (.i64, x), (.i64, z), (.u64, hu), (.u64, x), (.u64, x), (.u64, 0), (.u64, y), (.u64, 0), (.u64, t), (.u64, t), (.u64, t), (.u64, 0), (.u64, 0), (.u64, t), (.u64, 0), (.u64, 0), (.u64, 0), (.u64, 0), (.u64, y)]) 7 Ok3_1_7 := kM_okS fun p hp => by
  simp only [List.mem_cons, List.mem_nil_iff, or_false] at hp
  rcases hp with rfl
  · exact Os35 h n u c z hu e1 e2 e3 e4 e5 e6 e7 e8 hc hz x y t ex f1 f2 f3 f4 f5 f6 f7 f8 f9 f10 f11 hy
noncomputable def OT3_1 : KT := (.node 7 Ok3_1_7 .leaf .leaf)
theorem OT3_1_ok (h n u c z hu : Int) (e1 : IntKind.u64.wrap n = u) (e2 : u.tmod 1000 = c) (e3 : IntKind.i64.wrap c = c) (e4 : IntKind.i64.wrap (1 + c) = 1 + c) (e5 : IntKind.i64.wrap (3000000000 + c) = 3000000000 + c) (e6 : n.tmod 1000 = z) (e7 : IntKind.u64.wrap h = hu) (e8 : hu.tmod 4 = 1) (hc : 0 ≤ c ∧ c < 1000) (hz : -1000 < z ∧ z < 1000) (x y t : Int) (ex : 3000000000 + c = x) (f1 : IntKind.u64.wrap x = x) (f2 : IntKind.u64.wrap (BitVec.ofInt (IntKind.bits .u64) x &&& BitVec.ofInt (IntKind.bits .u64) 4294967295).toNat = x) (f3 : x.fdiv (2 ^ min (Int.toNat 32) (IntKind.bits .u64)) = 0) (f4 : IntKind.u64.wrap (x * x) = y) (f5 : IntKind.u64.wrap (0 * x) = 0) (f6 : y.fdiv (2 ^ min (Int.toNat 32) (IntKind.bits .u64)) = t) (f7 : IntKind.u64.wrap (0 + t) = t) (f8 : IntKind.u64.wrap (BitVec.ofInt (IntKind.bits .u64) t &&& BitVec.ofInt (IntKind.bits .u64) 4294967295).toNat = t) (f9 : t.fdiv (2 ^ min (Int.toNat 32) (IntKind.bits .u64)) = 0) (f10 : IntKind.u64.wrap (x * 0) = 0) (f11 : IntKind.u64.wrap (t + 0) = t) (hy : 4611686018427387904 < y) : KT.OkS TX (sgT [(.i64, h), (.i64, n), (.u64, u), (.u64, c), (.i64, c), (.i64, 1 + c), (.i64, x), (.i64, z), (.u64, hu), (.u64, x), (.u64, x), (.u64, 0), (.u64, y), (.u64, 0), (.u64, t), (.u64, t), (.u64, t), (.u64, 0), (.u64, 0), (.u64, t), (.u64, 0), (.u64, 0), (.u64, 0), (.u64, 0), (.u64, y)]) OT3_1 := ⟨Ok3_1_7_ok h n u c z hu e1 e2 e3 e4 e5 e6 e7 e8 hc hz x y t ex f1 f2 f3 f4 f5 f6 f7 f8 f9 f10 f11 hy, trivial, trivial⟩
noncomputable def OO3_1 : Orc := orcL OT3_1 OO3_0
theorem OO3_1_ok (h n u c z hu : Int) (e1 : IntKind.u64.wrap n = u) (e2 : u.tmod 1000 = c) (e3 : IntKind.i64.wrap c = c) (e4 : IntKind.i64.wrap (1 + c) = 1 + c) (e5 : IntKind.i64.wrap (3000000000 + c) = 3000000000 + c) (e6 : n.tmod 1000 = z) (e7 : IntKind.u64.wrap h = hu) (e8 : hu.tmod 4 = 1) (hc : 0 ≤ c ∧ c < 1000) (hz : -1000 < z ∧ z < 1000) (x y t : Int) (ex : 3000000000 + c = x) (f1 : IntKind.u64.wrap x = x) (f2 : IntKind.u64.wrap (BitVec.ofInt (IntKind.bits .u64) x &&& BitVec.ofInt (IntKind.bits .u64) 4294967295).toNat = x) (f3 : x.fdiv (2 ^ min (Int.toNat 32) (IntKind.bits .u64)) = 0) (f4 : IntKind.u64.wrap (x * x) = y) (f5 : IntKind.u64.wrap (0 * x) = 0) (f6 : y.fdiv (2 ^ min (Int.toNat 32) (IntKind.bits .u64)) = t) (f7 : IntKind.u64.wrap (0 + t) = t) (f8 : IntKind.u64.wrap (BitVec.ofInt (IntKind.bits .u64) t &&& BitVec.ofInt (IntKind.bits .u64) 4294967295).toNat = t) (f9 : t.fdiv (2 ^ min (Int.toNat 32) (IntKind.bits .u64)) = 0) (f10 : IntKind.u64.wrap (x * 0) = 0) (f11 : IntKind.u64.wrap (t + 0) = t) (hy : 4611686018427387904 < y) : OrcOk TX (sgT [(.i64, h), (.i64, n), (.u64, u), (.u64, c), (.i64, c), (.i64, 1 + c), (.i64, x), (.i64, z), (.u64, hu), (.u64, x), (.u64, x), (.u64, 0), (.u64, y), (.u64, 0), (.u64, t), (.u64, t), (.u64, t), (.u64, 0), (.u64, 0), (.u64, t), (.u64, 0), (.u64, 0), (.u64, 0), (.u64, 0), (.u64, y)]) OO3_1 := orcL_okS (OT3_1_ok h n u c z hu e1 e2 e3 e4 e5 e6 e7 e8 hc hz x y t ex f1 f2 f3 f4 f5 f6 f7 f8 f9 f10 f11 hy) (OO3_0_ok h n u c z hu e1 e2 e3 e4 e5 e6 e7 e8 hc hz x y t ex f1 f2 f3 f4 f5 f6 f7 f8 f9 f10 f11 hy)
end Go.Vm

/- Printed by closed2.py. -/
namespace Go.Vm
open Go
set_option maxRecDepth 1000000
theorem Or36 (p : List Fr → Bool) (sg : List Fr) : callC C0 OO3_1 TX.funs TX.prim 2000 4 Oa36 sg (fun v' sg' wd => ifK (veq v' Ov36) (ifK (Nat.beq wd 0) (p sg') false) false) = p sg := by kernel_rfl
theorem Os36 (h n u c z hu : Int) (e1 : IntKind.u64.wrap n = u) (e2 : u.tmod 1000 = c) (e3 : IntKind.i64.wrap c = c) (e4 : IntKind.i64.wrap (1 + c) = 1 + c) (e5 : IntKind.i64.wrap (3000000000 + c) = 3000000000 + c) (e6 : n.tmod 1000 = z) (e7 : IntKind.u64.wrap h = hu) (e8 : hu.tmod 4 = 1) (hc : 0 ≤ c ∧ c < 1000) (hz : -1000 < z ∧ z < 1000) (x y t : Int) (ex : 3000000000 + c = x) (f1 : IntKind.u64.wrap x = x) (f2 : IntKind.u64.wrap (BitVec.ofInt (IntKind.bits .u64) x &&& BitVec.ofInt (IntKind.bits .u64) 4294967295).toNat = x) (f3 : x.fdiv (2 ^ min (Int.toNat 32) (IntKind.bits .u64)) = 0) (f4 : IntKind.u64.wrap (x * x) = y) (f5 : IntKind.u64.wrap (0 * x) = 0) (f6 : y.fdiv (2 ^ min (Int.toNat 32) (IntKind.bits .u64)) = t) (f7 : IntKind.u64.wrap (0 + t) = t) (f8 : IntKind.u64.wrap (BitVec.ofInt (IntKind.bits .u64) t &&& BitVec.ofInt (IntKind.bits .u64) 4294967295).toNat = t) (f9 : t.fdiv (2 ^ min (Int.toNat 32) (IntKind.bits .u64)) = 0) (f10 : IntKind.u64.wrap (x * 0) = 0) (f11 : IntKind.u64.wrap (t + 0) = t) (hy : 4611686018427387904 < y) : SaysS TX (sgT [(.i64, h), (.i64, n), (.u64, u), (.u64, c), (.i64, c), (.i64, 1 + c), (.i64, x), (.i64, z), (.u64, hu), (.u64, x), (.u64, x), (.u64, 0), (.u64, y), (.u64, 0), (.u64, t), (.u64, t), (.u64, t), (.u64, 0), (.u64, 0), (.u64, t), (.u64, 0), (.u64, 0), (.u64, 0), (.u64, 0), (.u64, y)]) 4 Oa36 Ov36 := saysS_of_C (sgT_num _) (sgT_onto _) (OO3_1_ok h n u c z hu e1 e2 e3 e4 e5 e6 e7 e8 hc hz x y t ex f1 f2 f3 f4 f5 f6 f7 f8 f9 f10 f11 hy) (prim_su (sgT_num _)) cl_ok Or36
end Go.Vm

/- Printed by closed2.py. -/
namespace Go.Vm
open Go
set_option maxRecDepth 1000000
noncomputable def Ok3_2_4 : List V → Option V := kM [(Oa36, Ov36)]
theorem Ok3_2_4_ok (h n u c z hu : Int) (e1 : IntKind.u64.wrap n = u) (e2 : u.tmod 1000 = c) (e3 : IntKind.i64.wrap c = c) (e4 : IntKind.i64.wrap (1 + c) = 1 + c) (e5 : IntKind.i64.wrap (3000000000 + c) = 3000000000 + c) (e6 : n.tmod 1000 = z) (e7 : IntKind.u64.wrap h = hu) (e8 : hu.tmod 4 = 1) (hc : 0 ≤ c ∧ c < 1000) (hz : -1000 < z ∧ z < 1000) (x y t : Int) (ex : 3000000000 + c = x) (f1 : IntKind.u64.wrap x = x) (f2 : IntKind.u64.wrap (BitVec.ofInt (IntKind.bits .u64) x &&& BitVec.ofInt (IntKind.bits .u64) 4294967295).toNat = x) (f3 : x.fdiv (2 ^ min (Int.toNat 32) (IntKind.bits .u64)) = 0) (f4 : IntKind.u64.wrap (x * x) = y) (f5 : IntKind.u64.wrap (0 * x) = 0) (f6 : y.fdiv (2 ^ min (Int.toNat 32) (IntKind.bits .u64)) = t) (f7 : IntKind.u64.wrap (0 + t) = t) (f8 : IntKind.u64.wrap (BitVec.ofInt (IntKind.bits .u64) t &&& BitVec.ofInt (IntKind.bits .u64) 4294967295).toNat = t) (f9 : t.fdiv (2 ^ min (Int.toNat 32) (IntKind.bits .u64)) = 0) (f10 : IntKind.u64.wrap (x * 0) = 0) (f11 : IntKind.u64.wrap (t + 0) = t) (hy : 4611686018427387904 < y) : KOkS TX (sgT [(.i64, h), (.i64, n), (.u64, u), (.u64, c), (.i64, c), (.i64, 1 + c), (.i64, x), (.i64, z), (.u64, hu), (.u64, x), (.u64, x), (.u64, 0), (.u64, y), (.u64, 0), (.u64, t), (.u64, t), (.u64, t), (.u64, 0), (.u64, 0), (.u64, t), (.u64, 0), (.u64, 0), (.u64, 0), (.u64, 0), (.u64, y)]) 4 Ok3_2_4 := kM_okS fun p hp => by
  simp only [List.mem_cons, List.mem_nil_iff, or_false] at hp
  rcases hp with rfl
  · exact Os36 h n u c z hu e1 e2 e3 e4 e5 e6 e7 e8 hc hz x y t ex f1 f2 f3 f4 f5 f6 f7 f8 f9 f10 f11 hy
noncomputable def OT3_2 : KT := (.node 4 Ok3_2_4 .leaf .leaf)
theorem OT3_2_ok (h n u c z hu : Int) (e1 : IntKind.u64.wrap n = u) (e2 : u.tmod 1000 = c) (e3 : IntKind.i64.wrap c = c) (e4 : IntKind.i64.wrap (1 + c) = 1 + c) (e5 : IntKind.i64.wrap (3000000000 + c) = 3000000000 + c) (e6 : n.tmod 1000 = z) (e7 : IntKind.u64.wrap h = hu) (e8 : hu.tmod 4 = 1) (hc : 0 ≤ c ∧ c < 1000) (hz : -1000 < z ∧ z < 1000) (x y t : Int) (ex : 3000000000 + c = x) (f1 : IntKind.u64.wrap x = x) (f2 : IntKind.u64.wrap (BitVec.ofInt (IntKind.bits .u64) x &&& BitVec.ofInt (IntKind.bits .u64) 4294967295).toNat = x) (f3 : x.fdiv (2 ^ min (Int.toNat 32) (IntKind.bits .u64)) = 0) (f4 : IntKind.u64.wrap (x * x) = y) (f5 : IntKind.u64.wrap (0 * x) = 0) (f6 : y.fdiv (2 ^ min (Int.toNat 32) (IntKind.bits .u64)) = t) (f7 : IntKind.u64.wrap (0 + t) = t) (f8 : IntKind.u64.wrap (BitVec.ofInt (IntKind.bits .u64) t &&& BitVec.ofInt (IntKind.bits .u64) 4294967295).toNat = t) (f9 : t.fdiv (2 ^ min (Int.toNat 32) (IntKind.bits .u64)) = 0) (f10 : IntKind.u64.wrap (x * 0) = 0) (f11 : IntKind.u64.wrap (t + 0) = t) (hy : 4611686018427387904 < y) : KT.OkS TX (sgT [(.i64, h), (.i64, n), (.u64, u), (.u64, c), (.i64, c), (.i64, 1 + c), (.i64, x), (.i64, z), (.u64, hu), (.u64, x), (.u64, x), (.u64, 0), (.u64, y), (.u64, 0), (.u64, t), (.u64, t), (.u64, t), (.u64, 0), (.u64, 0), (.u64, t), (.u64, 0), (.u64, 0), (.u64, 0), (.u64, 0), (.u64, y)]) OT3_2 := ⟨Ok3_2_4_ok h n u c z hu e1 e2 e3 e4 e5 e6 e7 e8 hc hz x y t ex f1 f2 f3 f4 f5 f6 f7 f8 f9 f10 f11 hy, trivial, trivial⟩
noncomputable def OO3_2 : Orc := orcL OT3_2 OO3_1
theorem OO3_2_ok (h n u c z hu : Int) (e1 : IntKind.u64.wrap n = u) (e2 : u.tmod 1000 = c) (e3 : IntKind.i64.wrap c = c) (e4 : IntKind.i64.wrap (1 + c) = 1 + c) (e5 : IntKind.i64.wrap (3000000000 + c) = 3000000000 + c) (e6 : n.tmod 1000 = z) (e7 : IntKind.u64.wrap h = hu) (e8 : hu.tmod 4 = 1) (hc : 0 ≤ c ∧ c < 1000) (hz : -1000 < z ∧ z < 1000) (x y t : Int) (ex : 3000000000 + c = x) (f1 : IntKind.u64.wrap x = x) (f2 : IntKind.u64.wrap (BitVec.ofInt (IntKind.bits .u64) x &&& BitVec.ofInt (IntKind.bits .u64) 4294967295).toNat = x) (f3 : x.fdiv (2 ^ min (Int.toNat 32) (IntKind.bits .u64)) = 0) (f4 : IntKind.u64.wrap (x * x) = y) (f5 : IntKind.u64.wrap (0 * x) = 0) (f6 : y.fdiv (2 ^ min (Int.toNat 32) (IntKind.bits .u64)) = t) (f7 : IntKind.u64.wrap (0 + t) = t) (f8 : IntKind.u64.wrap (BitVec.ofInt (IntKind.bits .u64) t &&& BitVec.ofInt (IntKind.bits .u64) 4294967295).toNat = t) (f9 : t.fdiv (2 ^ min (Int.toNat 32) (IntKind.bits .u64)) = 0) (f10 : IntKind.u64.wrap (x * 0) = 0) (f11 : IntKind.u64.wrap (t + 0) = t) (hy : 4611686018427387904 < y) : OrcOk TX (sgT [(.i64, h), (.i64, n), (.u64, u), (.u64, c), (.i64, c), (.i64, 1 + c), (.i64, x), (.i64, z), (.u64, hu), (.u64, x), (.u64, x), (.u64, 0), (.u64, y), (.u64, 0), (.u64, t), (.u64, t), (.u64, t), (.u64, 0), (.u64, 0), (.u64, t), (.u64, 0), (.u64, 0), (.u64, 0), (.u64, 0), (.u64, y)]) OO3_2 := orcL_okS (OT3_2_ok h n u c z hu e1 e2 e3 e4 e5 e6 e7 e8 hc hz x y t ex f1 f2 f3 f4 f5 f6 f7 f8 f9 f10 f11 hy) (OO3_1_ok h n u c z hu e1 e2 e3 e4 e5 e6 e7 e8 hc hz x y t ex f1 f2 f3 f4 f5 f6 f7 f8 f9 f10 f11 hy)
end Go.Vm
