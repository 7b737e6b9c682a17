/-
  A part of a proof: the last text of the claim says what is proved, and under which conditions.
-/
import Derived.Test.YtmiompjejihfbaaGreatDoorProg
import Derived.Test.YtmiompjejihfbaaGreatDoorM1
import Derived.Test.YtmiompjejihfbaaGreatDoorM4
import Derived.Test.YtmiompjejihfbaaGreatDoorM5
import Derived.Test.YtmiompjejihfbaaGreatDoorM6
import Derived.Test.YtmiompjejihfbaaGreatDoorM7
import Derived.Test.YtmiompjejihfbaaGreatDoorM3
import Derived.KernelRfl
set_option linter.unusedSimpArgs false
set_option linter.unusedVariables false
set_option linter.unnecessarySimpa false
/- The functions of the translation as programs of the machine V. Written by gen.py out of the loaded functions. -/
namespace Go.Vm
set_option maxRecDepth 100000
def ftab : FT := (.node 74 c74 (.node 40 c40 (.node 24 c24 (.node 11 c11 (.node 8 c8 (.node 5 c5 (.node 4 c4 .leaf .leaf) (.node 6 c6 .leaf .leaf)) (.node 10 c10 (.node 9 c9 .leaf .leaf) .leaf)) (.node 21 c21 (.node 14 c14 (.node 13 c13 .leaf .leaf) .leaf) (.node 23 c23 (.node 22 c22 .leaf .leaf) .leaf))) (.node 31 c31 (.node 27 c27 (.node 26 c26 (.node 25 c25 .leaf .leaf) .leaf) (.node 30 c30 (.node 28 c28 .leaf .leaf) .leaf)) (.node 35 c35 (.node 33 c33 (.node 32 c32 .leaf .leaf) .leaf) (.node 39 c39 (.node 36 c36 .leaf .leaf) .leaf)))) (.node 61 c61 (.node 53 c53 (.node 50 c50 (.node 48 c48 (.node 47 c47 .leaf .leaf) (.node 49 c49 .leaf .leaf)) (.node 52 c52 (.node 51 c51 .leaf .leaf) .leaf)) (.node 56 c56 (.node 55 c55 (.node 54 c54 .leaf .leaf) .leaf) (.node 60 c60 (.node 57 c57 .leaf .leaf) .leaf))) (.node 67 c67 (.node 64 c64 (.node 63 c63 (.node 62 c62 .leaf .leaf) .leaf) (.node 66 c66 (.node 65 c65 .leaf .leaf) .leaf)) (.node 70 c70 (.node 69 c69 (.node 68 c68 .leaf .leaf) .leaf) (.node 73 c73 (.node 71 c71 .leaf .leaf) .leaf))))) (.node 109 c109 (.node 89 c89 (.node 82 c82 (.node 78 c78 (.node 76 c76 (.node 75 c75 .leaf .leaf) (.node 77 c77 .leaf .leaf)) (.node 81 c81 (.node 80 c80 .leaf .leaf) .leaf)) (.node 86 c86 (.node 84 c84 (.node 83 c83 .leaf .leaf) .leaf) (.node 88 c88 (.node 87 c87 .leaf .leaf) .leaf))) (.node 97 c97 (.node 92 c92 (.node 91 c91 (.node 90 c90 .leaf .leaf) .leaf) (.node 95 c95 (.node 93 c93 .leaf .leaf) .leaf)) (.node 106 c106 (.node 105 c105 (.node 98 c98 .leaf .leaf) .leaf) (.node 108 c108 (.node 107 c107 .leaf .leaf) .leaf)))) (.node 133 c133 (.node 123 c123 (.node 116 c116 (.node 115 c115 (.node 114 c114 .leaf .leaf) .leaf) (.node 118 c118 (.node 117 c117 .leaf .leaf) .leaf)) (.node 126 c126 (.node 125 c125 (.node 124 c124 .leaf .leaf) .leaf) (.node 131 c131 (.node 130 c130 .leaf .leaf) .leaf))) (.node 147 c147 (.node 138 c138 (.node 137 c137 (.node 136 c136 .leaf .leaf) .leaf) (.node 146 c146 (.node 144 c144 .leaf .leaf) .leaf)) (.node 165 c165 (.node 163 c163 (.node 155 c155 .leaf .leaf) .leaf) (.node 195 c195 (.node 170 c170 .leaf .leaf) .leaf))))))
theorem ftab_ok : FT.All (fun k F => ∃ fn, Go.Proofs.Tryz.prog.funcs[k]? = some fn ∧ trF Go.Proofs.Tryz.prog fn F = true) ftab := ⟨⟨_, Go.Proofs.Tryz.func74, t74⟩, ⟨⟨_, Go.Proofs.Tryz.func40, t40⟩, ⟨⟨_, Go.Proofs.Tryz.func24, t24⟩, ⟨⟨_, Go.Proofs.Tryz.func11, t11⟩, ⟨⟨_, Go.Proofs.Tryz.func8, t8⟩, ⟨⟨_, Go.Proofs.Tryz.func5, t5⟩, ⟨⟨_, Go.Proofs.Tryz.func4, t4⟩, trivial, trivial⟩, ⟨⟨_, Go.Proofs.Tryz.func6, t6⟩, trivial, trivial⟩⟩, ⟨⟨_, Go.Proofs.Tryz.func10, t10⟩, ⟨⟨_, Go.Proofs.Tryz.func9, t9⟩, trivial, trivial⟩, trivial⟩⟩, ⟨⟨_, Go.Proofs.Tryz.func21, t21⟩, ⟨⟨_, Go.Proofs.Tryz.func14, t14⟩, ⟨⟨_, Go.Proofs.Tryz.func13, t13⟩, trivial, trivial⟩, trivial⟩, ⟨⟨_, Go.Proofs.Tryz.func23, t23⟩, ⟨⟨_, Go.Proofs.Tryz.func22, t22⟩, trivial, trivial⟩, trivial⟩⟩⟩, ⟨⟨_, Go.Proofs.Tryz.func31, t31⟩, ⟨⟨_, Go.Proofs.Tryz.func27, t27⟩, ⟨⟨_, Go.Proofs.Tryz.func26, t26⟩, ⟨⟨_, Go.Proofs.Tryz.func25, t25⟩, trivial, trivial⟩, trivial⟩, ⟨⟨_, Go.Proofs.Tryz.func30, t30⟩, ⟨⟨_, Go.Proofs.Tryz.func28, t28⟩, trivial, trivial⟩, trivial⟩⟩, ⟨⟨_, Go.Proofs.Tryz.func35, t35⟩, ⟨⟨_, Go.Proofs.Tryz.func33, t33⟩, ⟨⟨_, Go.Proofs.Tryz.func32, t32⟩, trivial, trivial⟩, trivial⟩, ⟨⟨_, Go.Proofs.Tryz.func39, t39⟩, ⟨⟨_, Go.Proofs.Tryz.func36, t36⟩, trivial, trivial⟩, trivial⟩⟩⟩⟩, ⟨⟨_, Go.Proofs.Tryz.func61, t61⟩, ⟨⟨_, Go.Proofs.Tryz.func53, t53⟩, ⟨⟨_, Go.Proofs.Tryz.func50, t50⟩, ⟨⟨_, Go.Proofs.Tryz.func48, t48⟩, ⟨⟨_, Go.Proofs.Tryz.func47, t47⟩, trivial, trivial⟩, ⟨⟨_, Go.Proofs.Tryz.func49, t49⟩, trivial, trivial⟩⟩, ⟨⟨_, Go.Proofs.Tryz.func52, t52⟩, ⟨⟨_, Go.Proofs.Tryz.func51, t51⟩, trivial, trivial⟩, trivial⟩⟩, ⟨⟨_, Go.Proofs.Tryz.func56, t56⟩, ⟨⟨_, Go.Proofs.Tryz.func55, t55⟩, ⟨⟨_, Go.Proofs.Tryz.func54, t54⟩, trivial, trivial⟩, trivial⟩, ⟨⟨_, Go.Proofs.Tryz.func60, t60⟩, ⟨⟨_, Go.Proofs.Tryz.func57, t57⟩, trivial, trivial⟩, trivial⟩⟩⟩, ⟨⟨_, Go.Proofs.Tryz.func67, t67⟩, ⟨⟨_, Go.Proofs.Tryz.func64, t64⟩, ⟨⟨_, Go.Proofs.Tryz.func63, t63⟩, ⟨⟨_, Go.Proofs.Tryz.func62, t62⟩, trivial, trivial⟩, trivial⟩, ⟨⟨_, Go.Proofs.Tryz.func66, t66⟩, ⟨⟨_, Go.Proofs.Tryz.func65, t65⟩, trivial, trivial⟩, trivial⟩⟩, ⟨⟨_, Go.Proofs.Tryz.func70, t70⟩, ⟨⟨_, Go.Proofs.Tryz.func69, t69⟩, ⟨⟨_, Go.Proofs.Tryz.func68, t68⟩, trivial, trivial⟩, trivial⟩, ⟨⟨_, Go.Proofs.Tryz.func73, t73⟩, ⟨⟨_, Go.Proofs.Tryz.func71, t71⟩, trivial, trivial⟩, trivial⟩⟩⟩⟩⟩, ⟨⟨_, Go.Proofs.Tryz.func109, t109⟩, ⟨⟨_, Go.Proofs.Tryz.func89, t89⟩, ⟨⟨_, Go.Proofs.Tryz.func82, t82⟩, ⟨⟨_, Go.Proofs.Tryz.func78, t78⟩, ⟨⟨_, Go.Proofs.Tryz.func76, t76⟩, ⟨⟨_, Go.Proofs.Tryz.func75, t75⟩, trivial, trivial⟩, ⟨⟨_, Go.Proofs.Tryz.func77, t77⟩, trivial, trivial⟩⟩, ⟨⟨_, Go.Proofs.Tryz.func81, t81⟩, ⟨⟨_, Go.Proofs.Tryz.func80, t80⟩, trivial, trivial⟩, trivial⟩⟩, ⟨⟨_, Go.Proofs.Tryz.func86, t86⟩, ⟨⟨_, Go.Proofs.Tryz.func84, t84⟩, ⟨⟨_, Go.Proofs.Tryz.func83, t83⟩, trivial, trivial⟩, trivial⟩, ⟨⟨_, Go.Proofs.Tryz.func88, t88⟩, ⟨⟨_, Go.Proofs.Tryz.func87, t87⟩, trivial, trivial⟩, trivial⟩⟩⟩, ⟨⟨_, Go.Proofs.Tryz.func97, t97⟩, ⟨⟨_, Go.Proofs.Tryz.func92, t92⟩, ⟨⟨_, Go.Proofs.Tryz.func91, t91⟩, ⟨⟨_, Go.Proofs.Tryz.func90, t90⟩, trivial, trivial⟩, trivial⟩, ⟨⟨_, Go.Proofs.Tryz.func95, t95⟩, ⟨⟨_, Go.Proofs.Tryz.func93, t93⟩, trivial, trivial⟩, trivial⟩⟩, ⟨⟨_, Go.Proofs.Tryz.func106, t106⟩, ⟨⟨_, Go.Proofs.Tryz.func105, t105⟩, ⟨⟨_, Go.Proofs.Tryz.func98, t98⟩, trivial, trivial⟩, trivial⟩, ⟨⟨_, Go.Proofs.Tryz.func108, t108⟩, ⟨⟨_, Go.Proofs.Tryz.func107, t107⟩, trivial, trivial⟩, trivial⟩⟩⟩⟩, ⟨⟨_, Go.Proofs.Tryz.func133, t133⟩, ⟨⟨_, Go.Proofs.Tryz.func123, t123⟩, ⟨⟨_, Go.Proofs.Tryz.func116, t116⟩, ⟨⟨_, Go.Proofs.Tryz.func115, t115⟩, ⟨⟨_, Go.Proofs.Tryz.func114, t114⟩, trivial, trivial⟩, trivial⟩, ⟨⟨_, Go.Proofs.Tryz.func118, t118⟩, ⟨⟨_, Go.Proofs.Tryz.func117, t117⟩, trivial, trivial⟩, trivial⟩⟩, ⟨⟨_, Go.Proofs.Tryz.func126, t126⟩, ⟨⟨_, Go.Proofs.Tryz.func125, t125⟩, ⟨⟨_, Go.Proofs.Tryz.func124, t124⟩, trivial, trivial⟩, trivial⟩, ⟨⟨_, Go.Proofs.Tryz.func131, t131⟩, ⟨⟨_, Go.Proofs.Tryz.func130, t130⟩, trivial, trivial⟩, trivial⟩⟩⟩, ⟨⟨_, Go.Proofs.Tryz.func147, t147⟩, ⟨⟨_, Go.Proofs.Tryz.func138, t138⟩, ⟨⟨_, Go.Proofs.Tryz.func137, t137⟩, ⟨⟨_, Go.Proofs.Tryz.func136, t136⟩, trivial, trivial⟩, trivial⟩, ⟨⟨_, Go.Proofs.Tryz.func146, t146⟩, ⟨⟨_, Go.Proofs.Tryz.func144, t144⟩, trivial, trivial⟩, trivial⟩⟩, ⟨⟨_, Go.Proofs.Tryz.func165, t165⟩, ⟨⟨_, Go.Proofs.Tryz.func163, t163⟩, ⟨⟨_, Go.Proofs.Tryz.func155, t155⟩, trivial, trivial⟩, trivial⟩, ⟨⟨_, Go.Proofs.Tryz.func195, t195⟩, ⟨⟨_, Go.Proofs.Tryz.func170, t170⟩, trivial, trivial⟩, trivial⟩⟩⟩⟩⟩⟩
end Go.Vm

/- The functions of the translation as programs of the machine V. Written by gen.py out of the loaded functions. -/
namespace Go.Vm
set_option maxRecDepth 100000
open Go
def KX : FuncId → Option Nat := fun f => bif Nat.beq f 145 then some 1 else none
def LX : FuncId → Option (Nat × Bool) := fun f => bif Nat.beq f 128 then some (6, true) else none
def C0 : Cfg := { keepA := fun f => Nat.beq f 94 }
def TX : Tab := { C := C0, funs := ftab.get, prim := primAll KX LX }
theorem KX_ok : Prims Go.Proofs.Tryz.prog KX := by
  intro f
  unfold KX
  cases h145 : Nat.beq f 145 with
  | true =>
    have := Nat.eq_of_beq_eq_true h145; subst this
    exact ⟨(fun h => by cases h), fun _ => ⟨_, Go.Proofs.Tryz.func145, by kernel_rfl, by kernel_rfl, by kernel_rfl, by kernel_rfl⟩⟩
  | false =>
    exact ⟨(fun h => by cases h), (fun h => by cases h)⟩
theorem LX_ok : ∀ f z m, LX f = some (z, m) → ∃ fn, Go.Proofs.Tryz.prog.funcs[f]? = some fn ∧ CloneFn Go.Proofs.Tryz.prog z m fn := by
  intro f z m h
  unfold LX at h
  cases h128 : Nat.beq f 128 with
  | true =>
    have := Nat.eq_of_beq_eq_true h128; subst this
    rw [h128] at h
    simp only [cond_true, Option.some.injEq, Prod.mk.injEq] at h
    obtain ⟨rfl, rfl⟩ := h
    exact ⟨_, Go.Proofs.Tryz.func128, by kernel_rfl, ⟨_, _, _, _, _, _, _, _, _, 98, rfl, by kernel_rfl, by kernel_rfl, rfl, rfl, rfl, by decide +kernel, by kernel_rfl, by kernel_rfl, by kernel_rfl⟩, by kernel_rfl⟩
  | false =>
    rw [h128] at h
    simp only [cond_false] at h
    cases h
theorem funs_ok : Funs Go.Proofs.Tryz.prog TX.funs := funs_of ftab_ok
theorem prim_ok : CallOk Go.Proofs.Tryz.prog TX.prim := primAll_ok (by kernel_rfl) KX_ok LX_ok
theorem prim_q : CallQ TX.prim := primAll_q KX LX
def clT : FT → Bool
  | .leaf => true
  | .node _ F l r => clC F.code && (clT l && clT r)
theorem clT_s : ∀ {t : FT}, clT t = true → t.All fun _ F => clC F.code = true
  | .leaf, _ => trivial
  | .node _ F l r, h => by
    simp only [clT, Bool.and_eq_true] at h
    exact ⟨h.1, clT_s h.2.1, clT_s h.2.2⟩
theorem cl_ok : ∀ f F, TX.funs f = some F → clC F.code = true := fun _ _ h => FT.get_all (clT_s (t := ftab) (by decide +kernel)) h
end Go.Vm
