/-
  A part of a proof: the last text of the claim says what is proved, and under which conditions.
-/
import Derived.Test.YtjebeifjkkofaaaGreatDoorProg
import Derived.Test.YtjebeifjkkofaaaGreatDoorM1
import Derived.Test.YtjebeifjkkofaaaGreatDoorM2
import Derived.Test.YtjebeifjkkofaaaGreatDoorM3
set_option linter.unusedSimpArgs false
set_option linter.unusedVariables false
set_option linter.unnecessarySimpa false
/- The functions of the translation as programs of the machine V. Written by gen.py out of the loaded functions. -/
namespace Go.Vm
set_option maxRecDepth 100000
theorem t3 : trF Go.Proofs.Tryz.prog Go.Proofs.Tryz.f3 c3 = true := by decide +kernel
theorem t4 : trF Go.Proofs.Tryz.prog Go.Proofs.Tryz.f4 c4 = true := by decide +kernel
theorem t5 : trF Go.Proofs.Tryz.prog Go.Proofs.Tryz.f5 c5 = true := by decide +kernel
theorem t6 : trF Go.Proofs.Tryz.prog Go.Proofs.Tryz.f6 c6 = true := by decide +kernel
theorem t7 : trF Go.Proofs.Tryz.prog Go.Proofs.Tryz.f7 c7 = true := by decide +kernel
theorem t8 : trF Go.Proofs.Tryz.prog Go.Proofs.Tryz.f8 c8 = true := by decide +kernel
theorem t9 : trF Go.Proofs.Tryz.prog Go.Proofs.Tryz.f9 c9 = true := by decide +kernel
theorem t10 : trF Go.Proofs.Tryz.prog Go.Proofs.Tryz.f10 c10 = true := by decide +kernel
theorem t11 : trF Go.Proofs.Tryz.prog Go.Proofs.Tryz.f11 c11 = true := by decide +kernel
theorem t13 : trF Go.Proofs.Tryz.prog Go.Proofs.Tryz.f13 c13 = true := by decide +kernel
theorem t15 : trF Go.Proofs.Tryz.prog Go.Proofs.Tryz.f15 c15 = true := by decide +kernel
theorem t16 : trF Go.Proofs.Tryz.prog Go.Proofs.Tryz.f16 c16 = true := by decide +kernel
theorem t17 : trF Go.Proofs.Tryz.prog Go.Proofs.Tryz.f17 c17 = true := by decide +kernel
theorem t18 : trF Go.Proofs.Tryz.prog Go.Proofs.Tryz.f18 c18 = true := by decide +kernel
theorem t19 : trF Go.Proofs.Tryz.prog Go.Proofs.Tryz.f19 c19 = true := by decide +kernel
theorem t20 : trF Go.Proofs.Tryz.prog Go.Proofs.Tryz.f20 c20 = true := by decide +kernel
theorem t21 : trF Go.Proofs.Tryz.prog Go.Proofs.Tryz.f21 c21 = true := by decide +kernel
theorem t22 : trF Go.Proofs.Tryz.prog Go.Proofs.Tryz.f22 c22 = true := by decide +kernel
theorem t23 : trF Go.Proofs.Tryz.prog Go.Proofs.Tryz.f23 c23 = true := by decide +kernel
theorem t24 : trF Go.Proofs.Tryz.prog Go.Proofs.Tryz.f24 c24 = true := by decide +kernel
theorem t25 : trF Go.Proofs.Tryz.prog Go.Proofs.Tryz.f25 c25 = true := by decide +kernel
theorem t26 : trF Go.Proofs.Tryz.prog Go.Proofs.Tryz.f26 c26 = true := by decide +kernel
theorem t27 : trF Go.Proofs.Tryz.prog Go.Proofs.Tryz.f27 c27 = true := by decide +kernel
theorem t29 : trF Go.Proofs.Tryz.prog Go.Proofs.Tryz.f29 c29 = true := by decide +kernel
theorem t30 : trF Go.Proofs.Tryz.prog Go.Proofs.Tryz.f30 c30 = true := by decide +kernel
theorem t31 : trF Go.Proofs.Tryz.prog Go.Proofs.Tryz.f31 c31 = true := by decide +kernel
theorem t32 : trF Go.Proofs.Tryz.prog Go.Proofs.Tryz.f32 c32 = true := by decide +kernel
theorem t33 : trF Go.Proofs.Tryz.prog Go.Proofs.Tryz.f33 c33 = true := by decide +kernel
theorem t34 : trF Go.Proofs.Tryz.prog Go.Proofs.Tryz.f34 c34 = true := by decide +kernel
theorem t35 : trF Go.Proofs.Tryz.prog Go.Proofs.Tryz.f35 c35 = true := by decide +kernel
theorem t36 : trF Go.Proofs.Tryz.prog Go.Proofs.Tryz.f36 c36 = true := by decide +kernel
theorem t37 : trF Go.Proofs.Tryz.prog Go.Proofs.Tryz.f37 c37 = true := by decide +kernel
theorem t38 : trF Go.Proofs.Tryz.prog Go.Proofs.Tryz.f38 c38 = true := by decide +kernel
theorem t39 : trF Go.Proofs.Tryz.prog Go.Proofs.Tryz.f39 c39 = true := by decide +kernel
theorem t40 : trF Go.Proofs.Tryz.prog Go.Proofs.Tryz.f40 c40 = true := by decide +kernel
theorem t43 : trF Go.Proofs.Tryz.prog Go.Proofs.Tryz.f43 c43 = true := by decide +kernel
theorem t44 : trF Go.Proofs.Tryz.prog Go.Proofs.Tryz.f44 c44 = true := by decide +kernel
theorem t45 : trF Go.Proofs.Tryz.prog Go.Proofs.Tryz.f45 c45 = true := by decide +kernel
theorem t46 : trF Go.Proofs.Tryz.prog Go.Proofs.Tryz.f46 c46 = true := by decide +kernel
theorem t47 : trF Go.Proofs.Tryz.prog Go.Proofs.Tryz.f47 c47 = true := by decide +kernel
theorem t48 : trF Go.Proofs.Tryz.prog Go.Proofs.Tryz.f48 c48 = true := by decide +kernel
theorem t49 : trF Go.Proofs.Tryz.prog Go.Proofs.Tryz.f49 c49 = true := by decide +kernel
theorem t50 : trF Go.Proofs.Tryz.prog Go.Proofs.Tryz.f50 c50 = true := by decide +kernel
theorem t51 : trF Go.Proofs.Tryz.prog Go.Proofs.Tryz.f51 c51 = true := by decide +kernel
theorem t52 : trF Go.Proofs.Tryz.prog Go.Proofs.Tryz.f52 c52 = true := by decide +kernel
theorem t53 : trF Go.Proofs.Tryz.prog Go.Proofs.Tryz.f53 c53 = true := by decide +kernel
theorem t54 : trF Go.Proofs.Tryz.prog Go.Proofs.Tryz.f54 c54 = true := by decide +kernel
theorem t55 : trF Go.Proofs.Tryz.prog Go.Proofs.Tryz.f55 c55 = true := by decide +kernel
theorem t56 : trF Go.Proofs.Tryz.prog Go.Proofs.Tryz.f56 c56 = true := by decide +kernel
theorem t57 : trF Go.Proofs.Tryz.prog Go.Proofs.Tryz.f57 c57 = true := by decide +kernel
theorem t58 : trF Go.Proofs.Tryz.prog Go.Proofs.Tryz.f58 c58 = true := by decide +kernel
theorem t59 : trF Go.Proofs.Tryz.prog Go.Proofs.Tryz.f59 c59 = true := by decide +kernel
theorem t60 : trF Go.Proofs.Tryz.prog Go.Proofs.Tryz.f60 c60 = true := by decide +kernel
theorem t61 : trF Go.Proofs.Tryz.prog Go.Proofs.Tryz.f61 c61 = true := by decide +kernel
theorem t63 : trF Go.Proofs.Tryz.prog Go.Proofs.Tryz.f63 c63 = true := by decide +kernel
theorem t64 : trF Go.Proofs.Tryz.prog Go.Proofs.Tryz.f64 c64 = true := by decide +kernel
theorem t65 : trF Go.Proofs.Tryz.prog Go.Proofs.Tryz.f65 c65 = true := by decide +kernel
theorem t66 : trF Go.Proofs.Tryz.prog Go.Proofs.Tryz.f66 c66 = true := by decide +kernel
theorem t67 : trF Go.Proofs.Tryz.prog Go.Proofs.Tryz.f67 c67 = true := by decide +kernel
theorem t68 : trF Go.Proofs.Tryz.prog Go.Proofs.Tryz.f68 c68 = true := by decide +kernel
theorem t69 : trF Go.Proofs.Tryz.prog Go.Proofs.Tryz.f69 c69 = true := by decide +kernel
theorem t70 : trF Go.Proofs.Tryz.prog Go.Proofs.Tryz.f70 c70 = true := by decide +kernel
theorem t71 : trF Go.Proofs.Tryz.prog Go.Proofs.Tryz.f71 c71 = true := by decide +kernel
theorem t72 : trF Go.Proofs.Tryz.prog Go.Proofs.Tryz.f72 c72 = true := by decide +kernel
theorem t73 : trF Go.Proofs.Tryz.prog Go.Proofs.Tryz.f73 c73 = true := by decide +kernel
theorem t75 : trF Go.Proofs.Tryz.prog Go.Proofs.Tryz.f75 c75 = true := by decide +kernel
theorem t76 : trF Go.Proofs.Tryz.prog Go.Proofs.Tryz.f76 c76 = true := by decide +kernel
end Go.Vm
