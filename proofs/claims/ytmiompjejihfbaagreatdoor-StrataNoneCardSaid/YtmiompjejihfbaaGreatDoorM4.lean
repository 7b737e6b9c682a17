/-
  A part of a proof: the last text of the claim says what is proved, and under which conditions.
-/
import Derived.Test.YtmiompjejihfbaaGreatDoorProg
import Derived.Test.YtmiompjejihfbaaGreatDoorM1
import Derived.Test.YtmiompjejihfbaaGreatDoorM2
set_option linter.unusedSimpArgs false
set_option linter.unusedVariables false
set_option linter.unnecessarySimpa false
/- The functions of the translation as programs of the machine V. Written by gen.py out of the loaded functions. -/
namespace Go.Vm
set_option maxRecDepth 100000
theorem t4 : trF Go.Proofs.Tryz.prog Go.Proofs.Tryz.f4 c4 = true := by decide +kernel
theorem t5 : trF Go.Proofs.Tryz.prog Go.Proofs.Tryz.f5 c5 = true := by decide +kernel
theorem t6 : trF Go.Proofs.Tryz.prog Go.Proofs.Tryz.f6 c6 = true := by decide +kernel
theorem t8 : trF Go.Proofs.Tryz.prog Go.Proofs.Tryz.f8 c8 = true := by decide +kernel
theorem t9 : trF Go.Proofs.Tryz.prog Go.Proofs.Tryz.f9 c9 = true := by decide +kernel
theorem t10 : trF Go.Proofs.Tryz.prog Go.Proofs.Tryz.f10 c10 = true := by decide +kernel
theorem t11 : trF Go.Proofs.Tryz.prog Go.Proofs.Tryz.f11 c11 = true := by decide +kernel
theorem t13 : trF Go.Proofs.Tryz.prog Go.Proofs.Tryz.f13 c13 = true := by decide +kernel
theorem t14 : trF Go.Proofs.Tryz.prog Go.Proofs.Tryz.f14 c14 = true := by decide +kernel
theorem t21 : trF Go.Proofs.Tryz.prog Go.Proofs.Tryz.f21 c21 = true := by decide +kernel
theorem t22 : trF Go.Proofs.Tryz.prog Go.Proofs.Tryz.f22 c22 = true := by decide +kernel
theorem t23 : trF Go.Proofs.Tryz.prog Go.Proofs.Tryz.f23 c23 = true := by decide +kernel
theorem t24 : trF Go.Proofs.Tryz.prog Go.Proofs.Tryz.f24 c24 = true := by decide +kernel
theorem t25 : trF Go.Proofs.Tryz.prog Go.Proofs.Tryz.f25 c25 = true := by decide +kernel
theorem t26 : trF Go.Proofs.Tryz.prog Go.Proofs.Tryz.f26 c26 = true := by decide +kernel
theorem t27 : trF Go.Proofs.Tryz.prog Go.Proofs.Tryz.f27 c27 = true := by decide +kernel
theorem t28 : trF Go.Proofs.Tryz.prog Go.Proofs.Tryz.f28 c28 = true := by decide +kernel
theorem t30 : trF Go.Proofs.Tryz.prog Go.Proofs.Tryz.f30 c30 = true := by decide +kernel
theorem t31 : trF Go.Proofs.Tryz.prog Go.Proofs.Tryz.f31 c31 = true := by decide +kernel
theorem t32 : trF Go.Proofs.Tryz.prog Go.Proofs.Tryz.f32 c32 = true := by decide +kernel
theorem t33 : trF Go.Proofs.Tryz.prog Go.Proofs.Tryz.f33 c33 = true := by decide +kernel
theorem t35 : trF Go.Proofs.Tryz.prog Go.Proofs.Tryz.f35 c35 = true := by decide +kernel
theorem t36 : trF Go.Proofs.Tryz.prog Go.Proofs.Tryz.f36 c36 = true := by decide +kernel
theorem t39 : trF Go.Proofs.Tryz.prog Go.Proofs.Tryz.f39 c39 = true := by decide +kernel
theorem t40 : trF Go.Proofs.Tryz.prog Go.Proofs.Tryz.f40 c40 = true := by decide +kernel
end Go.Vm
