/-
  A part of a proof: the last text of the claim says what is proved, and under which conditions.
-/
import Derived.Test.YtmiompjejihfbaaGreatDoorProg
import Derived.Test.YtmiompjejihfbaaGreatDoorM1
import Derived.Test.YtmiompjejihfbaaGreatDoorM2
set_option linter.unusedSimpArgs false
set_option linter.unusedVariables false
set_option linter.unnecessarySimpa false
/- The functions of the translation as programs of the machine V. Written by gen.py out of the loaded functions. -/
namespace Go.Vm
set_option maxRecDepth 100000
theorem t47 : trF Go.Proofs.Tryz.prog Go.Proofs.Tryz.f47 c47 = true := by decide +kernel
theorem t48 : trF Go.Proofs.Tryz.prog Go.Proofs.Tryz.f48 c48 = true := by decide +kernel
theorem t49 : trF Go.Proofs.Tryz.prog Go.Proofs.Tryz.f49 c49 = true := by decide +kernel
theorem t50 : trF Go.Proofs.Tryz.prog Go.Proofs.Tryz.f50 c50 = true := by decide +kernel
theorem t51 : trF Go.Proofs.Tryz.prog Go.Proofs.Tryz.f51 c51 = true := by decide +kernel
theorem t52 : trF Go.Proofs.Tryz.prog Go.Proofs.Tryz.f52 c52 = true := by decide +kernel
theorem t53 : trF Go.Proofs.Tryz.prog Go.Proofs.Tryz.f53 c53 = true := by decide +kernel
theorem t54 : trF Go.Proofs.Tryz.prog Go.Proofs.Tryz.f54 c54 = true := by decide +kernel
theorem t55 : trF Go.Proofs.Tryz.prog Go.Proofs.Tryz.f55 c55 = true := by decide +kernel
theorem t56 : trF Go.Proofs.Tryz.prog Go.Proofs.Tryz.f56 c56 = true := by decide +kernel
theorem t57 : trF Go.Proofs.Tryz.prog Go.Proofs.Tryz.f57 c57 = true := by decide +kernel
theorem t60 : trF Go.Proofs.Tryz.prog Go.Proofs.Tryz.f60 c60 = true := by decide +kernel
theorem t61 : trF Go.Proofs.Tryz.prog Go.Proofs.Tryz.f61 c61 = true := by decide +kernel
theorem t62 : trF Go.Proofs.Tryz.prog Go.Proofs.Tryz.f62 c62 = true := by decide +kernel
theorem t63 : trF Go.Proofs.Tryz.prog Go.Proofs.Tryz.f63 c63 = true := by decide +kernel
theorem t64 : trF Go.Proofs.Tryz.prog Go.Proofs.Tryz.f64 c64 = true := by decide +kernel
theorem t65 : trF Go.Proofs.Tryz.prog Go.Proofs.Tryz.f65 c65 = true := by decide +kernel
theorem t66 : trF Go.Proofs.Tryz.prog Go.Proofs.Tryz.f66 c66 = true := by decide +kernel
theorem t67 : trF Go.Proofs.Tryz.prog Go.Proofs.Tryz.f67 c67 = true := by decide +kernel
theorem t68 : trF Go.Proofs.Tryz.prog Go.Proofs.Tryz.f68 c68 = true := by decide +kernel
theorem t69 : trF Go.Proofs.Tryz.prog Go.Proofs.Tryz.f69 c69 = true := by decide +kernel
theorem t70 : trF Go.Proofs.Tryz.prog Go.Proofs.Tryz.f70 c70 = true := by decide +kernel
theorem t71 : trF Go.Proofs.Tryz.prog Go.Proofs.Tryz.f71 c71 = true := by decide +kernel
theorem t73 : trF Go.Proofs.Tryz.prog Go.Proofs.Tryz.f73 c73 = true := by decide +kernel
theorem t74 : trF Go.Proofs.Tryz.prog Go.Proofs.Tryz.f74 c74 = true := by decide +kernel
end Go.Vm
