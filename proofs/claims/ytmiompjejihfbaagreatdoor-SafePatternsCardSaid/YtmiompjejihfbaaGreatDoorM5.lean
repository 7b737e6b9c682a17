/-
  A part of a proof: the last text of the claim says what is proved, and under which conditions.
-/
import Derived.Test.YtmiompjejihfbaaGreatDoorProg
import Derived.Test.YtmiompjejihfbaaGreatDoorM1
import Derived.Test.YtmiompjejihfbaaGreatDoorM2
set_option linter.unusedSimpArgs false
set_option linter.unusedVariables false
set_option linter.unnecessarySimpa false
/- The functions of the translation as programs of the machine V. Written by gen.py out of the loaded functions. -/
namespace Go.Vm
set_option maxRecDepth 100000
theorem t53 : trF Go.Proofs.Tryz.prog Go.Proofs.Tryz.f53 c53 = true := by decide +kernel
theorem t54 : trF Go.Proofs.Tryz.prog Go.Proofs.Tryz.f54 c54 = true := by decide +kernel
theorem t55 : trF Go.Proofs.Tryz.prog Go.Proofs.Tryz.f55 c55 = true := by decide +kernel
theorem t56 : trF Go.Proofs.Tryz.prog Go.Proofs.Tryz.f56 c56 = true := by decide +kernel
theorem t57 : trF Go.Proofs.Tryz.prog Go.Proofs.Tryz.f57 c57 = true := by decide +kernel
theorem t59 : trF Go.Proofs.Tryz.prog Go.Proofs.Tryz.f59 c59 = true := by decide +kernel
theorem t60 : trF Go.Proofs.Tryz.prog Go.Proofs.Tryz.f60 c60 = true := by decide +kernel
theorem t61 : trF Go.Proofs.Tryz.prog Go.Proofs.Tryz.f61 c61 = true := by decide +kernel
theorem t62 : trF Go.Proofs.Tryz.prog Go.Proofs.Tryz.f62 c62 = true := by decide +kernel
theorem t63 : trF Go.Proofs.Tryz.prog Go.Proofs.Tryz.f63 c63 = true := by decide +kernel
theorem t64 : trF Go.Proofs.Tryz.prog Go.Proofs.Tryz.f64 c64 = true := by decide +kernel
theorem t65 : trF Go.Proofs.Tryz.prog Go.Proofs.Tryz.f65 c65 = true := by decide +kernel
theorem t66 : trF Go.Proofs.Tryz.prog Go.Proofs.Tryz.f66 c66 = true := by decide +kernel
theorem t67 : trF Go.Proofs.Tryz.prog Go.Proofs.Tryz.f67 c67 = true := by decide +kernel
theorem t68 : trF Go.Proofs.Tryz.prog Go.Proofs.Tryz.f68 c68 = true := by decide +kernel
theorem t69 : trF Go.Proofs.Tryz.prog Go.Proofs.Tryz.f69 c69 = true := by decide +kernel
theorem t70 : trF Go.Proofs.Tryz.prog Go.Proofs.Tryz.f70 c70 = true := by decide +kernel
theorem t71 : trF Go.Proofs.Tryz.prog Go.Proofs.Tryz.f71 c71 = true := by decide +kernel
theorem t72 : trF Go.Proofs.Tryz.prog Go.Proofs.Tryz.f72 c72 = true := by decide +kernel
theorem t73 : trF Go.Proofs.Tryz.prog Go.Proofs.Tryz.f73 c73 = true := by decide +kernel
theorem t74 : trF Go.Proofs.Tryz.prog Go.Proofs.Tryz.f74 c74 = true := by decide +kernel
theorem t75 : trF Go.Proofs.Tryz.prog Go.Proofs.Tryz.f75 c75 = true := by decide +kernel
theorem t76 : trF Go.Proofs.Tryz.prog Go.Proofs.Tryz.f76 c76 = true := by decide +kernel
theorem t77 : trF Go.Proofs.Tryz.prog Go.Proofs.Tryz.f77 c77 = true := by decide +kernel
theorem t78 : trF Go.Proofs.Tryz.prog Go.Proofs.Tryz.f78 c78 = true := by decide +kernel
theorem t79 : trF Go.Proofs.Tryz.prog Go.Proofs.Tryz.f79 c79 = true := by decide +kernel
theorem t80 : trF Go.Proofs.Tryz.prog Go.Proofs.Tryz.f80 c80 = true := by decide +kernel
theorem t81 : trF Go.Proofs.Tryz.prog Go.Proofs.Tryz.f81 c81 = true := by decide +kernel
theorem t82 : trF Go.Proofs.Tryz.prog Go.Proofs.Tryz.f82 c82 = true := by decide +kernel
theorem t83 : trF Go.Proofs.Tryz.prog Go.Proofs.Tryz.f83 c83 = true := by decide +kernel
theorem t84 : trF Go.Proofs.Tryz.prog Go.Proofs.Tryz.f84 c84 = true := by decide +kernel
theorem t85 : trF Go.Proofs.Tryz.prog Go.Proofs.Tryz.f85 c85 = true := by decide +kernel
theorem t86 : trF Go.Proofs.Tryz.prog Go.Proofs.Tryz.f86 c86 = true := by decide +kernel
theorem t87 : trF Go.Proofs.Tryz.prog Go.Proofs.Tryz.f87 c87 = true := by decide +kernel
theorem t88 : trF Go.Proofs.Tryz.prog Go.Proofs.Tryz.f88 c88 = true := by decide +kernel
theorem t89 : trF Go.Proofs.Tryz.prog Go.Proofs.Tryz.f89 c89 = true := by decide +kernel
theorem t90 : trF Go.Proofs.Tryz.prog Go.Proofs.Tryz.f90 c90 = true := by decide +kernel
theorem t91 : trF Go.Proofs.Tryz.prog Go.Proofs.Tryz.f91 c91 = true := by decide +kernel
theorem t92 : trF Go.Proofs.Tryz.prog Go.Proofs.Tryz.f92 c92 = true := by decide +kernel
end Go.Vm
