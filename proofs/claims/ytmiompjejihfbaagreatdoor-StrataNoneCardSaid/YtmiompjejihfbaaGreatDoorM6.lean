/-
  A part of a proof: the last text of the claim says what is proved, and under which conditions.
-/
import Derived.Test.YtmiompjejihfbaaGreatDoorProg
import Derived.Test.YtmiompjejihfbaaGreatDoorM1
import Derived.Test.YtmiompjejihfbaaGreatDoorM2
set_option linter.unusedSimpArgs false
set_option linter.unusedVariables false
set_option linter.unnecessarySimpa false
/- The functions of the translation as programs of the machine V. Written by gen.py out of the loaded functions. -/
namespace Go.Vm
set_option maxRecDepth 100000
theorem t75 : trF Go.Proofs.Tryz.prog Go.Proofs.Tryz.f75 c75 = true := by decide +kernel
theorem t76 : trF Go.Proofs.Tryz.prog Go.Proofs.Tryz.f76 c76 = true := by decide +kernel
theorem t77 : trF Go.Proofs.Tryz.prog Go.Proofs.Tryz.f77 c77 = true := by decide +kernel
theorem t78 : trF Go.Proofs.Tryz.prog Go.Proofs.Tryz.f78 c78 = true := by decide +kernel
theorem t80 : trF Go.Proofs.Tryz.prog Go.Proofs.Tryz.f80 c80 = true := by decide +kernel
theorem t81 : trF Go.Proofs.Tryz.prog Go.Proofs.Tryz.f81 c81 = true := by decide +kernel
theorem t82 : trF Go.Proofs.Tryz.prog Go.Proofs.Tryz.f82 c82 = true := by decide +kernel
theorem t83 : trF Go.Proofs.Tryz.prog Go.Proofs.Tryz.f83 c83 = true := by decide +kernel
theorem t84 : trF Go.Proofs.Tryz.prog Go.Proofs.Tryz.f84 c84 = true := by decide +kernel
theorem t86 : trF Go.Proofs.Tryz.prog Go.Proofs.Tryz.f86 c86 = true := by decide +kernel
theorem t87 : trF Go.Proofs.Tryz.prog Go.Proofs.Tryz.f87 c87 = true := by decide +kernel
theorem t88 : trF Go.Proofs.Tryz.prog Go.Proofs.Tryz.f88 c88 = true := by decide +kernel
theorem t89 : trF Go.Proofs.Tryz.prog Go.Proofs.Tryz.f89 c89 = true := by decide +kernel
theorem t90 : trF Go.Proofs.Tryz.prog Go.Proofs.Tryz.f90 c90 = true := by decide +kernel
theorem t91 : trF Go.Proofs.Tryz.prog Go.Proofs.Tryz.f91 c91 = true := by decide +kernel
theorem t92 : trF Go.Proofs.Tryz.prog Go.Proofs.Tryz.f92 c92 = true := by decide +kernel
theorem t93 : trF Go.Proofs.Tryz.prog Go.Proofs.Tryz.f93 c93 = true := by decide +kernel
theorem t95 : trF Go.Proofs.Tryz.prog Go.Proofs.Tryz.f95 c95 = true := by decide +kernel
theorem t97 : trF Go.Proofs.Tryz.prog Go.Proofs.Tryz.f97 c97 = true := by decide +kernel
theorem t98 : trF Go.Proofs.Tryz.prog Go.Proofs.Tryz.f98 c98 = true := by decide +kernel
theorem t105 : trF Go.Proofs.Tryz.prog Go.Proofs.Tryz.f105 c105 = true := by decide +kernel
theorem t106 : trF Go.Proofs.Tryz.prog Go.Proofs.Tryz.f106 c106 = true := by decide +kernel
theorem t107 : trF Go.Proofs.Tryz.prog Go.Proofs.Tryz.f107 c107 = true := by decide +kernel
theorem t108 : trF Go.Proofs.Tryz.prog Go.Proofs.Tryz.f108 c108 = true := by decide +kernel
theorem t109 : trF Go.Proofs.Tryz.prog Go.Proofs.Tryz.f109 c109 = true := by decide +kernel
end Go.Vm
