/-
  A part of a proof: the last text of the claim says what is proved, and under which conditions.
-/
import Derived.Test.YtmiompjejihfbaaGreatDoorProg
import Derived.Test.YtmiompjejihfbaaGreatDoorM1
import Derived.Test.YtmiompjejihfbaaGreatDoorM2
set_option linter.unusedSimpArgs false
set_option linter.unusedVariables false
set_option linter.unnecessarySimpa false
/- The functions of the translation as programs of the machine V. Written by gen.py out of the loaded functions. -/
namespace Go.Vm
set_option maxRecDepth 100000
theorem t93 : trF Go.Proofs.Tryz.prog Go.Proofs.Tryz.f93 c93 = true := by decide +kernel
theorem t95 : trF Go.Proofs.Tryz.prog Go.Proofs.Tryz.f95 c95 = true := by decide +kernel
theorem t96 : trF Go.Proofs.Tryz.prog Go.Proofs.Tryz.f96 c96 = true := by decide +kernel
theorem t97 : trF Go.Proofs.Tryz.prog Go.Proofs.Tryz.f97 c97 = true := by decide +kernel
theorem t98 : trF Go.Proofs.Tryz.prog Go.Proofs.Tryz.f98 c98 = true := by decide +kernel
theorem t99 : trF Go.Proofs.Tryz.prog Go.Proofs.Tryz.f99 c99 = true := by decide +kernel
theorem t100 : trF Go.Proofs.Tryz.prog Go.Proofs.Tryz.f100 c100 = true := by decide +kernel
theorem t101 : trF Go.Proofs.Tryz.prog Go.Proofs.Tryz.f101 c101 = true := by decide +kernel
theorem t102 : trF Go.Proofs.Tryz.prog Go.Proofs.Tryz.f102 c102 = true := by decide +kernel
theorem t103 : trF Go.Proofs.Tryz.prog Go.Proofs.Tryz.f103 c103 = true := by decide +kernel
theorem t104 : trF Go.Proofs.Tryz.prog Go.Proofs.Tryz.f104 c104 = true := by decide +kernel
theorem t106 : trF Go.Proofs.Tryz.prog Go.Proofs.Tryz.f106 c106 = true := by decide +kernel
theorem t107 : trF Go.Proofs.Tryz.prog Go.Proofs.Tryz.f107 c107 = true := by decide +kernel
theorem t108 : trF Go.Proofs.Tryz.prog Go.Proofs.Tryz.f108 c108 = true := by decide +kernel
theorem t109 : trF Go.Proofs.Tryz.prog Go.Proofs.Tryz.f109 c109 = true := by decide +kernel
theorem t111 : trF Go.Proofs.Tryz.prog Go.Proofs.Tryz.f111 c111 = true := by decide +kernel
theorem t112 : trF Go.Proofs.Tryz.prog Go.Proofs.Tryz.f112 c112 = true := by decide +kernel
theorem t113 : trF Go.Proofs.Tryz.prog Go.Proofs.Tryz.f113 c113 = true := by decide +kernel
theorem t114 : trF Go.Proofs.Tryz.prog Go.Proofs.Tryz.f114 c114 = true := by decide +kernel
theorem t115 : trF Go.Proofs.Tryz.prog Go.Proofs.Tryz.f115 c115 = true := by decide +kernel
theorem t116 : trF Go.Proofs.Tryz.prog Go.Proofs.Tryz.f116 c116 = true := by decide +kernel
theorem t117 : trF Go.Proofs.Tryz.prog Go.Proofs.Tryz.f117 c117 = true := by decide +kernel
theorem t118 : trF Go.Proofs.Tryz.prog Go.Proofs.Tryz.f118 c118 = true := by decide +kernel
theorem t119 : trF Go.Proofs.Tryz.prog Go.Proofs.Tryz.f119 c119 = true := by decide +kernel
theorem t120 : trF Go.Proofs.Tryz.prog Go.Proofs.Tryz.f120 c120 = true := by decide +kernel
theorem t121 : trF Go.Proofs.Tryz.prog Go.Proofs.Tryz.f121 c121 = true := by decide +kernel
theorem t122 : trF Go.Proofs.Tryz.prog Go.Proofs.Tryz.f122 c122 = true := by decide +kernel
theorem t123 : trF Go.Proofs.Tryz.prog Go.Proofs.Tryz.f123 c123 = true := by decide +kernel
theorem t124 : trF Go.Proofs.Tryz.prog Go.Proofs.Tryz.f124 c124 = true := by decide +kernel
theorem t125 : trF Go.Proofs.Tryz.prog Go.Proofs.Tryz.f125 c125 = true := by decide +kernel
theorem t126 : trF Go.Proofs.Tryz.prog Go.Proofs.Tryz.f126 c126 = true := by decide +kernel
theorem t127 : trF Go.Proofs.Tryz.prog Go.Proofs.Tryz.f127 c127 = true := by decide +kernel
theorem t129 : trF Go.Proofs.Tryz.prog Go.Proofs.Tryz.f129 c129 = true := by decide +kernel
theorem t130 : trF Go.Proofs.Tryz.prog Go.Proofs.Tryz.f130 c130 = true := by decide +kernel
theorem t131 : trF Go.Proofs.Tryz.prog Go.Proofs.Tryz.f131 c131 = true := by decide +kernel
theorem t133 : trF Go.Proofs.Tryz.prog Go.Proofs.Tryz.f133 c133 = true := by decide +kernel
theorem t134 : trF Go.Proofs.Tryz.prog Go.Proofs.Tryz.f134 c134 = true := by decide +kernel
theorem t135 : trF Go.Proofs.Tryz.prog Go.Proofs.Tryz.f135 c135 = true := by decide +kernel
theorem t136 : trF Go.Proofs.Tryz.prog Go.Proofs.Tryz.f136 c136 = true := by decide +kernel
end Go.Vm
