/-
  A part of a proof: the last text of the claim says what is proved, and under which conditions.
-/
import Derived.Test.YtmiompjejihfbaaGreatDoorProg
import Derived.Test.YtmiompjejihfbaaGreatDoorM1
import Derived.Test.YtmiompjejihfbaaGreatDoorM2
set_option linter.unusedSimpArgs false
set_option linter.unusedVariables false
set_option linter.unnecessarySimpa false
/- The functions of the translation as programs of the machine V. Written by gen.py out of the loaded functions. -/
namespace Go.Vm
set_option maxRecDepth 100000
theorem t114 : trF Go.Proofs.Tryz.prog Go.Proofs.Tryz.f114 c114 = true := by decide +kernel
theorem t115 : trF Go.Proofs.Tryz.prog Go.Proofs.Tryz.f115 c115 = true := by decide +kernel
theorem t116 : trF Go.Proofs.Tryz.prog Go.Proofs.Tryz.f116 c116 = true := by decide +kernel
theorem t117 : trF Go.Proofs.Tryz.prog Go.Proofs.Tryz.f117 c117 = true := by decide +kernel
theorem t118 : trF Go.Proofs.Tryz.prog Go.Proofs.Tryz.f118 c118 = true := by decide +kernel
theorem t123 : trF Go.Proofs.Tryz.prog Go.Proofs.Tryz.f123 c123 = true := by decide +kernel
theorem t124 : trF Go.Proofs.Tryz.prog Go.Proofs.Tryz.f124 c124 = true := by decide +kernel
theorem t125 : trF Go.Proofs.Tryz.prog Go.Proofs.Tryz.f125 c125 = true := by decide +kernel
theorem t126 : trF Go.Proofs.Tryz.prog Go.Proofs.Tryz.f126 c126 = true := by decide +kernel
theorem t130 : trF Go.Proofs.Tryz.prog Go.Proofs.Tryz.f130 c130 = true := by decide +kernel
theorem t131 : trF Go.Proofs.Tryz.prog Go.Proofs.Tryz.f131 c131 = true := by decide +kernel
theorem t133 : trF Go.Proofs.Tryz.prog Go.Proofs.Tryz.f133 c133 = true := by decide +kernel
theorem t136 : trF Go.Proofs.Tryz.prog Go.Proofs.Tryz.f136 c136 = true := by decide +kernel
theorem t137 : trF Go.Proofs.Tryz.prog Go.Proofs.Tryz.f137 c137 = true := by decide +kernel
theorem t138 : trF Go.Proofs.Tryz.prog Go.Proofs.Tryz.f138 c138 = true := by decide +kernel
theorem t144 : trF Go.Proofs.Tryz.prog Go.Proofs.Tryz.f144 c144 = true := by decide +kernel
theorem t146 : trF Go.Proofs.Tryz.prog Go.Proofs.Tryz.f146 c146 = true := by decide +kernel
theorem t147 : trF Go.Proofs.Tryz.prog Go.Proofs.Tryz.f147 c147 = true := by decide +kernel
theorem t155 : trF Go.Proofs.Tryz.prog Go.Proofs.Tryz.f155 c155 = true := by decide +kernel
theorem t163 : trF Go.Proofs.Tryz.prog Go.Proofs.Tryz.f163 c163 = true := by decide +kernel
theorem t165 : trF Go.Proofs.Tryz.prog Go.Proofs.Tryz.f165 c165 = true := by decide +kernel
theorem t170 : trF Go.Proofs.Tryz.prog Go.Proofs.Tryz.f170 c170 = true := by decide +kernel
theorem t195 : trF Go.Proofs.Tryz.prog Go.Proofs.Tryz.f195 c195 = true := by decide +kernel
end Go.Vm
