/-
  A part of a proof: the last text of the claim says what is proved, and under which conditions.
-/
import Derived.Test.YtmiompjejihfbaaGreatDoorProg
import Derived.Test.YtmiompjejihfbaaGreatDoorM1
import Derived.Test.YtmiompjejihfbaaGreatDoorM2
set_option linter.unusedSimpArgs false
set_option linter.unusedVariables false
set_option linter.unnecessarySimpa false
/- The functions of the translation as programs of the machine V. Written by gen.py out of the loaded functions. -/
namespace Go.Vm
set_option maxRecDepth 100000
theorem t137 : trF Go.Proofs.Tryz.prog Go.Proofs.Tryz.f137 c137 = true := by decide +kernel
theorem t138 : trF Go.Proofs.Tryz.prog Go.Proofs.Tryz.f138 c138 = true := by decide +kernel
theorem t139 : trF Go.Proofs.Tryz.prog Go.Proofs.Tryz.f139 c139 = true := by decide +kernel
theorem t140 : trF Go.Proofs.Tryz.prog Go.Proofs.Tryz.f140 c140 = true := by decide +kernel
theorem t141 : trF Go.Proofs.Tryz.prog Go.Proofs.Tryz.f141 c141 = true := by decide +kernel
theorem t142 : trF Go.Proofs.Tryz.prog Go.Proofs.Tryz.f142 c142 = true := by decide +kernel
theorem t143 : trF Go.Proofs.Tryz.prog Go.Proofs.Tryz.f143 c143 = true := by decide +kernel
theorem t144 : trF Go.Proofs.Tryz.prog Go.Proofs.Tryz.f144 c144 = true := by decide +kernel
theorem t146 : trF Go.Proofs.Tryz.prog Go.Proofs.Tryz.f146 c146 = true := by decide +kernel
theorem t147 : trF Go.Proofs.Tryz.prog Go.Proofs.Tryz.f147 c147 = true := by decide +kernel
theorem t151 : trF Go.Proofs.Tryz.prog Go.Proofs.Tryz.f151 c151 = true := by decide +kernel
theorem t153 : trF Go.Proofs.Tryz.prog Go.Proofs.Tryz.f153 c153 = true := by decide +kernel
theorem t155 : trF Go.Proofs.Tryz.prog Go.Proofs.Tryz.f155 c155 = true := by decide +kernel
theorem t156 : trF Go.Proofs.Tryz.prog Go.Proofs.Tryz.f156 c156 = true := by decide +kernel
theorem t158 : trF Go.Proofs.Tryz.prog Go.Proofs.Tryz.f158 c158 = true := by decide +kernel
theorem t159 : trF Go.Proofs.Tryz.prog Go.Proofs.Tryz.f159 c159 = true := by decide +kernel
theorem t160 : trF Go.Proofs.Tryz.prog Go.Proofs.Tryz.f160 c160 = true := by decide +kernel
theorem t161 : trF Go.Proofs.Tryz.prog Go.Proofs.Tryz.f161 c161 = true := by decide +kernel
theorem t162 : trF Go.Proofs.Tryz.prog Go.Proofs.Tryz.f162 c162 = true := by decide +kernel
theorem t163 : trF Go.Proofs.Tryz.prog Go.Proofs.Tryz.f163 c163 = true := by decide +kernel
theorem t164 : trF Go.Proofs.Tryz.prog Go.Proofs.Tryz.f164 c164 = true := by decide +kernel
theorem t165 : trF Go.Proofs.Tryz.prog Go.Proofs.Tryz.f165 c165 = true := by decide +kernel
theorem t168 : trF Go.Proofs.Tryz.prog Go.Proofs.Tryz.f168 c168 = true := by decide +kernel
theorem t169 : trF Go.Proofs.Tryz.prog Go.Proofs.Tryz.f169 c169 = true := by decide +kernel
theorem t170 : trF Go.Proofs.Tryz.prog Go.Proofs.Tryz.f170 c170 = true := by decide +kernel
theorem t171 : trF Go.Proofs.Tryz.prog Go.Proofs.Tryz.f171 c171 = true := by decide +kernel
theorem t172 : trF Go.Proofs.Tryz.prog Go.Proofs.Tryz.f172 c172 = true := by decide +kernel
theorem t173 : trF Go.Proofs.Tryz.prog Go.Proofs.Tryz.f173 c173 = true := by decide +kernel
theorem t179 : trF Go.Proofs.Tryz.prog Go.Proofs.Tryz.f179 c179 = true := by decide +kernel
theorem t183 : trF Go.Proofs.Tryz.prog Go.Proofs.Tryz.f183 c183 = true := by decide +kernel
theorem t192 : trF Go.Proofs.Tryz.prog Go.Proofs.Tryz.f192 c192 = true := by decide +kernel
theorem t193 : trF Go.Proofs.Tryz.prog Go.Proofs.Tryz.f193 c193 = true := by decide +kernel
theorem t195 : trF Go.Proofs.Tryz.prog Go.Proofs.Tryz.f195 c195 = true := by decide +kernel
theorem t197 : trF Go.Proofs.Tryz.prog Go.Proofs.Tryz.f197 c197 = true := by decide +kernel
theorem t203 : trF Go.Proofs.Tryz.prog Go.Proofs.Tryz.f203 c203 = true := by decide +kernel
theorem t209 : trF Go.Proofs.Tryz.prog Go.Proofs.Tryz.f209 c209 = true := by decide +kernel
theorem t217 : trF Go.Proofs.Tryz.prog Go.Proofs.Tryz.f217 c217 = true := by decide +kernel
end Go.Vm
