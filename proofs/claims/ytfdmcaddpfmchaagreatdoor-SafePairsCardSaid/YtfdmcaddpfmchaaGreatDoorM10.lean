/-
  A part of a proof: the last text of the claim says what is proved, and under which conditions.
-/
import Derived.Test.YtfdmcaddpfmchaaGreatDoorProg
import Derived.Test.YtfdmcaddpfmchaaGreatDoorM1
import Derived.Test.YtfdmcaddpfmchaaGreatDoorM2
import Derived.Test.YtfdmcaddpfmchaaGreatDoorM3
set_option linter.unusedSimpArgs false
set_option linter.unusedVariables false
set_option linter.unnecessarySimpa false
/- The functions of the translation as programs of the machine V. Written by gen.py out of the loaded functions. -/
namespace Go.Vm
set_option maxRecDepth 100000
theorem t105 : trF Go.Proofs.Tryz.prog Go.Proofs.Tryz.f105 c105 = true := by decide +kernel
theorem t118 : trF Go.Proofs.Tryz.prog Go.Proofs.Tryz.f118 c118 = true := by decide +kernel
theorem t119 : trF Go.Proofs.Tryz.prog Go.Proofs.Tryz.f119 c119 = true := by decide +kernel
theorem t120 : trF Go.Proofs.Tryz.prog Go.Proofs.Tryz.f120 c120 = true := by decide +kernel
theorem t121 : trF Go.Proofs.Tryz.prog Go.Proofs.Tryz.f121 c121 = true := by decide +kernel
theorem t122 : trF Go.Proofs.Tryz.prog Go.Proofs.Tryz.f122 c122 = true := by decide +kernel
theorem t124 : trF Go.Proofs.Tryz.prog Go.Proofs.Tryz.f124 c124 = true := by decide +kernel
theorem t125 : trF Go.Proofs.Tryz.prog Go.Proofs.Tryz.f125 c125 = true := by decide +kernel
theorem t126 : trF Go.Proofs.Tryz.prog Go.Proofs.Tryz.f126 c126 = true := by decide +kernel
theorem t130 : trF Go.Proofs.Tryz.prog Go.Proofs.Tryz.f130 c130 = true := by decide +kernel
theorem t131 : trF Go.Proofs.Tryz.prog Go.Proofs.Tryz.f131 c131 = true := by decide +kernel
theorem t132 : trF Go.Proofs.Tryz.prog Go.Proofs.Tryz.f132 c132 = true := by decide +kernel
theorem t133 : trF Go.Proofs.Tryz.prog Go.Proofs.Tryz.f133 c133 = true := by decide +kernel
theorem t140 : trF Go.Proofs.Tryz.prog Go.Proofs.Tryz.f140 c140 = true := by decide +kernel
theorem t141 : trF Go.Proofs.Tryz.prog Go.Proofs.Tryz.f141 c141 = true := by decide +kernel
theorem t142 : trF Go.Proofs.Tryz.prog Go.Proofs.Tryz.f142 c142 = true := by decide +kernel
theorem t146 : trF Go.Proofs.Tryz.prog Go.Proofs.Tryz.f146 c146 = true := by decide +kernel
theorem t148 : trF Go.Proofs.Tryz.prog Go.Proofs.Tryz.f148 c148 = true := by decide +kernel
theorem t149 : trF Go.Proofs.Tryz.prog Go.Proofs.Tryz.f149 c149 = true := by decide +kernel
theorem t151 : trF Go.Proofs.Tryz.prog Go.Proofs.Tryz.f151 c151 = true := by decide +kernel
theorem t152 : trF Go.Proofs.Tryz.prog Go.Proofs.Tryz.f152 c152 = true := by decide +kernel
theorem t153 : trF Go.Proofs.Tryz.prog Go.Proofs.Tryz.f153 c153 = true := by decide +kernel
theorem t154 : trF Go.Proofs.Tryz.prog Go.Proofs.Tryz.f154 c154 = true := by decide +kernel
theorem t155 : trF Go.Proofs.Tryz.prog Go.Proofs.Tryz.f155 c155 = true := by decide +kernel
theorem t156 : trF Go.Proofs.Tryz.prog Go.Proofs.Tryz.f156 c156 = true := by decide +kernel
theorem t157 : trF Go.Proofs.Tryz.prog Go.Proofs.Tryz.f157 c157 = true := by decide +kernel
theorem t158 : trF Go.Proofs.Tryz.prog Go.Proofs.Tryz.f158 c158 = true := by decide +kernel
theorem t159 : trF Go.Proofs.Tryz.prog Go.Proofs.Tryz.f159 c159 = true := by decide +kernel
theorem t160 : trF Go.Proofs.Tryz.prog Go.Proofs.Tryz.f160 c160 = true := by decide +kernel
theorem t162 : trF Go.Proofs.Tryz.prog Go.Proofs.Tryz.f162 c162 = true := by decide +kernel
theorem t165 : trF Go.Proofs.Tryz.prog Go.Proofs.Tryz.f165 c165 = true := by decide +kernel
theorem t166 : trF Go.Proofs.Tryz.prog Go.Proofs.Tryz.f166 c166 = true := by decide +kernel
theorem t167 : trF Go.Proofs.Tryz.prog Go.Proofs.Tryz.f167 c167 = true := by decide +kernel
theorem t170 : trF Go.Proofs.Tryz.prog Go.Proofs.Tryz.f170 c170 = true := by decide +kernel
theorem t184 : trF Go.Proofs.Tryz.prog Go.Proofs.Tryz.f184 c184 = true := by decide +kernel
theorem t186 : trF Go.Proofs.Tryz.prog Go.Proofs.Tryz.f186 c186 = true := by decide +kernel
theorem t187 : trF Go.Proofs.Tryz.prog Go.Proofs.Tryz.f187 c187 = true := by decide +kernel
theorem t188 : trF Go.Proofs.Tryz.prog Go.Proofs.Tryz.f188 c188 = true := by decide +kernel
theorem t189 : trF Go.Proofs.Tryz.prog Go.Proofs.Tryz.f189 c189 = true := by decide +kernel
theorem t190 : trF Go.Proofs.Tryz.prog Go.Proofs.Tryz.f190 c190 = true := by decide +kernel
theorem t191 : trF Go.Proofs.Tryz.prog Go.Proofs.Tryz.f191 c191 = true := by decide +kernel
theorem t192 : trF Go.Proofs.Tryz.prog Go.Proofs.Tryz.f192 c192 = true := by decide +kernel
theorem t193 : trF Go.Proofs.Tryz.prog Go.Proofs.Tryz.f193 c193 = true := by decide +kernel
end Go.Vm
