/-
  A part of a proof: the last text of the claim says what is proved, and under which conditions.
-/
import Derived.Test.YtbhlbpeilmihcaaGreatDoorProg
import Derived.Test.YtbhlbpeilmihcaaGreatDoorM1
import Derived.Test.YtbhlbpeilmihcaaGreatDoorM2
import Derived.Test.YtbhlbpeilmihcaaGreatDoorM3
set_option linter.unusedSimpArgs false
set_option linter.unusedVariables false
set_option linter.unnecessarySimpa false
/- The functions of the translation as programs of the machine V. Written by gen.py out of the loaded functions. -/
namespace Go.Vm
set_option maxRecDepth 100000
theorem t102 : trF Go.Proofs.Tryz.prog Go.Proofs.Tryz.f102 c102 = true := by decide +kernel
theorem t103 : trF Go.Proofs.Tryz.prog Go.Proofs.Tryz.f103 c103 = true := by decide +kernel
theorem t104 : trF Go.Proofs.Tryz.prog Go.Proofs.Tryz.f104 c104 = true := by decide +kernel
theorem t105 : trF Go.Proofs.Tryz.prog Go.Proofs.Tryz.f105 c105 = true := by decide +kernel
theorem t106 : trF Go.Proofs.Tryz.prog Go.Proofs.Tryz.f106 c106 = true := by decide +kernel
theorem t107 : trF Go.Proofs.Tryz.prog Go.Proofs.Tryz.f107 c107 = true := by decide +kernel
theorem t108 : trF Go.Proofs.Tryz.prog Go.Proofs.Tryz.f108 c108 = true := by decide +kernel
theorem t109 : trF Go.Proofs.Tryz.prog Go.Proofs.Tryz.f109 c109 = true := by decide +kernel
theorem t110 : trF Go.Proofs.Tryz.prog Go.Proofs.Tryz.f110 c110 = true := by decide +kernel
theorem t111 : trF Go.Proofs.Tryz.prog Go.Proofs.Tryz.f111 c111 = true := by decide +kernel
theorem t112 : trF Go.Proofs.Tryz.prog Go.Proofs.Tryz.f112 c112 = true := by decide +kernel
theorem t113 : trF Go.Proofs.Tryz.prog Go.Proofs.Tryz.f113 c113 = true := by decide +kernel
theorem t114 : trF Go.Proofs.Tryz.prog Go.Proofs.Tryz.f114 c114 = true := by decide +kernel
theorem t115 : trF Go.Proofs.Tryz.prog Go.Proofs.Tryz.f115 c115 = true := by decide +kernel
theorem t116 : trF Go.Proofs.Tryz.prog Go.Proofs.Tryz.f116 c116 = true := by decide +kernel
theorem t117 : trF Go.Proofs.Tryz.prog Go.Proofs.Tryz.f117 c117 = true := by decide +kernel
theorem t119 : trF Go.Proofs.Tryz.prog Go.Proofs.Tryz.f119 c119 = true := by decide +kernel
theorem t120 : trF Go.Proofs.Tryz.prog Go.Proofs.Tryz.f120 c120 = true := by decide +kernel
theorem t122 : trF Go.Proofs.Tryz.prog Go.Proofs.Tryz.f122 c122 = true := by decide +kernel
theorem t123 : trF Go.Proofs.Tryz.prog Go.Proofs.Tryz.f123 c123 = true := by decide +kernel
theorem t124 : trF Go.Proofs.Tryz.prog Go.Proofs.Tryz.f124 c124 = true := by decide +kernel
theorem t125 : trF Go.Proofs.Tryz.prog Go.Proofs.Tryz.f125 c125 = true := by decide +kernel
theorem t126 : trF Go.Proofs.Tryz.prog Go.Proofs.Tryz.f126 c126 = true := by decide +kernel
theorem t127 : trF Go.Proofs.Tryz.prog Go.Proofs.Tryz.f127 c127 = true := by decide +kernel
theorem t128 : trF Go.Proofs.Tryz.prog Go.Proofs.Tryz.f128 c128 = true := by decide +kernel
theorem t129 : trF Go.Proofs.Tryz.prog Go.Proofs.Tryz.f129 c129 = true := by decide +kernel
theorem t130 : trF Go.Proofs.Tryz.prog Go.Proofs.Tryz.f130 c130 = true := by decide +kernel
theorem t131 : trF Go.Proofs.Tryz.prog Go.Proofs.Tryz.f131 c131 = true := by decide +kernel
theorem t132 : trF Go.Proofs.Tryz.prog Go.Proofs.Tryz.f132 c132 = true := by decide +kernel
theorem t133 : trF Go.Proofs.Tryz.prog Go.Proofs.Tryz.f133 c133 = true := by decide +kernel
theorem t134 : trF Go.Proofs.Tryz.prog Go.Proofs.Tryz.f134 c134 = true := by decide +kernel
theorem t135 : trF Go.Proofs.Tryz.prog Go.Proofs.Tryz.f135 c135 = true := by decide +kernel
theorem t136 : trF Go.Proofs.Tryz.prog Go.Proofs.Tryz.f136 c136 = true := by decide +kernel
theorem t137 : trF Go.Proofs.Tryz.prog Go.Proofs.Tryz.f137 c137 = true := by decide +kernel
theorem t138 : trF Go.Proofs.Tryz.prog Go.Proofs.Tryz.f138 c138 = true := by decide +kernel
theorem t139 : trF Go.Proofs.Tryz.prog Go.Proofs.Tryz.f139 c139 = true := by decide +kernel
theorem t140 : trF Go.Proofs.Tryz.prog Go.Proofs.Tryz.f140 c140 = true := by decide +kernel
theorem t141 : trF Go.Proofs.Tryz.prog Go.Proofs.Tryz.f141 c141 = true := by decide +kernel
theorem t142 : trF Go.Proofs.Tryz.prog Go.Proofs.Tryz.f142 c142 = true := by decide +kernel
theorem t144 : trF Go.Proofs.Tryz.prog Go.Proofs.Tryz.f144 c144 = true := by decide +kernel
theorem t145 : trF Go.Proofs.Tryz.prog Go.Proofs.Tryz.f145 c145 = true := by decide +kernel
theorem t146 : trF Go.Proofs.Tryz.prog Go.Proofs.Tryz.f146 c146 = true := by decide +kernel
theorem t147 : trF Go.Proofs.Tryz.prog Go.Proofs.Tryz.f147 c147 = true := by decide +kernel
theorem t148 : trF Go.Proofs.Tryz.prog Go.Proofs.Tryz.f148 c148 = true := by decide +kernel
theorem t149 : trF Go.Proofs.Tryz.prog Go.Proofs.Tryz.f149 c149 = true := by decide +kernel
theorem t150 : trF Go.Proofs.Tryz.prog Go.Proofs.Tryz.f150 c150 = true := by decide +kernel
theorem t151 : trF Go.Proofs.Tryz.prog Go.Proofs.Tryz.f151 c151 = true := by decide +kernel
theorem t152 : trF Go.Proofs.Tryz.prog Go.Proofs.Tryz.f152 c152 = true := by decide +kernel
theorem t153 : trF Go.Proofs.Tryz.prog Go.Proofs.Tryz.f153 c153 = true := by decide +kernel
end Go.Vm
