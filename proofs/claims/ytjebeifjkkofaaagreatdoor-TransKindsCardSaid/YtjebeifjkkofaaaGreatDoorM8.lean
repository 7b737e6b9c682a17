/-
  A part of a proof: the last text of the claim says what is proved, and under which conditions.
-/
import Derived.Test.YtjebeifjkkofaaaGreatDoorProg
import Derived.Test.YtjebeifjkkofaaaGreatDoorM1
import Derived.Test.YtjebeifjkkofaaaGreatDoorM2
import Derived.Test.YtjebeifjkkofaaaGreatDoorM3
set_option linter.unusedSimpArgs false
set_option linter.unusedVariables false
set_option linter.unnecessarySimpa false
/- The functions of the translation as programs of the machine V. Written by gen.py out of the loaded functions. -/
namespace Go.Vm
set_option maxRecDepth 100000
theorem t77 : trF Go.Proofs.Tryz.prog Go.Proofs.Tryz.f77 c77 = true := by decide +kernel
theorem t78 : trF Go.Proofs.Tryz.prog Go.Proofs.Tryz.f78 c78 = true := by decide +kernel
theorem t79 : trF Go.Proofs.Tryz.prog Go.Proofs.Tryz.f79 c79 = true := by decide +kernel
theorem t80 : trF Go.Proofs.Tryz.prog Go.Proofs.Tryz.f80 c80 = true := by decide +kernel
theorem t81 : trF Go.Proofs.Tryz.prog Go.Proofs.Tryz.f81 c81 = true := by decide +kernel
theorem t82 : trF Go.Proofs.Tryz.prog Go.Proofs.Tryz.f82 c82 = true := by decide +kernel
theorem t84 : trF Go.Proofs.Tryz.prog Go.Proofs.Tryz.f84 c84 = true := by decide +kernel
theorem t85 : trF Go.Proofs.Tryz.prog Go.Proofs.Tryz.f85 c85 = true := by decide +kernel
theorem t86 : trF Go.Proofs.Tryz.prog Go.Proofs.Tryz.f86 c86 = true := by decide +kernel
theorem t87 : trF Go.Proofs.Tryz.prog Go.Proofs.Tryz.f87 c87 = true := by decide +kernel
theorem t88 : trF Go.Proofs.Tryz.prog Go.Proofs.Tryz.f88 c88 = true := by decide +kernel
theorem t89 : trF Go.Proofs.Tryz.prog Go.Proofs.Tryz.f89 c89 = true := by decide +kernel
theorem t90 : trF Go.Proofs.Tryz.prog Go.Proofs.Tryz.f90 c90 = true := by decide +kernel
theorem t91 : trF Go.Proofs.Tryz.prog Go.Proofs.Tryz.f91 c91 = true := by decide +kernel
theorem t92 : trF Go.Proofs.Tryz.prog Go.Proofs.Tryz.f92 c92 = true := by decide +kernel
theorem t93 : trF Go.Proofs.Tryz.prog Go.Proofs.Tryz.f93 c93 = true := by decide +kernel
theorem t94 : trF Go.Proofs.Tryz.prog Go.Proofs.Tryz.f94 c94 = true := by decide +kernel
theorem t95 : trF Go.Proofs.Tryz.prog Go.Proofs.Tryz.f95 c95 = true := by decide +kernel
theorem t96 : trF Go.Proofs.Tryz.prog Go.Proofs.Tryz.f96 c96 = true := by decide +kernel
theorem t97 : trF Go.Proofs.Tryz.prog Go.Proofs.Tryz.f97 c97 = true := by decide +kernel
theorem t98 : trF Go.Proofs.Tryz.prog Go.Proofs.Tryz.f98 c98 = true := by decide +kernel
theorem t99 : trF Go.Proofs.Tryz.prog Go.Proofs.Tryz.f99 c99 = true := by decide +kernel
theorem t100 : trF Go.Proofs.Tryz.prog Go.Proofs.Tryz.f100 c100 = true := by decide +kernel
theorem t101 : trF Go.Proofs.Tryz.prog Go.Proofs.Tryz.f101 c101 = true := by decide +kernel
theorem t102 : trF Go.Proofs.Tryz.prog Go.Proofs.Tryz.f102 c102 = true := by decide +kernel
theorem t103 : trF Go.Proofs.Tryz.prog Go.Proofs.Tryz.f103 c103 = true := by decide +kernel
theorem t104 : trF Go.Proofs.Tryz.prog Go.Proofs.Tryz.f104 c104 = true := by decide +kernel
theorem t105 : trF Go.Proofs.Tryz.prog Go.Proofs.Tryz.f105 c105 = true := by decide +kernel
theorem t106 : trF Go.Proofs.Tryz.prog Go.Proofs.Tryz.f106 c106 = true := by decide +kernel
theorem t108 : trF Go.Proofs.Tryz.prog Go.Proofs.Tryz.f108 c108 = true := by decide +kernel
theorem t109 : trF Go.Proofs.Tryz.prog Go.Proofs.Tryz.f109 c109 = true := by decide +kernel
theorem t110 : trF Go.Proofs.Tryz.prog Go.Proofs.Tryz.f110 c110 = true := by decide +kernel
theorem t111 : trF Go.Proofs.Tryz.prog Go.Proofs.Tryz.f111 c111 = true := by decide +kernel
theorem t113 : trF Go.Proofs.Tryz.prog Go.Proofs.Tryz.f113 c113 = true := by decide +kernel
theorem t114 : trF Go.Proofs.Tryz.prog Go.Proofs.Tryz.f114 c114 = true := by decide +kernel
theorem t115 : trF Go.Proofs.Tryz.prog Go.Proofs.Tryz.f115 c115 = true := by decide +kernel
theorem t116 : trF Go.Proofs.Tryz.prog Go.Proofs.Tryz.f116 c116 = true := by decide +kernel
theorem t117 : trF Go.Proofs.Tryz.prog Go.Proofs.Tryz.f117 c117 = true := by decide +kernel
theorem t118 : trF Go.Proofs.Tryz.prog Go.Proofs.Tryz.f118 c118 = true := by decide +kernel
theorem t119 : trF Go.Proofs.Tryz.prog Go.Proofs.Tryz.f119 c119 = true := by decide +kernel
theorem t122 : trF Go.Proofs.Tryz.prog Go.Proofs.Tryz.f122 c122 = true := by decide +kernel
theorem t123 : trF Go.Proofs.Tryz.prog Go.Proofs.Tryz.f123 c123 = true := by decide +kernel
theorem t124 : trF Go.Proofs.Tryz.prog Go.Proofs.Tryz.f124 c124 = true := by decide +kernel
theorem t125 : trF Go.Proofs.Tryz.prog Go.Proofs.Tryz.f125 c125 = true := by decide +kernel
theorem t126 : trF Go.Proofs.Tryz.prog Go.Proofs.Tryz.f126 c126 = true := by decide +kernel
theorem t127 : trF Go.Proofs.Tryz.prog Go.Proofs.Tryz.f127 c127 = true := by decide +kernel
theorem t128 : trF Go.Proofs.Tryz.prog Go.Proofs.Tryz.f128 c128 = true := by decide +kernel
theorem t129 : trF Go.Proofs.Tryz.prog Go.Proofs.Tryz.f129 c129 = true := by decide +kernel
theorem t130 : trF Go.Proofs.Tryz.prog Go.Proofs.Tryz.f130 c130 = true := by decide +kernel
theorem t131 : trF Go.Proofs.Tryz.prog Go.Proofs.Tryz.f131 c131 = true := by decide +kernel
theorem t132 : trF Go.Proofs.Tryz.prog Go.Proofs.Tryz.f132 c132 = true := by decide +kernel
theorem t133 : trF Go.Proofs.Tryz.prog Go.Proofs.Tryz.f133 c133 = true := by decide +kernel
theorem t134 : trF Go.Proofs.Tryz.prog Go.Proofs.Tryz.f134 c134 = true := by decide +kernel
theorem t135 : trF Go.Proofs.Tryz.prog Go.Proofs.Tryz.f135 c135 = true := by decide +kernel
theorem t136 : trF Go.Proofs.Tryz.prog Go.Proofs.Tryz.f136 c136 = true := by decide +kernel
theorem t137 : trF Go.Proofs.Tryz.prog Go.Proofs.Tryz.f137 c137 = true := by decide +kernel
theorem t138 : trF Go.Proofs.Tryz.prog Go.Proofs.Tryz.f138 c138 = true := by decide +kernel
theorem t139 : trF Go.Proofs.Tryz.prog Go.Proofs.Tryz.f139 c139 = true := by decide +kernel
theorem t140 : trF Go.Proofs.Tryz.prog Go.Proofs.Tryz.f140 c140 = true := by decide +kernel
theorem t141 : trF Go.Proofs.Tryz.prog Go.Proofs.Tryz.f141 c141 = true := by decide +kernel
theorem t143 : trF Go.Proofs.Tryz.prog Go.Proofs.Tryz.f143 c143 = true := by decide +kernel
theorem t144 : trF Go.Proofs.Tryz.prog Go.Proofs.Tryz.f144 c144 = true := by decide +kernel
theorem t145 : trF Go.Proofs.Tryz.prog Go.Proofs.Tryz.f145 c145 = true := by decide +kernel
theorem t146 : trF Go.Proofs.Tryz.prog Go.Proofs.Tryz.f146 c146 = true := by decide +kernel
theorem t147 : trF Go.Proofs.Tryz.prog Go.Proofs.Tryz.f147 c147 = true := by decide +kernel
theorem t148 : trF Go.Proofs.Tryz.prog Go.Proofs.Tryz.f148 c148 = true := by decide +kernel
theorem t149 : trF Go.Proofs.Tryz.prog Go.Proofs.Tryz.f149 c149 = true := by decide +kernel
end Go.Vm
