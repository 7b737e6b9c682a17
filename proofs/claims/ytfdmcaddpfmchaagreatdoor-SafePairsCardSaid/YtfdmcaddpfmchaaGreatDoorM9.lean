/-
  A part of a proof: the last text of the claim says what is proved, and under which conditions.
-/
import Derived.Test.YtfdmcaddpfmchaaGreatDoorProg
import Derived.Test.YtfdmcaddpfmchaaGreatDoorM1
import Derived.Test.YtfdmcaddpfmchaaGreatDoorM2
import Derived.Test.YtfdmcaddpfmchaaGreatDoorM3
set_option linter.unusedSimpArgs false
set_option linter.unusedVariables false
set_option linter.unnecessarySimpa false
/- The functions of the translation as programs of the machine V. Written by gen.py out of the loaded functions. -/
namespace Go.Vm
set_option maxRecDepth 100000
theorem t4 : trF Go.Proofs.Tryz.prog Go.Proofs.Tryz.f4 c4 = true := by decide +kernel
theorem t6 : trF Go.Proofs.Tryz.prog Go.Proofs.Tryz.f6 c6 = true := by decide +kernel
theorem t13 : trF Go.Proofs.Tryz.prog Go.Proofs.Tryz.f13 c13 = true := by decide +kernel
theorem t16 : trF Go.Proofs.Tryz.prog Go.Proofs.Tryz.f16 c16 = true := by decide +kernel
theorem t18 : trF Go.Proofs.Tryz.prog Go.Proofs.Tryz.f18 c18 = true := by decide +kernel
theorem t21 : trF Go.Proofs.Tryz.prog Go.Proofs.Tryz.f21 c21 = true := by decide +kernel
theorem t23 : trF Go.Proofs.Tryz.prog Go.Proofs.Tryz.f23 c23 = true := by decide +kernel
theorem t24 : trF Go.Proofs.Tryz.prog Go.Proofs.Tryz.f24 c24 = true := by decide +kernel
theorem t25 : trF Go.Proofs.Tryz.prog Go.Proofs.Tryz.f25 c25 = true := by decide +kernel
theorem t26 : trF Go.Proofs.Tryz.prog Go.Proofs.Tryz.f26 c26 = true := by decide +kernel
theorem t27 : trF Go.Proofs.Tryz.prog Go.Proofs.Tryz.f27 c27 = true := by decide +kernel
theorem t28 : trF Go.Proofs.Tryz.prog Go.Proofs.Tryz.f28 c28 = true := by decide +kernel
theorem t32 : trF Go.Proofs.Tryz.prog Go.Proofs.Tryz.f32 c32 = true := by decide +kernel
theorem t35 : trF Go.Proofs.Tryz.prog Go.Proofs.Tryz.f35 c35 = true := by decide +kernel
theorem t36 : trF Go.Proofs.Tryz.prog Go.Proofs.Tryz.f36 c36 = true := by decide +kernel
theorem t37 : trF Go.Proofs.Tryz.prog Go.Proofs.Tryz.f37 c37 = true := by decide +kernel
theorem t38 : trF Go.Proofs.Tryz.prog Go.Proofs.Tryz.f38 c38 = true := by decide +kernel
theorem t39 : trF Go.Proofs.Tryz.prog Go.Proofs.Tryz.f39 c39 = true := by decide +kernel
theorem t40 : trF Go.Proofs.Tryz.prog Go.Proofs.Tryz.f40 c40 = true := by decide +kernel
theorem t43 : trF Go.Proofs.Tryz.prog Go.Proofs.Tryz.f43 c43 = true := by decide +kernel
theorem t48 : trF Go.Proofs.Tryz.prog Go.Proofs.Tryz.f48 c48 = true := by decide +kernel
theorem t61 : trF Go.Proofs.Tryz.prog Go.Proofs.Tryz.f61 c61 = true := by decide +kernel
theorem t63 : trF Go.Proofs.Tryz.prog Go.Proofs.Tryz.f63 c63 = true := by decide +kernel
theorem t64 : trF Go.Proofs.Tryz.prog Go.Proofs.Tryz.f64 c64 = true := by decide +kernel
theorem t65 : trF Go.Proofs.Tryz.prog Go.Proofs.Tryz.f65 c65 = true := by decide +kernel
theorem t66 : trF Go.Proofs.Tryz.prog Go.Proofs.Tryz.f66 c66 = true := by decide +kernel
theorem t68 : trF Go.Proofs.Tryz.prog Go.Proofs.Tryz.f68 c68 = true := by decide +kernel
theorem t73 : trF Go.Proofs.Tryz.prog Go.Proofs.Tryz.f73 c73 = true := by decide +kernel
theorem t74 : trF Go.Proofs.Tryz.prog Go.Proofs.Tryz.f74 c74 = true := by decide +kernel
theorem t75 : trF Go.Proofs.Tryz.prog Go.Proofs.Tryz.f75 c75 = true := by decide +kernel
theorem t79 : trF Go.Proofs.Tryz.prog Go.Proofs.Tryz.f79 c79 = true := by decide +kernel
theorem t80 : trF Go.Proofs.Tryz.prog Go.Proofs.Tryz.f80 c80 = true := by decide +kernel
theorem t81 : trF Go.Proofs.Tryz.prog Go.Proofs.Tryz.f81 c81 = true := by decide +kernel
theorem t82 : trF Go.Proofs.Tryz.prog Go.Proofs.Tryz.f82 c82 = true := by decide +kernel
theorem t83 : trF Go.Proofs.Tryz.prog Go.Proofs.Tryz.f83 c83 = true := by decide +kernel
theorem t84 : trF Go.Proofs.Tryz.prog Go.Proofs.Tryz.f84 c84 = true := by decide +kernel
theorem t87 : trF Go.Proofs.Tryz.prog Go.Proofs.Tryz.f87 c87 = true := by decide +kernel
theorem t93 : trF Go.Proofs.Tryz.prog Go.Proofs.Tryz.f93 c93 = true := by decide +kernel
theorem t94 : trF Go.Proofs.Tryz.prog Go.Proofs.Tryz.f94 c94 = true := by decide +kernel
theorem t96 : trF Go.Proofs.Tryz.prog Go.Proofs.Tryz.f96 c96 = true := by decide +kernel
theorem t99 : trF Go.Proofs.Tryz.prog Go.Proofs.Tryz.f99 c99 = true := by decide +kernel
theorem t103 : trF Go.Proofs.Tryz.prog Go.Proofs.Tryz.f103 c103 = true := by decide +kernel
theorem t104 : trF Go.Proofs.Tryz.prog Go.Proofs.Tryz.f104 c104 = true := by decide +kernel
end Go.Vm
