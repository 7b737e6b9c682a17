/-
  A part of a proof: the last text of the claim says what is proved, and under which conditions.
-/
import Derived.Test.YtfdmcaddpfmchaaGreatDoorProg
import Derived.Test.YtfdmcaddpfmchaaGreatDoorM1
import Derived.Test.YtfdmcaddpfmchaaGreatDoorM2
import Derived.Test.YtfdmcaddpfmchaaGreatDoorM3
set_option linter.unusedSimpArgs false
set_option linter.unusedVariables false
set_option linter.unnecessarySimpa false
/- The functions of the translation as programs of the machine V. Written by gen.py out of the loaded functions. -/
namespace Go.Vm
set_option maxRecDepth 100000
theorem t11:trF Go.Proofs.Tryz.prog Go.Proofs.Tryz.f11 c11=true:=by decide +kernel
theorem t12:trF Go.Proofs.Tryz.prog Go.Proofs.Tryz.f12 c12=true:=by decide +kernel
theorem t13:trF Go.Proofs.Tryz.prog Go.Proofs.Tryz.f13 c13=true:=by decide +kernel
theorem t14:trF Go.Proofs.Tryz.prog Go.Proofs.Tryz.f14 c14=true:=by decide +kernel
theorem t16:trF Go.Proofs.Tryz.prog Go.Proofs.Tryz.f16 c16=true:=by decide +kernel
theorem t18:trF Go.Proofs.Tryz.prog Go.Proofs.Tryz.f18 c18=true:=by decide +kernel
theorem t21:trF Go.Proofs.Tryz.prog Go.Proofs.Tryz.f21 c21=true:=by decide +kernel
theorem t35:trF Go.Proofs.Tryz.prog Go.Proofs.Tryz.f35 c35=true:=by decide +kernel
theorem t38:trF Go.Proofs.Tryz.prog Go.Proofs.Tryz.f38 c38=true:=by decide +kernel
theorem t41:trF Go.Proofs.Tryz.prog Go.Proofs.Tryz.f41 c41=true:=by decide +kernel
theorem t42:trF Go.Proofs.Tryz.prog Go.Proofs.Tryz.f42 c42=true:=by decide +kernel
theorem t43:trF Go.Proofs.Tryz.prog Go.Proofs.Tryz.f43 c43=true:=by decide +kernel
theorem t48:trF Go.Proofs.Tryz.prog Go.Proofs.Tryz.f48 c48=true:=by decide +kernel
theorem t49:trF Go.Proofs.Tryz.prog Go.Proofs.Tryz.f49 c49=true:=by decide +kernel
theorem t50:trF Go.Proofs.Tryz.prog Go.Proofs.Tryz.f50 c50=true:=by decide +kernel
theorem t51:trF Go.Proofs.Tryz.prog Go.Proofs.Tryz.f51 c51=true:=by decide +kernel
theorem t52:trF Go.Proofs.Tryz.prog Go.Proofs.Tryz.f52 c52=true:=by decide +kernel
theorem t53:trF Go.Proofs.Tryz.prog Go.Proofs.Tryz.f53 c53=true:=by decide +kernel
theorem t54:trF Go.Proofs.Tryz.prog Go.Proofs.Tryz.f54 c54=true:=by decide +kernel
theorem t55:trF Go.Proofs.Tryz.prog Go.Proofs.Tryz.f55 c55=true:=by decide +kernel
theorem t56:trF Go.Proofs.Tryz.prog Go.Proofs.Tryz.f56 c56=true:=by decide +kernel
theorem t57:trF Go.Proofs.Tryz.prog Go.Proofs.Tryz.f57 c57=true:=by decide +kernel
theorem t58:trF Go.Proofs.Tryz.prog Go.Proofs.Tryz.f58 c58=true:=by decide +kernel
theorem t59:trF Go.Proofs.Tryz.prog Go.Proofs.Tryz.f59 c59=true:=by decide +kernel
theorem t61:trF Go.Proofs.Tryz.prog Go.Proofs.Tryz.f61 c61=true:=by decide +kernel
theorem t62:trF Go.Proofs.Tryz.prog Go.Proofs.Tryz.f62 c62=true:=by decide +kernel
theorem t63:trF Go.Proofs.Tryz.prog Go.Proofs.Tryz.f63 c63=true:=by decide +kernel
theorem t64:trF Go.Proofs.Tryz.prog Go.Proofs.Tryz.f64 c64=true:=by decide +kernel
theorem t65:trF Go.Proofs.Tryz.prog Go.Proofs.Tryz.f65 c65=true:=by decide +kernel
theorem t66:trF Go.Proofs.Tryz.prog Go.Proofs.Tryz.f66 c66=true:=by decide +kernel
theorem t68:trF Go.Proofs.Tryz.prog Go.Proofs.Tryz.f68 c68=true:=by decide +kernel
theorem t73:trF Go.Proofs.Tryz.prog Go.Proofs.Tryz.f73 c73=true:=by decide +kernel
theorem t74:trF Go.Proofs.Tryz.prog Go.Proofs.Tryz.f74 c74=true:=by decide +kernel
theorem t75:trF Go.Proofs.Tryz.prog Go.Proofs.Tryz.f75 c75=true:=by decide +kernel
theorem t83:trF Go.Proofs.Tryz.prog Go.Proofs.Tryz.f83 c83=true:=by decide +kernel
theorem t93:trF Go.Proofs.Tryz.prog Go.Proofs.Tryz.f93 c93=true:=by decide +kernel
theorem t94:trF Go.Proofs.Tryz.prog Go.Proofs.Tryz.f94 c94=true:=by decide +kernel
theorem t95:trF Go.Proofs.Tryz.prog Go.Proofs.Tryz.f95 c95=true:=by decide +kernel
theorem t97:trF Go.Proofs.Tryz.prog Go.Proofs.Tryz.f97 c97=true:=by decide +kernel
theorem t98:trF Go.Proofs.Tryz.prog Go.Proofs.Tryz.f98 c98=true:=by decide +kernel
theorem t99:trF Go.Proofs.Tryz.prog Go.Proofs.Tryz.f99 c99=true:=by decide +kernel
theorem t103:trF Go.Proofs.Tryz.prog Go.Proofs.Tryz.f103 c103=true:=by decide +kernel
theorem t104:trF Go.Proofs.Tryz.prog Go.Proofs.Tryz.f104 c104=true:=by decide +kernel
theorem t105:trF Go.Proofs.Tryz.prog Go.Proofs.Tryz.f105 c105=true:=by decide +kernel
theorem t106:trF Go.Proofs.Tryz.prog Go.Proofs.Tryz.f106 c106=true:=by decide +kernel
theorem t107:trF Go.Proofs.Tryz.prog Go.Proofs.Tryz.f107 c107=true:=by decide +kernel
theorem t109:trF Go.Proofs.Tryz.prog Go.Proofs.Tryz.f109 c109=true:=by decide +kernel
theorem t110:trF Go.Proofs.Tryz.prog Go.Proofs.Tryz.f110 c110=true:=by decide +kernel
theorem t111:trF Go.Proofs.Tryz.prog Go.Proofs.Tryz.f111 c111=true:=by decide +kernel
theorem t112:trF Go.Proofs.Tryz.prog Go.Proofs.Tryz.f112 c112=true:=by decide +kernel
theorem t113:trF Go.Proofs.Tryz.prog Go.Proofs.Tryz.f113 c113=true:=by decide +kernel
theorem t114:trF Go.Proofs.Tryz.prog Go.Proofs.Tryz.f114 c114=true:=by decide +kernel
theorem t115:trF Go.Proofs.Tryz.prog Go.Proofs.Tryz.f115 c115=true:=by decide +kernel
theorem t116:trF Go.Proofs.Tryz.prog Go.Proofs.Tryz.f116 c116=true:=by decide +kernel
theorem t117:trF Go.Proofs.Tryz.prog Go.Proofs.Tryz.f117 c117=true:=by decide +kernel
theorem t118:trF Go.Proofs.Tryz.prog Go.Proofs.Tryz.f118 c118=true:=by decide +kernel
theorem t119:trF Go.Proofs.Tryz.prog Go.Proofs.Tryz.f119 c119=true:=by decide +kernel
theorem t120:trF Go.Proofs.Tryz.prog Go.Proofs.Tryz.f120 c120=true:=by decide +kernel
theorem t121:trF Go.Proofs.Tryz.prog Go.Proofs.Tryz.f121 c121=true:=by decide +kernel
theorem t122:trF Go.Proofs.Tryz.prog Go.Proofs.Tryz.f122 c122=true:=by decide +kernel
end Go.Vm
