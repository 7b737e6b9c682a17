/-
  A part of a proof: the last text of the claim says what is proved, and under which conditions.
-/
import Derived.Test.YtfdmcaddpfmchaaGreatDoorProg
import Derived.Test.YtfdmcaddpfmchaaGreatDoorM1
import Derived.Test.YtfdmcaddpfmchaaGreatDoorM2
import Derived.Test.YtfdmcaddpfmchaaGreatDoorM3
set_option linter.unusedSimpArgs false
set_option linter.unusedVariables false
set_option linter.unnecessarySimpa false
/- The functions of the translation as programs of the machine V. Written by gen.py out of the loaded functions. -/
namespace Go.Vm
set_option maxRecDepth 100000
theorem t123:trF Go.Proofs.Tryz.prog Go.Proofs.Tryz.f123 c123=true:=by decide +kernel
theorem t124:trF Go.Proofs.Tryz.prog Go.Proofs.Tryz.f124 c124=true:=by decide +kernel
theorem t125:trF Go.Proofs.Tryz.prog Go.Proofs.Tryz.f125 c125=true:=by decide +kernel
theorem t126:trF Go.Proofs.Tryz.prog Go.Proofs.Tryz.f126 c126=true:=by decide +kernel
theorem t130:trF Go.Proofs.Tryz.prog Go.Proofs.Tryz.f130 c130=true:=by decide +kernel
theorem t131:trF Go.Proofs.Tryz.prog Go.Proofs.Tryz.f131 c131=true:=by decide +kernel
theorem t132:trF Go.Proofs.Tryz.prog Go.Proofs.Tryz.f132 c132=true:=by decide +kernel
theorem t133:trF Go.Proofs.Tryz.prog Go.Proofs.Tryz.f133 c133=true:=by decide +kernel
theorem t140:trF Go.Proofs.Tryz.prog Go.Proofs.Tryz.f140 c140=true:=by decide +kernel
theorem t141:trF Go.Proofs.Tryz.prog Go.Proofs.Tryz.f141 c141=true:=by decide +kernel
theorem t142:trF Go.Proofs.Tryz.prog Go.Proofs.Tryz.f142 c142=true:=by decide +kernel
theorem t146:trF Go.Proofs.Tryz.prog Go.Proofs.Tryz.f146 c146=true:=by decide +kernel
theorem t153:trF Go.Proofs.Tryz.prog Go.Proofs.Tryz.f153 c153=true:=by decide +kernel
theorem t154:trF Go.Proofs.Tryz.prog Go.Proofs.Tryz.f154 c154=true:=by decide +kernel
theorem t155:trF Go.Proofs.Tryz.prog Go.Proofs.Tryz.f155 c155=true:=by decide +kernel
theorem t156:trF Go.Proofs.Tryz.prog Go.Proofs.Tryz.f156 c156=true:=by decide +kernel
theorem t157:trF Go.Proofs.Tryz.prog Go.Proofs.Tryz.f157 c157=true:=by decide +kernel
theorem t158:trF Go.Proofs.Tryz.prog Go.Proofs.Tryz.f158 c158=true:=by decide +kernel
theorem t159:trF Go.Proofs.Tryz.prog Go.Proofs.Tryz.f159 c159=true:=by decide +kernel
theorem t160:trF Go.Proofs.Tryz.prog Go.Proofs.Tryz.f160 c160=true:=by decide +kernel
theorem t161:trF Go.Proofs.Tryz.prog Go.Proofs.Tryz.f161 c161=true:=by decide +kernel
theorem t162:trF Go.Proofs.Tryz.prog Go.Proofs.Tryz.f162 c162=true:=by decide +kernel
theorem t165:trF Go.Proofs.Tryz.prog Go.Proofs.Tryz.f165 c165=true:=by decide +kernel
theorem t166:trF Go.Proofs.Tryz.prog Go.Proofs.Tryz.f166 c166=true:=by decide +kernel
theorem t167:trF Go.Proofs.Tryz.prog Go.Proofs.Tryz.f167 c167=true:=by decide +kernel
theorem t168:trF Go.Proofs.Tryz.prog Go.Proofs.Tryz.f168 c168=true:=by decide +kernel
theorem t169:trF Go.Proofs.Tryz.prog Go.Proofs.Tryz.f169 c169=true:=by decide +kernel
theorem t170:trF Go.Proofs.Tryz.prog Go.Proofs.Tryz.f170 c170=true:=by decide +kernel
theorem t171:trF Go.Proofs.Tryz.prog Go.Proofs.Tryz.f171 c171=true:=by decide +kernel
theorem t172:trF Go.Proofs.Tryz.prog Go.Proofs.Tryz.f172 c172=true:=by decide +kernel
theorem t173:trF Go.Proofs.Tryz.prog Go.Proofs.Tryz.f173 c173=true:=by decide +kernel
theorem t174:trF Go.Proofs.Tryz.prog Go.Proofs.Tryz.f174 c174=true:=by decide +kernel
theorem t175:trF Go.Proofs.Tryz.prog Go.Proofs.Tryz.f175 c175=true:=by decide +kernel
theorem t176:trF Go.Proofs.Tryz.prog Go.Proofs.Tryz.f176 c176=true:=by decide +kernel
theorem t178:trF Go.Proofs.Tryz.prog Go.Proofs.Tryz.f178 c178=true:=by decide +kernel
theorem t179:trF Go.Proofs.Tryz.prog Go.Proofs.Tryz.f179 c179=true:=by decide +kernel
theorem t180:trF Go.Proofs.Tryz.prog Go.Proofs.Tryz.f180 c180=true:=by decide +kernel
theorem t181:trF Go.Proofs.Tryz.prog Go.Proofs.Tryz.f181 c181=true:=by decide +kernel
theorem t182:trF Go.Proofs.Tryz.prog Go.Proofs.Tryz.f182 c182=true:=by decide +kernel
theorem t183:trF Go.Proofs.Tryz.prog Go.Proofs.Tryz.f183 c183=true:=by decide +kernel
theorem t184:trF Go.Proofs.Tryz.prog Go.Proofs.Tryz.f184 c184=true:=by decide +kernel
theorem t185:trF Go.Proofs.Tryz.prog Go.Proofs.Tryz.f185 c185=true:=by decide +kernel
theorem t186:trF Go.Proofs.Tryz.prog Go.Proofs.Tryz.f186 c186=true:=by decide +kernel
theorem t187:trF Go.Proofs.Tryz.prog Go.Proofs.Tryz.f187 c187=true:=by decide +kernel
theorem t188:trF Go.Proofs.Tryz.prog Go.Proofs.Tryz.f188 c188=true:=by decide +kernel
theorem t189:trF Go.Proofs.Tryz.prog Go.Proofs.Tryz.f189 c189=true:=by decide +kernel
theorem t190:trF Go.Proofs.Tryz.prog Go.Proofs.Tryz.f190 c190=true:=by decide +kernel
theorem t191:trF Go.Proofs.Tryz.prog Go.Proofs.Tryz.f191 c191=true:=by decide +kernel
theorem t192:trF Go.Proofs.Tryz.prog Go.Proofs.Tryz.f192 c192=true:=by decide +kernel
theorem t193:trF Go.Proofs.Tryz.prog Go.Proofs.Tryz.f193 c193=true:=by decide +kernel
theorem t194:trF Go.Proofs.Tryz.prog Go.Proofs.Tryz.f194 c194=true:=by decide +kernel
theorem t195:trF Go.Proofs.Tryz.prog Go.Proofs.Tryz.f195 c195=true:=by decide +kernel
theorem t196:trF Go.Proofs.Tryz.prog Go.Proofs.Tryz.f196 c196=true:=by decide +kernel
theorem t197:trF Go.Proofs.Tryz.prog Go.Proofs.Tryz.f197 c197=true:=by decide +kernel
theorem t198:trF Go.Proofs.Tryz.prog Go.Proofs.Tryz.f198 c198=true:=by decide +kernel
theorem t199:trF Go.Proofs.Tryz.prog Go.Proofs.Tryz.f199 c199=true:=by decide +kernel
theorem t200:trF Go.Proofs.Tryz.prog Go.Proofs.Tryz.f200 c200=true:=by decide +kernel
theorem t201:trF Go.Proofs.Tryz.prog Go.Proofs.Tryz.f201 c201=true:=by decide +kernel
theorem t202:trF Go.Proofs.Tryz.prog Go.Proofs.Tryz.f202 c202=true:=by decide +kernel
theorem t203:trF Go.Proofs.Tryz.prog Go.Proofs.Tryz.f203 c203=true:=by decide +kernel
end Go.Vm
