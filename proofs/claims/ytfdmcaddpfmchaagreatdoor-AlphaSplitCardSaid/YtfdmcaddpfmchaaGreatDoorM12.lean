/-
  A part of a proof: the last text of the claim says what is proved, and under which conditions.
-/
import Derived.Test.YtfdmcaddpfmchaaGreatDoorProg
import Derived.Test.YtfdmcaddpfmchaaGreatDoorM1
import Derived.Test.YtfdmcaddpfmchaaGreatDoorM2
import Derived.Test.YtfdmcaddpfmchaaGreatDoorM3
set_option linter.unusedSimpArgs false
set_option linter.unusedVariables false
set_option linter.unnecessarySimpa false
/- The functions of the translation as programs of the machine V. Written by gen.py out of the loaded functions. -/
namespace Go.Vm
set_option maxRecDepth 100000
theorem t204:trF Go.Proofs.Tryz.prog Go.Proofs.Tryz.f204 c204=true:=by decide +kernel
theorem t209:trF Go.Proofs.Tryz.prog Go.Proofs.Tryz.f209 c209=true:=by decide +kernel
theorem t216:trF Go.Proofs.Tryz.prog Go.Proofs.Tryz.f216 c216=true:=by decide +kernel
theorem t217:trF Go.Proofs.Tryz.prog Go.Proofs.Tryz.f217 c217=true:=by decide +kernel
theorem t218:trF Go.Proofs.Tryz.prog Go.Proofs.Tryz.f218 c218=true:=by decide +kernel
theorem t219:trF Go.Proofs.Tryz.prog Go.Proofs.Tryz.f219 c219=true:=by decide +kernel
theorem t220:trF Go.Proofs.Tryz.prog Go.Proofs.Tryz.f220 c220=true:=by decide +kernel
theorem t221:trF Go.Proofs.Tryz.prog Go.Proofs.Tryz.f221 c221=true:=by decide +kernel
theorem t222:trF Go.Proofs.Tryz.prog Go.Proofs.Tryz.f222 c222=true:=by decide +kernel
theorem t223:trF Go.Proofs.Tryz.prog Go.Proofs.Tryz.f223 c223=true:=by decide +kernel
theorem t224:trF Go.Proofs.Tryz.prog Go.Proofs.Tryz.f224 c224=true:=by decide +kernel
theorem t225:trF Go.Proofs.Tryz.prog Go.Proofs.Tryz.f225 c225=true:=by decide +kernel
theorem t226:trF Go.Proofs.Tryz.prog Go.Proofs.Tryz.f226 c226=true:=by decide +kernel
theorem t227:trF Go.Proofs.Tryz.prog Go.Proofs.Tryz.f227 c227=true:=by decide +kernel
theorem t228:trF Go.Proofs.Tryz.prog Go.Proofs.Tryz.f228 c228=true:=by decide +kernel
theorem t229:trF Go.Proofs.Tryz.prog Go.Proofs.Tryz.f229 c229=true:=by decide +kernel
theorem t230:trF Go.Proofs.Tryz.prog Go.Proofs.Tryz.f230 c230=true:=by decide +kernel
theorem t231:trF Go.Proofs.Tryz.prog Go.Proofs.Tryz.f231 c231=true:=by decide +kernel
theorem t232:trF Go.Proofs.Tryz.prog Go.Proofs.Tryz.f232 c232=true:=by decide +kernel
theorem t233:trF Go.Proofs.Tryz.prog Go.Proofs.Tryz.f233 c233=true:=by decide +kernel
theorem t234:trF Go.Proofs.Tryz.prog Go.Proofs.Tryz.f234 c234=true:=by decide +kernel
theorem t235:trF Go.Proofs.Tryz.prog Go.Proofs.Tryz.f235 c235=true:=by decide +kernel
theorem t236:trF Go.Proofs.Tryz.prog Go.Proofs.Tryz.f236 c236=true:=by decide +kernel
theorem t237:trF Go.Proofs.Tryz.prog Go.Proofs.Tryz.f237 c237=true:=by decide +kernel
theorem t238:trF Go.Proofs.Tryz.prog Go.Proofs.Tryz.f238 c238=true:=by decide +kernel
theorem t239:trF Go.Proofs.Tryz.prog Go.Proofs.Tryz.f239 c239=true:=by decide +kernel
theorem t240:trF Go.Proofs.Tryz.prog Go.Proofs.Tryz.f240 c240=true:=by decide +kernel
theorem t241:trF Go.Proofs.Tryz.prog Go.Proofs.Tryz.f241 c241=true:=by decide +kernel
theorem t242:trF Go.Proofs.Tryz.prog Go.Proofs.Tryz.f242 c242=true:=by decide +kernel
theorem t243:trF Go.Proofs.Tryz.prog Go.Proofs.Tryz.f243 c243=true:=by decide +kernel
theorem t244:trF Go.Proofs.Tryz.prog Go.Proofs.Tryz.f244 c244=true:=by decide +kernel
theorem t245:trF Go.Proofs.Tryz.prog Go.Proofs.Tryz.f245 c245=true:=by decide +kernel
theorem t246:trF Go.Proofs.Tryz.prog Go.Proofs.Tryz.f246 c246=true:=by decide +kernel
theorem t248:trF Go.Proofs.Tryz.prog Go.Proofs.Tryz.f248 c248=true:=by decide +kernel
theorem t249:trF Go.Proofs.Tryz.prog Go.Proofs.Tryz.f249 c249=true:=by decide +kernel
theorem t250:trF Go.Proofs.Tryz.prog Go.Proofs.Tryz.f250 c250=true:=by decide +kernel
theorem t251:trF Go.Proofs.Tryz.prog Go.Proofs.Tryz.f251 c251=true:=by decide +kernel
theorem t252:trF Go.Proofs.Tryz.prog Go.Proofs.Tryz.f252 c252=true:=by decide +kernel
theorem t253:trF Go.Proofs.Tryz.prog Go.Proofs.Tryz.f253 c253=true:=by decide +kernel
theorem t254:trF Go.Proofs.Tryz.prog Go.Proofs.Tryz.f254 c254=true:=by decide +kernel
theorem t255:trF Go.Proofs.Tryz.prog Go.Proofs.Tryz.f255 c255=true:=by decide +kernel
theorem t256:trF Go.Proofs.Tryz.prog Go.Proofs.Tryz.f256 c256=true:=by decide +kernel
theorem t258:trF Go.Proofs.Tryz.prog Go.Proofs.Tryz.f258 c258=true:=by decide +kernel
theorem t261:trF Go.Proofs.Tryz.prog Go.Proofs.Tryz.f261 c261=true:=by decide +kernel
theorem t262:trF Go.Proofs.Tryz.prog Go.Proofs.Tryz.f262 c262=true:=by decide +kernel
theorem t273:trF Go.Proofs.Tryz.prog Go.Proofs.Tryz.f273 c273=true:=by decide +kernel
theorem t275:trF Go.Proofs.Tryz.prog Go.Proofs.Tryz.f275 c275=true:=by decide +kernel
theorem t276:trF Go.Proofs.Tryz.prog Go.Proofs.Tryz.f276 c276=true:=by decide +kernel
theorem t277:trF Go.Proofs.Tryz.prog Go.Proofs.Tryz.f277 c277=true:=by decide +kernel
theorem t278:trF Go.Proofs.Tryz.prog Go.Proofs.Tryz.f278 c278=true:=by decide +kernel
theorem t279:trF Go.Proofs.Tryz.prog Go.Proofs.Tryz.f279 c279=true:=by decide +kernel
theorem t280:trF Go.Proofs.Tryz.prog Go.Proofs.Tryz.f280 c280=true:=by decide +kernel
theorem t281:trF Go.Proofs.Tryz.prog Go.Proofs.Tryz.f281 c281=true:=by decide +kernel
theorem t282:trF Go.Proofs.Tryz.prog Go.Proofs.Tryz.f282 c282=true:=by decide +kernel
theorem t283:trF Go.Proofs.Tryz.prog Go.Proofs.Tryz.f283 c283=true:=by decide +kernel
theorem t284:trF Go.Proofs.Tryz.prog Go.Proofs.Tryz.f284 c284=true:=by decide +kernel
theorem t285:trF Go.Proofs.Tryz.prog Go.Proofs.Tryz.f285 c285=true:=by decide +kernel
theorem t286:trF Go.Proofs.Tryz.prog Go.Proofs.Tryz.f286 c286=true:=by decide +kernel
theorem t287:trF Go.Proofs.Tryz.prog Go.Proofs.Tryz.f287 c287=true:=by decide +kernel
theorem t288:trF Go.Proofs.Tryz.prog Go.Proofs.Tryz.f288 c288=true:=by decide +kernel
end Go.Vm
