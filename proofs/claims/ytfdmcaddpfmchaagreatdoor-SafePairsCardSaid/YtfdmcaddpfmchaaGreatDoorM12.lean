/-
  A part of a proof: the last text of the claim says what is proved, and under which conditions.
-/
import Derived.Test.YtfdmcaddpfmchaaGreatDoorProg
import Derived.Test.YtfdmcaddpfmchaaGreatDoorM1
import Derived.Test.YtfdmcaddpfmchaaGreatDoorM2
import Derived.Test.YtfdmcaddpfmchaaGreatDoorM3
set_option linter.unusedSimpArgs false
set_option linter.unusedVariables false
set_option linter.unnecessarySimpa false
/- The functions of the translation as programs of the machine V. Written by gen.py out of the loaded functions. -/
namespace Go.Vm
set_option maxRecDepth 100000
theorem t253 : trF Go.Proofs.Tryz.prog Go.Proofs.Tryz.f253 c253 = true := by decide +kernel
theorem t254 : trF Go.Proofs.Tryz.prog Go.Proofs.Tryz.f254 c254 = true := by decide +kernel
theorem t255 : trF Go.Proofs.Tryz.prog Go.Proofs.Tryz.f255 c255 = true := by decide +kernel
theorem t256 : trF Go.Proofs.Tryz.prog Go.Proofs.Tryz.f256 c256 = true := by decide +kernel
theorem t258 : trF Go.Proofs.Tryz.prog Go.Proofs.Tryz.f258 c258 = true := by decide +kernel
theorem t261 : trF Go.Proofs.Tryz.prog Go.Proofs.Tryz.f261 c261 = true := by decide +kernel
theorem t262 : trF Go.Proofs.Tryz.prog Go.Proofs.Tryz.f262 c262 = true := by decide +kernel
theorem t274 : trF Go.Proofs.Tryz.prog Go.Proofs.Tryz.f274 c274 = true := by decide +kernel
theorem t275 : trF Go.Proofs.Tryz.prog Go.Proofs.Tryz.f275 c275 = true := by decide +kernel
theorem t276 : trF Go.Proofs.Tryz.prog Go.Proofs.Tryz.f276 c276 = true := by decide +kernel
theorem t277 : trF Go.Proofs.Tryz.prog Go.Proofs.Tryz.f277 c277 = true := by decide +kernel
theorem t279 : trF Go.Proofs.Tryz.prog Go.Proofs.Tryz.f279 c279 = true := by decide +kernel
theorem t280 : trF Go.Proofs.Tryz.prog Go.Proofs.Tryz.f280 c280 = true := by decide +kernel
theorem t281 : trF Go.Proofs.Tryz.prog Go.Proofs.Tryz.f281 c281 = true := by decide +kernel
theorem t282 : trF Go.Proofs.Tryz.prog Go.Proofs.Tryz.f282 c282 = true := by decide +kernel
theorem t283 : trF Go.Proofs.Tryz.prog Go.Proofs.Tryz.f283 c283 = true := by decide +kernel
theorem t284 : trF Go.Proofs.Tryz.prog Go.Proofs.Tryz.f284 c284 = true := by decide +kernel
theorem t285 : trF Go.Proofs.Tryz.prog Go.Proofs.Tryz.f285 c285 = true := by decide +kernel
theorem t286 : trF Go.Proofs.Tryz.prog Go.Proofs.Tryz.f286 c286 = true := by decide +kernel
theorem t287 : trF Go.Proofs.Tryz.prog Go.Proofs.Tryz.f287 c287 = true := by decide +kernel
theorem t288 : trF Go.Proofs.Tryz.prog Go.Proofs.Tryz.f288 c288 = true := by decide +kernel
theorem t289 : trF Go.Proofs.Tryz.prog Go.Proofs.Tryz.f289 c289 = true := by decide +kernel
theorem t290 : trF Go.Proofs.Tryz.prog Go.Proofs.Tryz.f290 c290 = true := by decide +kernel
theorem t291 : trF Go.Proofs.Tryz.prog Go.Proofs.Tryz.f291 c291 = true := by decide +kernel
theorem t292 : trF Go.Proofs.Tryz.prog Go.Proofs.Tryz.f292 c292 = true := by decide +kernel
theorem t293 : trF Go.Proofs.Tryz.prog Go.Proofs.Tryz.f293 c293 = true := by decide +kernel
theorem t297 : trF Go.Proofs.Tryz.prog Go.Proofs.Tryz.f297 c297 = true := by decide +kernel
theorem t298 : trF Go.Proofs.Tryz.prog Go.Proofs.Tryz.f298 c298 = true := by decide +kernel
theorem t306 : trF Go.Proofs.Tryz.prog Go.Proofs.Tryz.f306 c306 = true := by decide +kernel
theorem t307 : trF Go.Proofs.Tryz.prog Go.Proofs.Tryz.f307 c307 = true := by decide +kernel
theorem t311 : trF Go.Proofs.Tryz.prog Go.Proofs.Tryz.f311 c311 = true := by decide +kernel
theorem t313 : trF Go.Proofs.Tryz.prog Go.Proofs.Tryz.f313 c313 = true := by decide +kernel
theorem t315 : trF Go.Proofs.Tryz.prog Go.Proofs.Tryz.f315 c315 = true := by decide +kernel
theorem t316 : trF Go.Proofs.Tryz.prog Go.Proofs.Tryz.f316 c316 = true := by decide +kernel
theorem t318 : trF Go.Proofs.Tryz.prog Go.Proofs.Tryz.f318 c318 = true := by decide +kernel
theorem t319 : trF Go.Proofs.Tryz.prog Go.Proofs.Tryz.f319 c319 = true := by decide +kernel
theorem t320 : trF Go.Proofs.Tryz.prog Go.Proofs.Tryz.f320 c320 = true := by decide +kernel
theorem t333 : trF Go.Proofs.Tryz.prog Go.Proofs.Tryz.f333 c333 = true := by decide +kernel
theorem t334 : trF Go.Proofs.Tryz.prog Go.Proofs.Tryz.f334 c334 = true := by decide +kernel
theorem t342 : trF Go.Proofs.Tryz.prog Go.Proofs.Tryz.f342 c342 = true := by decide +kernel
theorem t350 : trF Go.Proofs.Tryz.prog Go.Proofs.Tryz.f350 c350 = true := by decide +kernel
end Go.Vm
