/-
  A part of a proof: the last text of the claim says what is proved, and under which conditions.
-/
import Derived.Test.YtjebeifjkkofaaaGreatDoorProg
import Derived.Test.YtjebeifjkkofaaaGreatDoorM1
import Derived.Test.YtjebeifjkkofaaaGreatDoorM2
import Derived.Test.YtjebeifjkkofaaaGreatDoorM3
set_option linter.unusedSimpArgs false
set_option linter.unusedVariables false
set_option linter.unnecessarySimpa false
/- The functions of the translation as programs of the machine V. Written by gen.py out of the loaded functions. -/
namespace Go.Vm
set_option maxRecDepth 100000
theorem t248 : trF Go.Proofs.Tryz.prog Go.Proofs.Tryz.f248 c248 = true := by decide +kernel
theorem t249 : trF Go.Proofs.Tryz.prog Go.Proofs.Tryz.f249 c249 = true := by decide +kernel
theorem t255 : trF Go.Proofs.Tryz.prog Go.Proofs.Tryz.f255 c255 = true := by decide +kernel
theorem t259 : trF Go.Proofs.Tryz.prog Go.Proofs.Tryz.f259 c259 = true := by decide +kernel
theorem t260 : trF Go.Proofs.Tryz.prog Go.Proofs.Tryz.f260 c260 = true := by decide +kernel
theorem t261 : trF Go.Proofs.Tryz.prog Go.Proofs.Tryz.f261 c261 = true := by decide +kernel
theorem t262 : trF Go.Proofs.Tryz.prog Go.Proofs.Tryz.f262 c262 = true := by decide +kernel
theorem t263 : trF Go.Proofs.Tryz.prog Go.Proofs.Tryz.f263 c263 = true := by decide +kernel
theorem t264 : trF Go.Proofs.Tryz.prog Go.Proofs.Tryz.f264 c264 = true := by decide +kernel
theorem t265 : trF Go.Proofs.Tryz.prog Go.Proofs.Tryz.f265 c265 = true := by decide +kernel
theorem t266 : trF Go.Proofs.Tryz.prog Go.Proofs.Tryz.f266 c266 = true := by decide +kernel
theorem t267 : trF Go.Proofs.Tryz.prog Go.Proofs.Tryz.f267 c267 = true := by decide +kernel
theorem t268 : trF Go.Proofs.Tryz.prog Go.Proofs.Tryz.f268 c268 = true := by decide +kernel
theorem t269 : trF Go.Proofs.Tryz.prog Go.Proofs.Tryz.f269 c269 = true := by decide +kernel
theorem t270 : trF Go.Proofs.Tryz.prog Go.Proofs.Tryz.f270 c270 = true := by decide +kernel
theorem t271 : trF Go.Proofs.Tryz.prog Go.Proofs.Tryz.f271 c271 = true := by decide +kernel
theorem t272 : trF Go.Proofs.Tryz.prog Go.Proofs.Tryz.f272 c272 = true := by decide +kernel
theorem t273 : trF Go.Proofs.Tryz.prog Go.Proofs.Tryz.f273 c273 = true := by decide +kernel
theorem t274 : trF Go.Proofs.Tryz.prog Go.Proofs.Tryz.f274 c274 = true := by decide +kernel
theorem t275 : trF Go.Proofs.Tryz.prog Go.Proofs.Tryz.f275 c275 = true := by decide +kernel
theorem t276 : trF Go.Proofs.Tryz.prog Go.Proofs.Tryz.f276 c276 = true := by decide +kernel
theorem t277 : trF Go.Proofs.Tryz.prog Go.Proofs.Tryz.f277 c277 = true := by decide +kernel
theorem t283 : trF Go.Proofs.Tryz.prog Go.Proofs.Tryz.f283 c283 = true := by decide +kernel
theorem t290 : trF Go.Proofs.Tryz.prog Go.Proofs.Tryz.f290 c290 = true := by decide +kernel
theorem t291 : trF Go.Proofs.Tryz.prog Go.Proofs.Tryz.f291 c291 = true := by decide +kernel
theorem t292 : trF Go.Proofs.Tryz.prog Go.Proofs.Tryz.f292 c292 = true := by decide +kernel
theorem t293 : trF Go.Proofs.Tryz.prog Go.Proofs.Tryz.f293 c293 = true := by decide +kernel
theorem t294 : trF Go.Proofs.Tryz.prog Go.Proofs.Tryz.f294 c294 = true := by decide +kernel
theorem t295 : trF Go.Proofs.Tryz.prog Go.Proofs.Tryz.f295 c295 = true := by decide +kernel
theorem t296 : trF Go.Proofs.Tryz.prog Go.Proofs.Tryz.f296 c296 = true := by decide +kernel
theorem t297 : trF Go.Proofs.Tryz.prog Go.Proofs.Tryz.f297 c297 = true := by decide +kernel
theorem t298 : trF Go.Proofs.Tryz.prog Go.Proofs.Tryz.f298 c298 = true := by decide +kernel
theorem t299 : trF Go.Proofs.Tryz.prog Go.Proofs.Tryz.f299 c299 = true := by decide +kernel
theorem t300 : trF Go.Proofs.Tryz.prog Go.Proofs.Tryz.f300 c300 = true := by decide +kernel
theorem t306 : trF Go.Proofs.Tryz.prog Go.Proofs.Tryz.f306 c306 = true := by decide +kernel
theorem t312 : trF Go.Proofs.Tryz.prog Go.Proofs.Tryz.f312 c312 = true := by decide +kernel
theorem t313 : trF Go.Proofs.Tryz.prog Go.Proofs.Tryz.f313 c313 = true := by decide +kernel
theorem t314 : trF Go.Proofs.Tryz.prog Go.Proofs.Tryz.f314 c314 = true := by decide +kernel
theorem t315 : trF Go.Proofs.Tryz.prog Go.Proofs.Tryz.f315 c315 = true := by decide +kernel
theorem t316 : trF Go.Proofs.Tryz.prog Go.Proofs.Tryz.f316 c316 = true := by decide +kernel
theorem t317 : trF Go.Proofs.Tryz.prog Go.Proofs.Tryz.f317 c317 = true := by decide +kernel
theorem t322 : trF Go.Proofs.Tryz.prog Go.Proofs.Tryz.f322 c322 = true := by decide +kernel
theorem t324 : trF Go.Proofs.Tryz.prog Go.Proofs.Tryz.f324 c324 = true := by decide +kernel
theorem t325 : trF Go.Proofs.Tryz.prog Go.Proofs.Tryz.f325 c325 = true := by decide +kernel
theorem t326 : trF Go.Proofs.Tryz.prog Go.Proofs.Tryz.f326 c326 = true := by decide +kernel
theorem t332 : trF Go.Proofs.Tryz.prog Go.Proofs.Tryz.f332 c332 = true := by decide +kernel
theorem t335 : trF Go.Proofs.Tryz.prog Go.Proofs.Tryz.f335 c335 = true := by decide +kernel
theorem t339 : trF Go.Proofs.Tryz.prog Go.Proofs.Tryz.f339 c339 = true := by decide +kernel
theorem t340 : trF Go.Proofs.Tryz.prog Go.Proofs.Tryz.f340 c340 = true := by decide +kernel
theorem t341 : trF Go.Proofs.Tryz.prog Go.Proofs.Tryz.f341 c341 = true := by decide +kernel
theorem t342 : trF Go.Proofs.Tryz.prog Go.Proofs.Tryz.f342 c342 = true := by decide +kernel
theorem t345 : trF Go.Proofs.Tryz.prog Go.Proofs.Tryz.f345 c345 = true := by decide +kernel
theorem t346 : trF Go.Proofs.Tryz.prog Go.Proofs.Tryz.f346 c346 = true := by decide +kernel
theorem t347 : trF Go.Proofs.Tryz.prog Go.Proofs.Tryz.f347 c347 = true := by decide +kernel
theorem t368 : trF Go.Proofs.Tryz.prog Go.Proofs.Tryz.f368 c368 = true := by decide +kernel
theorem t369 : trF Go.Proofs.Tryz.prog Go.Proofs.Tryz.f369 c369 = true := by decide +kernel
theorem t370 : trF Go.Proofs.Tryz.prog Go.Proofs.Tryz.f370 c370 = true := by decide +kernel
theorem t372 : trF Go.Proofs.Tryz.prog Go.Proofs.Tryz.f372 c372 = true := by decide +kernel
theorem t375 : trF Go.Proofs.Tryz.prog Go.Proofs.Tryz.f375 c375 = true := by decide +kernel
theorem t376 : trF Go.Proofs.Tryz.prog Go.Proofs.Tryz.f376 c376 = true := by decide +kernel
theorem t377 : trF Go.Proofs.Tryz.prog Go.Proofs.Tryz.f377 c377 = true := by decide +kernel
theorem t378 : trF Go.Proofs.Tryz.prog Go.Proofs.Tryz.f378 c378 = true := by decide +kernel
theorem t379 : trF Go.Proofs.Tryz.prog Go.Proofs.Tryz.f379 c379 = true := by decide +kernel
theorem t380 : trF Go.Proofs.Tryz.prog Go.Proofs.Tryz.f380 c380 = true := by decide +kernel
theorem t382 : trF Go.Proofs.Tryz.prog Go.Proofs.Tryz.f382 c382 = true := by decide +kernel
theorem t383 : trF Go.Proofs.Tryz.prog Go.Proofs.Tryz.f383 c383 = true := by decide +kernel
end Go.Vm
