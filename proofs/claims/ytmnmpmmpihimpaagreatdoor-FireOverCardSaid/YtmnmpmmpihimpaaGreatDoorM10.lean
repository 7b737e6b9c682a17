/-
  A part of a proof: the last text of the claim says what is proved, and under which conditions.
-/
import Derived.Test.YtmnmpmmpihimpaaGreatDoorProg
import Derived.Test.YtmnmpmmpihimpaaGreatDoorM1
import Derived.Test.YtmnmpmmpihimpaaGreatDoorM2
import Derived.Test.YtmnmpmmpihimpaaGreatDoorM3
set_option linter.unusedSimpArgs false
set_option linter.unusedVariables false
set_option linter.unnecessarySimpa false
/- The functions of the translation as programs of the machine V. Written by gen.py out of the loaded functions. -/
namespace Go.Vm
set_option maxRecDepth 100000
theorem t223 : trF Go.Proofs.Tryz.prog Go.Proofs.Tryz.f223 c223 = true := by decide +kernel
theorem t224 : trF Go.Proofs.Tryz.prog Go.Proofs.Tryz.f224 c224 = true := by decide +kernel
theorem t225 : trF Go.Proofs.Tryz.prog Go.Proofs.Tryz.f225 c225 = true := by decide +kernel
theorem t226 : trF Go.Proofs.Tryz.prog Go.Proofs.Tryz.f226 c226 = true := by decide +kernel
theorem t227 : trF Go.Proofs.Tryz.prog Go.Proofs.Tryz.f227 c227 = true := by decide +kernel
theorem t228 : trF Go.Proofs.Tryz.prog Go.Proofs.Tryz.f228 c228 = true := by decide +kernel
theorem t229 : trF Go.Proofs.Tryz.prog Go.Proofs.Tryz.f229 c229 = true := by decide +kernel
theorem t231 : trF Go.Proofs.Tryz.prog Go.Proofs.Tryz.f231 c231 = true := by decide +kernel
theorem t232 : trF Go.Proofs.Tryz.prog Go.Proofs.Tryz.f232 c232 = true := by decide +kernel
theorem t233 : trF Go.Proofs.Tryz.prog Go.Proofs.Tryz.f233 c233 = true := by decide +kernel
theorem t235 : trF Go.Proofs.Tryz.prog Go.Proofs.Tryz.f235 c235 = true := by decide +kernel
theorem t236 : trF Go.Proofs.Tryz.prog Go.Proofs.Tryz.f236 c236 = true := by decide +kernel
theorem t237 : trF Go.Proofs.Tryz.prog Go.Proofs.Tryz.f237 c237 = true := by decide +kernel
theorem t238 : trF Go.Proofs.Tryz.prog Go.Proofs.Tryz.f238 c238 = true := by decide +kernel
theorem t239 : trF Go.Proofs.Tryz.prog Go.Proofs.Tryz.f239 c239 = true := by decide +kernel
theorem t240 : trF Go.Proofs.Tryz.prog Go.Proofs.Tryz.f240 c240 = true := by decide +kernel
theorem t250 : trF Go.Proofs.Tryz.prog Go.Proofs.Tryz.f250 c250 = true := by decide +kernel
theorem t251 : trF Go.Proofs.Tryz.prog Go.Proofs.Tryz.f251 c251 = true := by decide +kernel
theorem t252 : trF Go.Proofs.Tryz.prog Go.Proofs.Tryz.f252 c252 = true := by decide +kernel
theorem t253 : trF Go.Proofs.Tryz.prog Go.Proofs.Tryz.f253 c253 = true := by decide +kernel
theorem t255 : trF Go.Proofs.Tryz.prog Go.Proofs.Tryz.f255 c255 = true := by decide +kernel
theorem t256 : trF Go.Proofs.Tryz.prog Go.Proofs.Tryz.f256 c256 = true := by decide +kernel
theorem t258 : trF Go.Proofs.Tryz.prog Go.Proofs.Tryz.f258 c258 = true := by decide +kernel
theorem t259 : trF Go.Proofs.Tryz.prog Go.Proofs.Tryz.f259 c259 = true := by decide +kernel
theorem t260 : trF Go.Proofs.Tryz.prog Go.Proofs.Tryz.f260 c260 = true := by decide +kernel
theorem t262 : trF Go.Proofs.Tryz.prog Go.Proofs.Tryz.f262 c262 = true := by decide +kernel
theorem t263 : trF Go.Proofs.Tryz.prog Go.Proofs.Tryz.f263 c263 = true := by decide +kernel
theorem t264 : trF Go.Proofs.Tryz.prog Go.Proofs.Tryz.f264 c264 = true := by decide +kernel
theorem t265 : trF Go.Proofs.Tryz.prog Go.Proofs.Tryz.f265 c265 = true := by decide +kernel
theorem t266 : trF Go.Proofs.Tryz.prog Go.Proofs.Tryz.f266 c266 = true := by decide +kernel
theorem t268 : trF Go.Proofs.Tryz.prog Go.Proofs.Tryz.f268 c268 = true := by decide +kernel
theorem t272 : trF Go.Proofs.Tryz.prog Go.Proofs.Tryz.f272 c272 = true := by decide +kernel
theorem t273 : trF Go.Proofs.Tryz.prog Go.Proofs.Tryz.f273 c273 = true := by decide +kernel
theorem t274 : trF Go.Proofs.Tryz.prog Go.Proofs.Tryz.f274 c274 = true := by decide +kernel
theorem t286 : trF Go.Proofs.Tryz.prog Go.Proofs.Tryz.f286 c286 = true := by decide +kernel
theorem t287 : trF Go.Proofs.Tryz.prog Go.Proofs.Tryz.f287 c287 = true := by decide +kernel
theorem t288 : trF Go.Proofs.Tryz.prog Go.Proofs.Tryz.f288 c288 = true := by decide +kernel
theorem t289 : trF Go.Proofs.Tryz.prog Go.Proofs.Tryz.f289 c289 = true := by decide +kernel
theorem t299 : trF Go.Proofs.Tryz.prog Go.Proofs.Tryz.f299 c299 = true := by decide +kernel
theorem t300 : trF Go.Proofs.Tryz.prog Go.Proofs.Tryz.f300 c300 = true := by decide +kernel
theorem t301 : trF Go.Proofs.Tryz.prog Go.Proofs.Tryz.f301 c301 = true := by decide +kernel
theorem t302 : trF Go.Proofs.Tryz.prog Go.Proofs.Tryz.f302 c302 = true := by decide +kernel
theorem t304 : trF Go.Proofs.Tryz.prog Go.Proofs.Tryz.f304 c304 = true := by decide +kernel
theorem t305 : trF Go.Proofs.Tryz.prog Go.Proofs.Tryz.f305 c305 = true := by decide +kernel
theorem t306 : trF Go.Proofs.Tryz.prog Go.Proofs.Tryz.f306 c306 = true := by decide +kernel
theorem t307 : trF Go.Proofs.Tryz.prog Go.Proofs.Tryz.f307 c307 = true := by decide +kernel
theorem t308 : trF Go.Proofs.Tryz.prog Go.Proofs.Tryz.f308 c308 = true := by decide +kernel
theorem t309 : trF Go.Proofs.Tryz.prog Go.Proofs.Tryz.f309 c309 = true := by decide +kernel
theorem t310 : trF Go.Proofs.Tryz.prog Go.Proofs.Tryz.f310 c310 = true := by decide +kernel
theorem t311 : trF Go.Proofs.Tryz.prog Go.Proofs.Tryz.f311 c311 = true := by decide +kernel
theorem t312 : trF Go.Proofs.Tryz.prog Go.Proofs.Tryz.f312 c312 = true := by decide +kernel
theorem t333 : trF Go.Proofs.Tryz.prog Go.Proofs.Tryz.f333 c333 = true := by decide +kernel
theorem t334 : trF Go.Proofs.Tryz.prog Go.Proofs.Tryz.f334 c334 = true := by decide +kernel
theorem t335 : trF Go.Proofs.Tryz.prog Go.Proofs.Tryz.f335 c335 = true := by decide +kernel
theorem t337 : trF Go.Proofs.Tryz.prog Go.Proofs.Tryz.f337 c337 = true := by decide +kernel
theorem t340 : trF Go.Proofs.Tryz.prog Go.Proofs.Tryz.f340 c340 = true := by decide +kernel
theorem t341 : trF Go.Proofs.Tryz.prog Go.Proofs.Tryz.f341 c341 = true := by decide +kernel
theorem t342 : trF Go.Proofs.Tryz.prog Go.Proofs.Tryz.f342 c342 = true := by decide +kernel
theorem t343 : trF Go.Proofs.Tryz.prog Go.Proofs.Tryz.f343 c343 = true := by decide +kernel
theorem t344 : trF Go.Proofs.Tryz.prog Go.Proofs.Tryz.f344 c344 = true := by decide +kernel
theorem t346 : trF Go.Proofs.Tryz.prog Go.Proofs.Tryz.f346 c346 = true := by decide +kernel
theorem t347 : trF Go.Proofs.Tryz.prog Go.Proofs.Tryz.f347 c347 = true := by decide +kernel
theorem t349 : trF Go.Proofs.Tryz.prog Go.Proofs.Tryz.f349 c349 = true := by decide +kernel
end Go.Vm
