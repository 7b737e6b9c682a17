/-
  A part of a proof: the last text of the claim says what is proved, and under which conditions.
-/
import Derived.Test.YtfdmcaddpfmchaaGreatDoorProg
import Derived.Test.YtfdmcaddpfmchaaGreatDoorM1
import Derived.Test.YtfdmcaddpfmchaaGreatDoorM2
import Derived.Test.YtfdmcaddpfmchaaGreatDoorM3
set_option linter.unusedSimpArgs false
set_option linter.unusedVariables false
set_option linter.unnecessarySimpa false
/- The functions of the translation as programs of the machine V. Written by gen.py out of the loaded functions. -/
namespace Go.Vm
set_option maxRecDepth 100000
theorem t289:trF Go.Proofs.Tryz.prog Go.Proofs.Tryz.f289 c289=true:=by decide +kernel
theorem t290:trF Go.Proofs.Tryz.prog Go.Proofs.Tryz.f290 c290=true:=by decide +kernel
theorem t291:trF Go.Proofs.Tryz.prog Go.Proofs.Tryz.f291 c291=true:=by decide +kernel
theorem t292:trF Go.Proofs.Tryz.prog Go.Proofs.Tryz.f292 c292=true:=by decide +kernel
theorem t293:trF Go.Proofs.Tryz.prog Go.Proofs.Tryz.f293 c293=true:=by decide +kernel
theorem t294:trF Go.Proofs.Tryz.prog Go.Proofs.Tryz.f294 c294=true:=by decide +kernel
theorem t295:trF Go.Proofs.Tryz.prog Go.Proofs.Tryz.f295 c295=true:=by decide +kernel
theorem t297:trF Go.Proofs.Tryz.prog Go.Proofs.Tryz.f297 c297=true:=by decide +kernel
theorem t298:trF Go.Proofs.Tryz.prog Go.Proofs.Tryz.f298 c298=true:=by decide +kernel
theorem t306:trF Go.Proofs.Tryz.prog Go.Proofs.Tryz.f306 c306=true:=by decide +kernel
theorem t307:trF Go.Proofs.Tryz.prog Go.Proofs.Tryz.f307 c307=true:=by decide +kernel
theorem t308:trF Go.Proofs.Tryz.prog Go.Proofs.Tryz.f308 c308=true:=by decide +kernel
theorem t309:trF Go.Proofs.Tryz.prog Go.Proofs.Tryz.f309 c309=true:=by decide +kernel
theorem t310:trF Go.Proofs.Tryz.prog Go.Proofs.Tryz.f310 c310=true:=by decide +kernel
theorem t311:trF Go.Proofs.Tryz.prog Go.Proofs.Tryz.f311 c311=true:=by decide +kernel
theorem t312:trF Go.Proofs.Tryz.prog Go.Proofs.Tryz.f312 c312=true:=by decide +kernel
theorem t313:trF Go.Proofs.Tryz.prog Go.Proofs.Tryz.f313 c313=true:=by decide +kernel
theorem t314:trF Go.Proofs.Tryz.prog Go.Proofs.Tryz.f314 c314=true:=by decide +kernel
theorem t315:trF Go.Proofs.Tryz.prog Go.Proofs.Tryz.f315 c315=true:=by decide +kernel
theorem t316:trF Go.Proofs.Tryz.prog Go.Proofs.Tryz.f316 c316=true:=by decide +kernel
theorem t317:trF Go.Proofs.Tryz.prog Go.Proofs.Tryz.f317 c317=true:=by decide +kernel
theorem t318:trF Go.Proofs.Tryz.prog Go.Proofs.Tryz.f318 c318=true:=by decide +kernel
theorem t319:trF Go.Proofs.Tryz.prog Go.Proofs.Tryz.f319 c319=true:=by decide +kernel
theorem t320:trF Go.Proofs.Tryz.prog Go.Proofs.Tryz.f320 c320=true:=by decide +kernel
theorem t321:trF Go.Proofs.Tryz.prog Go.Proofs.Tryz.f321 c321=true:=by decide +kernel
theorem t322:trF Go.Proofs.Tryz.prog Go.Proofs.Tryz.f322 c322=true:=by decide +kernel
theorem t323:trF Go.Proofs.Tryz.prog Go.Proofs.Tryz.f323 c323=true:=by decide +kernel
theorem t325:trF Go.Proofs.Tryz.prog Go.Proofs.Tryz.f325 c325=true:=by decide +kernel
theorem t326:trF Go.Proofs.Tryz.prog Go.Proofs.Tryz.f326 c326=true:=by decide +kernel
theorem t327:trF Go.Proofs.Tryz.prog Go.Proofs.Tryz.f327 c327=true:=by decide +kernel
theorem t328:trF Go.Proofs.Tryz.prog Go.Proofs.Tryz.f328 c328=true:=by decide +kernel
theorem t329:trF Go.Proofs.Tryz.prog Go.Proofs.Tryz.f329 c329=true:=by decide +kernel
theorem t330:trF Go.Proofs.Tryz.prog Go.Proofs.Tryz.f330 c330=true:=by decide +kernel
theorem t331:trF Go.Proofs.Tryz.prog Go.Proofs.Tryz.f331 c331=true:=by decide +kernel
theorem t332:trF Go.Proofs.Tryz.prog Go.Proofs.Tryz.f332 c332=true:=by decide +kernel
theorem t333:trF Go.Proofs.Tryz.prog Go.Proofs.Tryz.f333 c333=true:=by decide +kernel
theorem t334:trF Go.Proofs.Tryz.prog Go.Proofs.Tryz.f334 c334=true:=by decide +kernel
theorem t335:trF Go.Proofs.Tryz.prog Go.Proofs.Tryz.f335 c335=true:=by decide +kernel
theorem t336:trF Go.Proofs.Tryz.prog Go.Proofs.Tryz.f336 c336=true:=by decide +kernel
theorem t337:trF Go.Proofs.Tryz.prog Go.Proofs.Tryz.f337 c337=true:=by decide +kernel
theorem t338:trF Go.Proofs.Tryz.prog Go.Proofs.Tryz.f338 c338=true:=by decide +kernel
theorem t339:trF Go.Proofs.Tryz.prog Go.Proofs.Tryz.f339 c339=true:=by decide +kernel
theorem t340:trF Go.Proofs.Tryz.prog Go.Proofs.Tryz.f340 c340=true:=by decide +kernel
theorem t341:trF Go.Proofs.Tryz.prog Go.Proofs.Tryz.f341 c341=true:=by decide +kernel
theorem t342:trF Go.Proofs.Tryz.prog Go.Proofs.Tryz.f342 c342=true:=by decide +kernel
theorem t343:trF Go.Proofs.Tryz.prog Go.Proofs.Tryz.f343 c343=true:=by decide +kernel
theorem t344:trF Go.Proofs.Tryz.prog Go.Proofs.Tryz.f344 c344=true:=by decide +kernel
theorem t348:trF Go.Proofs.Tryz.prog Go.Proofs.Tryz.f348 c348=true:=by decide +kernel
theorem t349:trF Go.Proofs.Tryz.prog Go.Proofs.Tryz.f349 c349=true:=by decide +kernel
theorem t350:trF Go.Proofs.Tryz.prog Go.Proofs.Tryz.f350 c350=true:=by decide +kernel
theorem t351:trF Go.Proofs.Tryz.prog Go.Proofs.Tryz.f351 c351=true:=by decide +kernel
theorem t352:trF Go.Proofs.Tryz.prog Go.Proofs.Tryz.f352 c352=true:=by decide +kernel
theorem t353:trF Go.Proofs.Tryz.prog Go.Proofs.Tryz.f353 c353=true:=by decide +kernel
theorem t354:trF Go.Proofs.Tryz.prog Go.Proofs.Tryz.f354 c354=true:=by decide +kernel
theorem t355:trF Go.Proofs.Tryz.prog Go.Proofs.Tryz.f355 c355=true:=by decide +kernel
theorem t356:trF Go.Proofs.Tryz.prog Go.Proofs.Tryz.f356 c356=true:=by decide +kernel
theorem t357:trF Go.Proofs.Tryz.prog Go.Proofs.Tryz.f357 c357=true:=by decide +kernel
theorem t358:trF Go.Proofs.Tryz.prog Go.Proofs.Tryz.f358 c358=true:=by decide +kernel
theorem t359:trF Go.Proofs.Tryz.prog Go.Proofs.Tryz.f359 c359=true:=by decide +kernel
end Go.Vm
