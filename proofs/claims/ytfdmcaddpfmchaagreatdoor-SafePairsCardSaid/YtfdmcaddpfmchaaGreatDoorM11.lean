/-
  A part of a proof: the last text of the claim says what is proved, and under which conditions.
-/
import Derived.Test.YtfdmcaddpfmchaaGreatDoorProg
import Derived.Test.YtfdmcaddpfmchaaGreatDoorM1
import Derived.Test.YtfdmcaddpfmchaaGreatDoorM2
import Derived.Test.YtfdmcaddpfmchaaGreatDoorM3
set_option linter.unusedSimpArgs false
set_option linter.unusedVariables false
set_option linter.unnecessarySimpa false
/- The functions of the translation as programs of the machine V. Written by gen.py out of the loaded functions. -/
namespace Go.Vm
set_option maxRecDepth 100000
theorem t194 : trF Go.Proofs.Tryz.prog Go.Proofs.Tryz.f194 c194 = true := by decide +kernel
theorem t195 : trF Go.Proofs.Tryz.prog Go.Proofs.Tryz.f195 c195 = true := by decide +kernel
theorem t196 : trF Go.Proofs.Tryz.prog Go.Proofs.Tryz.f196 c196 = true := by decide +kernel
theorem t197 : trF Go.Proofs.Tryz.prog Go.Proofs.Tryz.f197 c197 = true := by decide +kernel
theorem t198 : trF Go.Proofs.Tryz.prog Go.Proofs.Tryz.f198 c198 = true := by decide +kernel
theorem t199 : trF Go.Proofs.Tryz.prog Go.Proofs.Tryz.f199 c199 = true := by decide +kernel
theorem t200 : trF Go.Proofs.Tryz.prog Go.Proofs.Tryz.f200 c200 = true := by decide +kernel
theorem t201 : trF Go.Proofs.Tryz.prog Go.Proofs.Tryz.f201 c201 = true := by decide +kernel
theorem t202 : trF Go.Proofs.Tryz.prog Go.Proofs.Tryz.f202 c202 = true := by decide +kernel
theorem t203 : trF Go.Proofs.Tryz.prog Go.Proofs.Tryz.f203 c203 = true := by decide +kernel
theorem t204 : trF Go.Proofs.Tryz.prog Go.Proofs.Tryz.f204 c204 = true := by decide +kernel
theorem t206 : trF Go.Proofs.Tryz.prog Go.Proofs.Tryz.f206 c206 = true := by decide +kernel
theorem t209 : trF Go.Proofs.Tryz.prog Go.Proofs.Tryz.f209 c209 = true := by decide +kernel
theorem t213 : trF Go.Proofs.Tryz.prog Go.Proofs.Tryz.f213 c213 = true := by decide +kernel
theorem t214 : trF Go.Proofs.Tryz.prog Go.Proofs.Tryz.f214 c214 = true := by decide +kernel
theorem t215 : trF Go.Proofs.Tryz.prog Go.Proofs.Tryz.f215 c215 = true := by decide +kernel
theorem t216 : trF Go.Proofs.Tryz.prog Go.Proofs.Tryz.f216 c216 = true := by decide +kernel
theorem t217 : trF Go.Proofs.Tryz.prog Go.Proofs.Tryz.f217 c217 = true := by decide +kernel
theorem t218 : trF Go.Proofs.Tryz.prog Go.Proofs.Tryz.f218 c218 = true := by decide +kernel
theorem t219 : trF Go.Proofs.Tryz.prog Go.Proofs.Tryz.f219 c219 = true := by decide +kernel
theorem t220 : trF Go.Proofs.Tryz.prog Go.Proofs.Tryz.f220 c220 = true := by decide +kernel
theorem t221 : trF Go.Proofs.Tryz.prog Go.Proofs.Tryz.f221 c221 = true := by decide +kernel
theorem t222 : trF Go.Proofs.Tryz.prog Go.Proofs.Tryz.f222 c222 = true := by decide +kernel
theorem t223 : trF Go.Proofs.Tryz.prog Go.Proofs.Tryz.f223 c223 = true := by decide +kernel
theorem t225 : trF Go.Proofs.Tryz.prog Go.Proofs.Tryz.f225 c225 = true := by decide +kernel
theorem t226 : trF Go.Proofs.Tryz.prog Go.Proofs.Tryz.f226 c226 = true := by decide +kernel
theorem t227 : trF Go.Proofs.Tryz.prog Go.Proofs.Tryz.f227 c227 = true := by decide +kernel
theorem t228 : trF Go.Proofs.Tryz.prog Go.Proofs.Tryz.f228 c228 = true := by decide +kernel
theorem t229 : trF Go.Proofs.Tryz.prog Go.Proofs.Tryz.f229 c229 = true := by decide +kernel
theorem t230 : trF Go.Proofs.Tryz.prog Go.Proofs.Tryz.f230 c230 = true := by decide +kernel
theorem t231 : trF Go.Proofs.Tryz.prog Go.Proofs.Tryz.f231 c231 = true := by decide +kernel
theorem t232 : trF Go.Proofs.Tryz.prog Go.Proofs.Tryz.f232 c232 = true := by decide +kernel
theorem t233 : trF Go.Proofs.Tryz.prog Go.Proofs.Tryz.f233 c233 = true := by decide +kernel
theorem t234 : trF Go.Proofs.Tryz.prog Go.Proofs.Tryz.f234 c234 = true := by decide +kernel
theorem t235 : trF Go.Proofs.Tryz.prog Go.Proofs.Tryz.f235 c235 = true := by decide +kernel
theorem t236 : trF Go.Proofs.Tryz.prog Go.Proofs.Tryz.f236 c236 = true := by decide +kernel
theorem t237 : trF Go.Proofs.Tryz.prog Go.Proofs.Tryz.f237 c237 = true := by decide +kernel
theorem t238 : trF Go.Proofs.Tryz.prog Go.Proofs.Tryz.f238 c238 = true := by decide +kernel
theorem t239 : trF Go.Proofs.Tryz.prog Go.Proofs.Tryz.f239 c239 = true := by decide +kernel
theorem t241 : trF Go.Proofs.Tryz.prog Go.Proofs.Tryz.f241 c241 = true := by decide +kernel
theorem t242 : trF Go.Proofs.Tryz.prog Go.Proofs.Tryz.f242 c242 = true := by decide +kernel
theorem t251 : trF Go.Proofs.Tryz.prog Go.Proofs.Tryz.f251 c251 = true := by decide +kernel
theorem t252 : trF Go.Proofs.Tryz.prog Go.Proofs.Tryz.f252 c252 = true := by decide +kernel
end Go.Vm
