/-
  A part of a proof: the last text of the claim says what is proved, and under which conditions.
-/
import Derived.Test.YtfdmcaddpfmchaaGreatDoorProg
import Derived.Test.YtfdmcaddpfmchaaGreatDoorM1
import Derived.Test.YtfdmcaddpfmchaaGreatDoorM9
import Derived.Test.YtfdmcaddpfmchaaGreatDoorM10
import Derived.Test.YtfdmcaddpfmchaaGreatDoorM11
import Derived.Test.YtfdmcaddpfmchaaGreatDoorM12
import Derived.Shelf.Sort.Plain
import Derived.Shelf.Slices.CompactS
set_option linter.unusedSimpArgs false
set_option linter.unusedVariables false
set_option linter.unnecessarySimpa false
/- The functions of the translation as programs of the machine V. Written by gen.py out of the loaded functions. -/
namespace Go.Vm
set_option maxRecDepth 100000
def ftab : FT := (.node 193 c193 (.node 104 c104 (.node 61 c61 (.node 27 c27 (.node 21 c21 (.node 13 c13 (.node 6 c6 (.node 4 c4 .leaf .leaf) .leaf) (.node 18 c18 (.node 16 c16 .leaf .leaf) .leaf)) (.node 25 c25 (.node 24 c24 (.node 23 c23 .leaf .leaf) .leaf) (.node 26 c26 .leaf .leaf))) (.node 38 c38 (.node 35 c35 (.node 32 c32 (.node 28 c28 .leaf .leaf) .leaf) (.node 37 c37 (.node 36 c36 .leaf .leaf) .leaf)) (.node 43 c43 (.node 40 c40 (.node 39 c39 .leaf .leaf) .leaf) (.node 48 c48 .leaf .leaf)))) (.node 81 c81 (.node 73 c73 (.node 65 c65 (.node 64 c64 (.node 63 c63 .leaf .leaf) .leaf) (.node 68 c68 (.node 66 c66 .leaf .leaf) .leaf)) (.node 79 c79 (.node 75 c75 (.node 74 c74 .leaf .leaf) .leaf) (.node 80 c80 .leaf .leaf))) (.node 93 c93 (.node 84 c84 (.node 83 c83 (.node 82 c82 .leaf .leaf) .leaf) (.node 87 c87 .leaf .leaf)) (.node 99 c99 (.node 96 c96 (.node 94 c94 .leaf .leaf) .leaf) (.node 103 c103 .leaf .leaf))))) (.node 153 c153 (.node 131 c131 (.node 122 c122 (.node 119 c119 (.node 118 c118 (.node 105 c105 .leaf .leaf) .leaf) (.node 121 c121 (.node 120 c120 .leaf .leaf) .leaf)) (.node 126 c126 (.node 125 c125 (.node 124 c124 .leaf .leaf) .leaf) (.node 130 c130 .leaf .leaf))) (.node 146 c146 (.node 140 c140 (.node 133 c133 (.node 132 c132 .leaf .leaf) .leaf) (.node 142 c142 (.node 141 c141 .leaf .leaf) .leaf)) (.node 151 c151 (.node 149 c149 (.node 148 c148 .leaf .leaf) .leaf) (.node 152 c152 .leaf .leaf)))) (.node 167 c167 (.node 159 c159 (.node 156 c156 (.node 155 c155 (.node 154 c154 .leaf .leaf) .leaf) (.node 158 c158 (.node 157 c157 .leaf .leaf) .leaf)) (.node 165 c165 (.node 162 c162 (.node 160 c160 .leaf .leaf) .leaf) (.node 166 c166 .leaf .leaf))) (.node 188 c188 (.node 186 c186 (.node 184 c184 (.node 170 c170 .leaf .leaf) .leaf) (.node 187 c187 .leaf .leaf)) (.node 191 c191 (.node 190 c190 (.node 189 c189 .leaf .leaf) .leaf) (.node 192 c192 .leaf .leaf)))))) (.node 252 c252 (.node 221 c221 (.node 204 c204 (.node 199 c199 (.node 196 c196 (.node 195 c195 (.node 194 c194 .leaf .leaf) .leaf) (.node 198 c198 (.node 197 c197 .leaf .leaf) .leaf)) (.node 202 c202 (.node 201 c201 (.node 200 c200 .leaf .leaf) .leaf) (.node 203 c203 .leaf .leaf))) (.node 216 c216 (.node 213 c213 (.node 209 c209 (.node 206 c206 .leaf .leaf) .leaf) (.node 215 c215 (.node 214 c214 .leaf .leaf) .leaf)) (.node 219 c219 (.node 218 c218 (.node 217 c217 .leaf .leaf) .leaf) (.node 220 c220 .leaf .leaf)))) (.node 233 c233 (.node 228 c228 (.node 225 c225 (.node 223 c223 (.node 222 c222 .leaf .leaf) .leaf) (.node 227 c227 (.node 226 c226 .leaf .leaf) .leaf)) (.node 231 c231 (.node 230 c230 (.node 229 c229 .leaf .leaf) .leaf) (.node 232 c232 .leaf .leaf))) (.node 238 c238 (.node 236 c236 (.node 235 c235 (.node 234 c234 .leaf .leaf) .leaf) (.node 237 c237 .leaf .leaf)) (.node 242 c242 (.node 241 c241 (.node 239 c239 .leaf .leaf) .leaf) (.node 251 c251 .leaf .leaf))))) (.node 288 c288 (.node 277 c277 (.node 261 c261 (.node 255 c255 (.node 254 c254 (.node 253 c253 .leaf .leaf) .leaf) (.node 258 c258 (.node 256 c256 .leaf .leaf) .leaf)) (.node 275 c275 (.node 274 c274 (.node 262 c262 .leaf .leaf) .leaf) (.node 276 c276 .leaf .leaf))) (.node 283 c283 (.node 281 c281 (.node 280 c280 (.node 279 c279 .leaf .leaf) .leaf) (.node 282 c282 .leaf .leaf)) (.node 286 c286 (.node 285 c285 (.node 284 c284 .leaf .leaf) .leaf) (.node 287 c287 .leaf .leaf)))) (.node 313 c313 (.node 297 c297 (.node 291 c291 (.node 290 c290 (.node 289 c289 .leaf .leaf) .leaf) (.node 293 c293 (.node 292 c292 .leaf .leaf) .leaf)) (.node 307 c307 (.node 306 c306 (.node 298 c298 .leaf .leaf) .leaf) (.node 311 c311 .leaf .leaf))) (.node 320 c320 (.node 318 c318 (.node 316 c316 (.node 315 c315 .leaf .leaf) .leaf) (.node 319 c319 .leaf .leaf)) (.node 342 c342 (.node 334 c334 (.node 333 c333 .leaf .leaf) .leaf) (.node 350 c350 .leaf .leaf)))))))
theorem ftab_ok : FT.All (fun k F => ∃ fn, Go.Proofs.Tryz.prog.funcs[k]? = some fn ∧ trF Go.Proofs.Tryz.prog fn F = true) ftab := ⟨⟨_, Go.Proofs.Tryz.func193, t193⟩, ⟨⟨_, Go.Proofs.Tryz.func104, t104⟩, ⟨⟨_, Go.Proofs.Tryz.func61, t61⟩, ⟨⟨_, Go.Proofs.Tryz.func27, t27⟩, ⟨⟨_, Go.Proofs.Tryz.func21, t21⟩, ⟨⟨_, Go.Proofs.Tryz.func13, t13⟩, ⟨⟨_, Go.Proofs.Tryz.func6, t6⟩, ⟨⟨_, Go.Proofs.Tryz.func4, t4⟩, trivial, trivial⟩, trivial⟩, ⟨⟨_, Go.Proofs.Tryz.func18, t18⟩, ⟨⟨_, Go.Proofs.Tryz.func16, t16⟩, trivial, trivial⟩, trivial⟩⟩, ⟨⟨_, Go.Proofs.Tryz.func25, t25⟩, ⟨⟨_, Go.Proofs.Tryz.func24, t24⟩, ⟨⟨_, Go.Proofs.Tryz.func23, t23⟩, trivial, trivial⟩, trivial⟩, ⟨⟨_, Go.Proofs.Tryz.func26, t26⟩, trivial, trivial⟩⟩⟩, ⟨⟨_, Go.Proofs.Tryz.func38, t38⟩, ⟨⟨_, Go.Proofs.Tryz.func35, t35⟩, ⟨⟨_, Go.Proofs.Tryz.func32, t32⟩, ⟨⟨_, Go.Proofs.Tryz.func28, t28⟩, trivial, trivial⟩, trivial⟩, ⟨⟨_, Go.Proofs.Tryz.func37, t37⟩, ⟨⟨_, Go.Proofs.Tryz.func36, t36⟩, trivial, trivial⟩, trivial⟩⟩, ⟨⟨_, Go.Proofs.Tryz.func43, t43⟩, ⟨⟨_, Go.Proofs.Tryz.func40, t40⟩, ⟨⟨_, Go.Proofs.Tryz.func39, t39⟩, trivial, trivial⟩, trivial⟩, ⟨⟨_, Go.Proofs.Tryz.func48, t48⟩, trivial, trivial⟩⟩⟩⟩, ⟨⟨_, Go.Proofs.Tryz.func81, t81⟩, ⟨⟨_, Go.Proofs.Tryz.func73, t73⟩, ⟨⟨_, Go.Proofs.Tryz.func65, t65⟩, ⟨⟨_, Go.Proofs.Tryz.func64, t64⟩, ⟨⟨_, Go.Proofs.Tryz.func63, t63⟩, trivial, trivial⟩, trivial⟩, ⟨⟨_, Go.Proofs.Tryz.func68, t68⟩, ⟨⟨_, Go.Proofs.Tryz.func66, t66⟩, trivial, trivial⟩, trivial⟩⟩, ⟨⟨_, Go.Proofs.Tryz.func79, t79⟩, ⟨⟨_, Go.Proofs.Tryz.func75, t75⟩, ⟨⟨_, Go.Proofs.Tryz.func74, t74⟩, trivial, trivial⟩, trivial⟩, ⟨⟨_, Go.Proofs.Tryz.func80, t80⟩, trivial, trivial⟩⟩⟩, ⟨⟨_, Go.Proofs.Tryz.func93, t93⟩, ⟨⟨_, Go.Proofs.Tryz.func84, t84⟩, ⟨⟨_, Go.Proofs.Tryz.func83, t83⟩, ⟨⟨_, Go.Proofs.Tryz.func82, t82⟩, trivial, trivial⟩, trivial⟩, ⟨⟨_, Go.Proofs.Tryz.func87, t87⟩, trivial, trivial⟩⟩, ⟨⟨_, Go.Proofs.Tryz.func99, t99⟩, ⟨⟨_, Go.Proofs.Tryz.func96, t96⟩, ⟨⟨_, Go.Proofs.Tryz.func94, t94⟩, trivial, trivial⟩, trivial⟩, ⟨⟨_, Go.Proofs.Tryz.func103, t103⟩, trivial, trivial⟩⟩⟩⟩⟩, ⟨⟨_, Go.Proofs.Tryz.func153, t153⟩, ⟨⟨_, Go.Proofs.Tryz.func131, t131⟩, ⟨⟨_, Go.Proofs.Tryz.func122, t122⟩, ⟨⟨_, Go.Proofs.Tryz.func119, t119⟩, ⟨⟨_, Go.Proofs.Tryz.func118, t118⟩, ⟨⟨_, Go.Proofs.Tryz.func105, t105⟩, trivial, trivial⟩, trivial⟩, ⟨⟨_, Go.Proofs.Tryz.func121, t121⟩, ⟨⟨_, Go.Proofs.Tryz.func120, t120⟩, trivial, trivial⟩, trivial⟩⟩, ⟨⟨_, Go.Proofs.Tryz.func126, t126⟩, ⟨⟨_, Go.Proofs.Tryz.func125, t125⟩, ⟨⟨_, Go.Proofs.Tryz.func124, t124⟩, trivial, trivial⟩, trivial⟩, ⟨⟨_, Go.Proofs.Tryz.func130, t130⟩, trivial, trivial⟩⟩⟩, ⟨⟨_, Go.Proofs.Tryz.func146, t146⟩, ⟨⟨_, Go.Proofs.Tryz.func140, t140⟩, ⟨⟨_, Go.Proofs.Tryz.func133, t133⟩, ⟨⟨_, Go.Proofs.Tryz.func132, t132⟩, trivial, trivial⟩, trivial⟩, ⟨⟨_, Go.Proofs.Tryz.func142, t142⟩, ⟨⟨_, Go.Proofs.Tryz.func141, t141⟩, trivial, trivial⟩, trivial⟩⟩, ⟨⟨_, Go.Proofs.Tryz.func151, t151⟩, ⟨⟨_, Go.Proofs.Tryz.func149, t149⟩, ⟨⟨_, Go.Proofs.Tryz.func148, t148⟩, trivial, trivial⟩, trivial⟩, ⟨⟨_, Go.Proofs.Tryz.func152, t152⟩, trivial, trivial⟩⟩⟩⟩, ⟨⟨_, Go.Proofs.Tryz.func167, t167⟩, ⟨⟨_, Go.Proofs.Tryz.func159, t159⟩, ⟨⟨_, Go.Proofs.Tryz.func156, t156⟩, ⟨⟨_, Go.Proofs.Tryz.func155, t155⟩, ⟨⟨_, Go.Proofs.Tryz.func154, t154⟩, trivial, trivial⟩, trivial⟩, ⟨⟨_, Go.Proofs.Tryz.func158, t158⟩, ⟨⟨_, Go.Proofs.Tryz.func157, t157⟩, trivial, trivial⟩, trivial⟩⟩, ⟨⟨_, Go.Proofs.Tryz.func165, t165⟩, ⟨⟨_, Go.Proofs.Tryz.func162, t162⟩, ⟨⟨_, Go.Proofs.Tryz.func160, t160⟩, trivial, trivial⟩, trivial⟩, ⟨⟨_, Go.Proofs.Tryz.func166, t166⟩, trivial, trivial⟩⟩⟩, ⟨⟨_, Go.Proofs.Tryz.func188, t188⟩, ⟨⟨_, Go.Proofs.Tryz.func186, t186⟩, ⟨⟨_, Go.Proofs.Tryz.func184, t184⟩, ⟨⟨_, Go.Proofs.Tryz.func170, t170⟩, trivial, trivial⟩, trivial⟩, ⟨⟨_, Go.Proofs.Tryz.func187, t187⟩, trivial, trivial⟩⟩, ⟨⟨_, Go.Proofs.Tryz.func191, t191⟩, ⟨⟨_, Go.Proofs.Tryz.func190, t190⟩, ⟨⟨_, Go.Proofs.Tryz.func189, t189⟩, trivial, trivial⟩, trivial⟩, ⟨⟨_, Go.Proofs.Tryz.func192, t192⟩, trivial, trivial⟩⟩⟩⟩⟩⟩, ⟨⟨_, Go.Proofs.Tryz.func252, t252⟩, ⟨⟨_, Go.Proofs.Tryz.func221, t221⟩, ⟨⟨_, Go.Proofs.Tryz.func204, t204⟩, ⟨⟨_, Go.Proofs.Tryz.func199, t199⟩, ⟨⟨_, Go.Proofs.Tryz.func196, t196⟩, ⟨⟨_, Go.Proofs.Tryz.func195, t195⟩, ⟨⟨_, Go.Proofs.Tryz.func194, t194⟩, trivial, trivial⟩, trivial⟩, ⟨⟨_, Go.Proofs.Tryz.func198, t198⟩, ⟨⟨_, Go.Proofs.Tryz.func197, t197⟩, trivial, trivial⟩, trivial⟩⟩, ⟨⟨_, Go.Proofs.Tryz.func202, t202⟩, ⟨⟨_, Go.Proofs.Tryz.func201, t201⟩, ⟨⟨_, Go.Proofs.Tryz.func200, t200⟩, trivial, trivial⟩, trivial⟩, ⟨⟨_, Go.Proofs.Tryz.func203, t203⟩, trivial, trivial⟩⟩⟩, ⟨⟨_, Go.Proofs.Tryz.func216, t216⟩, ⟨⟨_, Go.Proofs.Tryz.func213, t213⟩, ⟨⟨_, Go.Proofs.Tryz.func209, t209⟩, ⟨⟨_, Go.Proofs.Tryz.func206, t206⟩, trivial, trivial⟩, trivial⟩, ⟨⟨_, Go.Proofs.Tryz.func215, t215⟩, ⟨⟨_, Go.Proofs.Tryz.func214, t214⟩, trivial, trivial⟩, trivial⟩⟩, ⟨⟨_, Go.Proofs.Tryz.func219, t219⟩, ⟨⟨_, Go.Proofs.Tryz.func218, t218⟩, ⟨⟨_, Go.Proofs.Tryz.func217, t217⟩, trivial, trivial⟩, trivial⟩, ⟨⟨_, Go.Proofs.Tryz.func220, t220⟩, trivial, trivial⟩⟩⟩⟩, ⟨⟨_, Go.Proofs.Tryz.func233, t233⟩, ⟨⟨_, Go.Proofs.Tryz.func228, t228⟩, ⟨⟨_, Go.Proofs.Tryz.func225, t225⟩, ⟨⟨_, Go.Proofs.Tryz.func223, t223⟩, ⟨⟨_, Go.Proofs.Tryz.func222, t222⟩, trivial, trivial⟩, trivial⟩, ⟨⟨_, Go.Proofs.Tryz.func227, t227⟩, ⟨⟨_, Go.Proofs.Tryz.func226, t226⟩, trivial, trivial⟩, trivial⟩⟩, ⟨⟨_, Go.Proofs.Tryz.func231, t231⟩, ⟨⟨_, Go.Proofs.Tryz.func230, t230⟩, ⟨⟨_, Go.Proofs.Tryz.func229, t229⟩, trivial, trivial⟩, trivial⟩, ⟨⟨_, Go.Proofs.Tryz.func232, t232⟩, trivial, trivial⟩⟩⟩, ⟨⟨_, Go.Proofs.Tryz.func238, t238⟩, ⟨⟨_, Go.Proofs.Tryz.func236, t236⟩, ⟨⟨_, Go.Proofs.Tryz.func235, t235⟩, ⟨⟨_, Go.Proofs.Tryz.func234, t234⟩, trivial, trivial⟩, trivial⟩, ⟨⟨_, Go.Proofs.Tryz.func237, t237⟩, trivial, trivial⟩⟩, ⟨⟨_, Go.Proofs.Tryz.func242, t242⟩, ⟨⟨_, Go.Proofs.Tryz.func241, t241⟩, ⟨⟨_, Go.Proofs.Tryz.func239, t239⟩, trivial, trivial⟩, trivial⟩, ⟨⟨_, Go.Proofs.Tryz.func251, t251⟩, trivial, trivial⟩⟩⟩⟩⟩, ⟨⟨_, Go.Proofs.Tryz.func288, t288⟩, ⟨⟨_, Go.Proofs.Tryz.func277, t277⟩, ⟨⟨_, Go.Proofs.Tryz.func261, t261⟩, ⟨⟨_, Go.Proofs.Tryz.func255, t255⟩, ⟨⟨_, Go.Proofs.Tryz.func254, t254⟩, ⟨⟨_, Go.Proofs.Tryz.func253, t253⟩, trivial, trivial⟩, trivial⟩, ⟨⟨_, Go.Proofs.Tryz.func258, t258⟩, ⟨⟨_, Go.Proofs.Tryz.func256, t256⟩, trivial, trivial⟩, trivial⟩⟩, ⟨⟨_, Go.Proofs.Tryz.func275, t275⟩, ⟨⟨_, Go.Proofs.Tryz.func274, t274⟩, ⟨⟨_, Go.Proofs.Tryz.func262, t262⟩, trivial, trivial⟩, trivial⟩, ⟨⟨_, Go.Proofs.Tryz.func276, t276⟩, trivial, trivial⟩⟩⟩, ⟨⟨_, Go.Proofs.Tryz.func283, t283⟩, ⟨⟨_, Go.Proofs.Tryz.func281, t281⟩, ⟨⟨_, Go.Proofs.Tryz.func280, t280⟩, ⟨⟨_, Go.Proofs.Tryz.func279, t279⟩, trivial, trivial⟩, trivial⟩, ⟨⟨_, Go.Proofs.Tryz.func282, t282⟩, trivial, trivial⟩⟩, ⟨⟨_, Go.Proofs.Tryz.func286, t286⟩, ⟨⟨_, Go.Proofs.Tryz.func285, t285⟩, ⟨⟨_, Go.Proofs.Tryz.func284, t284⟩, trivial, trivial⟩, trivial⟩, ⟨⟨_, Go.Proofs.Tryz.func287, t287⟩, trivial, trivial⟩⟩⟩⟩, ⟨⟨_, Go.Proofs.Tryz.func313, t313⟩, ⟨⟨_, Go.Proofs.Tryz.func297, t297⟩, ⟨⟨_, Go.Proofs.Tryz.func291, t291⟩, ⟨⟨_, Go.Proofs.Tryz.func290, t290⟩, ⟨⟨_, Go.Proofs.Tryz.func289, t289⟩, trivial, trivial⟩, trivial⟩, ⟨⟨_, Go.Proofs.Tryz.func293, t293⟩, ⟨⟨_, Go.Proofs.Tryz.func292, t292⟩, trivial, trivial⟩, trivial⟩⟩, ⟨⟨_, Go.Proofs.Tryz.func307, t307⟩, ⟨⟨_, Go.Proofs.Tryz.func306, t306⟩, ⟨⟨_, Go.Proofs.Tryz.func298, t298⟩, trivial, trivial⟩, trivial⟩, ⟨⟨_, Go.Proofs.Tryz.func311, t311⟩, trivial, trivial⟩⟩⟩, ⟨⟨_, Go.Proofs.Tryz.func320, t320⟩, ⟨⟨_, Go.Proofs.Tryz.func318, t318⟩, ⟨⟨_, Go.Proofs.Tryz.func316, t316⟩, ⟨⟨_, Go.Proofs.Tryz.func315, t315⟩, trivial, trivial⟩, trivial⟩, ⟨⟨_, Go.Proofs.Tryz.func319, t319⟩, trivial, trivial⟩⟩, ⟨⟨_, Go.Proofs.Tryz.func342, t342⟩, ⟨⟨_, Go.Proofs.Tryz.func334, t334⟩, ⟨⟨_, Go.Proofs.Tryz.func333, t333⟩, trivial, trivial⟩, trivial⟩, ⟨⟨_, Go.Proofs.Tryz.func350, t350⟩, trivial, trivial⟩⟩⟩⟩⟩⟩⟩
end Go.Vm

/-
  DERIVED: THE SHELF's CONTRACTS AT THIS DUMP, IN PLAIN WORDS (tools/lay-plain.mjs out of 'YtfdmcaddpfmchaaGreatDoorLyR.lean', which tools/lay-shelf.mjs wrote): THE SAME DECLARATIONS UNDER THE SAME NAMES: 'import', 'namespace', 'open', 'def', 'theorem' AND NOTHING ELSE: no command of the shelf's: FOR A HAND-IN. Each laying: the table of numbers ('.._ren') and one theorem, a field a fact of the dump's own or the kernel's comparison; each contract: ONE APPLICATION.
-/
namespace Go.Proofs
open Go.Shelf
def Tryz.lays190_ren : Go.Shelf.Ren := ⟨fun | 190 => 143 | 125 => 211 | 258 => 210 | 128 => 272 | 129 => 273 | 302 => 263 | 303 => 264 | 304 => 265 | 305 => 266 | 306 => 267 | 307 => 268 | 308 => 269 | 309 => 270 | 310 => 271 | 333 => 299 | 329 => 300 | 330 => 301 | 334 => 302 | 335 => 303 | 336 => 304 | 344 => 324 | n => n, fun | 31 => 46 | 9 => 9 | 3 => 3 | 46 => 66 | 0 => 0 | 51 => 286 | 53 => 288 | 4 => 4 | 183 => 278 | 182 => 277 | 131 => 283 | 5 => 5 | 218 => 309 | 222 => 313 | 228 => 335 | 229 => 336 | n => n, fun | n => n⟩
theorem Tryz.lays190 : Go.Proofs.Lays.n190 Tryz.prog Tryz.lays190_ren := {
  mixed := by kernel_rfl
  f125 := Tryz.func211.trans (congrArg some (by kernel_rfl))
  f128 := Tryz.func272.trans (congrArg some (by kernel_rfl))
  f129 := Tryz.func273.trans (congrArg some (by kernel_rfl))
  f190 := Tryz.func143.trans (congrArg some (by kernel_rfl))
  f258 := Tryz.func210.trans (congrArg some (by kernel_rfl))
  f302 := Tryz.func263.trans (congrArg some (by kernel_rfl))
  f303 := Tryz.func264.trans (congrArg some (by kernel_rfl))
  f304 := Tryz.func265.trans (congrArg some (by kernel_rfl))
  f305 := Tryz.func266.trans (congrArg some (by kernel_rfl))
  f306 := Tryz.func267.trans (congrArg some (by kernel_rfl))
  f307 := Tryz.func268.trans (congrArg some (by kernel_rfl))
  f308 := Tryz.func269.trans (congrArg some (by kernel_rfl))
  f309 := Tryz.func270.trans (congrArg some (by kernel_rfl))
  f310 := Tryz.func271.trans (congrArg some (by kernel_rfl))
  f329 := Tryz.func300.trans (congrArg some (by kernel_rfl))
  f330 := Tryz.func301.trans (congrArg some (by kernel_rfl))
  f333 := Tryz.func299.trans (congrArg some (by kernel_rfl))
  f334 := Tryz.func302.trans (congrArg some (by kernel_rfl))
  f335 := Tryz.func303.trans (congrArg some (by kernel_rfl))
  f336 := Tryz.func304.trans (congrArg some (by kernel_rfl))
  f344 := Tryz.func324.trans (congrArg some (by kernel_rfl))
  t0 := Tryz.underlying0
  a0 := Tryz.isAgg0
  z0 := Tryz.sizeOf0
  v0 := Tryz.zeroValue0
  t3 := Tryz.underlying3
  a3 := Tryz.isAgg3
  z3 := Tryz.sizeOf3
  v3 := Tryz.zeroValue3
  t4 := Tryz.underlying4
  a4 := Tryz.isAgg4
  z4 := Tryz.sizeOf4
  v4 := Tryz.zeroValue4
  t5 := Tryz.underlying5
  a5 := Tryz.isAgg5
  z5 := Tryz.sizeOf5
  v5 := Tryz.zeroValue5
  t9 := Tryz.underlying9
  a9 := Tryz.isAgg9
  z9 := Tryz.sizeOf9
  v9 := Tryz.zeroValue9
  t31 := Tryz.underlying46
  a31 := Tryz.isAgg46
  z31 := Tryz.sizeOf46
  v31 := Tryz.zeroValue46
  t46 := Tryz.underlying66
  a46 := Tryz.isAgg66
  z46 := Tryz.sizeOf66
  v46 := Tryz.zeroValue66
  t51 := Tryz.underlying286
  a51 := Tryz.isAgg286
  z51 := Tryz.sizeOf286
  v51 := Tryz.zeroValue286
  t53 := Tryz.underlying288
  a53 := Tryz.isAgg288
  z53 := Tryz.sizeOf288
  v53 := Tryz.zeroValue288
  t131 := Tryz.underlying283
  a131 := Tryz.isAgg283
  z131 := Tryz.sizeOf283
  v131 := Tryz.zeroValue283
  t182 := Tryz.underlying277
  a182 := Tryz.isAgg277
  z182 := Tryz.sizeOf277
  v182 := Tryz.zeroValue277
  t183 := Tryz.underlying278
  a183 := Tryz.isAgg278
  z183 := Tryz.sizeOf278
  v183 := Tryz.zeroValue278
  t218 := Tryz.underlying309
  a218 := Tryz.isAgg309
  z218 := Tryz.sizeOf309
  v218 := Tryz.zeroValue309
  t222 := Tryz.underlying313
  a222 := Tryz.isAgg313
  z222 := Tryz.sizeOf313
  v222 := Tryz.zeroValue313
  t228 := Tryz.underlying335
  a228 := Tryz.isAgg335
  z228 := Tryz.sizeOf335
  v228 := Tryz.zeroValue335
  t229 := Tryz.underlying336
  a229 := Tryz.isAgg336
  z229 := Tryz.sizeOf336
  v229 := Tryz.zeroValue336 }
def Tryz.lays194_ren : Go.Shelf.Ren := ⟨fun | 194 => 144 | n => n, fun | 31 => 46 | 9 => 9 | 3 => 3 | 4 => 4 | 0 => 0 | n => n, fun | n => n⟩
theorem Tryz.lays194 : Go.Proofs.Lays.n194 Tryz.prog Tryz.lays194_ren := {
  mixed := by kernel_rfl
  f194 := Tryz.func144.trans (congrArg some (by kernel_rfl))
  t0 := Tryz.underlying0
  a0 := Tryz.isAgg0
  z0 := Tryz.sizeOf0
  v0 := Tryz.zeroValue0
  t3 := Tryz.underlying3
  a3 := Tryz.isAgg3
  z3 := Tryz.sizeOf3
  v3 := Tryz.zeroValue3
  t4 := Tryz.underlying4
  a4 := Tryz.isAgg4
  z4 := Tryz.sizeOf4
  v4 := Tryz.zeroValue4
  t9 := Tryz.underlying9
  a9 := Tryz.isAgg9
  z9 := Tryz.sizeOf9
  v9 := Tryz.zeroValue9
  t31 := Tryz.underlying46
  a31 := Tryz.isAgg46
  z31 := Tryz.sizeOf46
  v31 := Tryz.zeroValue46 }
end Go.Proofs
