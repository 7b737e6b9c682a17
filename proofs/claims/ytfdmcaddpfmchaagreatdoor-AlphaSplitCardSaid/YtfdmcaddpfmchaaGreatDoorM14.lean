/-
  A part of a proof: the last text of the claim says what is proved, and under which conditions.
-/
import Derived.Test.YtfdmcaddpfmchaaGreatDoorProg
import Derived.Test.YtfdmcaddpfmchaaGreatDoorM1
import Derived.Test.YtfdmcaddpfmchaaGreatDoorM10
import Derived.Test.YtfdmcaddpfmchaaGreatDoorM11
import Derived.Test.YtfdmcaddpfmchaaGreatDoorM12
import Derived.Test.YtfdmcaddpfmchaaGreatDoorM13
import Derived.Shelf.Sort.Plain
import Derived.Shelf.Slices.CompactS
set_option linter.unusedSimpArgs false
set_option linter.unusedVariables false
set_option linter.unnecessarySimpa false
/- The functions of the translation as programs of the machine V. Written by gen.py out of the loaded functions. -/
namespace Go.Vm
set_option maxRecDepth 100000
def ftab:FT:=(.node 203 c203 (.node 122 c122 (.node 66 c66 (.node 50 c50 (.node 35 c35 (.node 14 c14 (.node 12 c12 (.node 11 c11 .leaf .leaf) (.node 13 c13 .leaf .leaf)) (.node 18 c18 (.node 16 c16 .leaf .leaf) (.node 21 c21 .leaf .leaf))) (.node 43 c43 (.node 41 c41 (.node 38 c38 .leaf .leaf) (.node 42 c42 .leaf .leaf)) (.node 49 c49 (.node 48 c48 .leaf .leaf) .leaf))) (.node 58 c58 (.node 54 c54 (.node 52 c52 (.node 51 c51 .leaf .leaf) (.node 53 c53 .leaf .leaf)) (.node 56 c56 (.node 55 c55 .leaf .leaf) (.node 57 c57 .leaf .leaf))) (.node 63 c63 (.node 61 c61 (.node 59 c59 .leaf .leaf) (.node 62 c62 .leaf .leaf)) (.node 65 c65 (.node 64 c64 .leaf .leaf) .leaf)))) (.node 106 c106 (.node 95 c95 (.node 75 c75 (.node 73 c73 (.node 68 c68 .leaf .leaf) (.node 74 c74 .leaf .leaf)) (.node 93 c93 (.node 83 c83 .leaf .leaf) (.node 94 c94 .leaf .leaf))) (.node 103 c103 (.node 98 c98 (.node 97 c97 .leaf .leaf) (.node 99 c99 .leaf .leaf)) (.node 105 c105 (.node 104 c104 .leaf .leaf) .leaf))) (.node 115 c115 (.node 111 c111 (.node 109 c109 (.node 107 c107 .leaf .leaf) (.node 110 c110 .leaf .leaf)) (.node 113 c113 (.node 112 c112 .leaf .leaf) (.node 114 c114 .leaf .leaf))) (.node 119 c119 (.node 117 c117 (.node 116 c116 .leaf .leaf) (.node 118 c118 .leaf .leaf)) (.node 121 c121 (.node 120 c120 .leaf .leaf) .leaf))))) (.node 172 c172 (.node 155 c155 (.node 133 c133 (.node 126 c126 (.node 124 c124 (.node 123 c123 .leaf .leaf) (.node 125 c125 .leaf .leaf)) (.node 131 c131 (.node 130 c130 .leaf .leaf) (.node 132 c132 .leaf .leaf))) (.node 146 c146 (.node 141 c141 (.node 140 c140 .leaf .leaf) (.node 142 c142 .leaf .leaf)) (.node 154 c154 (.node 153 c153 .leaf .leaf) .leaf))) (.node 165 c165 (.node 159 c159 (.node 157 c157 (.node 156 c156 .leaf .leaf) (.node 158 c158 .leaf .leaf)) (.node 161 c161 (.node 160 c160 .leaf .leaf) (.node 162 c162 .leaf .leaf))) (.node 169 c169 (.node 167 c167 (.node 166 c166 .leaf .leaf) (.node 168 c168 .leaf .leaf)) (.node 171 c171 (.node 170 c170 .leaf .leaf) .leaf)))) (.node 188 c188 (.node 181 c181 (.node 176 c176 (.node 174 c174 (.node 173 c173 .leaf .leaf) (.node 175 c175 .leaf .leaf)) (.node 179 c179 (.node 178 c178 .leaf .leaf) (.node 180 c180 .leaf .leaf))) (.node 185 c185 (.node 183 c183 (.node 182 c182 .leaf .leaf) (.node 184 c184 .leaf .leaf)) (.node 187 c187 (.node 186 c186 .leaf .leaf) .leaf))) (.node 196 c196 (.node 192 c192 (.node 190 c190 (.node 189 c189 .leaf .leaf) (.node 191 c191 .leaf .leaf)) (.node 194 c194 (.node 193 c193 .leaf .leaf) (.node 195 c195 .leaf .leaf))) (.node 200 c200 (.node 198 c198 (.node 197 c197 .leaf .leaf) (.node 199 c199 .leaf .leaf)) (.node 202 c202 (.node 201 c201 .leaf .leaf) .leaf)))))) (.node 288 c288 (.node 243 c243 (.node 228 c228 (.node 221 c221 (.node 217 c217 (.node 209 c209 (.node 204 c204 .leaf .leaf) (.node 216 c216 .leaf .leaf)) (.node 219 c219 (.node 218 c218 .leaf .leaf) (.node 220 c220 .leaf .leaf))) (.node 225 c225 (.node 223 c223 (.node 222 c222 .leaf .leaf) (.node 224 c224 .leaf .leaf)) (.node 227 c227 (.node 226 c226 .leaf .leaf) .leaf))) (.node 236 c236 (.node 232 c232 (.node 230 c230 (.node 229 c229 .leaf .leaf) (.node 231 c231 .leaf .leaf)) (.node 234 c234 (.node 233 c233 .leaf .leaf) (.node 235 c235 .leaf .leaf))) (.node 240 c240 (.node 238 c238 (.node 237 c237 .leaf .leaf) (.node 239 c239 .leaf .leaf)) (.node 242 c242 (.node 241 c241 .leaf .leaf) .leaf)))) (.node 262 c262 (.node 252 c252 (.node 248 c248 (.node 245 c245 (.node 244 c244 .leaf .leaf) (.node 246 c246 .leaf .leaf)) (.node 250 c250 (.node 249 c249 .leaf .leaf) (.node 251 c251 .leaf .leaf))) (.node 256 c256 (.node 254 c254 (.node 253 c253 .leaf .leaf) (.node 255 c255 .leaf .leaf)) (.node 261 c261 (.node 258 c258 .leaf .leaf) .leaf))) (.node 281 c281 (.node 277 c277 (.node 275 c275 (.node 273 c273 .leaf .leaf) (.node 276 c276 .leaf .leaf)) (.node 279 c279 (.node 278 c278 .leaf .leaf) (.node 280 c280 .leaf .leaf))) (.node 285 c285 (.node 283 c283 (.node 282 c282 .leaf .leaf) (.node 284 c284 .leaf .leaf)) (.node 287 c287 (.node 286 c286 .leaf .leaf) .leaf))))) (.node 327 c327 (.node 311 c311 (.node 297 c297 (.node 292 c292 (.node 290 c290 (.node 289 c289 .leaf .leaf) (.node 291 c291 .leaf .leaf)) (.node 294 c294 (.node 293 c293 .leaf .leaf) (.node 295 c295 .leaf .leaf))) (.node 308 c308 (.node 306 c306 (.node 298 c298 .leaf .leaf) (.node 307 c307 .leaf .leaf)) (.node 310 c310 (.node 309 c309 .leaf .leaf) .leaf))) (.node 319 c319 (.node 315 c315 (.node 313 c313 (.node 312 c312 .leaf .leaf) (.node 314 c314 .leaf .leaf)) (.node 317 c317 (.node 316 c316 .leaf .leaf) (.node 318 c318 .leaf .leaf))) (.node 323 c323 (.node 321 c321 (.node 320 c320 .leaf .leaf) (.node 322 c322 .leaf .leaf)) (.node 326 c326 (.node 325 c325 .leaf .leaf) .leaf)))) (.node 342 c342 (.node 335 c335 (.node 331 c331 (.node 329 c329 (.node 328 c328 .leaf .leaf) (.node 330 c330 .leaf .leaf)) (.node 333 c333 (.node 332 c332 .leaf .leaf) (.node 334 c334 .leaf .leaf))) (.node 339 c339 (.node 337 c337 (.node 336 c336 .leaf .leaf) (.node 338 c338 .leaf .leaf)) (.node 341 c341 (.node 340 c340 .leaf .leaf) .leaf))) (.node 353 c353 (.node 349 c349 (.node 344 c344 (.node 343 c343 .leaf .leaf) (.node 348 c348 .leaf .leaf)) (.node 351 c351 (.node 350 c350 .leaf .leaf) (.node 352 c352 .leaf .leaf))) (.node 357 c357 (.node 355 c355 (.node 354 c354 .leaf .leaf) (.node 356 c356 .leaf .leaf)) (.node 359 c359 (.node 358 c358 .leaf .leaf) .leaf)))))))
theorem ftab_ok:FT.All (fun k F=>∃ fn,Go.Proofs.Tryz.prog.funcs[k]? = some fn∧trF Go.Proofs.Tryz.prog fn F=true) ftab:=⟨⟨_,Go.Proofs.Tryz.func203,t203⟩,⟨⟨_,Go.Proofs.Tryz.func122,t122⟩,⟨⟨_,Go.Proofs.Tryz.func66,t66⟩,⟨⟨_,Go.Proofs.Tryz.func50,t50⟩,⟨⟨_,Go.Proofs.Tryz.func35,t35⟩,⟨⟨_,Go.Proofs.Tryz.func14,t14⟩,⟨⟨_,Go.Proofs.Tryz.func12,t12⟩,⟨⟨_,Go.Proofs.Tryz.func11,t11⟩,trivial,trivial⟩,⟨⟨_,Go.Proofs.Tryz.func13,t13⟩,trivial,trivial⟩⟩,⟨⟨_,Go.Proofs.Tryz.func18,t18⟩,⟨⟨_,Go.Proofs.Tryz.func16,t16⟩,trivial,trivial⟩,⟨⟨_,Go.Proofs.Tryz.func21,t21⟩,trivial,trivial⟩⟩⟩,⟨⟨_,Go.Proofs.Tryz.func43,t43⟩,⟨⟨_,Go.Proofs.Tryz.func41,t41⟩,⟨⟨_,Go.Proofs.Tryz.func38,t38⟩,trivial,trivial⟩,⟨⟨_,Go.Proofs.Tryz.func42,t42⟩,trivial,trivial⟩⟩,⟨⟨_,Go.Proofs.Tryz.func49,t49⟩,⟨⟨_,Go.Proofs.Tryz.func48,t48⟩,trivial,trivial⟩,trivial⟩⟩⟩,⟨⟨_,Go.Proofs.Tryz.func58,t58⟩,⟨⟨_,Go.Proofs.Tryz.func54,t54⟩,⟨⟨_,Go.Proofs.Tryz.func52,t52⟩,⟨⟨_,Go.Proofs.Tryz.func51,t51⟩,trivial,trivial⟩,⟨⟨_,Go.Proofs.Tryz.func53,t53⟩,trivial,trivial⟩⟩,⟨⟨_,Go.Proofs.Tryz.func56,t56⟩,⟨⟨_,Go.Proofs.Tryz.func55,t55⟩,trivial,trivial⟩,⟨⟨_,Go.Proofs.Tryz.func57,t57⟩,trivial,trivial⟩⟩⟩,⟨⟨_,Go.Proofs.Tryz.func63,t63⟩,⟨⟨_,Go.Proofs.Tryz.func61,t61⟩,⟨⟨_,Go.Proofs.Tryz.func59,t59⟩,trivial,trivial⟩,⟨⟨_,Go.Proofs.Tryz.func62,t62⟩,trivial,trivial⟩⟩,⟨⟨_,Go.Proofs.Tryz.func65,t65⟩,⟨⟨_,Go.Proofs.Tryz.func64,t64⟩,trivial,trivial⟩,trivial⟩⟩⟩⟩,⟨⟨_,Go.Proofs.Tryz.func106,t106⟩,⟨⟨_,Go.Proofs.Tryz.func95,t95⟩,⟨⟨_,Go.Proofs.Tryz.func75,t75⟩,⟨⟨_,Go.Proofs.Tryz.func73,t73⟩,⟨⟨_,Go.Proofs.Tryz.func68,t68⟩,trivial,trivial⟩,⟨⟨_,Go.Proofs.Tryz.func74,t74⟩,trivial,trivial⟩⟩,⟨⟨_,Go.Proofs.Tryz.func93,t93⟩,⟨⟨_,Go.Proofs.Tryz.func83,t83⟩,trivial,trivial⟩,⟨⟨_,Go.Proofs.Tryz.func94,t94⟩,trivial,trivial⟩⟩⟩,⟨⟨_,Go.Proofs.Tryz.func103,t103⟩,⟨⟨_,Go.Proofs.Tryz.func98,t98⟩,⟨⟨_,Go.Proofs.Tryz.func97,t97⟩,trivial,trivial⟩,⟨⟨_,Go.Proofs.Tryz.func99,t99⟩,trivial,trivial⟩⟩,⟨⟨_,Go.Proofs.Tryz.func105,t105⟩,⟨⟨_,Go.Proofs.Tryz.func104,t104⟩,trivial,trivial⟩,trivial⟩⟩⟩,⟨⟨_,Go.Proofs.Tryz.func115,t115⟩,⟨⟨_,Go.Proofs.Tryz.func111,t111⟩,⟨⟨_,Go.Proofs.Tryz.func109,t109⟩,⟨⟨_,Go.Proofs.Tryz.func107,t107⟩,trivial,trivial⟩,⟨⟨_,Go.Proofs.Tryz.func110,t110⟩,trivial,trivial⟩⟩,⟨⟨_,Go.Proofs.Tryz.func113,t113⟩,⟨⟨_,Go.Proofs.Tryz.func112,t112⟩,trivial,trivial⟩,⟨⟨_,Go.Proofs.Tryz.func114,t114⟩,trivial,trivial⟩⟩⟩,⟨⟨_,Go.Proofs.Tryz.func119,t119⟩,⟨⟨_,Go.Proofs.Tryz.func117,t117⟩,⟨⟨_,Go.Proofs.Tryz.func116,t116⟩,trivial,trivial⟩,⟨⟨_,Go.Proofs.Tryz.func118,t118⟩,trivial,trivial⟩⟩,⟨⟨_,Go.Proofs.Tryz.func121,t121⟩,⟨⟨_,Go.Proofs.Tryz.func120,t120⟩,trivial,trivial⟩,trivial⟩⟩⟩⟩⟩,⟨⟨_,Go.Proofs.Tryz.func172,t172⟩,⟨⟨_,Go.Proofs.Tryz.func155,t155⟩,⟨⟨_,Go.Proofs.Tryz.func133,t133⟩,⟨⟨_,Go.Proofs.Tryz.func126,t126⟩,⟨⟨_,Go.Proofs.Tryz.func124,t124⟩,⟨⟨_,Go.Proofs.Tryz.func123,t123⟩,trivial,trivial⟩,⟨⟨_,Go.Proofs.Tryz.func125,t125⟩,trivial,trivial⟩⟩,⟨⟨_,Go.Proofs.Tryz.func131,t131⟩,⟨⟨_,Go.Proofs.Tryz.func130,t130⟩,trivial,trivial⟩,⟨⟨_,Go.Proofs.Tryz.func132,t132⟩,trivial,trivial⟩⟩⟩,⟨⟨_,Go.Proofs.Tryz.func146,t146⟩,⟨⟨_,Go.Proofs.Tryz.func141,t141⟩,⟨⟨_,Go.Proofs.Tryz.func140,t140⟩,trivial,trivial⟩,⟨⟨_,Go.Proofs.Tryz.func142,t142⟩,trivial,trivial⟩⟩,⟨⟨_,Go.Proofs.Tryz.func154,t154⟩,⟨⟨_,Go.Proofs.Tryz.func153,t153⟩,trivial,trivial⟩,trivial⟩⟩⟩,⟨⟨_,Go.Proofs.Tryz.func165,t165⟩,⟨⟨_,Go.Proofs.Tryz.func159,t159⟩,⟨⟨_,Go.Proofs.Tryz.func157,t157⟩,⟨⟨_,Go.Proofs.Tryz.func156,t156⟩,trivial,trivial⟩,⟨⟨_,Go.Proofs.Tryz.func158,t158⟩,trivial,trivial⟩⟩,⟨⟨_,Go.Proofs.Tryz.func161,t161⟩,⟨⟨_,Go.Proofs.Tryz.func160,t160⟩,trivial,trivial⟩,⟨⟨_,Go.Proofs.Tryz.func162,t162⟩,trivial,trivial⟩⟩⟩,⟨⟨_,Go.Proofs.Tryz.func169,t169⟩,⟨⟨_,Go.Proofs.Tryz.func167,t167⟩,⟨⟨_,Go.Proofs.Tryz.func166,t166⟩,trivial,trivial⟩,⟨⟨_,Go.Proofs.Tryz.func168,t168⟩,trivial,trivial⟩⟩,⟨⟨_,Go.Proofs.Tryz.func171,t171⟩,⟨⟨_,Go.Proofs.Tryz.func170,t170⟩,trivial,trivial⟩,trivial⟩⟩⟩⟩,⟨⟨_,Go.Proofs.Tryz.func188,t188⟩,⟨⟨_,Go.Proofs.Tryz.func181,t181⟩,⟨⟨_,Go.Proofs.Tryz.func176,t176⟩,⟨⟨_,Go.Proofs.Tryz.func174,t174⟩,⟨⟨_,Go.Proofs.Tryz.func173,t173⟩,trivial,trivial⟩,⟨⟨_,Go.Proofs.Tryz.func175,t175⟩,trivial,trivial⟩⟩,⟨⟨_,Go.Proofs.Tryz.func179,t179⟩,⟨⟨_,Go.Proofs.Tryz.func178,t178⟩,trivial,trivial⟩,⟨⟨_,Go.Proofs.Tryz.func180,t180⟩,trivial,trivial⟩⟩⟩,⟨⟨_,Go.Proofs.Tryz.func185,t185⟩,⟨⟨_,Go.Proofs.Tryz.func183,t183⟩,⟨⟨_,Go.Proofs.Tryz.func182,t182⟩,trivial,trivial⟩,⟨⟨_,Go.Proofs.Tryz.func184,t184⟩,trivial,trivial⟩⟩,⟨⟨_,Go.Proofs.Tryz.func187,t187⟩,⟨⟨_,Go.Proofs.Tryz.func186,t186⟩,trivial,trivial⟩,trivial⟩⟩⟩,⟨⟨_,Go.Proofs.Tryz.func196,t196⟩,⟨⟨_,Go.Proofs.Tryz.func192,t192⟩,⟨⟨_,Go.Proofs.Tryz.func190,t190⟩,⟨⟨_,Go.Proofs.Tryz.func189,t189⟩,trivial,trivial⟩,⟨⟨_,Go.Proofs.Tryz.func191,t191⟩,trivial,trivial⟩⟩,⟨⟨_,Go.Proofs.Tryz.func194,t194⟩,⟨⟨_,Go.Proofs.Tryz.func193,t193⟩,trivial,trivial⟩,⟨⟨_,Go.Proofs.Tryz.func195,t195⟩,trivial,trivial⟩⟩⟩,⟨⟨_,Go.Proofs.Tryz.func200,t200⟩,⟨⟨_,Go.Proofs.Tryz.func198,t198⟩,⟨⟨_,Go.Proofs.Tryz.func197,t197⟩,trivial,trivial⟩,⟨⟨_,Go.Proofs.Tryz.func199,t199⟩,trivial,trivial⟩⟩,⟨⟨_,Go.Proofs.Tryz.func202,t202⟩,⟨⟨_,Go.Proofs.Tryz.func201,t201⟩,trivial,trivial⟩,trivial⟩⟩⟩⟩⟩⟩,⟨⟨_,Go.Proofs.Tryz.func288,t288⟩,⟨⟨_,Go.Proofs.Tryz.func243,t243⟩,⟨⟨_,Go.Proofs.Tryz.func228,t228⟩,⟨⟨_,Go.Proofs.Tryz.func221,t221⟩,⟨⟨_,Go.Proofs.Tryz.func217,t217⟩,⟨⟨_,Go.Proofs.Tryz.func209,t209⟩,⟨⟨_,Go.Proofs.Tryz.func204,t204⟩,trivial,trivial⟩,⟨⟨_,Go.Proofs.Tryz.func216,t216⟩,trivial,trivial⟩⟩,⟨⟨_,Go.Proofs.Tryz.func219,t219⟩,⟨⟨_,Go.Proofs.Tryz.func218,t218⟩,trivial,trivial⟩,⟨⟨_,Go.Proofs.Tryz.func220,t220⟩,trivial,trivial⟩⟩⟩,⟨⟨_,Go.Proofs.Tryz.func225,t225⟩,⟨⟨_,Go.Proofs.Tryz.func223,t223⟩,⟨⟨_,Go.Proofs.Tryz.func222,t222⟩,trivial,trivial⟩,⟨⟨_,Go.Proofs.Tryz.func224,t224⟩,trivial,trivial⟩⟩,⟨⟨_,Go.Proofs.Tryz.func227,t227⟩,⟨⟨_,Go.Proofs.Tryz.func226,t226⟩,trivial,trivial⟩,trivial⟩⟩⟩,⟨⟨_,Go.Proofs.Tryz.func236,t236⟩,⟨⟨_,Go.Proofs.Tryz.func232,t232⟩,⟨⟨_,Go.Proofs.Tryz.func230,t230⟩,⟨⟨_,Go.Proofs.Tryz.func229,t229⟩,trivial,trivial⟩,⟨⟨_,Go.Proofs.Tryz.func231,t231⟩,trivial,trivial⟩⟩,⟨⟨_,Go.Proofs.Tryz.func234,t234⟩,⟨⟨_,Go.Proofs.Tryz.func233,t233⟩,trivial,trivial⟩,⟨⟨_,Go.Proofs.Tryz.func235,t235⟩,trivial,trivial⟩⟩⟩,⟨⟨_,Go.Proofs.Tryz.func240,t240⟩,⟨⟨_,Go.Proofs.Tryz.func238,t238⟩,⟨⟨_,Go.Proofs.Tryz.func237,t237⟩,trivial,trivial⟩,⟨⟨_,Go.Proofs.Tryz.func239,t239⟩,trivial,trivial⟩⟩,⟨⟨_,Go.Proofs.Tryz.func242,t242⟩,⟨⟨_,Go.Proofs.Tryz.func241,t241⟩,trivial,trivial⟩,trivial⟩⟩⟩⟩,⟨⟨_,Go.Proofs.Tryz.func262,t262⟩,⟨⟨_,Go.Proofs.Tryz.func252,t252⟩,⟨⟨_,Go.Proofs.Tryz.func248,t248⟩,⟨⟨_,Go.Proofs.Tryz.func245,t245⟩,⟨⟨_,Go.Proofs.Tryz.func244,t244⟩,trivial,trivial⟩,⟨⟨_,Go.Proofs.Tryz.func246,t246⟩,trivial,trivial⟩⟩,⟨⟨_,Go.Proofs.Tryz.func250,t250⟩,⟨⟨_,Go.Proofs.Tryz.func249,t249⟩,trivial,trivial⟩,⟨⟨_,Go.Proofs.Tryz.func251,t251⟩,trivial,trivial⟩⟩⟩,⟨⟨_,Go.Proofs.Tryz.func256,t256⟩,⟨⟨_,Go.Proofs.Tryz.func254,t254⟩,⟨⟨_,Go.Proofs.Tryz.func253,t253⟩,trivial,trivial⟩,⟨⟨_,Go.Proofs.Tryz.func255,t255⟩,trivial,trivial⟩⟩,⟨⟨_,Go.Proofs.Tryz.func261,t261⟩,⟨⟨_,Go.Proofs.Tryz.func258,t258⟩,trivial,trivial⟩,trivial⟩⟩⟩,⟨⟨_,Go.Proofs.Tryz.func281,t281⟩,⟨⟨_,Go.Proofs.Tryz.func277,t277⟩,⟨⟨_,Go.Proofs.Tryz.func275,t275⟩,⟨⟨_,Go.Proofs.Tryz.func273,t273⟩,trivial,trivial⟩,⟨⟨_,Go.Proofs.Tryz.func276,t276⟩,trivial,trivial⟩⟩,⟨⟨_,Go.Proofs.Tryz.func279,t279⟩,⟨⟨_,Go.Proofs.Tryz.func278,t278⟩,trivial,trivial⟩,⟨⟨_,Go.Proofs.Tryz.func280,t280⟩,trivial,trivial⟩⟩⟩,⟨⟨_,Go.Proofs.Tryz.func285,t285⟩,⟨⟨_,Go.Proofs.Tryz.func283,t283⟩,⟨⟨_,Go.Proofs.Tryz.func282,t282⟩,trivial,trivial⟩,⟨⟨_,Go.Proofs.Tryz.func284,t284⟩,trivial,trivial⟩⟩,⟨⟨_,Go.Proofs.Tryz.func287,t287⟩,⟨⟨_,Go.Proofs.Tryz.func286,t286⟩,trivial,trivial⟩,trivial⟩⟩⟩⟩⟩,⟨⟨_,Go.Proofs.Tryz.func327,t327⟩,⟨⟨_,Go.Proofs.Tryz.func311,t311⟩,⟨⟨_,Go.Proofs.Tryz.func297,t297⟩,⟨⟨_,Go.Proofs.Tryz.func292,t292⟩,⟨⟨_,Go.Proofs.Tryz.func290,t290⟩,⟨⟨_,Go.Proofs.Tryz.func289,t289⟩,trivial,trivial⟩,⟨⟨_,Go.Proofs.Tryz.func291,t291⟩,trivial,trivial⟩⟩,⟨⟨_,Go.Proofs.Tryz.func294,t294⟩,⟨⟨_,Go.Proofs.Tryz.func293,t293⟩,trivial,trivial⟩,⟨⟨_,Go.Proofs.Tryz.func295,t295⟩,trivial,trivial⟩⟩⟩,⟨⟨_,Go.Proofs.Tryz.func308,t308⟩,⟨⟨_,Go.Proofs.Tryz.func306,t306⟩,⟨⟨_,Go.Proofs.Tryz.func298,t298⟩,trivial,trivial⟩,⟨⟨_,Go.Proofs.Tryz.func307,t307⟩,trivial,trivial⟩⟩,⟨⟨_,Go.Proofs.Tryz.func310,t310⟩,⟨⟨_,Go.Proofs.Tryz.func309,t309⟩,trivial,trivial⟩,trivial⟩⟩⟩,⟨⟨_,Go.Proofs.Tryz.func319,t319⟩,⟨⟨_,Go.Proofs.Tryz.func315,t315⟩,⟨⟨_,Go.Proofs.Tryz.func313,t313⟩,⟨⟨_,Go.Proofs.Tryz.func312,t312⟩,trivial,trivial⟩,⟨⟨_,Go.Proofs.Tryz.func314,t314⟩,trivial,trivial⟩⟩,⟨⟨_,Go.Proofs.Tryz.func317,t317⟩,⟨⟨_,Go.Proofs.Tryz.func316,t316⟩,trivial,trivial⟩,⟨⟨_,Go.Proofs.Tryz.func318,t318⟩,trivial,trivial⟩⟩⟩,⟨⟨_,Go.Proofs.Tryz.func323,t323⟩,⟨⟨_,Go.Proofs.Tryz.func321,t321⟩,⟨⟨_,Go.Proofs.Tryz.func320,t320⟩,trivial,trivial⟩,⟨⟨_,Go.Proofs.Tryz.func322,t322⟩,trivial,trivial⟩⟩,⟨⟨_,Go.Proofs.Tryz.func326,t326⟩,⟨⟨_,Go.Proofs.Tryz.func325,t325⟩,trivial,trivial⟩,trivial⟩⟩⟩⟩,⟨⟨_,Go.Proofs.Tryz.func342,t342⟩,⟨⟨_,Go.Proofs.Tryz.func335,t335⟩,⟨⟨_,Go.Proofs.Tryz.func331,t331⟩,⟨⟨_,Go.Proofs.Tryz.func329,t329⟩,⟨⟨_,Go.Proofs.Tryz.func328,t328⟩,trivial,trivial⟩,⟨⟨_,Go.Proofs.Tryz.func330,t330⟩,trivial,trivial⟩⟩,⟨⟨_,Go.Proofs.Tryz.func333,t333⟩,⟨⟨_,Go.Proofs.Tryz.func332,t332⟩,trivial,trivial⟩,⟨⟨_,Go.Proofs.Tryz.func334,t334⟩,trivial,trivial⟩⟩⟩,⟨⟨_,Go.Proofs.Tryz.func339,t339⟩,⟨⟨_,Go.Proofs.Tryz.func337,t337⟩,⟨⟨_,Go.Proofs.Tryz.func336,t336⟩,trivial,trivial⟩,⟨⟨_,Go.Proofs.Tryz.func338,t338⟩,trivial,trivial⟩⟩,⟨⟨_,Go.Proofs.Tryz.func341,t341⟩,⟨⟨_,Go.Proofs.Tryz.func340,t340⟩,trivial,trivial⟩,trivial⟩⟩⟩,⟨⟨_,Go.Proofs.Tryz.func353,t353⟩,⟨⟨_,Go.Proofs.Tryz.func349,t349⟩,⟨⟨_,Go.Proofs.Tryz.func344,t344⟩,⟨⟨_,Go.Proofs.Tryz.func343,t343⟩,trivial,trivial⟩,⟨⟨_,Go.Proofs.Tryz.func348,t348⟩,trivial,trivial⟩⟩,⟨⟨_,Go.Proofs.Tryz.func351,t351⟩,⟨⟨_,Go.Proofs.Tryz.func350,t350⟩,trivial,trivial⟩,⟨⟨_,Go.Proofs.Tryz.func352,t352⟩,trivial,trivial⟩⟩⟩,⟨⟨_,Go.Proofs.Tryz.func357,t357⟩,⟨⟨_,Go.Proofs.Tryz.func355,t355⟩,⟨⟨_,Go.Proofs.Tryz.func354,t354⟩,trivial,trivial⟩,⟨⟨_,Go.Proofs.Tryz.func356,t356⟩,trivial,trivial⟩⟩,⟨⟨_,Go.Proofs.Tryz.func359,t359⟩,⟨⟨_,Go.Proofs.Tryz.func358,t358⟩,trivial,trivial⟩,trivial⟩⟩⟩⟩⟩⟩⟩
end Go.Vm
/-
  DERIVED: THE SHELF's CONTRACTS AT THIS DUMP, IN PLAIN WORDS (tools/lay-plain.mjs out of 'YtfdmcaddpfmchaaGreatDoorLyR.lean', which tools/lay-shelf.mjs wrote): THE SAME DECLARATIONS UNDER THE SAME NAMES: 'import', 'namespace', 'open', 'def', 'theorem' AND NOTHING ELSE: no command of the shelf's: FOR A HAND-IN. Each laying: the table of numbers ('.._ren') and one theorem, a field a fact of the dump's own or the kernel's comparison; each contract: ONE APPLICATION.
-/
namespace Go.Proofs
open Go.Shelf
def Tryz.lays190_ren:Go.Shelf.Ren:=⟨fun|190=>143|125=>211|258=>210|128=>272|129=>273|302=>263|303=>264|304=>265|305=>266|306=>267|307=>268|308=>269|309=>270|310=>271|333=>299|329=>300|330=>301|334=>302|335=>303|336=>304|344=>324|n=>n,fun|31=>46|9=>9|3=>3|46=>66|0=>0|51=>286|53=>288|4=>4|183=>278|182=>277|131=>283|5=>5|218=>309|222=>313|228=>335|229=>336|n=>n,fun|n=>n⟩
theorem Tryz.lays190:Go.Proofs.Lays.n190 Tryz.prog Tryz.lays190_ren:={
 mixed:=by kernel_rfl
 f125:=Tryz.func211.trans (congrArg some (by kernel_rfl))
 f128:=Tryz.func272.trans (congrArg some (by kernel_rfl))
 f129:=Tryz.func273.trans (congrArg some (by kernel_rfl))
 f190:=Tryz.func143.trans (congrArg some (by kernel_rfl))
 f258:=Tryz.func210.trans (congrArg some (by kernel_rfl))
 f302:=Tryz.func263.trans (congrArg some (by kernel_rfl))
 f303:=Tryz.func264.trans (congrArg some (by kernel_rfl))
 f304:=Tryz.func265.trans (congrArg some (by kernel_rfl))
 f305:=Tryz.func266.trans (congrArg some (by kernel_rfl))
 f306:=Tryz.func267.trans (congrArg some (by kernel_rfl))
 f307:=Tryz.func268.trans (congrArg some (by kernel_rfl))
 f308:=Tryz.func269.trans (congrArg some (by kernel_rfl))
 f309:=Tryz.func270.trans (congrArg some (by kernel_rfl))
 f310:=Tryz.func271.trans (congrArg some (by kernel_rfl))
 f329:=Tryz.func300.trans (congrArg some (by kernel_rfl))
 f330:=Tryz.func301.trans (congrArg some (by kernel_rfl))
 f333:=Tryz.func299.trans (congrArg some (by kernel_rfl))
 f334:=Tryz.func302.trans (congrArg some (by kernel_rfl))
 f335:=Tryz.func303.trans (congrArg some (by kernel_rfl))
 f336:=Tryz.func304.trans (congrArg some (by kernel_rfl))
 f344:=Tryz.func324.trans (congrArg some (by kernel_rfl))
 t0:=Tryz.underlying0
 a0:=Tryz.isAgg0
 z0:=Tryz.sizeOf0
 v0:=Tryz.zeroValue0
 t3:=Tryz.underlying3
 a3:=Tryz.isAgg3
 z3:=Tryz.sizeOf3
 v3:=Tryz.zeroValue3
 t4:=Tryz.underlying4
 a4:=Tryz.isAgg4
 z4:=Tryz.sizeOf4
 v4:=Tryz.zeroValue4
 t5:=Tryz.underlying5
 a5:=Tryz.isAgg5
 z5:=Tryz.sizeOf5
 v5:=Tryz.zeroValue5
 t9:=Tryz.underlying9
 a9:=Tryz.isAgg9
 z9:=Tryz.sizeOf9
 v9:=Tryz.zeroValue9
 t31:=Tryz.underlying46
 a31:=Tryz.isAgg46
 z31:=Tryz.sizeOf46
 v31:=Tryz.zeroValue46
 t46:=Tryz.underlying66
 a46:=Tryz.isAgg66
 z46:=Tryz.sizeOf66
 v46:=Tryz.zeroValue66
 t51:=Tryz.underlying286
 a51:=Tryz.isAgg286
 z51:=Tryz.sizeOf286
 v51:=Tryz.zeroValue286
 t53:=Tryz.underlying288
 a53:=Tryz.isAgg288
 z53:=Tryz.sizeOf288
 v53:=Tryz.zeroValue288
 t131:=Tryz.underlying283
 a131:=Tryz.isAgg283
 z131:=Tryz.sizeOf283
 v131:=Tryz.zeroValue283
 t182:=Tryz.underlying277
 a182:=Tryz.isAgg277
 z182:=Tryz.sizeOf277
 v182:=Tryz.zeroValue277
 t183:=Tryz.underlying278
 a183:=Tryz.isAgg278
 z183:=Tryz.sizeOf278
 v183:=Tryz.zeroValue278
 t218:=Tryz.underlying309
 a218:=Tryz.isAgg309
 z218:=Tryz.sizeOf309
 v218:=Tryz.zeroValue309
 t222:=Tryz.underlying313
 a222:=Tryz.isAgg313
 z222:=Tryz.sizeOf313
 v222:=Tryz.zeroValue313
 t228:=Tryz.underlying335
 a228:=Tryz.isAgg335
 z228:=Tryz.sizeOf335
 v228:=Tryz.zeroValue335
 t229:=Tryz.underlying336
 a229:=Tryz.isAgg336
 z229:=Tryz.sizeOf336
 v229:=Tryz.zeroValue336 }
def Tryz.lays194_ren:Go.Shelf.Ren:=⟨fun|194=>144|n=>n,fun|31=>46|9=>9|3=>3|4=>4|0=>0|n=>n,fun|n=>n⟩
theorem Tryz.lays194:Go.Proofs.Lays.n194 Tryz.prog Tryz.lays194_ren:={
 mixed:=by kernel_rfl
 f194:=Tryz.func144.trans (congrArg some (by kernel_rfl))
 t0:=Tryz.underlying0
 a0:=Tryz.isAgg0
 z0:=Tryz.sizeOf0
 v0:=Tryz.zeroValue0
 t3:=Tryz.underlying3
 a3:=Tryz.isAgg3
 z3:=Tryz.sizeOf3
 v3:=Tryz.zeroValue3
 t4:=Tryz.underlying4
 a4:=Tryz.isAgg4
 z4:=Tryz.sizeOf4
 v4:=Tryz.zeroValue4
 t9:=Tryz.underlying9
 a9:=Tryz.isAgg9
 z9:=Tryz.sizeOf9
 v9:=Tryz.zeroValue9
 t31:=Tryz.underlying46
 a31:=Tryz.isAgg46
 z31:=Tryz.sizeOf46
 v31:=Tryz.zeroValue46 }
end Go.Proofs
