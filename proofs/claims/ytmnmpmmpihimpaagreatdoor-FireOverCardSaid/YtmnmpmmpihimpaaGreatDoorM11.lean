/-
  A part of a proof: the last text of the claim says what is proved, and under which conditions.
-/
import Derived.Test.YtmnmpmmpihimpaaGreatDoorProg
import Derived.Test.YtmnmpmmpihimpaaGreatDoorM1
import Derived.Test.YtmnmpmmpihimpaaGreatDoorM7
import Derived.Test.YtmnmpmmpihimpaaGreatDoorM8
import Derived.Test.YtmnmpmmpihimpaaGreatDoorM9
import Derived.Test.YtmnmpmmpihimpaaGreatDoorM10
import Derived.Shelf.LaysM
import Derived.Shelf.Strconv.Itoa3
import Derived.Test.YtmnmpmmpihimpaaGreatDoorM4
import Derived.KernelRfl
import Derived.Test.YtmnmpmmpihimpaaGreatDoorM5
import Derived.Test.YtmnmpmmpihimpaaGreatDoorTie
import Derived.Test.YtmnmpmmpihimpaaGreatDoorCards
import Derived.ProofKit
import Derived.Below
import Derived.ChangeSame
import Derived.LaidMore
import Derived.OpenShut
import Derived.Lay
import Derived.SevenTiedAt
import Derived.Stop.Joined
set_option linter.unusedSimpArgs false
set_option linter.unusedVariables false
set_option linter.unnecessarySimpa false
/- The functions of the translation as programs of the machine V. Written by gen.py out of the loaded functions. -/
namespace Go.Vm
set_option maxRecDepth 100000
def ftab : FT := (.node 144 c144 (.node 72 c72 (.node 38 c38 (.node 21 c21 (.node 12 c12 (.node 8 c8 (.node 6 c6 (.node 4 c4 .leaf .leaf) (.node 7 c7 .leaf .leaf)) (.node 10 c10 (.node 9 c9 .leaf .leaf) (.node 11 c11 .leaf .leaf))) (.node 17 c17 (.node 15 c15 (.node 13 c13 .leaf .leaf) (.node 16 c16 .leaf .leaf)) (.node 19 c19 (.node 18 c18 .leaf .leaf) (.node 20 c20 .leaf .leaf)))) (.node 29 c29 (.node 25 c25 (.node 23 c23 (.node 22 c22 .leaf .leaf) (.node 24 c24 .leaf .leaf)) (.node 27 c27 (.node 26 c26 .leaf .leaf) (.node 28 c28 .leaf .leaf))) (.node 33 c33 (.node 31 c31 (.node 30 c30 .leaf .leaf) (.node 32 c32 .leaf .leaf)) (.node 36 c36 (.node 34 c34 .leaf .leaf) (.node 37 c37 .leaf .leaf))))) (.node 55 c55 (.node 47 c47 (.node 42 c42 (.node 40 c40 (.node 39 c39 .leaf .leaf) (.node 41 c41 .leaf .leaf)) (.node 45 c45 (.node 43 c43 .leaf .leaf) (.node 46 c46 .leaf .leaf))) (.node 51 c51 (.node 49 c49 (.node 48 c48 .leaf .leaf) (.node 50 c50 .leaf .leaf)) (.node 53 c53 (.node 52 c52 .leaf .leaf) (.node 54 c54 .leaf .leaf)))) (.node 63 c63 (.node 59 c59 (.node 57 c57 (.node 56 c56 .leaf .leaf) (.node 58 c58 .leaf .leaf)) (.node 61 c61 (.node 60 c60 .leaf .leaf) (.node 62 c62 .leaf .leaf))) (.node 67 c67 (.node 65 c65 (.node 64 c64 .leaf .leaf) (.node 66 c66 .leaf .leaf)) (.node 69 c69 (.node 68 c68 .leaf .leaf) (.node 70 c70 .leaf .leaf)))))) (.node 105 c105 (.node 89 c89 (.node 81 c81 (.node 77 c77 (.node 74 c74 (.node 73 c73 .leaf .leaf) (.node 76 c76 .leaf .leaf)) (.node 79 c79 (.node 78 c78 .leaf .leaf) (.node 80 c80 .leaf .leaf))) (.node 85 c85 (.node 83 c83 (.node 82 c82 .leaf .leaf) (.node 84 c84 .leaf .leaf)) (.node 87 c87 (.node 86 c86 .leaf .leaf) (.node 88 c88 .leaf .leaf)))) (.node 97 c97 (.node 93 c93 (.node 91 c91 (.node 90 c90 .leaf .leaf) (.node 92 c92 .leaf .leaf)) (.node 95 c95 (.node 94 c94 .leaf .leaf) (.node 96 c96 .leaf .leaf))) (.node 101 c101 (.node 99 c99 (.node 98 c98 .leaf .leaf) (.node 100 c100 .leaf .leaf)) (.node 103 c103 (.node 102 c102 .leaf .leaf) (.node 104 c104 .leaf .leaf))))) (.node 127 c127 (.node 117 c117 (.node 109 c109 (.node 107 c107 (.node 106 c106 .leaf .leaf) (.node 108 c108 .leaf .leaf)) (.node 112 c112 (.node 110 c110 .leaf .leaf) (.node 113 c113 .leaf .leaf))) (.node 123 c123 (.node 121 c121 (.node 119 c119 .leaf .leaf) (.node 122 c122 .leaf .leaf)) (.node 125 c125 (.node 124 c124 .leaf .leaf) (.node 126 c126 .leaf .leaf)))) (.node 136 c136 (.node 131 c131 (.node 129 c129 (.node 128 c128 .leaf .leaf) (.node 130 c130 .leaf .leaf)) (.node 133 c133 (.node 132 c132 .leaf .leaf) (.node 135 c135 .leaf .leaf))) (.node 140 c140 (.node 138 c138 (.node 137 c137 .leaf .leaf) (.node 139 c139 .leaf .leaf)) (.node 142 c142 (.node 141 c141 .leaf .leaf) (.node 143 c143 .leaf .leaf))))))) (.node 222 c222 (.node 184 c184 (.node 168 c168 (.node 153 c153 (.node 148 c148 (.node 146 c146 (.node 145 c145 .leaf .leaf) (.node 147 c147 .leaf .leaf)) (.node 151 c151 (.node 150 c150 .leaf .leaf) (.node 152 c152 .leaf .leaf))) (.node 157 c157 (.node 155 c155 (.node 154 c154 .leaf .leaf) (.node 156 c156 .leaf .leaf)) (.node 159 c159 (.node 158 c158 .leaf .leaf) (.node 163 c163 .leaf .leaf)))) (.node 176 c176 (.node 172 c172 (.node 170 c170 (.node 169 c169 .leaf .leaf) (.node 171 c171 .leaf .leaf)) (.node 174 c174 (.node 173 c173 .leaf .leaf) (.node 175 c175 .leaf .leaf))) (.node 180 c180 (.node 178 c178 (.node 177 c177 .leaf .leaf) (.node 179 c179 .leaf .leaf)) (.node 182 c182 (.node 181 c181 .leaf .leaf) (.node 183 c183 .leaf .leaf))))) (.node 201 c201 (.node 192 c192 (.node 188 c188 (.node 186 c186 (.node 185 c185 .leaf .leaf) (.node 187 c187 .leaf .leaf)) (.node 190 c190 (.node 189 c189 .leaf .leaf) (.node 191 c191 .leaf .leaf))) (.node 197 c197 (.node 195 c195 (.node 194 c194 .leaf .leaf) (.node 196 c196 .leaf .leaf)) (.node 199 c199 (.node 198 c198 .leaf .leaf) (.node 200 c200 .leaf .leaf)))) (.node 214 c214 (.node 210 c210 (.node 208 c208 (.node 204 c204 .leaf .leaf) (.node 209 c209 .leaf .leaf)) (.node 212 c212 (.node 211 c211 .leaf .leaf) (.node 213 c213 .leaf .leaf))) (.node 218 c218 (.node 216 c216 (.node 215 c215 .leaf .leaf) (.node 217 c217 .leaf .leaf)) (.node 220 c220 (.node 219 c219 .leaf .leaf) (.node 221 c221 .leaf .leaf)))))) (.node 272 c272 (.node 240 c240 (.node 231 c231 (.node 226 c226 (.node 224 c224 (.node 223 c223 .leaf .leaf) (.node 225 c225 .leaf .leaf)) (.node 228 c228 (.node 227 c227 .leaf .leaf) (.node 229 c229 .leaf .leaf))) (.node 236 c236 (.node 233 c233 (.node 232 c232 .leaf .leaf) (.node 235 c235 .leaf .leaf)) (.node 238 c238 (.node 237 c237 .leaf .leaf) (.node 239 c239 .leaf .leaf)))) (.node 259 c259 (.node 253 c253 (.node 251 c251 (.node 250 c250 .leaf .leaf) (.node 252 c252 .leaf .leaf)) (.node 256 c256 (.node 255 c255 .leaf .leaf) (.node 258 c258 .leaf .leaf))) (.node 264 c264 (.node 262 c262 (.node 260 c260 .leaf .leaf) (.node 263 c263 .leaf .leaf)) (.node 266 c266 (.node 265 c265 .leaf .leaf) (.node 268 c268 .leaf .leaf))))) (.node 309 c309 (.node 300 c300 (.node 287 c287 (.node 274 c274 (.node 273 c273 .leaf .leaf) (.node 286 c286 .leaf .leaf)) (.node 289 c289 (.node 288 c288 .leaf .leaf) (.node 299 c299 .leaf .leaf))) (.node 305 c305 (.node 302 c302 (.node 301 c301 .leaf .leaf) (.node 304 c304 .leaf .leaf)) (.node 307 c307 (.node 306 c306 .leaf .leaf) (.node 308 c308 .leaf .leaf)))) (.node 340 c340 (.node 333 c333 (.node 311 c311 (.node 310 c310 .leaf .leaf) (.node 312 c312 .leaf .leaf)) (.node 335 c335 (.node 334 c334 .leaf .leaf) (.node 337 c337 .leaf .leaf))) (.node 344 c344 (.node 342 c342 (.node 341 c341 .leaf .leaf) (.node 343 c343 .leaf .leaf)) (.node 347 c347 (.node 346 c346 .leaf .leaf) (.node 349 c349 .leaf .leaf))))))))
theorem ftab_ok : FT.All (fun k F => ∃ fn, Go.Proofs.Tryz.prog.funcs[k]? = some fn ∧ trF Go.Proofs.Tryz.prog fn F = true) ftab := ⟨⟨_, Go.Proofs.Tryz.func144, t144⟩, ⟨⟨_, Go.Proofs.Tryz.func72, t72⟩, ⟨⟨_, Go.Proofs.Tryz.func38, t38⟩, ⟨⟨_, Go.Proofs.Tryz.func21, t21⟩, ⟨⟨_, Go.Proofs.Tryz.func12, t12⟩, ⟨⟨_, Go.Proofs.Tryz.func8, t8⟩, ⟨⟨_, Go.Proofs.Tryz.func6, t6⟩, ⟨⟨_, Go.Proofs.Tryz.func4, t4⟩, trivial, trivial⟩, ⟨⟨_, Go.Proofs.Tryz.func7, t7⟩, trivial, trivial⟩⟩, ⟨⟨_, Go.Proofs.Tryz.func10, t10⟩, ⟨⟨_, Go.Proofs.Tryz.func9, t9⟩, trivial, trivial⟩, ⟨⟨_, Go.Proofs.Tryz.func11, t11⟩, trivial, trivial⟩⟩⟩, ⟨⟨_, Go.Proofs.Tryz.func17, t17⟩, ⟨⟨_, Go.Proofs.Tryz.func15, t15⟩, ⟨⟨_, Go.Proofs.Tryz.func13, t13⟩, trivial, trivial⟩, ⟨⟨_, Go.Proofs.Tryz.func16, t16⟩, trivial, trivial⟩⟩, ⟨⟨_, Go.Proofs.Tryz.func19, t19⟩, ⟨⟨_, Go.Proofs.Tryz.func18, t18⟩, trivial, trivial⟩, ⟨⟨_, Go.Proofs.Tryz.func20, t20⟩, trivial, trivial⟩⟩⟩⟩, ⟨⟨_, Go.Proofs.Tryz.func29, t29⟩, ⟨⟨_, Go.Proofs.Tryz.func25, t25⟩, ⟨⟨_, Go.Proofs.Tryz.func23, t23⟩, ⟨⟨_, Go.Proofs.Tryz.func22, t22⟩, trivial, trivial⟩, ⟨⟨_, Go.Proofs.Tryz.func24, t24⟩, trivial, trivial⟩⟩, ⟨⟨_, Go.Proofs.Tryz.func27, t27⟩, ⟨⟨_, Go.Proofs.Tryz.func26, t26⟩, trivial, trivial⟩, ⟨⟨_, Go.Proofs.Tryz.func28, t28⟩, trivial, trivial⟩⟩⟩, ⟨⟨_, Go.Proofs.Tryz.func33, t33⟩, ⟨⟨_, Go.Proofs.Tryz.func31, t31⟩, ⟨⟨_, Go.Proofs.Tryz.func30, t30⟩, trivial, trivial⟩, ⟨⟨_, Go.Proofs.Tryz.func32, t32⟩, trivial, trivial⟩⟩, ⟨⟨_, Go.Proofs.Tryz.func36, t36⟩, ⟨⟨_, Go.Proofs.Tryz.func34, t34⟩, trivial, trivial⟩, ⟨⟨_, Go.Proofs.Tryz.func37, t37⟩, trivial, trivial⟩⟩⟩⟩⟩, ⟨⟨_, Go.Proofs.Tryz.func55, t55⟩, ⟨⟨_, Go.Proofs.Tryz.func47, t47⟩, ⟨⟨_, Go.Proofs.Tryz.func42, t42⟩, ⟨⟨_, Go.Proofs.Tryz.func40, t40⟩, ⟨⟨_, Go.Proofs.Tryz.func39, t39⟩, trivial, trivial⟩, ⟨⟨_, Go.Proofs.Tryz.func41, t41⟩, trivial, trivial⟩⟩, ⟨⟨_, Go.Proofs.Tryz.func45, t45⟩, ⟨⟨_, Go.Proofs.Tryz.func43, t43⟩, trivial, trivial⟩, ⟨⟨_, Go.Proofs.Tryz.func46, t46⟩, trivial, trivial⟩⟩⟩, ⟨⟨_, Go.Proofs.Tryz.func51, t51⟩, ⟨⟨_, Go.Proofs.Tryz.func49, t49⟩, ⟨⟨_, Go.Proofs.Tryz.func48, t48⟩, trivial, trivial⟩, ⟨⟨_, Go.Proofs.Tryz.func50, t50⟩, trivial, trivial⟩⟩, ⟨⟨_, Go.Proofs.Tryz.func53, t53⟩, ⟨⟨_, Go.Proofs.Tryz.func52, t52⟩, trivial, trivial⟩, ⟨⟨_, Go.Proofs.Tryz.func54, t54⟩, trivial, trivial⟩⟩⟩⟩, ⟨⟨_, Go.Proofs.Tryz.func63, t63⟩, ⟨⟨_, Go.Proofs.Tryz.func59, t59⟩, ⟨⟨_, Go.Proofs.Tryz.func57, t57⟩, ⟨⟨_, Go.Proofs.Tryz.func56, t56⟩, trivial, trivial⟩, ⟨⟨_, Go.Proofs.Tryz.func58, t58⟩, trivial, trivial⟩⟩, ⟨⟨_, Go.Proofs.Tryz.func61, t61⟩, ⟨⟨_, Go.Proofs.Tryz.func60, t60⟩, trivial, trivial⟩, ⟨⟨_, Go.Proofs.Tryz.func62, t62⟩, trivial, trivial⟩⟩⟩, ⟨⟨_, Go.Proofs.Tryz.func67, t67⟩, ⟨⟨_, Go.Proofs.Tryz.func65, t65⟩, ⟨⟨_, Go.Proofs.Tryz.func64, t64⟩, trivial, trivial⟩, ⟨⟨_, Go.Proofs.Tryz.func66, t66⟩, trivial, trivial⟩⟩, ⟨⟨_, Go.Proofs.Tryz.func69, t69⟩, ⟨⟨_, Go.Proofs.Tryz.func68, t68⟩, trivial, trivial⟩, ⟨⟨_, Go.Proofs.Tryz.func70, t70⟩, trivial, trivial⟩⟩⟩⟩⟩⟩, ⟨⟨_, Go.Proofs.Tryz.func105, t105⟩, ⟨⟨_, Go.Proofs.Tryz.func89, t89⟩, ⟨⟨_, Go.Proofs.Tryz.func81, t81⟩, ⟨⟨_, Go.Proofs.Tryz.func77, t77⟩, ⟨⟨_, Go.Proofs.Tryz.func74, t74⟩, ⟨⟨_, Go.Proofs.Tryz.func73, t73⟩, trivial, trivial⟩, ⟨⟨_, Go.Proofs.Tryz.func76, t76⟩, trivial, trivial⟩⟩, ⟨⟨_, Go.Proofs.Tryz.func79, t79⟩, ⟨⟨_, Go.Proofs.Tryz.func78, t78⟩, trivial, trivial⟩, ⟨⟨_, Go.Proofs.Tryz.func80, t80⟩, trivial, trivial⟩⟩⟩, ⟨⟨_, Go.Proofs.Tryz.func85, t85⟩, ⟨⟨_, Go.Proofs.Tryz.func83, t83⟩, ⟨⟨_, Go.Proofs.Tryz.func82, t82⟩, trivial, trivial⟩, ⟨⟨_, Go.Proofs.Tryz.func84, t84⟩, trivial, trivial⟩⟩, ⟨⟨_, Go.Proofs.Tryz.func87, t87⟩, ⟨⟨_, Go.Proofs.Tryz.func86, t86⟩, trivial, trivial⟩, ⟨⟨_, Go.Proofs.Tryz.func88, t88⟩, trivial, trivial⟩⟩⟩⟩, ⟨⟨_, Go.Proofs.Tryz.func97, t97⟩, ⟨⟨_, Go.Proofs.Tryz.func93, t93⟩, ⟨⟨_, Go.Proofs.Tryz.func91, t91⟩, ⟨⟨_, Go.Proofs.Tryz.func90, t90⟩, trivial, trivial⟩, ⟨⟨_, Go.Proofs.Tryz.func92, t92⟩, trivial, trivial⟩⟩, ⟨⟨_, Go.Proofs.Tryz.func95, t95⟩, ⟨⟨_, Go.Proofs.Tryz.func94, t94⟩, trivial, trivial⟩, ⟨⟨_, Go.Proofs.Tryz.func96, t96⟩, trivial, trivial⟩⟩⟩, ⟨⟨_, Go.Proofs.Tryz.func101, t101⟩, ⟨⟨_, Go.Proofs.Tryz.func99, t99⟩, ⟨⟨_, Go.Proofs.Tryz.func98, t98⟩, trivial, trivial⟩, ⟨⟨_, Go.Proofs.Tryz.func100, t100⟩, trivial, trivial⟩⟩, ⟨⟨_, Go.Proofs.Tryz.func103, t103⟩, ⟨⟨_, Go.Proofs.Tryz.func102, t102⟩, trivial, trivial⟩, ⟨⟨_, Go.Proofs.Tryz.func104, t104⟩, trivial, trivial⟩⟩⟩⟩⟩, ⟨⟨_, Go.Proofs.Tryz.func127, t127⟩, ⟨⟨_, Go.Proofs.Tryz.func117, t117⟩, ⟨⟨_, Go.Proofs.Tryz.func109, t109⟩, ⟨⟨_, Go.Proofs.Tryz.func107, t107⟩, ⟨⟨_, Go.Proofs.Tryz.func106, t106⟩, trivial, trivial⟩, ⟨⟨_, Go.Proofs.Tryz.func108, t108⟩, trivial, trivial⟩⟩, ⟨⟨_, Go.Proofs.Tryz.func112, t112⟩, ⟨⟨_, Go.Proofs.Tryz.func110, t110⟩, trivial, trivial⟩, ⟨⟨_, Go.Proofs.Tryz.func113, t113⟩, trivial, trivial⟩⟩⟩, ⟨⟨_, Go.Proofs.Tryz.func123, t123⟩, ⟨⟨_, Go.Proofs.Tryz.func121, t121⟩, ⟨⟨_, Go.Proofs.Tryz.func119, t119⟩, trivial, trivial⟩, ⟨⟨_, Go.Proofs.Tryz.func122, t122⟩, trivial, trivial⟩⟩, ⟨⟨_, Go.Proofs.Tryz.func125, t125⟩, ⟨⟨_, Go.Proofs.Tryz.func124, t124⟩, trivial, trivial⟩, ⟨⟨_, Go.Proofs.Tryz.func126, t126⟩, trivial, trivial⟩⟩⟩⟩, ⟨⟨_, Go.Proofs.Tryz.func136, t136⟩, ⟨⟨_, Go.Proofs.Tryz.func131, t131⟩, ⟨⟨_, Go.Proofs.Tryz.func129, t129⟩, ⟨⟨_, Go.Proofs.Tryz.func128, t128⟩, trivial, trivial⟩, ⟨⟨_, Go.Proofs.Tryz.func130, t130⟩, trivial, trivial⟩⟩, ⟨⟨_, Go.Proofs.Tryz.func133, t133⟩, ⟨⟨_, Go.Proofs.Tryz.func132, t132⟩, trivial, trivial⟩, ⟨⟨_, Go.Proofs.Tryz.func135, t135⟩, trivial, trivial⟩⟩⟩, ⟨⟨_, Go.Proofs.Tryz.func140, t140⟩, ⟨⟨_, Go.Proofs.Tryz.func138, t138⟩, ⟨⟨_, Go.Proofs.Tryz.func137, t137⟩, trivial, trivial⟩, ⟨⟨_, Go.Proofs.Tryz.func139, t139⟩, trivial, trivial⟩⟩, ⟨⟨_, Go.Proofs.Tryz.func142, t142⟩, ⟨⟨_, Go.Proofs.Tryz.func141, t141⟩, trivial, trivial⟩, ⟨⟨_, Go.Proofs.Tryz.func143, t143⟩, trivial, trivial⟩⟩⟩⟩⟩⟩⟩, ⟨⟨_, Go.Proofs.Tryz.func222, t222⟩, ⟨⟨_, Go.Proofs.Tryz.func184, t184⟩, ⟨⟨_, Go.Proofs.Tryz.func168, t168⟩, ⟨⟨_, Go.Proofs.Tryz.func153, t153⟩, ⟨⟨_, Go.Proofs.Tryz.func148, t148⟩, ⟨⟨_, Go.Proofs.Tryz.func146, t146⟩, ⟨⟨_, Go.Proofs.Tryz.func145, t145⟩, trivial, trivial⟩, ⟨⟨_, Go.Proofs.Tryz.func147, t147⟩, trivial, trivial⟩⟩, ⟨⟨_, Go.Proofs.Tryz.func151, t151⟩, ⟨⟨_, Go.Proofs.Tryz.func150, t150⟩, trivial, trivial⟩, ⟨⟨_, Go.Proofs.Tryz.func152, t152⟩, trivial, trivial⟩⟩⟩, ⟨⟨_, Go.Proofs.Tryz.func157, t157⟩, ⟨⟨_, Go.Proofs.Tryz.func155, t155⟩, ⟨⟨_, Go.Proofs.Tryz.func154, t154⟩, trivial, trivial⟩, ⟨⟨_, Go.Proofs.Tryz.func156, t156⟩, trivial, trivial⟩⟩, ⟨⟨_, Go.Proofs.Tryz.func159, t159⟩, ⟨⟨_, Go.Proofs.Tryz.func158, t158⟩, trivial, trivial⟩, ⟨⟨_, Go.Proofs.Tryz.func163, t163⟩, trivial, trivial⟩⟩⟩⟩, ⟨⟨_, Go.Proofs.Tryz.func176, t176⟩, ⟨⟨_, Go.Proofs.Tryz.func172, t172⟩, ⟨⟨_, Go.Proofs.Tryz.func170, t170⟩, ⟨⟨_, Go.Proofs.Tryz.func169, t169⟩, trivial, trivial⟩, ⟨⟨_, Go.Proofs.Tryz.func171, t171⟩, trivial, trivial⟩⟩, ⟨⟨_, Go.Proofs.Tryz.func174, t174⟩, ⟨⟨_, Go.Proofs.Tryz.func173, t173⟩, trivial, trivial⟩, ⟨⟨_, Go.Proofs.Tryz.func175, t175⟩, trivial, trivial⟩⟩⟩, ⟨⟨_, Go.Proofs.Tryz.func180, t180⟩, ⟨⟨_, Go.Proofs.Tryz.func178, t178⟩, ⟨⟨_, Go.Proofs.Tryz.func177, t177⟩, trivial, trivial⟩, ⟨⟨_, Go.Proofs.Tryz.func179, t179⟩, trivial, trivial⟩⟩, ⟨⟨_, Go.Proofs.Tryz.func182, t182⟩, ⟨⟨_, Go.Proofs.Tryz.func181, t181⟩, trivial, trivial⟩, ⟨⟨_, Go.Proofs.Tryz.func183, t183⟩, trivial, trivial⟩⟩⟩⟩⟩, ⟨⟨_, Go.Proofs.Tryz.func201, t201⟩, ⟨⟨_, Go.Proofs.Tryz.func192, t192⟩, ⟨⟨_, Go.Proofs.Tryz.func188, t188⟩, ⟨⟨_, Go.Proofs.Tryz.func186, t186⟩, ⟨⟨_, Go.Proofs.Tryz.func185, t185⟩, trivial, trivial⟩, ⟨⟨_, Go.Proofs.Tryz.func187, t187⟩, trivial, trivial⟩⟩, ⟨⟨_, Go.Proofs.Tryz.func190, t190⟩, ⟨⟨_, Go.Proofs.Tryz.func189, t189⟩, trivial, trivial⟩, ⟨⟨_, Go.Proofs.Tryz.func191, t191⟩, trivial, trivial⟩⟩⟩, ⟨⟨_, Go.Proofs.Tryz.func197, t197⟩, ⟨⟨_, Go.Proofs.Tryz.func195, t195⟩, ⟨⟨_, Go.Proofs.Tryz.func194, t194⟩, trivial, trivial⟩, ⟨⟨_, Go.Proofs.Tryz.func196, t196⟩, trivial, trivial⟩⟩, ⟨⟨_, Go.Proofs.Tryz.func199, t199⟩, ⟨⟨_, Go.Proofs.Tryz.func198, t198⟩, trivial, trivial⟩, ⟨⟨_, Go.Proofs.Tryz.func200, t200⟩, trivial, trivial⟩⟩⟩⟩, ⟨⟨_, Go.Proofs.Tryz.func214, t214⟩, ⟨⟨_, Go.Proofs.Tryz.func210, t210⟩, ⟨⟨_, Go.Proofs.Tryz.func208, t208⟩, ⟨⟨_, Go.Proofs.Tryz.func204, t204⟩, trivial, trivial⟩, ⟨⟨_, Go.Proofs.Tryz.func209, t209⟩, trivial, trivial⟩⟩, ⟨⟨_, Go.Proofs.Tryz.func212, t212⟩, ⟨⟨_, Go.Proofs.Tryz.func211, t211⟩, trivial, trivial⟩, ⟨⟨_, Go.Proofs.Tryz.func213, t213⟩, trivial, trivial⟩⟩⟩, ⟨⟨_, Go.Proofs.Tryz.func218, t218⟩, ⟨⟨_, Go.Proofs.Tryz.func216, t216⟩, ⟨⟨_, Go.Proofs.Tryz.func215, t215⟩, trivial, trivial⟩, ⟨⟨_, Go.Proofs.Tryz.func217, t217⟩, trivial, trivial⟩⟩, ⟨⟨_, Go.Proofs.Tryz.func220, t220⟩, ⟨⟨_, Go.Proofs.Tryz.func219, t219⟩, trivial, trivial⟩, ⟨⟨_, Go.Proofs.Tryz.func221, t221⟩, trivial, trivial⟩⟩⟩⟩⟩⟩, ⟨⟨_, Go.Proofs.Tryz.func272, t272⟩, ⟨⟨_, Go.Proofs.Tryz.func240, t240⟩, ⟨⟨_, Go.Proofs.Tryz.func231, t231⟩, ⟨⟨_, Go.Proofs.Tryz.func226, t226⟩, ⟨⟨_, Go.Proofs.Tryz.func224, t224⟩, ⟨⟨_, Go.Proofs.Tryz.func223, t223⟩, trivial, trivial⟩, ⟨⟨_, Go.Proofs.Tryz.func225, t225⟩, trivial, trivial⟩⟩, ⟨⟨_, Go.Proofs.Tryz.func228, t228⟩, ⟨⟨_, Go.Proofs.Tryz.func227, t227⟩, trivial, trivial⟩, ⟨⟨_, Go.Proofs.Tryz.func229, t229⟩, trivial, trivial⟩⟩⟩, ⟨⟨_, Go.Proofs.Tryz.func236, t236⟩, ⟨⟨_, Go.Proofs.Tryz.func233, t233⟩, ⟨⟨_, Go.Proofs.Tryz.func232, t232⟩, trivial, trivial⟩, ⟨⟨_, Go.Proofs.Tryz.func235, t235⟩, trivial, trivial⟩⟩, ⟨⟨_, Go.Proofs.Tryz.func238, t238⟩, ⟨⟨_, Go.Proofs.Tryz.func237, t237⟩, trivial, trivial⟩, ⟨⟨_, Go.Proofs.Tryz.func239, t239⟩, trivial, trivial⟩⟩⟩⟩, ⟨⟨_, Go.Proofs.Tryz.func259, t259⟩, ⟨⟨_, Go.Proofs.Tryz.func253, t253⟩, ⟨⟨_, Go.Proofs.Tryz.func251, t251⟩, ⟨⟨_, Go.Proofs.Tryz.func250, t250⟩, trivial, trivial⟩, ⟨⟨_, Go.Proofs.Tryz.func252, t252⟩, trivial, trivial⟩⟩, ⟨⟨_, Go.Proofs.Tryz.func256, t256⟩, ⟨⟨_, Go.Proofs.Tryz.func255, t255⟩, trivial, trivial⟩, ⟨⟨_, Go.Proofs.Tryz.func258, t258⟩, trivial, trivial⟩⟩⟩, ⟨⟨_, Go.Proofs.Tryz.func264, t264⟩, ⟨⟨_, Go.Proofs.Tryz.func262, t262⟩, ⟨⟨_, Go.Proofs.Tryz.func260, t260⟩, trivial, trivial⟩, ⟨⟨_, Go.Proofs.Tryz.func263, t263⟩, trivial, trivial⟩⟩, ⟨⟨_, Go.Proofs.Tryz.func266, t266⟩, ⟨⟨_, Go.Proofs.Tryz.func265, t265⟩, trivial, trivial⟩, ⟨⟨_, Go.Proofs.Tryz.func268, t268⟩, trivial, trivial⟩⟩⟩⟩⟩, ⟨⟨_, Go.Proofs.Tryz.func309, t309⟩, ⟨⟨_, Go.Proofs.Tryz.func300, t300⟩, ⟨⟨_, Go.Proofs.Tryz.func287, t287⟩, ⟨⟨_, Go.Proofs.Tryz.func274, t274⟩, ⟨⟨_, Go.Proofs.Tryz.func273, t273⟩, trivial, trivial⟩, ⟨⟨_, Go.Proofs.Tryz.func286, t286⟩, trivial, trivial⟩⟩, ⟨⟨_, Go.Proofs.Tryz.func289, t289⟩, ⟨⟨_, Go.Proofs.Tryz.func288, t288⟩, trivial, trivial⟩, ⟨⟨_, Go.Proofs.Tryz.func299, t299⟩, trivial, trivial⟩⟩⟩, ⟨⟨_, Go.Proofs.Tryz.func305, t305⟩, ⟨⟨_, Go.Proofs.Tryz.func302, t302⟩, ⟨⟨_, Go.Proofs.Tryz.func301, t301⟩, trivial, trivial⟩, ⟨⟨_, Go.Proofs.Tryz.func304, t304⟩, trivial, trivial⟩⟩, ⟨⟨_, Go.Proofs.Tryz.func307, t307⟩, ⟨⟨_, Go.Proofs.Tryz.func306, t306⟩, trivial, trivial⟩, ⟨⟨_, Go.Proofs.Tryz.func308, t308⟩, trivial, trivial⟩⟩⟩⟩, ⟨⟨_, Go.Proofs.Tryz.func340, t340⟩, ⟨⟨_, Go.Proofs.Tryz.func333, t333⟩, ⟨⟨_, Go.Proofs.Tryz.func311, t311⟩, ⟨⟨_, Go.Proofs.Tryz.func310, t310⟩, trivial, trivial⟩, ⟨⟨_, Go.Proofs.Tryz.func312, t312⟩, trivial, trivial⟩⟩, ⟨⟨_, Go.Proofs.Tryz.func335, t335⟩, ⟨⟨_, Go.Proofs.Tryz.func334, t334⟩, trivial, trivial⟩, ⟨⟨_, Go.Proofs.Tryz.func337, t337⟩, trivial, trivial⟩⟩⟩, ⟨⟨_, Go.Proofs.Tryz.func344, t344⟩, ⟨⟨_, Go.Proofs.Tryz.func342, t342⟩, ⟨⟨_, Go.Proofs.Tryz.func341, t341⟩, trivial, trivial⟩, ⟨⟨_, Go.Proofs.Tryz.func343, t343⟩, trivial, trivial⟩⟩, ⟨⟨_, Go.Proofs.Tryz.func347, t347⟩, ⟨⟨_, Go.Proofs.Tryz.func346, t346⟩, trivial, trivial⟩, ⟨⟨_, Go.Proofs.Tryz.func349, t349⟩, trivial, trivial⟩⟩⟩⟩⟩⟩⟩⟩
end Go.Vm

/-
  DERIVED: THE SHELF's CONTRACTS AT THIS DUMP, IN PLAIN WORDS (tools/lay-plain.mjs out of 'YtmnmpmmpihimpaaGreatDoorLyF.lean', which tools/lay-shelf.mjs wrote): THE SAME DECLARATIONS UNDER THE SAME NAMES: 'import', 'namespace', 'open', 'def', 'theorem' AND NOTHING ELSE: no command of the shelf's: FOR A HAND-IN. Each laying: the table of numbers ('.._ren') and one theorem, a field a fact of the dump's own or the kernel's comparison; each contract: ONE APPLICATION.
-/
namespace Go.Proofs
open Go.Shelf
def Tryz.laysM246_ren : Go.Shelf.Ren := ⟨fun | 246 => 207 | 283 => 246 | 284 => 247 | 285 => 248 | 286 => 249 | 129 => 268 | 317 => 267 | 318 => 269 | 319 => 270 | 320 => 271 | 337 => 290 | 338 => 291 | n => n, fun | 2 => 2 | 3 => 3 | 9 => 9 | 4 => 4 | 171 => 339 | 0 => 0 | 53 => 295 | 37 => 220 | 5 => 5 | 173 => 342 | 212 => 360 | 51 => 361 | 20 => 20 | 213 => 362 | 46 => 22 | 232 => 388 | 233 => 389 | n => n, fun | 17 => 5 | 18 => 6 | 19 => 7 | n => n⟩
theorem Tryz.laysM246 : Go.Proofs.LaysM.n246 Tryz.prog Tryz.laysM246_ren := {
  mixed := by kernel_rfl
  f129 := Tryz.func268.trans (congrArg some (by kernel_rfl))
  f246 := Tryz.func207.trans (congrArg some (by kernel_rfl))
  f283 := Tryz.func246.trans (congrArg some (by kernel_rfl))
  f284 := Tryz.func247.trans (congrArg some (by kernel_rfl))
  f285 := Tryz.func248.trans (congrArg some (by kernel_rfl))
  f286 := Tryz.func249.trans (congrArg some (by kernel_rfl))
  f317 := Tryz.func267.trans (congrArg some (by kernel_rfl))
  f318 := Tryz.func269.trans (congrArg some (by kernel_rfl))
  f319 := Tryz.func270.trans (congrArg some (by kernel_rfl))
  f320 := Tryz.func271.trans (congrArg some (by kernel_rfl))
  f337 := Tryz.func290.trans (congrArg some (by kernel_rfl))
  f338 := Tryz.func291.trans (congrArg some (by kernel_rfl))
  t0 := Tryz.underlying0
  a0 := Tryz.isAgg0
  z0 := Tryz.sizeOf0
  v0 := Tryz.zeroValue0
  t2 := Tryz.underlying2
  a2 := Tryz.isAgg2
  z2 := Tryz.sizeOf2
  v2 := Tryz.zeroValue2
  t3 := Tryz.underlying3
  a3 := Tryz.isAgg3
  z3 := Tryz.sizeOf3
  v3 := Tryz.zeroValue3
  t4 := Tryz.underlying4
  a4 := Tryz.isAgg4
  z4 := Tryz.sizeOf4
  v4 := Tryz.zeroValue4
  t5 := Tryz.underlying5
  a5 := Tryz.isAgg5
  z5 := Tryz.sizeOf5
  v5 := Tryz.zeroValue5
  t9 := Tryz.underlying9
  a9 := Tryz.isAgg9
  z9 := Tryz.sizeOf9
  v9 := Tryz.zeroValue9
  t20 := Tryz.underlying20
  a20 := Tryz.isAgg20
  z20 := Tryz.sizeOf20
  v20 := Tryz.zeroValue20
  t37 := Tryz.underlying220
  a37 := Tryz.isAgg220
  z37 := Tryz.sizeOf220
  v37 := Tryz.zeroValue220
  t46 := Tryz.underlying22
  a46 := Tryz.isAgg22
  z46 := Tryz.sizeOf22
  v46 := Tryz.zeroValue22
  t51 := Tryz.underlying361
  a51 := Tryz.isAgg361
  z51 := Tryz.sizeOf361
  v51 := Tryz.zeroValue361
  t53 := Tryz.underlying295
  a53 := Tryz.isAgg295
  z53 := Tryz.sizeOf295
  v53 := Tryz.zeroValue295
  t171 := Tryz.underlying339
  a171 := Tryz.isAgg339
  z171 := Tryz.sizeOf339
  v171 := Tryz.zeroValue339
  t173 := Tryz.underlying342
  a173 := Tryz.isAgg342
  z173 := Tryz.sizeOf342
  v173 := Tryz.zeroValue342
  t212 := Tryz.underlying360
  a212 := Tryz.isAgg360
  z212 := Tryz.sizeOf360
  v212 := Tryz.zeroValue360
  t213 := Tryz.underlying362
  a213 := Tryz.isAgg362
  z213 := Tryz.sizeOf362
  t232 := Tryz.underlying388
  a232 := Tryz.isAgg388
  z232 := Tryz.sizeOf388
  v232 := Tryz.zeroValue388
  t233 := Tryz.underlying389
  a233 := Tryz.isAgg389
  z233 := Tryz.sizeOf389
  v233 := Tryz.zeroValue389
  g17 := by kernel_rfl
  g18 := by kernel_rfl
  g19 := by kernel_rfl
  i0 := by kernel_rfl
  i2 := by kernel_rfl
  i3 := by kernel_rfl
  i4 := by kernel_rfl
  i5 := by kernel_rfl
  i9 := by kernel_rfl
  i20 := by kernel_rfl
  i37 := by kernel_rfl
  i46 := by kernel_rfl
  i51 := by kernel_rfl
  i53 := by kernel_rfl
  i171 := by kernel_rfl
  i173 := by kernel_rfl
  i212 := by kernel_rfl
  i232 := by kernel_rfl
  i233 := by kernel_rfl
  m17 := by kernel_rfl
  m18 := by kernel_rfl
  m19 := by kernel_rfl }
end Go.Proofs

/- The functions of the translation as programs of the machine V. Written by gen.py out of the loaded functions. -/
namespace Go.Vm
set_option maxRecDepth 100000
open Go Go.RowKit
def KX : FuncId → Option Nat := fun f => bif Nat.beq f 234 then some 0 else bif Nat.beq f 111 then some 1 else none
def LX : FuncId → Option (Nat × Bool) := fun f => bif Nat.beq f 71 then some (3, false) else bif Nat.beq f 254 then some (6, true) else bif Nat.beq f 285 then some (4, false) else none
def C0 : Cfg := { keepA := fun f => Nat.beq f 151 || Nat.beq f 226 || Nat.beq f 310 }
def FX : FuncId → Bool := fun f => Nat.beq f 207
def TX : Tab := { C := C0, funs := ftab.get, prim := primF FX (primAll KX LX) }
theorem KX_ok : Prims Go.Proofs.Tryz.prog KX := by
  intro f
  unfold KX
  cases h234 : Nat.beq f 234 with
  | true =>
    have := Nat.eq_of_beq_eq_true h234; subst this
    exact ⟨fun _ => ⟨_, Go.Proofs.Tryz.func234, by kernel_rfl, by kernel_rfl, by kernel_rfl, by kernel_rfl⟩, (fun h => by cases h)⟩
  | false =>
    cases h111 : Nat.beq f 111 with
    | true =>
      have := Nat.eq_of_beq_eq_true h111; subst this
      exact ⟨(fun h => by cases h), fun _ => ⟨_, Go.Proofs.Tryz.func111, by kernel_rfl, by kernel_rfl, by kernel_rfl, by kernel_rfl⟩⟩
    | false =>
      exact ⟨(fun h => by cases h), (fun h => by cases h)⟩
theorem LX_ok : ∀ f z m, LX f = some (z, m) → ∃ fn, Go.Proofs.Tryz.prog.funcs[f]? = some fn ∧ CloneFn Go.Proofs.Tryz.prog z m fn := by
  intro f z m h
  unfold LX at h
  cases h71 : Nat.beq f 71 with
  | true =>
    have := Nat.eq_of_beq_eq_true h71; subst this
    rw [h71] at h
    simp only [cond_true, Option.some.injEq, Prod.mk.injEq] at h
    obtain ⟨rfl, rfl⟩ := h
    exact ⟨_, Go.Proofs.Tryz.func71, by kernel_rfl, ⟨_, _, _, _, _, _, _, _, _, 36, rfl, by kernel_rfl, by kernel_rfl, rfl, rfl, rfl, by decide +kernel, by kernel_rfl, by kernel_rfl, by kernel_rfl⟩, by kernel_rfl⟩
  | false =>
    rw [h71] at h
    simp only [cond_false] at h
    cases h254 : Nat.beq f 254 with
    | true =>
      have := Nat.eq_of_beq_eq_true h254; subst this
      rw [h254] at h
      simp only [cond_true, Option.some.injEq, Prod.mk.injEq] at h
      obtain ⟨rfl, rfl⟩ := h
      exact ⟨_, Go.Proofs.Tryz.func254, by kernel_rfl, ⟨_, _, _, _, _, _, _, _, _, 178, rfl, by kernel_rfl, by kernel_rfl, rfl, rfl, rfl, by decide +kernel, by kernel_rfl, by kernel_rfl, by kernel_rfl⟩, by kernel_rfl⟩
    | false =>
      rw [h254] at h
      simp only [cond_false] at h
      cases h285 : Nat.beq f 285 with
      | true =>
        have := Nat.eq_of_beq_eq_true h285; subst this
        rw [h285] at h
        simp only [cond_true, Option.some.injEq, Prod.mk.injEq] at h
        obtain ⟨rfl, rfl⟩ := h
        exact ⟨_, Go.Proofs.Tryz.func285, by kernel_rfl, ⟨_, _, _, _, _, _, _, _, _, 375, rfl, by kernel_rfl, by kernel_rfl, rfl, rfl, rfl, by decide +kernel, by kernel_rfl, by kernel_rfl, by kernel_rfl⟩, by kernel_rfl⟩
      | false =>
        rw [h285] at h
        simp only [cond_false] at h
        cases h
theorem funs_ok : Funs Go.Proofs.Tryz.prog TX.funs := funs_of ftab_ok
theorem FX_ok : ∀ f, FX f = true → FmtFn Go.Proofs.Tryz.prog f := by
  intro f h
  have := Nat.eq_of_beq_eq_true h; subst this
  exact ⟨fun A w => Go.Proofs.enters_of Go.Proofs.Tryz.func207 (by kernel_rfl) rfl A w, fun n h0 h1 w hw => Go.Proofs.Any.internal_strconv_FormatInt_10 Go.Proofs.Tryz.laysM246 n h0 h1 w hw⟩
abbrev KWX : World → Prop := KWt Go.Proofs.Tryz.prog
theorem keepsX {w : World} (hw : KWX w) : ∀ w1 w2 : World, Below w.heap.size w1 w2 → KWX w1 → KWX w2 := KWt_keeps hw
theorem prim_ok : CallOk KWX Go.Proofs.Tryz.prog TX.prim := primF_ok FX_ok (primAll_ok (by kernel_rfl) KX_ok LX_ok)
theorem prim_q : CallQ TX.prim := primF_q (primAll_q KX LX)
theorem prim_su {σ : Int → V} (hσ : Num σ) : CallS σ TX.prim TX.prim := primF_su hσ (primAll_su hσ KX LX)
def clT : FT → Bool
  | .leaf => true
  | .node _ F l r => clC F.code && (clT l && clT r)
theorem clT_s : ∀ {t : FT}, clT t = true → t.All fun _ F => clC F.code = true
  | .leaf, _ => trivial
  | .node _ F l r, h => by
    simp only [clT, Bool.and_eq_true] at h
    exact ⟨h.1, clT_s h.2.1, clT_s h.2.2⟩
theorem cl_ok : ∀ f F, TX.funs f = some F → clC F.code = true := fun _ _ h => FT.get_all (clT_s (t := ftab) (by decide +kernel)) h
end Go.Vm

/-
  From runs to rows and cards.
-/
namespace Go.Proofs.YtmnmpmmpihimpaaGreatDoor
open Go Go.Vm Go.ChangeShapes Go.WideShapes Go.ChangeAt Go.RowKit

section
variable {H : Type} {enc : TypeId × Value → H} {P : Program}
theorem post_of_below {f : Func} {s : ChangeSpec} {apart fresh handsOn again : Bool} {W W' : World} {args : Array Value} {v : Value} {ds gs : List (DataW H)} {before pa pv : List MemPlace}
    (hW : DataW.Whole enc P f.params.toList s.vars apart W args.toList ds gs before)
    (hres : ∀ (b : Nat) (sp : Nat → Bool) (hd : Bool), DataW.TrodAll enc P W' b sp hd f.resultTypes.toList (v.resultList f.resultTypes.size) (s.fn H (ds ++ gs)).results [])
    (hargs : ∀ sp : Nat → Bool, (∀ p ∈ before, sp p.block = true) → DataW.TrodAll enc P W' 0 sp true f.params.toList args.toList (s.fn H (ds ++ gs)).args pa)
    (hvars : ∀ sp : Nat → Bool, (∀ p ∈ before, sp p.block = true) → DataW.TrodVars enc P W' sp s.vars (s.fn H (ds ++ gs)).vars pv)
    (hps : before = pa ++ pv) (hb : Below W.heap.size W W')
    (hok : ∀ (j : Nat) (t : TypeId) (r : Value), f.resultTypes[j]? = some t → (v.resultList f.resultTypes.size)[j]? = some r → Value.okWide P W' .any 0 t r) :
    s.post enc P f apart fresh handsOn again W args v W' := by
  have hlt : ∀ p ∈ before, p.block < W.heap.size := fun p hp => hW.lt p hp
  have hold : ∀ p ∈ before, (fun b => decide (b < W.heap.size)) p.block = true := fun p hp => by simpa using hlt p hp
  refine ⟨ds, gs, before, [], pa, pv, hW, hres _ _ _, hargs _ hold, hvars _ hold, World.keptBut_mono (fun p hp => ⟨hp, ?_⟩) (hb.frame (· ∈ before)), fun _ => ?_⟩
  · rw [hps, List.mem_append] at hp
    exact Or.inr hp
  · obtain ⟨_, _, _, _, _, hz, hn⟩ := hW
    refine ⟨hok, _, _, ([] ++ pa) ++ pv, ⟨[] ++ pa, pv, trodAll_append (hargs _ (fun _ _ => rfl)) (hres _ _ _), hvars _ (fun _ _ => rfl), rfl, ?_, ?_⟩, ?_⟩
    · intro b off hp
      have hin : MemPlace.cell b off ∈ before := by rw [hps]; simpa using hp
      rw [hb.frozen (hlt _ hin)]
      exact hz b off hin
    · intro ha
      have := hn ha
      rw [hps] at this
      simpa using this
    · intro p hp _
      rw [hps]
      simpa using hp
end

theorem own : ownKnob Tryz.prog.godebug = none := by kernel_rfl
theorem orders : Tryz.prog.follows .mixedOrders = true := by kernel_rfl

end Go.Proofs.YtmnmpmmpihimpaaGreatDoor
