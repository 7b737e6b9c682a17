/-
  A part of a proof: the last text of the claim says what is proved, and under which conditions.
-/
import Derived.Test.YtmnmpmmpihimpaaGreatDoorProg
import Derived.Test.YtmnmpmmpihimpaaGreatDoorM1
import Derived.Test.YtmnmpmmpihimpaaGreatDoorM5
import Derived.Test.YtmnmpmmpihimpaaGreatDoorM6
import Derived.Test.YtmnmpmmpihimpaaGreatDoorM7
import Derived.Test.YtmnmpmmpihimpaaGreatDoorM8
import Derived.Test.YtmnmpmmpihimpaaGreatDoorM4
import Derived.KernelRfl
import Derived.Test.YtmnmpmmpihimpaaGreatDoorTie
import Derived.Test.YtmnmpmmpihimpaaGreatDoorCards
import Derived.ProofKit
import Derived.Below
import Derived.ChangeSame
import Derived.LaidMore
import Derived.OpenShut
import Derived.Lay
import Derived.SevenTiedAt
import Derived.Stop.Joined
set_option linter.unusedSimpArgs false
set_option linter.unusedVariables false
set_option linter.unnecessarySimpa false
/- The functions of the translation as programs of the machine V. Written by gen.py out of the loaded functions. -/
namespace Go.Vm
set_option maxRecDepth 100000
def ftab : FT := (.node 142 c142 (.node 72 c72 (.node 40 c40 (.node 24 c24 (.node 15 c15 (.node 9 c9 (.node 6 c6 (.node 5 c5 .leaf .leaf) (.node 7 c7 .leaf .leaf)) (.node 12 c12 (.node 11 c11 .leaf .leaf) (.node 13 c13 .leaf .leaf))) (.node 21 c21 (.node 17 c17 (.node 16 c16 .leaf .leaf) (.node 19 c19 .leaf .leaf)) (.node 23 c23 (.node 22 c22 .leaf .leaf) .leaf))) (.node 32 c32 (.node 28 c28 (.node 26 c26 (.node 25 c25 .leaf .leaf) (.node 27 c27 .leaf .leaf)) (.node 30 c30 (.node 29 c29 .leaf .leaf) (.node 31 c31 .leaf .leaf))) (.node 37 c37 (.node 34 c34 (.node 33 c33 .leaf .leaf) (.node 36 c36 .leaf .leaf)) (.node 39 c39 (.node 38 c38 .leaf .leaf) .leaf)))) (.node 56 c56 (.node 49 c49 (.node 45 c45 (.node 42 c42 (.node 41 c41 .leaf .leaf) (.node 43 c43 .leaf .leaf)) (.node 47 c47 (.node 46 c46 .leaf .leaf) (.node 48 c48 .leaf .leaf))) (.node 53 c53 (.node 51 c51 (.node 50 c50 .leaf .leaf) (.node 52 c52 .leaf .leaf)) (.node 55 c55 (.node 54 c54 .leaf .leaf) .leaf))) (.node 64 c64 (.node 60 c60 (.node 58 c58 (.node 57 c57 .leaf .leaf) (.node 59 c59 .leaf .leaf)) (.node 62 c62 (.node 61 c61 .leaf .leaf) (.node 63 c63 .leaf .leaf))) (.node 68 c68 (.node 66 c66 (.node 65 c65 .leaf .leaf) (.node 67 c67 .leaf .leaf)) (.node 70 c70 (.node 69 c69 .leaf .leaf) .leaf))))) (.node 103 c103 (.node 88 c88 (.node 81 c81 (.node 77 c77 (.node 74 c74 (.node 73 c73 .leaf .leaf) (.node 76 c76 .leaf .leaf)) (.node 79 c79 (.node 78 c78 .leaf .leaf) (.node 80 c80 .leaf .leaf))) (.node 85 c85 (.node 83 c83 (.node 82 c82 .leaf .leaf) (.node 84 c84 .leaf .leaf)) (.node 87 c87 (.node 86 c86 .leaf .leaf) .leaf))) (.node 96 c96 (.node 92 c92 (.node 90 c90 (.node 89 c89 .leaf .leaf) (.node 91 c91 .leaf .leaf)) (.node 94 c94 (.node 93 c93 .leaf .leaf) (.node 95 c95 .leaf .leaf))) (.node 100 c100 (.node 98 c98 (.node 97 c97 .leaf .leaf) (.node 99 c99 .leaf .leaf)) (.node 102 c102 (.node 101 c101 .leaf .leaf) .leaf)))) (.node 126 c126 (.node 112 c112 (.node 107 c107 (.node 105 c105 (.node 104 c104 .leaf .leaf) (.node 106 c106 .leaf .leaf)) (.node 109 c109 (.node 108 c108 .leaf .leaf) (.node 110 c110 .leaf .leaf))) (.node 121 c121 (.node 117 c117 (.node 113 c113 .leaf .leaf) (.node 119 c119 .leaf .leaf)) (.node 123 c123 (.node 122 c122 .leaf .leaf) .leaf))) (.node 135 c135 (.node 130 c130 (.node 128 c128 (.node 127 c127 .leaf .leaf) (.node 129 c129 .leaf .leaf)) (.node 132 c132 (.node 131 c131 .leaf .leaf) (.node 133 c133 .leaf .leaf))) (.node 139 c139 (.node 137 c137 (.node 136 c136 .leaf .leaf) (.node 138 c138 .leaf .leaf)) (.node 141 c141 (.node 140 c140 .leaf .leaf) .leaf)))))) (.node 221 c221 (.node 183 c183 (.node 158 c158 (.node 151 c151 (.node 146 c146 (.node 144 c144 (.node 143 c143 .leaf .leaf) (.node 145 c145 .leaf .leaf)) (.node 148 c148 (.node 147 c147 .leaf .leaf) (.node 150 c150 .leaf .leaf))) (.node 155 c155 (.node 153 c153 (.node 152 c152 .leaf .leaf) (.node 154 c154 .leaf .leaf)) (.node 157 c157 (.node 156 c156 .leaf .leaf) .leaf))) (.node 176 c176 (.node 170 c170 (.node 168 c168 (.node 159 c159 .leaf .leaf) (.node 169 c169 .leaf .leaf)) (.node 174 c174 (.node 173 c173 .leaf .leaf) (.node 175 c175 .leaf .leaf))) (.node 180 c180 (.node 178 c178 (.node 177 c177 .leaf .leaf) (.node 179 c179 .leaf .leaf)) (.node 182 c182 (.node 181 c181 .leaf .leaf) .leaf)))) (.node 200 c200 (.node 192 c192 (.node 188 c188 (.node 186 c186 (.node 185 c185 .leaf .leaf) (.node 187 c187 .leaf .leaf)) (.node 190 c190 (.node 189 c189 .leaf .leaf) (.node 191 c191 .leaf .leaf))) (.node 197 c197 (.node 195 c195 (.node 194 c194 .leaf .leaf) (.node 196 c196 .leaf .leaf)) (.node 199 c199 (.node 198 c198 .leaf .leaf) .leaf))) (.node 214 c214 (.node 210 c210 (.node 207 c207 (.node 201 c201 .leaf .leaf) (.node 208 c208 .leaf .leaf)) (.node 212 c212 (.node 211 c211 .leaf .leaf) (.node 213 c213 .leaf .leaf))) (.node 218 c218 (.node 216 c216 (.node 215 c215 .leaf .leaf) (.node 217 c217 .leaf .leaf)) (.node 220 c220 (.node 219 c219 .leaf .leaf) .leaf))))) (.node 265 c265 (.node 239 c239 (.node 231 c231 (.node 225 c225 (.node 223 c223 (.node 222 c222 .leaf .leaf) (.node 224 c224 .leaf .leaf)) (.node 228 c228 (.node 227 c227 .leaf .leaf) (.node 229 c229 .leaf .leaf))) (.node 236 c236 (.node 233 c233 (.node 232 c232 .leaf .leaf) (.node 235 c235 .leaf .leaf)) (.node 238 c238 (.node 237 c237 .leaf .leaf) .leaf))) (.node 256 c256 (.node 251 c251 (.node 246 c246 (.node 240 c240 .leaf .leaf) (.node 250 c250 .leaf .leaf)) (.node 253 c253 (.node 252 c252 .leaf .leaf) (.node 255 c255 .leaf .leaf))) (.node 262 c262 (.node 259 c259 (.node 258 c258 .leaf .leaf) (.node 260 c260 .leaf .leaf)) (.node 264 c264 (.node 263 c263 .leaf .leaf) .leaf)))) (.node 312 c312 (.node 299 c299 (.node 274 c274 (.node 272 c272 (.node 268 c268 .leaf .leaf) (.node 273 c273 .leaf .leaf)) (.node 287 c287 (.node 286 c286 .leaf .leaf) (.node 288 c288 .leaf .leaf))) (.node 307 c307 (.node 305 c305 (.node 304 c304 .leaf .leaf) (.node 306 c306 .leaf .leaf)) (.node 311 c311 (.node 310 c310 .leaf .leaf) .leaf))) (.node 339 c339 (.node 335 c335 (.node 333 c333 (.node 332 c332 .leaf .leaf) (.node 334 c334 .leaf .leaf)) (.node 337 c337 (.node 336 c336 .leaf .leaf) (.node 338 c338 .leaf .leaf))) (.node 343 c343 (.node 341 c341 (.node 340 c340 .leaf .leaf) (.node 342 c342 .leaf .leaf)) (.node 347 c347 (.node 344 c344 .leaf .leaf) .leaf)))))))
theorem ftab_ok : FT.All (fun k F => ∃ fn, Go.Proofs.Tryz.prog.funcs[k]? = some fn ∧ trF Go.Proofs.Tryz.prog fn F = true) ftab := ⟨⟨_, Go.Proofs.Tryz.func142, t142⟩, ⟨⟨_, Go.Proofs.Tryz.func72, t72⟩, ⟨⟨_, Go.Proofs.Tryz.func40, t40⟩, ⟨⟨_, Go.Proofs.Tryz.func24, t24⟩, ⟨⟨_, Go.Proofs.Tryz.func15, t15⟩, ⟨⟨_, Go.Proofs.Tryz.func9, t9⟩, ⟨⟨_, Go.Proofs.Tryz.func6, t6⟩, ⟨⟨_, Go.Proofs.Tryz.func5, t5⟩, trivial, trivial⟩, ⟨⟨_, Go.Proofs.Tryz.func7, t7⟩, trivial, trivial⟩⟩, ⟨⟨_, Go.Proofs.Tryz.func12, t12⟩, ⟨⟨_, Go.Proofs.Tryz.func11, t11⟩, trivial, trivial⟩, ⟨⟨_, Go.Proofs.Tryz.func13, t13⟩, trivial, trivial⟩⟩⟩, ⟨⟨_, Go.Proofs.Tryz.func21, t21⟩, ⟨⟨_, Go.Proofs.Tryz.func17, t17⟩, ⟨⟨_, Go.Proofs.Tryz.func16, t16⟩, trivial, trivial⟩, ⟨⟨_, Go.Proofs.Tryz.func19, t19⟩, trivial, trivial⟩⟩, ⟨⟨_, Go.Proofs.Tryz.func23, t23⟩, ⟨⟨_, Go.Proofs.Tryz.func22, t22⟩, trivial, trivial⟩, trivial⟩⟩⟩, ⟨⟨_, Go.Proofs.Tryz.func32, t32⟩, ⟨⟨_, Go.Proofs.Tryz.func28, t28⟩, ⟨⟨_, Go.Proofs.Tryz.func26, t26⟩, ⟨⟨_, Go.Proofs.Tryz.func25, t25⟩, trivial, trivial⟩, ⟨⟨_, Go.Proofs.Tryz.func27, t27⟩, trivial, trivial⟩⟩, ⟨⟨_, Go.Proofs.Tryz.func30, t30⟩, ⟨⟨_, Go.Proofs.Tryz.func29, t29⟩, trivial, trivial⟩, ⟨⟨_, Go.Proofs.Tryz.func31, t31⟩, trivial, trivial⟩⟩⟩, ⟨⟨_, Go.Proofs.Tryz.func37, t37⟩, ⟨⟨_, Go.Proofs.Tryz.func34, t34⟩, ⟨⟨_, Go.Proofs.Tryz.func33, t33⟩, trivial, trivial⟩, ⟨⟨_, Go.Proofs.Tryz.func36, t36⟩, trivial, trivial⟩⟩, ⟨⟨_, Go.Proofs.Tryz.func39, t39⟩, ⟨⟨_, Go.Proofs.Tryz.func38, t38⟩, trivial, trivial⟩, trivial⟩⟩⟩⟩, ⟨⟨_, Go.Proofs.Tryz.func56, t56⟩, ⟨⟨_, Go.Proofs.Tryz.func49, t49⟩, ⟨⟨_, Go.Proofs.Tryz.func45, t45⟩, ⟨⟨_, Go.Proofs.Tryz.func42, t42⟩, ⟨⟨_, Go.Proofs.Tryz.func41, t41⟩, trivial, trivial⟩, ⟨⟨_, Go.Proofs.Tryz.func43, t43⟩, trivial, trivial⟩⟩, ⟨⟨_, Go.Proofs.Tryz.func47, t47⟩, ⟨⟨_, Go.Proofs.Tryz.func46, t46⟩, trivial, trivial⟩, ⟨⟨_, Go.Proofs.Tryz.func48, t48⟩, trivial, trivial⟩⟩⟩, ⟨⟨_, Go.Proofs.Tryz.func53, t53⟩, ⟨⟨_, Go.Proofs.Tryz.func51, t51⟩, ⟨⟨_, Go.Proofs.Tryz.func50, t50⟩, trivial, trivial⟩, ⟨⟨_, Go.Proofs.Tryz.func52, t52⟩, trivial, trivial⟩⟩, ⟨⟨_, Go.Proofs.Tryz.func55, t55⟩, ⟨⟨_, Go.Proofs.Tryz.func54, t54⟩, trivial, trivial⟩, trivial⟩⟩⟩, ⟨⟨_, Go.Proofs.Tryz.func64, t64⟩, ⟨⟨_, Go.Proofs.Tryz.func60, t60⟩, ⟨⟨_, Go.Proofs.Tryz.func58, t58⟩, ⟨⟨_, Go.Proofs.Tryz.func57, t57⟩, trivial, trivial⟩, ⟨⟨_, Go.Proofs.Tryz.func59, t59⟩, trivial, trivial⟩⟩, ⟨⟨_, Go.Proofs.Tryz.func62, t62⟩, ⟨⟨_, Go.Proofs.Tryz.func61, t61⟩, trivial, trivial⟩, ⟨⟨_, Go.Proofs.Tryz.func63, t63⟩, trivial, trivial⟩⟩⟩, ⟨⟨_, Go.Proofs.Tryz.func68, t68⟩, ⟨⟨_, Go.Proofs.Tryz.func66, t66⟩, ⟨⟨_, Go.Proofs.Tryz.func65, t65⟩, trivial, trivial⟩, ⟨⟨_, Go.Proofs.Tryz.func67, t67⟩, trivial, trivial⟩⟩, ⟨⟨_, Go.Proofs.Tryz.func70, t70⟩, ⟨⟨_, Go.Proofs.Tryz.func69, t69⟩, trivial, trivial⟩, trivial⟩⟩⟩⟩⟩, ⟨⟨_, Go.Proofs.Tryz.func103, t103⟩, ⟨⟨_, Go.Proofs.Tryz.func88, t88⟩, ⟨⟨_, Go.Proofs.Tryz.func81, t81⟩, ⟨⟨_, Go.Proofs.Tryz.func77, t77⟩, ⟨⟨_, Go.Proofs.Tryz.func74, t74⟩, ⟨⟨_, Go.Proofs.Tryz.func73, t73⟩, trivial, trivial⟩, ⟨⟨_, Go.Proofs.Tryz.func76, t76⟩, trivial, trivial⟩⟩, ⟨⟨_, Go.Proofs.Tryz.func79, t79⟩, ⟨⟨_, Go.Proofs.Tryz.func78, t78⟩, trivial, trivial⟩, ⟨⟨_, Go.Proofs.Tryz.func80, t80⟩, trivial, trivial⟩⟩⟩, ⟨⟨_, Go.Proofs.Tryz.func85, t85⟩, ⟨⟨_, Go.Proofs.Tryz.func83, t83⟩, ⟨⟨_, Go.Proofs.Tryz.func82, t82⟩, trivial, trivial⟩, ⟨⟨_, Go.Proofs.Tryz.func84, t84⟩, trivial, trivial⟩⟩, ⟨⟨_, Go.Proofs.Tryz.func87, t87⟩, ⟨⟨_, Go.Proofs.Tryz.func86, t86⟩, trivial, trivial⟩, trivial⟩⟩⟩, ⟨⟨_, Go.Proofs.Tryz.func96, t96⟩, ⟨⟨_, Go.Proofs.Tryz.func92, t92⟩, ⟨⟨_, Go.Proofs.Tryz.func90, t90⟩, ⟨⟨_, Go.Proofs.Tryz.func89, t89⟩, trivial, trivial⟩, ⟨⟨_, Go.Proofs.Tryz.func91, t91⟩, trivial, trivial⟩⟩, ⟨⟨_, Go.Proofs.Tryz.func94, t94⟩, ⟨⟨_, Go.Proofs.Tryz.func93, t93⟩, trivial, trivial⟩, ⟨⟨_, Go.Proofs.Tryz.func95, t95⟩, trivial, trivial⟩⟩⟩, ⟨⟨_, Go.Proofs.Tryz.func100, t100⟩, ⟨⟨_, Go.Proofs.Tryz.func98, t98⟩, ⟨⟨_, Go.Proofs.Tryz.func97, t97⟩, trivial, trivial⟩, ⟨⟨_, Go.Proofs.Tryz.func99, t99⟩, trivial, trivial⟩⟩, ⟨⟨_, Go.Proofs.Tryz.func102, t102⟩, ⟨⟨_, Go.Proofs.Tryz.func101, t101⟩, trivial, trivial⟩, trivial⟩⟩⟩⟩, ⟨⟨_, Go.Proofs.Tryz.func126, t126⟩, ⟨⟨_, Go.Proofs.Tryz.func112, t112⟩, ⟨⟨_, Go.Proofs.Tryz.func107, t107⟩, ⟨⟨_, Go.Proofs.Tryz.func105, t105⟩, ⟨⟨_, Go.Proofs.Tryz.func104, t104⟩, trivial, trivial⟩, ⟨⟨_, Go.Proofs.Tryz.func106, t106⟩, trivial, trivial⟩⟩, ⟨⟨_, Go.Proofs.Tryz.func109, t109⟩, ⟨⟨_, Go.Proofs.Tryz.func108, t108⟩, trivial, trivial⟩, ⟨⟨_, Go.Proofs.Tryz.func110, t110⟩, trivial, trivial⟩⟩⟩, ⟨⟨_, Go.Proofs.Tryz.func121, t121⟩, ⟨⟨_, Go.Proofs.Tryz.func117, t117⟩, ⟨⟨_, Go.Proofs.Tryz.func113, t113⟩, trivial, trivial⟩, ⟨⟨_, Go.Proofs.Tryz.func119, t119⟩, trivial, trivial⟩⟩, ⟨⟨_, Go.Proofs.Tryz.func123, t123⟩, ⟨⟨_, Go.Proofs.Tryz.func122, t122⟩, trivial, trivial⟩, trivial⟩⟩⟩, ⟨⟨_, Go.Proofs.Tryz.func135, t135⟩, ⟨⟨_, Go.Proofs.Tryz.func130, t130⟩, ⟨⟨_, Go.Proofs.Tryz.func128, t128⟩, ⟨⟨_, Go.Proofs.Tryz.func127, t127⟩, trivial, trivial⟩, ⟨⟨_, Go.Proofs.Tryz.func129, t129⟩, trivial, trivial⟩⟩, ⟨⟨_, Go.Proofs.Tryz.func132, t132⟩, ⟨⟨_, Go.Proofs.Tryz.func131, t131⟩, trivial, trivial⟩, ⟨⟨_, Go.Proofs.Tryz.func133, t133⟩, trivial, trivial⟩⟩⟩, ⟨⟨_, Go.Proofs.Tryz.func139, t139⟩, ⟨⟨_, Go.Proofs.Tryz.func137, t137⟩, ⟨⟨_, Go.Proofs.Tryz.func136, t136⟩, trivial, trivial⟩, ⟨⟨_, Go.Proofs.Tryz.func138, t138⟩, trivial, trivial⟩⟩, ⟨⟨_, Go.Proofs.Tryz.func141, t141⟩, ⟨⟨_, Go.Proofs.Tryz.func140, t140⟩, trivial, trivial⟩, trivial⟩⟩⟩⟩⟩⟩, ⟨⟨_, Go.Proofs.Tryz.func221, t221⟩, ⟨⟨_, Go.Proofs.Tryz.func183, t183⟩, ⟨⟨_, Go.Proofs.Tryz.func158, t158⟩, ⟨⟨_, Go.Proofs.Tryz.func151, t151⟩, ⟨⟨_, Go.Proofs.Tryz.func146, t146⟩, ⟨⟨_, Go.Proofs.Tryz.func144, t144⟩, ⟨⟨_, Go.Proofs.Tryz.func143, t143⟩, trivial, trivial⟩, ⟨⟨_, Go.Proofs.Tryz.func145, t145⟩, trivial, trivial⟩⟩, ⟨⟨_, Go.Proofs.Tryz.func148, t148⟩, ⟨⟨_, Go.Proofs.Tryz.func147, t147⟩, trivial, trivial⟩, ⟨⟨_, Go.Proofs.Tryz.func150, t150⟩, trivial, trivial⟩⟩⟩, ⟨⟨_, Go.Proofs.Tryz.func155, t155⟩, ⟨⟨_, Go.Proofs.Tryz.func153, t153⟩, ⟨⟨_, Go.Proofs.Tryz.func152, t152⟩, trivial, trivial⟩, ⟨⟨_, Go.Proofs.Tryz.func154, t154⟩, trivial, trivial⟩⟩, ⟨⟨_, Go.Proofs.Tryz.func157, t157⟩, ⟨⟨_, Go.Proofs.Tryz.func156, t156⟩, trivial, trivial⟩, trivial⟩⟩⟩, ⟨⟨_, Go.Proofs.Tryz.func176, t176⟩, ⟨⟨_, Go.Proofs.Tryz.func170, t170⟩, ⟨⟨_, Go.Proofs.Tryz.func168, t168⟩, ⟨⟨_, Go.Proofs.Tryz.func159, t159⟩, trivial, trivial⟩, ⟨⟨_, Go.Proofs.Tryz.func169, t169⟩, trivial, trivial⟩⟩, ⟨⟨_, Go.Proofs.Tryz.func174, t174⟩, ⟨⟨_, Go.Proofs.Tryz.func173, t173⟩, trivial, trivial⟩, ⟨⟨_, Go.Proofs.Tryz.func175, t175⟩, trivial, trivial⟩⟩⟩, ⟨⟨_, Go.Proofs.Tryz.func180, t180⟩, ⟨⟨_, Go.Proofs.Tryz.func178, t178⟩, ⟨⟨_, Go.Proofs.Tryz.func177, t177⟩, trivial, trivial⟩, ⟨⟨_, Go.Proofs.Tryz.func179, t179⟩, trivial, trivial⟩⟩, ⟨⟨_, Go.Proofs.Tryz.func182, t182⟩, ⟨⟨_, Go.Proofs.Tryz.func181, t181⟩, trivial, trivial⟩, trivial⟩⟩⟩⟩, ⟨⟨_, Go.Proofs.Tryz.func200, t200⟩, ⟨⟨_, Go.Proofs.Tryz.func192, t192⟩, ⟨⟨_, Go.Proofs.Tryz.func188, t188⟩, ⟨⟨_, Go.Proofs.Tryz.func186, t186⟩, ⟨⟨_, Go.Proofs.Tryz.func185, t185⟩, trivial, trivial⟩, ⟨⟨_, Go.Proofs.Tryz.func187, t187⟩, trivial, trivial⟩⟩, ⟨⟨_, Go.Proofs.Tryz.func190, t190⟩, ⟨⟨_, Go.Proofs.Tryz.func189, t189⟩, trivial, trivial⟩, ⟨⟨_, Go.Proofs.Tryz.func191, t191⟩, trivial, trivial⟩⟩⟩, ⟨⟨_, Go.Proofs.Tryz.func197, t197⟩, ⟨⟨_, Go.Proofs.Tryz.func195, t195⟩, ⟨⟨_, Go.Proofs.Tryz.func194, t194⟩, trivial, trivial⟩, ⟨⟨_, Go.Proofs.Tryz.func196, t196⟩, trivial, trivial⟩⟩, ⟨⟨_, Go.Proofs.Tryz.func199, t199⟩, ⟨⟨_, Go.Proofs.Tryz.func198, t198⟩, trivial, trivial⟩, trivial⟩⟩⟩, ⟨⟨_, Go.Proofs.Tryz.func214, t214⟩, ⟨⟨_, Go.Proofs.Tryz.func210, t210⟩, ⟨⟨_, Go.Proofs.Tryz.func207, t207⟩, ⟨⟨_, Go.Proofs.Tryz.func201, t201⟩, trivial, trivial⟩, ⟨⟨_, Go.Proofs.Tryz.func208, t208⟩, trivial, trivial⟩⟩, ⟨⟨_, Go.Proofs.Tryz.func212, t212⟩, ⟨⟨_, Go.Proofs.Tryz.func211, t211⟩, trivial, trivial⟩, ⟨⟨_, Go.Proofs.Tryz.func213, t213⟩, trivial, trivial⟩⟩⟩, ⟨⟨_, Go.Proofs.Tryz.func218, t218⟩, ⟨⟨_, Go.Proofs.Tryz.func216, t216⟩, ⟨⟨_, Go.Proofs.Tryz.func215, t215⟩, trivial, trivial⟩, ⟨⟨_, Go.Proofs.Tryz.func217, t217⟩, trivial, trivial⟩⟩, ⟨⟨_, Go.Proofs.Tryz.func220, t220⟩, ⟨⟨_, Go.Proofs.Tryz.func219, t219⟩, trivial, trivial⟩, trivial⟩⟩⟩⟩⟩, ⟨⟨_, Go.Proofs.Tryz.func265, t265⟩, ⟨⟨_, Go.Proofs.Tryz.func239, t239⟩, ⟨⟨_, Go.Proofs.Tryz.func231, t231⟩, ⟨⟨_, Go.Proofs.Tryz.func225, t225⟩, ⟨⟨_, Go.Proofs.Tryz.func223, t223⟩, ⟨⟨_, Go.Proofs.Tryz.func222, t222⟩, trivial, trivial⟩, ⟨⟨_, Go.Proofs.Tryz.func224, t224⟩, trivial, trivial⟩⟩, ⟨⟨_, Go.Proofs.Tryz.func228, t228⟩, ⟨⟨_, Go.Proofs.Tryz.func227, t227⟩, trivial, trivial⟩, ⟨⟨_, Go.Proofs.Tryz.func229, t229⟩, trivial, trivial⟩⟩⟩, ⟨⟨_, Go.Proofs.Tryz.func236, t236⟩, ⟨⟨_, Go.Proofs.Tryz.func233, t233⟩, ⟨⟨_, Go.Proofs.Tryz.func232, t232⟩, trivial, trivial⟩, ⟨⟨_, Go.Proofs.Tryz.func235, t235⟩, trivial, trivial⟩⟩, ⟨⟨_, Go.Proofs.Tryz.func238, t238⟩, ⟨⟨_, Go.Proofs.Tryz.func237, t237⟩, trivial, trivial⟩, trivial⟩⟩⟩, ⟨⟨_, Go.Proofs.Tryz.func256, t256⟩, ⟨⟨_, Go.Proofs.Tryz.func251, t251⟩, ⟨⟨_, Go.Proofs.Tryz.func246, t246⟩, ⟨⟨_, Go.Proofs.Tryz.func240, t240⟩, trivial, trivial⟩, ⟨⟨_, Go.Proofs.Tryz.func250, t250⟩, trivial, trivial⟩⟩, ⟨⟨_, Go.Proofs.Tryz.func253, t253⟩, ⟨⟨_, Go.Proofs.Tryz.func252, t252⟩, trivial, trivial⟩, ⟨⟨_, Go.Proofs.Tryz.func255, t255⟩, trivial, trivial⟩⟩⟩, ⟨⟨_, Go.Proofs.Tryz.func262, t262⟩, ⟨⟨_, Go.Proofs.Tryz.func259, t259⟩, ⟨⟨_, Go.Proofs.Tryz.func258, t258⟩, trivial, trivial⟩, ⟨⟨_, Go.Proofs.Tryz.func260, t260⟩, trivial, trivial⟩⟩, ⟨⟨_, Go.Proofs.Tryz.func264, t264⟩, ⟨⟨_, Go.Proofs.Tryz.func263, t263⟩, trivial, trivial⟩, trivial⟩⟩⟩⟩, ⟨⟨_, Go.Proofs.Tryz.func312, t312⟩, ⟨⟨_, Go.Proofs.Tryz.func299, t299⟩, ⟨⟨_, Go.Proofs.Tryz.func274, t274⟩, ⟨⟨_, Go.Proofs.Tryz.func272, t272⟩, ⟨⟨_, Go.Proofs.Tryz.func268, t268⟩, trivial, trivial⟩, ⟨⟨_, Go.Proofs.Tryz.func273, t273⟩, trivial, trivial⟩⟩, ⟨⟨_, Go.Proofs.Tryz.func287, t287⟩, ⟨⟨_, Go.Proofs.Tryz.func286, t286⟩, trivial, trivial⟩, ⟨⟨_, Go.Proofs.Tryz.func288, t288⟩, trivial, trivial⟩⟩⟩, ⟨⟨_, Go.Proofs.Tryz.func307, t307⟩, ⟨⟨_, Go.Proofs.Tryz.func305, t305⟩, ⟨⟨_, Go.Proofs.Tryz.func304, t304⟩, trivial, trivial⟩, ⟨⟨_, Go.Proofs.Tryz.func306, t306⟩, trivial, trivial⟩⟩, ⟨⟨_, Go.Proofs.Tryz.func311, t311⟩, ⟨⟨_, Go.Proofs.Tryz.func310, t310⟩, trivial, trivial⟩, trivial⟩⟩⟩, ⟨⟨_, Go.Proofs.Tryz.func339, t339⟩, ⟨⟨_, Go.Proofs.Tryz.func335, t335⟩, ⟨⟨_, Go.Proofs.Tryz.func333, t333⟩, ⟨⟨_, Go.Proofs.Tryz.func332, t332⟩, trivial, trivial⟩, ⟨⟨_, Go.Proofs.Tryz.func334, t334⟩, trivial, trivial⟩⟩, ⟨⟨_, Go.Proofs.Tryz.func337, t337⟩, ⟨⟨_, Go.Proofs.Tryz.func336, t336⟩, trivial, trivial⟩, ⟨⟨_, Go.Proofs.Tryz.func338, t338⟩, trivial, trivial⟩⟩⟩, ⟨⟨_, Go.Proofs.Tryz.func343, t343⟩, ⟨⟨_, Go.Proofs.Tryz.func341, t341⟩, ⟨⟨_, Go.Proofs.Tryz.func340, t340⟩, trivial, trivial⟩, ⟨⟨_, Go.Proofs.Tryz.func342, t342⟩, trivial, trivial⟩⟩, ⟨⟨_, Go.Proofs.Tryz.func347, t347⟩, ⟨⟨_, Go.Proofs.Tryz.func344, t344⟩, trivial, trivial⟩, trivial⟩⟩⟩⟩⟩⟩⟩
end Go.Vm

/- The functions of the translation as programs of the machine V. Written by gen.py out of the loaded functions. -/
namespace Go.Vm
set_option maxRecDepth 100000
open Go
def KX : FuncId → Option Nat := fun f => bif Nat.beq f 234 then some 0 else bif Nat.beq f 111 then some 1 else none
def LX : FuncId → Option (Nat × Bool) := fun f => bif Nat.beq f 71 then some (3, false) else bif Nat.beq f 254 then some (6, true) else bif Nat.beq f 285 then some (4, false) else none
def C0 : Cfg := { keepA := fun f => Nat.beq f 151 || Nat.beq f 226 || Nat.beq f 310 }
def TX : Tab := { C := C0, funs := ftab.get, prim := primAll KX LX }
theorem KX_ok : Prims Go.Proofs.Tryz.prog KX := by
  intro f
  unfold KX
  cases h234 : Nat.beq f 234 with
  | true =>
    have := Nat.eq_of_beq_eq_true h234; subst this
    exact ⟨fun _ => ⟨_, Go.Proofs.Tryz.func234, by kernel_rfl, by kernel_rfl, by kernel_rfl, by kernel_rfl⟩, (fun h => by cases h)⟩
  | false =>
    cases h111 : Nat.beq f 111 with
    | true =>
      have := Nat.eq_of_beq_eq_true h111; subst this
      exact ⟨(fun h => by cases h), fun _ => ⟨_, Go.Proofs.Tryz.func111, by kernel_rfl, by kernel_rfl, by kernel_rfl, by kernel_rfl⟩⟩
    | false =>
      exact ⟨(fun h => by cases h), (fun h => by cases h)⟩
theorem LX_ok : ∀ f z m, LX f = some (z, m) → ∃ fn, Go.Proofs.Tryz.prog.funcs[f]? = some fn ∧ CloneFn Go.Proofs.Tryz.prog z m fn := by
  intro f z m h
  unfold LX at h
  cases h71 : Nat.beq f 71 with
  | true =>
    have := Nat.eq_of_beq_eq_true h71; subst this
    rw [h71] at h
    simp only [cond_true, Option.some.injEq, Prod.mk.injEq] at h
    obtain ⟨rfl, rfl⟩ := h
    exact ⟨_, Go.Proofs.Tryz.func71, by kernel_rfl, ⟨_, _, _, _, _, _, _, _, _, 36, rfl, by kernel_rfl, by kernel_rfl, rfl, rfl, rfl, by decide +kernel, by kernel_rfl, by kernel_rfl, by kernel_rfl⟩, by kernel_rfl⟩
  | false =>
    rw [h71] at h
    simp only [cond_false] at h
    cases h254 : Nat.beq f 254 with
    | true =>
      have := Nat.eq_of_beq_eq_true h254; subst this
      rw [h254] at h
      simp only [cond_true, Option.some.injEq, Prod.mk.injEq] at h
      obtain ⟨rfl, rfl⟩ := h
      exact ⟨_, Go.Proofs.Tryz.func254, by kernel_rfl, ⟨_, _, _, _, _, _, _, _, _, 178, rfl, by kernel_rfl, by kernel_rfl, rfl, rfl, rfl, by decide +kernel, by kernel_rfl, by kernel_rfl, by kernel_rfl⟩, by kernel_rfl⟩
    | false =>
      rw [h254] at h
      simp only [cond_false] at h
      cases h285 : Nat.beq f 285 with
      | true =>
        have := Nat.eq_of_beq_eq_true h285; subst this
        rw [h285] at h
        simp only [cond_true, Option.some.injEq, Prod.mk.injEq] at h
        obtain ⟨rfl, rfl⟩ := h
        exact ⟨_, Go.Proofs.Tryz.func285, by kernel_rfl, ⟨_, _, _, _, _, _, _, _, _, 375, rfl, by kernel_rfl, by kernel_rfl, rfl, rfl, rfl, by decide +kernel, by kernel_rfl, by kernel_rfl, by kernel_rfl⟩, by kernel_rfl⟩
      | false =>
        rw [h285] at h
        simp only [cond_false] at h
        cases h
theorem funs_ok : Funs Go.Proofs.Tryz.prog TX.funs := funs_of ftab_ok
theorem prim_ok : CallOk Go.Proofs.Tryz.prog TX.prim := primAll_ok (by kernel_rfl) KX_ok LX_ok
theorem prim_q : CallQ TX.prim := primAll_q KX LX
def clT : FT → Bool
  | .leaf => true
  | .node _ F l r => clC F.code && (clT l && clT r)
theorem clT_s : ∀ {t : FT}, clT t = true → t.All fun _ F => clC F.code = true
  | .leaf, _ => trivial
  | .node _ F l r, h => by
    simp only [clT, Bool.and_eq_true] at h
    exact ⟨h.1, clT_s h.2.1, clT_s h.2.2⟩
theorem cl_ok : ∀ f F, TX.funs f = some F → clC F.code = true := fun _ _ h => FT.get_all (clT_s (t := ftab) (by decide +kernel)) h
end Go.Vm

/-
  From runs to rows and cards.
-/
namespace Go.Proofs.YtmnmpmmpihimpaaGreatDoor
open Go Go.Vm Go.ChangeShapes Go.WideShapes Go.ChangeAt Go.RowKit

section
variable {H : Type} {enc : TypeId × Value → H} {P : Program}
theorem post_of_below {f : Func} {s : ChangeSpec} {apart fresh handsOn again : Bool} {W W' : World} {args : Array Value} {v : Value} {ds gs : List (DataW H)} {before pa pv : List MemPlace}
    (hW : DataW.Whole enc P f.params.toList s.vars apart W args.toList ds gs before)
    (hres : ∀ (b : Nat) (sp : Nat → Bool) (hd : Bool), DataW.TrodAll enc P W' b sp hd f.resultTypes.toList (v.resultList f.resultTypes.size) (s.fn H (ds ++ gs)).results [])
    (hargs : ∀ sp : Nat → Bool, (∀ p ∈ before, sp p.block = true) → DataW.TrodAll enc P W' 0 sp true f.params.toList args.toList (s.fn H (ds ++ gs)).args pa)
    (hvars : ∀ sp : Nat → Bool, (∀ p ∈ before, sp p.block = true) → DataW.TrodVars enc P W' sp s.vars (s.fn H (ds ++ gs)).vars pv)
    (hps : before = pa ++ pv) (hb : Below W.heap.size W W')
    (hok : ∀ (j : Nat) (t : TypeId) (r : Value), f.resultTypes[j]? = some t → (v.resultList f.resultTypes.size)[j]? = some r → Value.okWide P W' .any 0 t r) :
    s.post enc P f apart fresh handsOn again W args v W' := by
  have hlt : ∀ p ∈ before, p.block < W.heap.size := fun p hp => hW.lt p hp
  have hold : ∀ p ∈ before, (fun b => decide (b < W.heap.size)) p.block = true := fun p hp => by simpa using hlt p hp
  refine ⟨ds, gs, before, [], pa, pv, hW, hres _ _ _, hargs _ hold, hvars _ hold, World.keptBut_mono (fun p hp => ⟨hp, ?_⟩) (hb.frame (· ∈ before)), fun _ => ?_⟩
  · rw [hps, List.mem_append] at hp
    exact Or.inr hp
  · obtain ⟨_, _, _, _, _, hz, hn⟩ := hW
    refine ⟨hok, _, _, ([] ++ pa) ++ pv, ⟨[] ++ pa, pv, trodAll_append (hargs _ (fun _ _ => rfl)) (hres _ _ _), hvars _ (fun _ _ => rfl), rfl, ?_, ?_⟩, ?_⟩
    · intro b off hp
      have hin : MemPlace.cell b off ∈ before := by rw [hps]; simpa using hp
      rw [hb.frozen (hlt _ hin)]
      exact hz b off hin
    · intro ha
      have := hn ha
      rw [hps] at this
      simpa using this
    · intro p hp _
      rw [hps]
      simpa using hp
end

theorem own : ownKnob Tryz.prog.godebug = none := by kernel_rfl
theorem orders : Tryz.prog.follows .mixedOrders = true := by kernel_rfl

end Go.Proofs.YtmnmpmmpihimpaaGreatDoor
