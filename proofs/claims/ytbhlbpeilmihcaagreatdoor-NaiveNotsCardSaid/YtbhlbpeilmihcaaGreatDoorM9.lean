/-
  A part of a proof: the last text of the claim says what is proved, and under which conditions.
-/
import Derived.Test.YtbhlbpeilmihcaaGreatDoorProg
import Derived.Test.YtbhlbpeilmihcaaGreatDoorM1
import Derived.Test.YtbhlbpeilmihcaaGreatDoorM5
import Derived.Test.YtbhlbpeilmihcaaGreatDoorM6
import Derived.Test.YtbhlbpeilmihcaaGreatDoorM7
import Derived.Test.YtbhlbpeilmihcaaGreatDoorM8
import Derived.Test.YtbhlbpeilmihcaaGreatDoorM4
import Derived.KernelRfl
set_option linter.unusedSimpArgs false
set_option linter.unusedVariables false
set_option linter.unnecessarySimpa false
/- The functions of the translation as programs of the machine V. Written by gen.py out of the loaded functions. -/
namespace Go.Vm
set_option maxRecDepth 100000
def ftab : FT := (.node 101 c101 (.node 50 c50 (.node 26 c26 (.node 14 c14 (.node 8 c8 (.node 5 c5 (.node 3 c3 (.node 2 c2 .leaf .leaf) (.node 4 c4 .leaf .leaf)) (.node 7 c7 (.node 6 c6 .leaf .leaf) .leaf)) (.node 11 c11 (.node 10 c10 (.node 9 c9 .leaf .leaf) .leaf) (.node 13 c13 (.node 12 c12 .leaf .leaf) .leaf))) (.node 20 c20 (.node 17 c17 (.node 16 c16 (.node 15 c15 .leaf .leaf) .leaf) (.node 19 c19 (.node 18 c18 .leaf .leaf) .leaf)) (.node 23 c23 (.node 22 c22 (.node 21 c21 .leaf .leaf) .leaf) (.node 25 c25 (.node 24 c24 .leaf .leaf) .leaf)))) (.node 38 c38 (.node 32 c32 (.node 29 c29 (.node 28 c28 (.node 27 c27 .leaf .leaf) .leaf) (.node 31 c31 (.node 30 c30 .leaf .leaf) .leaf)) (.node 35 c35 (.node 34 c34 (.node 33 c33 .leaf .leaf) .leaf) (.node 37 c37 (.node 36 c36 .leaf .leaf) .leaf))) (.node 44 c44 (.node 41 c41 (.node 40 c40 (.node 39 c39 .leaf .leaf) .leaf) (.node 43 c43 (.node 42 c42 .leaf .leaf) .leaf)) (.node 47 c47 (.node 46 c46 (.node 45 c45 .leaf .leaf) .leaf) (.node 49 c49 (.node 48 c48 .leaf .leaf) .leaf))))) (.node 75 c75 (.node 63 c63 (.node 57 c57 (.node 54 c54 (.node 52 c52 (.node 51 c51 .leaf .leaf) (.node 53 c53 .leaf .leaf)) (.node 56 c56 (.node 55 c55 .leaf .leaf) .leaf)) (.node 60 c60 (.node 59 c59 (.node 58 c58 .leaf .leaf) .leaf) (.node 62 c62 (.node 61 c61 .leaf .leaf) .leaf))) (.node 69 c69 (.node 66 c66 (.node 65 c65 (.node 64 c64 .leaf .leaf) .leaf) (.node 68 c68 (.node 67 c67 .leaf .leaf) .leaf)) (.node 72 c72 (.node 71 c71 (.node 70 c70 .leaf .leaf) .leaf) (.node 74 c74 (.node 73 c73 .leaf .leaf) .leaf)))) (.node 89 c89 (.node 83 c83 (.node 79 c79 (.node 78 c78 (.node 76 c76 .leaf .leaf) .leaf) (.node 82 c82 (.node 80 c80 .leaf .leaf) .leaf)) (.node 86 c86 (.node 85 c85 (.node 84 c84 .leaf .leaf) .leaf) (.node 88 c88 (.node 87 c87 .leaf .leaf) .leaf))) (.node 95 c95 (.node 92 c92 (.node 91 c91 (.node 90 c90 .leaf .leaf) .leaf) (.node 94 c94 (.node 93 c93 .leaf .leaf) .leaf)) (.node 98 c98 (.node 97 c97 (.node 96 c96 .leaf .leaf) .leaf) (.node 100 c100 (.node 99 c99 .leaf .leaf) .leaf)))))) (.node 153 c153 (.node 128 c128 (.node 114 c114 (.node 108 c108 (.node 105 c105 (.node 103 c103 (.node 102 c102 .leaf .leaf) (.node 104 c104 .leaf .leaf)) (.node 107 c107 (.node 106 c106 .leaf .leaf) .leaf)) (.node 111 c111 (.node 110 c110 (.node 109 c109 .leaf .leaf) .leaf) (.node 113 c113 (.node 112 c112 .leaf .leaf) .leaf))) (.node 122 c122 (.node 117 c117 (.node 116 c116 (.node 115 c115 .leaf .leaf) .leaf) (.node 120 c120 (.node 119 c119 .leaf .leaf) .leaf)) (.node 125 c125 (.node 124 c124 (.node 123 c123 .leaf .leaf) .leaf) (.node 127 c127 (.node 126 c126 .leaf .leaf) .leaf)))) (.node 140 c140 (.node 134 c134 (.node 131 c131 (.node 130 c130 (.node 129 c129 .leaf .leaf) .leaf) (.node 133 c133 (.node 132 c132 .leaf .leaf) .leaf)) (.node 137 c137 (.node 136 c136 (.node 135 c135 .leaf .leaf) .leaf) (.node 139 c139 (.node 138 c138 .leaf .leaf) .leaf))) (.node 147 c147 (.node 144 c144 (.node 142 c142 (.node 141 c141 .leaf .leaf) .leaf) (.node 146 c146 (.node 145 c145 .leaf .leaf) .leaf)) (.node 150 c150 (.node 149 c149 (.node 148 c148 .leaf .leaf) .leaf) (.node 152 c152 (.node 151 c151 .leaf .leaf) .leaf))))) (.node 178 c178 (.node 166 c166 (.node 160 c160 (.node 157 c157 (.node 155 c155 (.node 154 c154 .leaf .leaf) (.node 156 c156 .leaf .leaf)) (.node 159 c159 (.node 158 c158 .leaf .leaf) .leaf)) (.node 163 c163 (.node 162 c162 (.node 161 c161 .leaf .leaf) .leaf) (.node 165 c165 (.node 164 c164 .leaf .leaf) .leaf))) (.node 172 c172 (.node 169 c169 (.node 168 c168 (.node 167 c167 .leaf .leaf) .leaf) (.node 171 c171 (.node 170 c170 .leaf .leaf) .leaf)) (.node 175 c175 (.node 174 c174 (.node 173 c173 .leaf .leaf) .leaf) (.node 177 c177 (.node 176 c176 .leaf .leaf) .leaf)))) (.node 191 c191 (.node 185 c185 (.node 181 c181 (.node 180 c180 (.node 179 c179 .leaf .leaf) .leaf) (.node 183 c183 (.node 182 c182 .leaf .leaf) .leaf)) (.node 188 c188 (.node 187 c187 (.node 186 c186 .leaf .leaf) .leaf) (.node 190 c190 (.node 189 c189 .leaf .leaf) .leaf))) (.node 197 c197 (.node 194 c194 (.node 193 c193 (.node 192 c192 .leaf .leaf) .leaf) (.node 196 c196 (.node 195 c195 .leaf .leaf) .leaf)) (.node 200 c200 (.node 199 c199 (.node 198 c198 .leaf .leaf) .leaf) (.node 231 c231 (.node 201 c201 .leaf .leaf) .leaf)))))))
theorem ftab_ok : FT.All (fun k F => ∃ fn, Go.Proofs.Tryz.prog.funcs[k]? = some fn ∧ trF Go.Proofs.Tryz.prog fn F = true) ftab := ⟨⟨_, Go.Proofs.Tryz.func101, t101⟩, ⟨⟨_, Go.Proofs.Tryz.func50, t50⟩, ⟨⟨_, Go.Proofs.Tryz.func26, t26⟩, ⟨⟨_, Go.Proofs.Tryz.func14, t14⟩, ⟨⟨_, Go.Proofs.Tryz.func8, t8⟩, ⟨⟨_, Go.Proofs.Tryz.func5, t5⟩, ⟨⟨_, Go.Proofs.Tryz.func3, t3⟩, ⟨⟨_, Go.Proofs.Tryz.func2, t2⟩, trivial, trivial⟩, ⟨⟨_, Go.Proofs.Tryz.func4, t4⟩, trivial, trivial⟩⟩, ⟨⟨_, Go.Proofs.Tryz.func7, t7⟩, ⟨⟨_, Go.Proofs.Tryz.func6, t6⟩, trivial, trivial⟩, trivial⟩⟩, ⟨⟨_, Go.Proofs.Tryz.func11, t11⟩, ⟨⟨_, Go.Proofs.Tryz.func10, t10⟩, ⟨⟨_, Go.Proofs.Tryz.func9, t9⟩, trivial, trivial⟩, trivial⟩, ⟨⟨_, Go.Proofs.Tryz.func13, t13⟩, ⟨⟨_, Go.Proofs.Tryz.func12, t12⟩, trivial, trivial⟩, trivial⟩⟩⟩, ⟨⟨_, Go.Proofs.Tryz.func20, t20⟩, ⟨⟨_, Go.Proofs.Tryz.func17, t17⟩, ⟨⟨_, Go.Proofs.Tryz.func16, t16⟩, ⟨⟨_, Go.Proofs.Tryz.func15, t15⟩, trivial, trivial⟩, trivial⟩, ⟨⟨_, Go.Proofs.Tryz.func19, t19⟩, ⟨⟨_, Go.Proofs.Tryz.func18, t18⟩, trivial, trivial⟩, trivial⟩⟩, ⟨⟨_, Go.Proofs.Tryz.func23, t23⟩, ⟨⟨_, Go.Proofs.Tryz.func22, t22⟩, ⟨⟨_, Go.Proofs.Tryz.func21, t21⟩, trivial, trivial⟩, trivial⟩, ⟨⟨_, Go.Proofs.Tryz.func25, t25⟩, ⟨⟨_, Go.Proofs.Tryz.func24, t24⟩, trivial, trivial⟩, trivial⟩⟩⟩⟩, ⟨⟨_, Go.Proofs.Tryz.func38, t38⟩, ⟨⟨_, Go.Proofs.Tryz.func32, t32⟩, ⟨⟨_, Go.Proofs.Tryz.func29, t29⟩, ⟨⟨_, Go.Proofs.Tryz.func28, t28⟩, ⟨⟨_, Go.Proofs.Tryz.func27, t27⟩, trivial, trivial⟩, trivial⟩, ⟨⟨_, Go.Proofs.Tryz.func31, t31⟩, ⟨⟨_, Go.Proofs.Tryz.func30, t30⟩, trivial, trivial⟩, trivial⟩⟩, ⟨⟨_, Go.Proofs.Tryz.func35, t35⟩, ⟨⟨_, Go.Proofs.Tryz.func34, t34⟩, ⟨⟨_, Go.Proofs.Tryz.func33, t33⟩, trivial, trivial⟩, trivial⟩, ⟨⟨_, Go.Proofs.Tryz.func37, t37⟩, ⟨⟨_, Go.Proofs.Tryz.func36, t36⟩, trivial, trivial⟩, trivial⟩⟩⟩, ⟨⟨_, Go.Proofs.Tryz.func44, t44⟩, ⟨⟨_, Go.Proofs.Tryz.func41, t41⟩, ⟨⟨_, Go.Proofs.Tryz.func40, t40⟩, ⟨⟨_, Go.Proofs.Tryz.func39, t39⟩, trivial, trivial⟩, trivial⟩, ⟨⟨_, Go.Proofs.Tryz.func43, t43⟩, ⟨⟨_, Go.Proofs.Tryz.func42, t42⟩, trivial, trivial⟩, trivial⟩⟩, ⟨⟨_, Go.Proofs.Tryz.func47, t47⟩, ⟨⟨_, Go.Proofs.Tryz.func46, t46⟩, ⟨⟨_, Go.Proofs.Tryz.func45, t45⟩, trivial, trivial⟩, trivial⟩, ⟨⟨_, Go.Proofs.Tryz.func49, t49⟩, ⟨⟨_, Go.Proofs.Tryz.func48, t48⟩, trivial, trivial⟩, trivial⟩⟩⟩⟩⟩, ⟨⟨_, Go.Proofs.Tryz.func75, t75⟩, ⟨⟨_, Go.Proofs.Tryz.func63, t63⟩, ⟨⟨_, Go.Proofs.Tryz.func57, t57⟩, ⟨⟨_, Go.Proofs.Tryz.func54, t54⟩, ⟨⟨_, Go.Proofs.Tryz.func52, t52⟩, ⟨⟨_, Go.Proofs.Tryz.func51, t51⟩, trivial, trivial⟩, ⟨⟨_, Go.Proofs.Tryz.func53, t53⟩, trivial, trivial⟩⟩, ⟨⟨_, Go.Proofs.Tryz.func56, t56⟩, ⟨⟨_, Go.Proofs.Tryz.func55, t55⟩, trivial, trivial⟩, trivial⟩⟩, ⟨⟨_, Go.Proofs.Tryz.func60, t60⟩, ⟨⟨_, Go.Proofs.Tryz.func59, t59⟩, ⟨⟨_, Go.Proofs.Tryz.func58, t58⟩, trivial, trivial⟩, trivial⟩, ⟨⟨_, Go.Proofs.Tryz.func62, t62⟩, ⟨⟨_, Go.Proofs.Tryz.func61, t61⟩, trivial, trivial⟩, trivial⟩⟩⟩, ⟨⟨_, Go.Proofs.Tryz.func69, t69⟩, ⟨⟨_, Go.Proofs.Tryz.func66, t66⟩, ⟨⟨_, Go.Proofs.Tryz.func65, t65⟩, ⟨⟨_, Go.Proofs.Tryz.func64, t64⟩, trivial, trivial⟩, trivial⟩, ⟨⟨_, Go.Proofs.Tryz.func68, t68⟩, ⟨⟨_, Go.Proofs.Tryz.func67, t67⟩, trivial, trivial⟩, trivial⟩⟩, ⟨⟨_, Go.Proofs.Tryz.func72, t72⟩, ⟨⟨_, Go.Proofs.Tryz.func71, t71⟩, ⟨⟨_, Go.Proofs.Tryz.func70, t70⟩, trivial, trivial⟩, trivial⟩, ⟨⟨_, Go.Proofs.Tryz.func74, t74⟩, ⟨⟨_, Go.Proofs.Tryz.func73, t73⟩, trivial, trivial⟩, trivial⟩⟩⟩⟩, ⟨⟨_, Go.Proofs.Tryz.func89, t89⟩, ⟨⟨_, Go.Proofs.Tryz.func83, t83⟩, ⟨⟨_, Go.Proofs.Tryz.func79, t79⟩, ⟨⟨_, Go.Proofs.Tryz.func78, t78⟩, ⟨⟨_, Go.Proofs.Tryz.func76, t76⟩, trivial, trivial⟩, trivial⟩, ⟨⟨_, Go.Proofs.Tryz.func82, t82⟩, ⟨⟨_, Go.Proofs.Tryz.func80, t80⟩, trivial, trivial⟩, trivial⟩⟩, ⟨⟨_, Go.Proofs.Tryz.func86, t86⟩, ⟨⟨_, Go.Proofs.Tryz.func85, t85⟩, ⟨⟨_, Go.Proofs.Tryz.func84, t84⟩, trivial, trivial⟩, trivial⟩, ⟨⟨_, Go.Proofs.Tryz.func88, t88⟩, ⟨⟨_, Go.Proofs.Tryz.func87, t87⟩, trivial, trivial⟩, trivial⟩⟩⟩, ⟨⟨_, Go.Proofs.Tryz.func95, t95⟩, ⟨⟨_, Go.Proofs.Tryz.func92, t92⟩, ⟨⟨_, Go.Proofs.Tryz.func91, t91⟩, ⟨⟨_, Go.Proofs.Tryz.func90, t90⟩, trivial, trivial⟩, trivial⟩, ⟨⟨_, Go.Proofs.Tryz.func94, t94⟩, ⟨⟨_, Go.Proofs.Tryz.func93, t93⟩, trivial, trivial⟩, trivial⟩⟩, ⟨⟨_, Go.Proofs.Tryz.func98, t98⟩, ⟨⟨_, Go.Proofs.Tryz.func97, t97⟩, ⟨⟨_, Go.Proofs.Tryz.func96, t96⟩, trivial, trivial⟩, trivial⟩, ⟨⟨_, Go.Proofs.Tryz.func100, t100⟩, ⟨⟨_, Go.Proofs.Tryz.func99, t99⟩, trivial, trivial⟩, trivial⟩⟩⟩⟩⟩⟩, ⟨⟨_, Go.Proofs.Tryz.func153, t153⟩, ⟨⟨_, Go.Proofs.Tryz.func128, t128⟩, ⟨⟨_, Go.Proofs.Tryz.func114, t114⟩, ⟨⟨_, Go.Proofs.Tryz.func108, t108⟩, ⟨⟨_, Go.Proofs.Tryz.func105, t105⟩, ⟨⟨_, Go.Proofs.Tryz.func103, t103⟩, ⟨⟨_, Go.Proofs.Tryz.func102, t102⟩, trivial, trivial⟩, ⟨⟨_, Go.Proofs.Tryz.func104, t104⟩, trivial, trivial⟩⟩, ⟨⟨_, Go.Proofs.Tryz.func107, t107⟩, ⟨⟨_, Go.Proofs.Tryz.func106, t106⟩, trivial, trivial⟩, trivial⟩⟩, ⟨⟨_, Go.Proofs.Tryz.func111, t111⟩, ⟨⟨_, Go.Proofs.Tryz.func110, t110⟩, ⟨⟨_, Go.Proofs.Tryz.func109, t109⟩, trivial, trivial⟩, trivial⟩, ⟨⟨_, Go.Proofs.Tryz.func113, t113⟩, ⟨⟨_, Go.Proofs.Tryz.func112, t112⟩, trivial, trivial⟩, trivial⟩⟩⟩, ⟨⟨_, Go.Proofs.Tryz.func122, t122⟩, ⟨⟨_, Go.Proofs.Tryz.func117, t117⟩, ⟨⟨_, Go.Proofs.Tryz.func116, t116⟩, ⟨⟨_, Go.Proofs.Tryz.func115, t115⟩, trivial, trivial⟩, trivial⟩, ⟨⟨_, Go.Proofs.Tryz.func120, t120⟩, ⟨⟨_, Go.Proofs.Tryz.func119, t119⟩, trivial, trivial⟩, trivial⟩⟩, ⟨⟨_, Go.Proofs.Tryz.func125, t125⟩, ⟨⟨_, Go.Proofs.Tryz.func124, t124⟩, ⟨⟨_, Go.Proofs.Tryz.func123, t123⟩, trivial, trivial⟩, trivial⟩, ⟨⟨_, Go.Proofs.Tryz.func127, t127⟩, ⟨⟨_, Go.Proofs.Tryz.func126, t126⟩, trivial, trivial⟩, trivial⟩⟩⟩⟩, ⟨⟨_, Go.Proofs.Tryz.func140, t140⟩, ⟨⟨_, Go.Proofs.Tryz.func134, t134⟩, ⟨⟨_, Go.Proofs.Tryz.func131, t131⟩, ⟨⟨_, Go.Proofs.Tryz.func130, t130⟩, ⟨⟨_, Go.Proofs.Tryz.func129, t129⟩, trivial, trivial⟩, trivial⟩, ⟨⟨_, Go.Proofs.Tryz.func133, t133⟩, ⟨⟨_, Go.Proofs.Tryz.func132, t132⟩, trivial, trivial⟩, trivial⟩⟩, ⟨⟨_, Go.Proofs.Tryz.func137, t137⟩, ⟨⟨_, Go.Proofs.Tryz.func136, t136⟩, ⟨⟨_, Go.Proofs.Tryz.func135, t135⟩, trivial, trivial⟩, trivial⟩, ⟨⟨_, Go.Proofs.Tryz.func139, t139⟩, ⟨⟨_, Go.Proofs.Tryz.func138, t138⟩, trivial, trivial⟩, trivial⟩⟩⟩, ⟨⟨_, Go.Proofs.Tryz.func147, t147⟩, ⟨⟨_, Go.Proofs.Tryz.func144, t144⟩, ⟨⟨_, Go.Proofs.Tryz.func142, t142⟩, ⟨⟨_, Go.Proofs.Tryz.func141, t141⟩, trivial, trivial⟩, trivial⟩, ⟨⟨_, Go.Proofs.Tryz.func146, t146⟩, ⟨⟨_, Go.Proofs.Tryz.func145, t145⟩, trivial, trivial⟩, trivial⟩⟩, ⟨⟨_, Go.Proofs.Tryz.func150, t150⟩, ⟨⟨_, Go.Proofs.Tryz.func149, t149⟩, ⟨⟨_, Go.Proofs.Tryz.func148, t148⟩, trivial, trivial⟩, trivial⟩, ⟨⟨_, Go.Proofs.Tryz.func152, t152⟩, ⟨⟨_, Go.Proofs.Tryz.func151, t151⟩, trivial, trivial⟩, trivial⟩⟩⟩⟩⟩, ⟨⟨_, Go.Proofs.Tryz.func178, t178⟩, ⟨⟨_, Go.Proofs.Tryz.func166, t166⟩, ⟨⟨_, Go.Proofs.Tryz.func160, t160⟩, ⟨⟨_, Go.Proofs.Tryz.func157, t157⟩, ⟨⟨_, Go.Proofs.Tryz.func155, t155⟩, ⟨⟨_, Go.Proofs.Tryz.func154, t154⟩, trivial, trivial⟩, ⟨⟨_, Go.Proofs.Tryz.func156, t156⟩, trivial, trivial⟩⟩, ⟨⟨_, Go.Proofs.Tryz.func159, t159⟩, ⟨⟨_, Go.Proofs.Tryz.func158, t158⟩, trivial, trivial⟩, trivial⟩⟩, ⟨⟨_, Go.Proofs.Tryz.func163, t163⟩, ⟨⟨_, Go.Proofs.Tryz.func162, t162⟩, ⟨⟨_, Go.Proofs.Tryz.func161, t161⟩, trivial, trivial⟩, trivial⟩, ⟨⟨_, Go.Proofs.Tryz.func165, t165⟩, ⟨⟨_, Go.Proofs.Tryz.func164, t164⟩, trivial, trivial⟩, trivial⟩⟩⟩, ⟨⟨_, Go.Proofs.Tryz.func172, t172⟩, ⟨⟨_, Go.Proofs.Tryz.func169, t169⟩, ⟨⟨_, Go.Proofs.Tryz.func168, t168⟩, ⟨⟨_, Go.Proofs.Tryz.func167, t167⟩, trivial, trivial⟩, trivial⟩, ⟨⟨_, Go.Proofs.Tryz.func171, t171⟩, ⟨⟨_, Go.Proofs.Tryz.func170, t170⟩, trivial, trivial⟩, trivial⟩⟩, ⟨⟨_, Go.Proofs.Tryz.func175, t175⟩, ⟨⟨_, Go.Proofs.Tryz.func174, t174⟩, ⟨⟨_, Go.Proofs.Tryz.func173, t173⟩, trivial, trivial⟩, trivial⟩, ⟨⟨_, Go.Proofs.Tryz.func177, t177⟩, ⟨⟨_, Go.Proofs.Tryz.func176, t176⟩, trivial, trivial⟩, trivial⟩⟩⟩⟩, ⟨⟨_, Go.Proofs.Tryz.func191, t191⟩, ⟨⟨_, Go.Proofs.Tryz.func185, t185⟩, ⟨⟨_, Go.Proofs.Tryz.func181, t181⟩, ⟨⟨_, Go.Proofs.Tryz.func180, t180⟩, ⟨⟨_, Go.Proofs.Tryz.func179, t179⟩, trivial, trivial⟩, trivial⟩, ⟨⟨_, Go.Proofs.Tryz.func183, t183⟩, ⟨⟨_, Go.Proofs.Tryz.func182, t182⟩, trivial, trivial⟩, trivial⟩⟩, ⟨⟨_, Go.Proofs.Tryz.func188, t188⟩, ⟨⟨_, Go.Proofs.Tryz.func187, t187⟩, ⟨⟨_, Go.Proofs.Tryz.func186, t186⟩, trivial, trivial⟩, trivial⟩, ⟨⟨_, Go.Proofs.Tryz.func190, t190⟩, ⟨⟨_, Go.Proofs.Tryz.func189, t189⟩, trivial, trivial⟩, trivial⟩⟩⟩, ⟨⟨_, Go.Proofs.Tryz.func197, t197⟩, ⟨⟨_, Go.Proofs.Tryz.func194, t194⟩, ⟨⟨_, Go.Proofs.Tryz.func193, t193⟩, ⟨⟨_, Go.Proofs.Tryz.func192, t192⟩, trivial, trivial⟩, trivial⟩, ⟨⟨_, Go.Proofs.Tryz.func196, t196⟩, ⟨⟨_, Go.Proofs.Tryz.func195, t195⟩, trivial, trivial⟩, trivial⟩⟩, ⟨⟨_, Go.Proofs.Tryz.func200, t200⟩, ⟨⟨_, Go.Proofs.Tryz.func199, t199⟩, ⟨⟨_, Go.Proofs.Tryz.func198, t198⟩, trivial, trivial⟩, trivial⟩, ⟨⟨_, Go.Proofs.Tryz.func231, t231⟩, ⟨⟨_, Go.Proofs.Tryz.func201, t201⟩, trivial, trivial⟩, trivial⟩⟩⟩⟩⟩⟩⟩
end Go.Vm

/- The functions of the translation as programs of the machine V. Written by gen.py out of the loaded functions. -/
namespace Go.Vm
set_option maxRecDepth 100000
open Go
def KX : FuncId → Option Nat := fun f => bif Nat.beq f 143 then some 0 else bif Nat.beq f 121 then some 1 else none
def LX : FuncId → Option (Nat × Bool) := fun f => bif Nat.beq f 77 then some (3, false) else bif Nat.beq f 81 then some (6, true) else bif Nat.beq f 118 then some (4, false) else none
def C0 : Cfg := { keepA := fun f => Nat.beq f 64 || Nat.beq f 180, meth := fun _ _ => none }
def TX : Tab := { C := C0, funs := ftab.get, prim := primAll KX LX }
theorem KX_ok : Prims Go.Proofs.Tryz.prog KX := by
  intro f
  unfold KX
  cases h143 : Nat.beq f 143 with
  | true =>
    have := Nat.eq_of_beq_eq_true h143; subst this
    exact ⟨fun _ => ⟨_, Go.Proofs.Tryz.func143, by kernel_rfl, by kernel_rfl, by kernel_rfl, by kernel_rfl⟩, (fun h => by cases h)⟩
  | false =>
    cases h121 : Nat.beq f 121 with
    | true =>
      have := Nat.eq_of_beq_eq_true h121; subst this
      exact ⟨(fun h => by cases h), fun _ => ⟨_, Go.Proofs.Tryz.func121, by kernel_rfl, by kernel_rfl, by kernel_rfl, by kernel_rfl⟩⟩
    | false =>
      exact ⟨(fun h => by cases h), (fun h => by cases h)⟩
theorem LX_ok : ∀ f z m, LX f = some (z, m) → ∃ fn, Go.Proofs.Tryz.prog.funcs[f]? = some fn ∧ CloneFn Go.Proofs.Tryz.prog z m fn := by
  intro f z m h
  unfold LX at h
  cases h77 : Nat.beq f 77 with
  | true =>
    have := Nat.eq_of_beq_eq_true h77; subst this
    rw [h77] at h
    simp only [cond_true, Option.some.injEq, Prod.mk.injEq] at h
    obtain ⟨rfl, rfl⟩ := h
    exact ⟨_, Go.Proofs.Tryz.func77, by kernel_rfl, ⟨_, _, _, _, _, _, _, _, _, 25, rfl, by kernel_rfl, by kernel_rfl, rfl, rfl, rfl, by decide +kernel, by kernel_rfl, by kernel_rfl, by kernel_rfl⟩, by kernel_rfl⟩
  | false =>
    rw [h77] at h
    simp only [cond_false] at h
    cases h81 : Nat.beq f 81 with
    | true =>
      have := Nat.eq_of_beq_eq_true h81; subst this
      rw [h81] at h
      simp only [cond_true, Option.some.injEq, Prod.mk.injEq] at h
      obtain ⟨rfl, rfl⟩ := h
      exact ⟨_, Go.Proofs.Tryz.func81, by kernel_rfl, ⟨_, _, _, _, _, _, _, _, _, 81, rfl, by kernel_rfl, by kernel_rfl, rfl, rfl, rfl, by decide +kernel, by kernel_rfl, by kernel_rfl, by kernel_rfl⟩, by kernel_rfl⟩
    | false =>
      rw [h81] at h
      simp only [cond_false] at h
      cases h118 : Nat.beq f 118 with
      | true =>
        have := Nat.eq_of_beq_eq_true h118; subst this
        rw [h118] at h
        simp only [cond_true, Option.some.injEq, Prod.mk.injEq] at h
        obtain ⟨rfl, rfl⟩ := h
        exact ⟨_, Go.Proofs.Tryz.func118, by kernel_rfl, ⟨_, _, _, _, _, _, _, _, _, 180, rfl, by kernel_rfl, by kernel_rfl, rfl, rfl, rfl, by decide +kernel, by kernel_rfl, by kernel_rfl, by kernel_rfl⟩, by kernel_rfl⟩
      | false =>
        rw [h118] at h
        simp only [cond_false] at h
        cases h
theorem funs_ok : Funs Go.Proofs.Tryz.prog TX.funs := funs_of ftab_ok
theorem prim_ok : CallOk Go.Proofs.Tryz.prog TX.prim := primAll_ok (by kernel_rfl) KX_ok LX_ok
theorem prim_q : CallQ TX.prim := primAll_q KX LX
def clT : FT → Bool
  | .leaf => true
  | .node _ F l r => clC F.code && (clT l && clT r)
theorem clT_s : ∀ {t : FT}, clT t = true → t.All fun _ F => clC F.code = true
  | .leaf, _ => trivial
  | .node _ F l r, h => by
    simp only [clT, Bool.and_eq_true] at h
    exact ⟨h.1, clT_s h.2.1, clT_s h.2.2⟩
theorem cl_ok : ∀ f F, TX.funs f = some F → clC F.code = true := fun _ _ h => FT.get_all (clT_s (t := ftab) (by decide +kernel)) h
end Go.Vm
